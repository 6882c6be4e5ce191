import Derived.Test.YtefgfnbifbkanaaGreatDoorLit
/- Pieces of the closed run of the chapter's example. -/
set_option linter.all false
set_option maxRecDepth 100000
namespace Go.Pv.CD
open Go Go.Proofs
theorem piece40 : resEqb (evH Tryz.prog ct40 60 (.fn 82) as40 (trU m40) 490464) r40 u40 506716 = true := by kernel_rfl
theorem piece41 : resEqb (evH Tryz.prog ct41 60 (.fn 127) as41 (trU m41) 489633) r41 u41 507877 = true := by kernel_rfl
theorem piece42 : resEqb (evH Tryz.prog ct42 60 (.fn 136) as42 (trU m42) 508101) r42 u42 509088 = true := by kernel_rfl
theorem piece43 : resEqb (evH Tryz.prog ct43 60 (.fn 82) as43 (trU m43) 484512) r43 u43 512665 = true := by kernel_rfl
theorem piece44 : resEqb (evH Tryz.prog ct44 60 (.fn 127) as44 (trU m44) 483681) r44 u44 513826 = true := by kernel_rfl
theorem piece45 : resEqb (evH Tryz.prog ct45 60 (.fn 136) as45 (trU m45) 514050) r45 u45 515037 = true := by kernel_rfl
end Go.Pv.CD
