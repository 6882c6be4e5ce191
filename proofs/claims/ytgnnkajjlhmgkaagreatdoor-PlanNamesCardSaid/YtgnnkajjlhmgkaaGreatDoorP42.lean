import Derived.Test.YtgnnkajjlhmgkaaGreatDoorLit
/- Pieces of the closed run of the chapter's example. -/
set_option linter.all false
set_option maxRecDepth 100000
namespace Go.Pv.NP
open Go Go.Proofs
theorem piece42 : resEqb (evH Tryz.prog ct42 60 (.fn 183) as42 (trU m42) 1285398) r42 u42 1297742 = true := by kernel_rfl
theorem piece43 : resEqb (evH Tryz.prog ct43 60 (.fn 184) as43 (trU m43) 1297750) r43 u43 1298473 = true := by kernel_rfl
theorem piece44 : resEqb (evH Tryz.prog ct44 60 (.fn 185) as44 (trU m44) 1298481) r44 u44 1299266 = true := by kernel_rfl
theorem piece45 : resEqb (evH Tryz.prog ct45 60 (.fn 186) as45 (trU m45) 1299274) r45 u45 1310840 = true := by kernel_rfl
theorem piece46 : resEqb (evH Tryz.prog ct46 60 (.fn 187) as46 (trU m46) 1310848) r46 u46 1311527 = true := by kernel_rfl
end Go.Pv.NP
