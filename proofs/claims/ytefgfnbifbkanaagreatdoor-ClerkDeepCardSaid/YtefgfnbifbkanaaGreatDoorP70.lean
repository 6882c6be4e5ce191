import Derived.Test.YtefgfnbifbkanaaGreatDoorLit
/- Pieces of the closed run of the chapter's example. -/
set_option linter.all false
set_option maxRecDepth 100000
namespace Go.Pv.CD
open Go Go.Proofs
theorem piece70 : resEqb (evH Tryz.prog ct70 60 (.fn 82) as70 (trU m70) 430944) r70 u70 566206 = true := by kernel_rfl
theorem piece71 : resEqb (evH Tryz.prog ct71 60 (.fn 127) as71 (trU m71) 430113) r71 u71 567367 = true := by kernel_rfl
theorem piece72 : resEqb (evH Tryz.prog ct72 60 (.fn 136) as72 (trU m72) 567591) r72 u72 568578 = true := by kernel_rfl
theorem piece73 : resEqb (evH Tryz.prog ct73 60 (.fn 82) as73 (trU m73) 424992) r73 u73 572155 = true := by kernel_rfl
theorem piece74 : resEqb (evH Tryz.prog ct74 60 (.fn 127) as74 (trU m74) 424161) r74 u74 573316 = true := by kernel_rfl
theorem piece75 : resEqb (evH Tryz.prog ct75 60 (.fn 136) as75 (trU m75) 573540) r75 u75 574527 = true := by kernel_rfl
end Go.Pv.CD
