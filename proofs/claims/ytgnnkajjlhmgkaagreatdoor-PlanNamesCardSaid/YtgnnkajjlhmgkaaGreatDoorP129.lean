import Derived.Test.YtgnnkajjlhmgkaaGreatDoorLit
/- Pieces of the closed run of the chapter's example. -/
set_option linter.all false
set_option maxRecDepth 100000
namespace Go.Pv.NP
open Go Go.Proofs
theorem piece129 : resEqb (evH Tryz.prog ct129 60 (.fn 61) as129 (trU m129) 2313312) r129 u129 2487071 = true := by kernel_rfl
theorem piece130 : resEqb (evH Tryz.prog ct130 60 (.fn 110) as130 (trU m130) 2487170) r130 u130 2488696 = true := by kernel_rfl
theorem piece131 : resEqb (evH Tryz.prog ct131 60 (.fn 64) as131 (trU m131) 2487094) r131 u131 2579549 = true := by kernel_rfl
theorem piece132 : resEqb (evH Tryz.prog ct132 60 (.fn 110) as132 (trU m132) 2579662) r132 u132 2581227 = true := by kernel_rfl
theorem piece133 : resEqb (evH Tryz.prog ct133 60 (.fn 64) as133 (trU m133) 2579586) r133 u133 2671291 = true := by kernel_rfl
theorem piece134 : resEqb (evH Tryz.prog ct134 60 (.fn 64) as134 (trU m134) 2671328) r134 u134 2677665 = true := by kernel_rfl
theorem piece135 : resEqb (evH Tryz.prog ct135 60 (.fn 10) as135 (trU m135) 2142878) r135 u135 2761627 = true := by kernel_rfl
end Go.Pv.NP
