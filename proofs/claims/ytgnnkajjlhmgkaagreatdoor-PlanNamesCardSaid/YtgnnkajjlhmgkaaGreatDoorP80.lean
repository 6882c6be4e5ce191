import Derived.Test.YtgnnkajjlhmgkaaGreatDoorLit
/- Pieces of the closed run of the chapter's example. -/
set_option linter.all false
set_option maxRecDepth 100000
namespace Go.Pv.NP
open Go Go.Proofs
theorem piece80 : resEqb (evH Tryz.prog ct80 60 (.fn 183) as80 (trU m80) 1443408) r80 u80 1455659 = true := by kernel_rfl
theorem piece81 : resEqb (evH Tryz.prog ct81 60 (.fn 74) as81 (trU m81) 1371267) r81 u81 1529033 = true := by kernel_rfl
end Go.Pv.NP
