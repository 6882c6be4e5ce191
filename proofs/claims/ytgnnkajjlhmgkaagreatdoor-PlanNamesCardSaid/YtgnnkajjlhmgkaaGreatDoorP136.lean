import Derived.Test.YtgnnkajjlhmgkaaGreatDoorLit
/- Pieces of the closed run of the chapter's example. -/
set_option linter.all false
set_option maxRecDepth 100000
namespace Go.Pv.NP
open Go Go.Proofs
theorem piece136 : resEqb (evH Tryz.prog ct136 60 (.fn 11) as136 (trU m136) 1123856) r136 u136 2761635 = true := by kernel_rfl
theorem piece137 : resEqb (evH Tryz.prog ct137 60 (.fn 11) as137 (trU m137) 3380410) r137 u137 3867672 = true := by kernel_rfl
theorem piece138 : resEqb (evH Tryz.prog ct138 60 (.fn 12) as138 (trU m138) 3867682) r138 u138 4125292 = true := by kernel_rfl
end Go.Pv.NP
