import Derived.Test.YtgnnkajjlhmgkaaGreatDoorLit
/- Pieces of the closed run of the chapter's example. -/
set_option linter.all false
set_option maxRecDepth 100000
namespace Go.Pv.NP
open Go Go.Proofs
theorem pieceL : isTrueR (evH Tryz.prog ct139 60 (.fn 4) [] .nil 1) = true := by kernel_rfl
end Go.Pv.NP
