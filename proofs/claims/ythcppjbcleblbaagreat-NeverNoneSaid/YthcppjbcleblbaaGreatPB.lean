import Derived.Test.YthcppjbcleblbaaGreatLit
/- Pieces of the closed run of the chapter's example. -/
set_option linter.all false
namespace Go.Pv.NN
open Go Go.Proofs
theorem pieceB : resEqb (evH Tryz.prog ctSB 60 (.fn 28) [wA, lA] .nil 1) rB uB 157150 = true := by kernel_rfl
end Go.Pv.NN
