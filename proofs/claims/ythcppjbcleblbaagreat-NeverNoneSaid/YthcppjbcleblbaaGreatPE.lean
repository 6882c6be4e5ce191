import Derived.Test.YthcppjbcleblbaaGreatLit
/- Pieces of the closed run of the chapter's example. -/
set_option linter.all false
namespace Go.Pv.NN
open Go Go.Proofs
theorem pieceE : resEqb (evH Tryz.prog ctSE 60 (.fn 15) [wA, lA] .nil 1) rE uE 7109 = true := by kernel_rfl
end Go.Pv.NN
