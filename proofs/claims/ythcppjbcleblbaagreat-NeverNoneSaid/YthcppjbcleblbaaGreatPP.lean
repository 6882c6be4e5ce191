import Derived.Test.YthcppjbcleblbaaGreatLit
/- Pieces of the closed run of the chapter's example. -/
set_option linter.all false
namespace Go.Pv.NN
open Go Go.Proofs
theorem pieceP : resEqb (evH Tryz.prog ctSP 60 (.fn 21) [sheA, qA 0 1 3] .nil 1) rP uP 12507 = true := by kernel_rfl
end Go.Pv.NN
