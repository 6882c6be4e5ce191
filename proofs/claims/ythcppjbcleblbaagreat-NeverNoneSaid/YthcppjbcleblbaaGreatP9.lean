import Derived.Test.YthcppjbcleblbaaGreatLit
/- Pieces of the closed run of the chapter's example. -/
set_option linter.all false
namespace Go.Pv.NN
open Go Go.Proofs
theorem piece9 : resEqb (evH Tryz.prog ctB 60 (.fn 99) as9 (trU m9) 72024) r9 u9 85406 = true := by kernel_rfl
end Go.Pv.NN
