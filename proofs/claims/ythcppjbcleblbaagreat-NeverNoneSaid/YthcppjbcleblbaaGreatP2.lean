import Derived.Test.YthcppjbcleblbaaGreatLit
/- Pieces of the closed run of the chapter's example. -/
set_option linter.all false
namespace Go.Pv.NN
open Go Go.Proofs
theorem piece2 : resEqb (evH Tryz.prog ctB 60 (.fn 102) as2 (trU m2) 14343) r2 u2 18594 = true := by kernel_rfl
end Go.Pv.NN
