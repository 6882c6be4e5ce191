import Derived.Test.YthcppjbcleblbaaGreatLit
/- Pieces of the closed run of the chapter's example. -/
set_option linter.all false
namespace Go.Pv.NN
open Go Go.Proofs
theorem piece123 : resEqb (evH Tryz.prog ctB 60 (.fn 99) as123 (trU m123) 65121) r123 u123 78321 = true := by kernel_rfl
end Go.Pv.NN
