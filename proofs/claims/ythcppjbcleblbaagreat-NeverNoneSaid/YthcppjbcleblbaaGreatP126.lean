import Derived.Test.YthcppjbcleblbaaGreatLit
/- Pieces of the closed run of the chapter's example. -/
set_option linter.all false
namespace Go.Pv.NN
open Go Go.Proofs
theorem piece126 : resEqb (evH Tryz.prog ctB 60 (.fn 102) as126 (trU m126) 108134) r126 u126 120076 = true := by kernel_rfl
end Go.Pv.NN
