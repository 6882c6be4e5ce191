import Derived.Test.YthcppjbcleblbaaGreatLit
/- Pieces of the closed run of the chapter's example. -/
set_option linter.all false
namespace Go.Pv.NN
open Go Go.Proofs
theorem piece125 : resEqb (evH Tryz.prog ctB 60 (.fn 99) as125 (trU m125) 93048) r125 u125 106248 = true := by kernel_rfl
end Go.Pv.NN
