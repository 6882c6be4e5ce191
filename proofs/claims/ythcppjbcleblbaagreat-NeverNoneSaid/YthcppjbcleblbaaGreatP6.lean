import Derived.Test.YthcppjbcleblbaaGreatLit
/- Pieces of the closed run of the chapter's example. -/
set_option linter.all false
namespace Go.Pv.NN
open Go Go.Proofs
theorem piece6 : resEqb (evH Tryz.prog ctB 60 (.fn 102) as6 (trU m6) 39359) r6 u6 44286 = true := by kernel_rfl
end Go.Pv.NN
