import Derived.Test.YthcppjbcleblbaaGreatLit
/- Pieces of the closed run of the chapter's example. -/
set_option linter.all false
namespace Go.Pv.NN
open Go Go.Proofs
theorem piece124 : resEqb (evH Tryz.prog ctB 60 (.fn 102) as124 (trU m124) 80207) r124 u124 92149 = true := by kernel_rfl
end Go.Pv.NN
