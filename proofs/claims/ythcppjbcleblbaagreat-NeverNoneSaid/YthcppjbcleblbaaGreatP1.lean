import Derived.Test.YthcppjbcleblbaaGreatLit
/- Pieces of the closed run of the chapter's example. -/
set_option linter.all false
namespace Go.Pv.NN
open Go Go.Proofs
theorem piece1 : resEqb (evH Tryz.prog ctB 60 (.fn 99) as1 (trU m1) 9773) r1 u1 13461 = true := by kernel_rfl
end Go.Pv.NN
