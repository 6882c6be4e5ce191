import Derived.Test.YthcppjbcleblbaaGreatLit
/- Pieces of the closed run of the chapter's example. -/
set_option linter.all false
namespace Go.Pv.NN
open Go Go.Proofs
theorem piece13 : resEqb (evH Tryz.prog ctB 60 (.fn 99) as13 (trU m13) 128980) r13 u13 141808 = true := by kernel_rfl
end Go.Pv.NN
