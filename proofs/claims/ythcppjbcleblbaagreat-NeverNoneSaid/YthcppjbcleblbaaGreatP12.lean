import Derived.Test.YthcppjbcleblbaaGreatLit
/- Pieces of the closed run of the chapter's example. -/
set_option linter.all false
namespace Go.Pv.NN
open Go Go.Proofs
theorem piece12 : resEqb (evH Tryz.prog ctB 60 (.fn 102) as12 (trU m12) 115493) r12 u12 128072 = true := by kernel_rfl
end Go.Pv.NN
