import Derived.Test.YthcppjbcleblbaaGreatLit
/- Pieces of the closed run of the chapter's example. -/
set_option linter.all false
namespace Go.Pv.NN
open Go Go.Proofs
theorem piece14 : resEqb (evH Tryz.prog ctB 60 (.fn 102) as14 (trU m14) 143694) r14 u14 156273 = true := by kernel_rfl
end Go.Pv.NN
