import Derived.Test.YthcppjbcleblbaaGreatLit
/- Pieces of the closed run of the chapter's example. -/
set_option linter.all false
namespace Go.Pv.NN
open Go Go.Proofs
theorem piece4 : resEqb (evH Tryz.prog ctB 60 (.fn 102) as4 (trU m4) 25198) r4 u4 29864 = true := by kernel_rfl
end Go.Pv.NN
