import Derived.Test.YthcppjbcleblbaaGreatLit
/- Pieces of the closed run of the chapter's example. -/
set_option linter.all false
namespace Go.Pv.NN
open Go Go.Proofs
theorem piece67 : resEqb (evH Tryz.prog ctB 60 (.fn 22) as67 (trU m67) 158120) r67 u67 176210 = true := by kernel_rfl
end Go.Pv.NN
