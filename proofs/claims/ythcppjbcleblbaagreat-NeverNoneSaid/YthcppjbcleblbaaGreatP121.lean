import Derived.Test.YthcppjbcleblbaaGreatLit
/- Pieces of the closed run of the chapter's example. -/
set_option linter.all false
namespace Go.Pv.NN
open Go Go.Proofs
theorem piece121 : resEqb (evH Tryz.prog ctB 60 (.fn 22) as121 (trU m121) 33182) r121 u121 51272 = true := by kernel_rfl
end Go.Pv.NN
