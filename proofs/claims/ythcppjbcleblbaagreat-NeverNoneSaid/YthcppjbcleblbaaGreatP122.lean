import Derived.Test.YthcppjbcleblbaaGreatLit
/- Pieces of the closed run of the chapter's example. -/
set_option linter.all false
namespace Go.Pv.NN
open Go Go.Proofs
theorem piece122 : resEqb (evH Tryz.prog ctB 60 (.fn 17) as122 (trU m122) 58461) r122 u122 65029 = true := by kernel_rfl
end Go.Pv.NN
