import Derived.Test.YthcppjbcleblbaaGreatLit
/- Pieces of the closed run of the chapter's example. -/
set_option linter.all false
namespace Go.Pv.NN
open Go Go.Proofs
theorem piece10 : resEqb (evH Tryz.prog ctB 60 (.fn 102) as10 (trU m10) 87292) r10 u10 99871 = true := by kernel_rfl
end Go.Pv.NN
