import Derived.Test.YthcppjbcleblbaaGreatLit
/- Pieces of the closed run of the chapter's example. -/
set_option linter.all false
namespace Go.Pv.NN
open Go Go.Proofs
theorem piece8 : resEqb (evH Tryz.prog ctB 60 (.fn 102) as8 (trU m8) 59335) r8 u8 71116 = true := by kernel_rfl
end Go.Pv.NN
