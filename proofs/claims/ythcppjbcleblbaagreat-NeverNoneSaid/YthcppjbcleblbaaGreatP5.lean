import Derived.Test.YthcppjbcleblbaaGreatLit
/- Pieces of the closed run of the chapter's example. -/
set_option linter.all false
namespace Go.Pv.NN
open Go Go.Proofs
theorem piece5 : resEqb (evH Tryz.prog ctB 60 (.fn 99) as5 (trU m5) 30622) r5 u5 37849 = true := by kernel_rfl
end Go.Pv.NN
