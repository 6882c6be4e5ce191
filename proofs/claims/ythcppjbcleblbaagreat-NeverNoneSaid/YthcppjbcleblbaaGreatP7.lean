import Derived.Test.YthcppjbcleblbaaGreatLit
/- Pieces of the closed run of the chapter's example. -/
set_option linter.all false
namespace Go.Pv.NN
open Go Go.Proofs
theorem piece7 : resEqb (evH Tryz.prog ctB 60 (.fn 99) as7 (trU m7) 45044) r7 u7 57449 = true := by kernel_rfl
end Go.Pv.NN
