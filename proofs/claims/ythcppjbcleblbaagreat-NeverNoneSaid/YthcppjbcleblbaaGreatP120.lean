import Derived.Test.YthcppjbcleblbaaGreatLit
/- Pieces of the closed run of the chapter's example. -/
set_option linter.all false
namespace Go.Pv.NN
open Go Go.Proofs
theorem piece120 : resEqb (evH Tryz.prog ctQ68 60 (.fn 16) as120 (trU m120) 7129) r120 u120 32848 = true := by kernel_rfl
end Go.Pv.NN
