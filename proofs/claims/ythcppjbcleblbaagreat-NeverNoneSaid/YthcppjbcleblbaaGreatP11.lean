import Derived.Test.YthcppjbcleblbaaGreatLit
/- Pieces of the closed run of the chapter's example. -/
set_option linter.all false
namespace Go.Pv.NN
open Go Go.Proofs
theorem piece11 : resEqb (evH Tryz.prog ctB 60 (.fn 99) as11 (trU m11) 100779) r11 u11 113607 = true := by kernel_rfl
end Go.Pv.NN
