import Derived.Test.YthcppjbcleblbaaGreatLit
/- Pieces of the closed run of the chapter's example. -/
set_option linter.all false
namespace Go.Pv.NN
open Go Go.Proofs
theorem piece3 : resEqb (evH Tryz.prog ctB 60 (.fn 99) as3 (trU m3) 19226) r3 u3 24064 = true := by kernel_rfl
end Go.Pv.NN
