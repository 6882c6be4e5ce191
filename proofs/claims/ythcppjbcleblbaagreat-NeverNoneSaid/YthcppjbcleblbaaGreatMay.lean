import Derived.Test.YthcppjbcleblbaaGreatLit
/- Pieces of the closed run of the chapter's example. -/
set_option linter.all false
namespace Go.Pv.NN
open Go Go.Proofs
theorem pieceMay : ((mayL 2822).all fun xs => isM (evH Tryz.prog ctB 60 (.fn 90) xs (trU mMay) 1) (.d (.v (.bool true)))) = true := by kernel_rfl
end Go.Pv.NN
