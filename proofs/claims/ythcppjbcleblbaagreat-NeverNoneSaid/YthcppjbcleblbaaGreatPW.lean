import Derived.Test.YthcppjbcleblbaaGreatLit
/- Pieces of the closed run of the chapter's example. -/
set_option linter.all false
namespace Go.Pv.NN
open Go Go.Proofs
theorem pieceW : isM (evH Tryz.prog ctSW 60 (.fn 8) [wA, cA, lA] .nil 1) (.tup [(.agg [(.d (.v (.int .i64 0))),(.d (.v (.int .i64 0))),(.d (.v (.int .u8 0))),(.d (.v (.int .i64 0))),(.d (.v (.int .i64 0))),(.d (.v (.int .i64 0))),(.d (.v (.int .u8 0))),(.d (.v (.int .i64 0))),(.d (.v (.int .i64 0))),(.d (.v (.int .i64 0))),(.d (.v (.int .u8 0)))]),(.d (.v (.int .i64 0))),(.d (.v (.bool false))),(.d (.v (.int .i64 0)))]) = true := by kernel_rfl
end Go.Pv.NN
