import Derived.Test.YthcppjbcleblbaaGreatLit
/- Pieces of the closed run of the chapter's example. -/
set_option linter.all false
namespace Go.Pv.NN
open Go Go.Proofs
theorem pieceA : isM (evH Tryz.prog ctSA 60 (.fn 4) [wA, qA 1 8 2, lA] .nil 1) (.tup [(.d (.v (.bool false))),(.d (.v (.int .i64 0)))]) = true := by kernel_rfl
theorem pieceZ : isM (evH Tryz.prog ctSZ 60 (.fn 4) [wA, qA 0 1 3, lA] .nil 1) (.tup [(.d (.v (.bool true))),(.d (.v (.int .i64 0)))]) = true := by kernel_rfl
theorem pieceN : isM (evH Tryz.prog ctSN 60 (.fn 5) [wA, qA 1 8 2, lA] .nil 1) (.tup [(.d (.v (.string (bs [])))),(.d (.v (.int .i64 250)))]) = true := by kernel_rfl
theorem pieceM : isM (evH Tryz.prog ctSM 60 (.fn 5) [wA, qA 0 1 3, lA] .nil 1) (.tup [(.d (.v (.string (cx 0)))),(.d (.v (.int .i64 0)))]) = true := by kernel_rfl
theorem pieceC : isM (evH Tryz.prog ctSC 60 (.fn 6) [wA, cA, lA] .nil 1) (.tup [(.agg [(.d (.v (.int .i64 0))),(.d (.v (.int .u8 1))),(.d (.v (.int .i64 3)))]),(.d (.v (.int .i64 0)))]) = true := by kernel_rfl
theorem pieceR : resEqb (evH Tryz.prog ctSR 60 (.fn 7) [wA, cA, lA] .nil 1) rR uR 51298 = true := by kernel_rfl
end Go.Pv.NN
