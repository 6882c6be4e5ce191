import Derived.Test.YtefgfnbifbkanaaGreatDoorLit
/- Pieces of the closed run of the chapter's example. -/
set_option linter.all false
set_option maxRecDepth 100000
namespace Go.Pv.CD
open Go Go.Proofs
theorem piece179 : resEqb (evH Tryz.prog ct179 60 (.fn 14) as179 (trU m179) 1657582) r179 u179 2491606 = true := by kernel_rfl
theorem pieceL : isTrueR (evH Tryz.prog ct180 60 (.fn 3) [] .nil 1) = true := by kernel_rfl
theorem piece181 : resEqb (evH Tryz.prog ct181 60 (.fn 11) as181 (trU m181) 3054856) r181 u181 3058338 = true := by kernel_rfl
theorem piece182 : resEqb (evH Tryz.prog ct182 60 (.fn 5) as182 (trU m182) 3000000) r182 u182 3058357 = true := by kernel_rfl
end Go.Pv.CD
