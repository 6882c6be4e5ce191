import Derived.Test.YtefgfnbifbkanaaGreatDoorLit
/- Pieces of the closed run of the chapter's example. -/
set_option linter.all false
set_option maxRecDepth 100000
namespace Go.Pv.CD
open Go Go.Proofs
theorem piece76 : resEqb (evH Tryz.prog ct76 60 (.fn 82) as76 (trU m76) 419040) r76 u76 578104 = true := by kernel_rfl
theorem piece77 : resEqb (evH Tryz.prog ct77 60 (.fn 127) as77 (trU m77) 418209) r77 u77 579265 = true := by kernel_rfl
theorem piece78 : resEqb (evH Tryz.prog ct78 60 (.fn 136) as78 (trU m78) 579489) r78 u78 580476 = true := by kernel_rfl
theorem piece79 : resEqb (evH Tryz.prog ct79 60 (.fn 82) as79 (trU m79) 413088) r79 u79 584053 = true := by kernel_rfl
theorem piece80 : resEqb (evH Tryz.prog ct80 60 (.fn 127) as80 (trU m80) 412257) r80 u80 585214 = true := by kernel_rfl
theorem piece81 : resEqb (evH Tryz.prog ct81 60 (.fn 136) as81 (trU m81) 585438) r81 u81 586425 = true := by kernel_rfl
end Go.Pv.CD
