import Derived.Test.YtgnnkajjlhmgkaaGreatDoorLit
/- Pieces of the closed run of the chapter's example. -/
set_option linter.all false
set_option maxRecDepth 100000
namespace Go.Pv.NP
open Go Go.Proofs
theorem piece76 : resEqb (evH Tryz.prog ct76 60 (.fn 186) as76 (trU m76) 1423501) r76 u76 1434451 = true := by kernel_rfl
theorem piece77 : resEqb (evH Tryz.prog ct77 60 (.fn 187) as77 (trU m77) 1434459) r77 u77 1435138 = true := by kernel_rfl
theorem piece78 : resEqb (evH Tryz.prog ct78 60 (.fn 183) as78 (trU m78) 1435182) r78 u78 1438294 = true := by kernel_rfl
theorem piece79 : resEqb (evH Tryz.prog ct79 60 (.fn 186) as79 (trU m79) 1439198) r79 u79 1442953 = true := by kernel_rfl
end Go.Pv.NP
