import Derived.Test.YtefgfnbifbkanaaGreatDoorLit
/- Pieces of the closed run of the chapter's example. -/
set_option linter.all false
set_option maxRecDepth 100000
namespace Go.Pv.CD
open Go Go.Proofs
theorem piece149 : resEqb (evH Tryz.prog ct149 60 (.fn 39) as149 (trU m149) 1289625) r149 u149 1291256 = true := by kernel_rfl
theorem piece150 : resEqb (evH Tryz.prog ct150 60 (.fn 82) as150 (trU m150) 927005) r150 u150 1291592 = true := by kernel_rfl
theorem piece151 : resEqb (evH Tryz.prog ct151 60 (.fn 9) as151 (trU m151) 893295) r151 u151 1291859 = true := by kernel_rfl
theorem piece152 : resEqb (evH Tryz.prog ct152 60 (.fn 6) as152 (trU m152) 1291870) r152 u152 1657546 = true := by kernel_rfl
theorem piece153 : resEqb (evH Tryz.prog ct153 60 (.fn 14) as153 (trU m153) 882823) r153 u153 1657581 = true := by kernel_rfl
theorem piece154 : resEqb (evH Tryz.prog ct154 60 (.fn 28) as154 (trU m154) 1659235) r154 u154 1664805 = true := by kernel_rfl
theorem piece155 : resEqb (evH Tryz.prog ct155 60 (.fn 39) as155 (trU m155) 1667237) r155 u155 1668744 = true := by kernel_rfl
theorem piece156 : resEqb (evH Tryz.prog ct156 60 (.fn 11) as156 (trU m156) 1658986) r156 u156 1668810 = true := by kernel_rfl
end Go.Pv.CD
