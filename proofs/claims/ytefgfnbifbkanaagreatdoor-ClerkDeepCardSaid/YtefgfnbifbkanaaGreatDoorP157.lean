import Derived.Test.YtefgfnbifbkanaaGreatDoorLit
/- Pieces of the closed run of the chapter's example. -/
set_option linter.all false
set_option maxRecDepth 100000
namespace Go.Pv.CD
open Go Go.Proofs
theorem piece157 : resEqb (evH Tryz.prog ct157 60 (.fn 39) as157 (trU m157) 1685361) r157 u157 1686868 = true := by kernel_rfl
theorem piece158 : resEqb (evH Tryz.prog ct158 60 (.fn 23) as158 (trU m158) 1668842) r158 u158 1701739 = true := by kernel_rfl
theorem piece159 : resEqb (evH Tryz.prog ct159 60 (.fn 82) as159 (trU m159) 1746793) r159 u159 1782094 = true := by kernel_rfl
theorem piece160 : resEqb (evH Tryz.prog ct160 60 (.fn 127) as160 (trU m160) 1745962) r160 u160 1783240 = true := by kernel_rfl
theorem piece161 : resEqb (evH Tryz.prog ct161 60 (.fn 23) as161 (trU m161) 1786414) r161 u161 1819311 = true := by kernel_rfl
theorem piece162 : resEqb (evH Tryz.prog ct162 60 (.fn 82) as162 (trU m162) 1786379) r162 u162 1821835 = true := by kernel_rfl
theorem piece163 : resEqb (evH Tryz.prog ct163 60 (.fn 127) as163 (trU m163) 1785548) r163 u163 1823249 = true := by kernel_rfl
theorem piece164 : resEqb (evH Tryz.prog ct164 60 (.fn 82) as164 (trU m164) 1826388) r164 u164 1861844 = true := by kernel_rfl
theorem piece165 : resEqb (evH Tryz.prog ct165 60 (.fn 127) as165 (trU m165) 1825557) r165 u165 1863258 = true := by kernel_rfl
theorem piece166 : resEqb (evH Tryz.prog ct166 60 (.fn 82) as166 (trU m166) 1866397) r166 u166 1901853 = true := by kernel_rfl
theorem piece167 : resEqb (evH Tryz.prog ct167 60 (.fn 127) as167 (trU m167) 1865566) r167 u167 1903267 = true := by kernel_rfl
end Go.Pv.CD
