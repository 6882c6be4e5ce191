import Derived.Test.YtefgfnbifbkanaaGreatDoorLit
/- Pieces of the closed run of the chapter's example. -/
set_option linter.all false
set_option maxRecDepth 100000
namespace Go.Pv.CD
open Go Go.Proofs
theorem piece168 : resEqb (evH Tryz.prog ct168 60 (.fn 82) as168 (trU m168) 1906406) r168 u168 1941862 = true := by kernel_rfl
theorem piece169 : resEqb (evH Tryz.prog ct169 60 (.fn 127) as169 (trU m169) 1905575) r169 u169 1943276 = true := by kernel_rfl
theorem piece170 : resEqb (evH Tryz.prog ct170 60 (.fn 82) as170 (trU m170) 1946415) r170 u170 1981871 = true := by kernel_rfl
theorem piece171 : resEqb (evH Tryz.prog ct171 60 (.fn 127) as171 (trU m171) 1945584) r171 u171 1983285 = true := by kernel_rfl
theorem piece172 : resEqb (evH Tryz.prog ct172 60 (.fn 82) as172 (trU m172) 1986424) r172 u172 2021880 = true := by kernel_rfl
theorem piece173 : resEqb (evH Tryz.prog ct173 60 (.fn 127) as173 (trU m173) 1985593) r173 u173 2023294 = true := by kernel_rfl
theorem piece174 : resEqb (evH Tryz.prog ct174 60 (.fn 82) as174 (trU m174) 2026433) r174 u174 2061889 = true := by kernel_rfl
theorem piece175 : resEqb (evH Tryz.prog ct175 60 (.fn 127) as175 (trU m175) 2025602) r175 u175 2063303 = true := by kernel_rfl
theorem piece176 : resEqb (evH Tryz.prog ct176 60 (.fn 82) as176 (trU m176) 1702541) r176 u176 2096474 = true := by kernel_rfl
theorem piece177 : resEqb (evH Tryz.prog ct177 60 (.fn 9) as177 (trU m177) 1668831) r177 u177 2096507 = true := by kernel_rfl
theorem piece178 : resEqb (evH Tryz.prog ct178 60 (.fn 6) as178 (trU m178) 2096518) r178 u178 2491306 = true := by kernel_rfl
end Go.Pv.CD
