import Derived.Test.YtefgfnbifbkanaaGreatDoorLit
/- Pieces of the closed run of the chapter's example. -/
set_option linter.all false
set_option maxRecDepth 100000
namespace Go.Pv.CD
open Go Go.Proofs
theorem piece139 : resEqb (evH Tryz.prog ct139 60 (.fn 82) as139 (trU m139) 1090237) r139 u139 1125693 = true := by kernel_rfl
theorem piece140 : resEqb (evH Tryz.prog ct140 60 (.fn 127) as140 (trU m140) 1089406) r140 u140 1127107 = true := by kernel_rfl
theorem piece141 : resEqb (evH Tryz.prog ct141 60 (.fn 82) as141 (trU m141) 1130246) r141 u141 1165702 = true := by kernel_rfl
theorem piece142 : resEqb (evH Tryz.prog ct142 60 (.fn 127) as142 (trU m142) 1129415) r142 u142 1167116 = true := by kernel_rfl
theorem piece143 : resEqb (evH Tryz.prog ct143 60 (.fn 82) as143 (trU m143) 1170255) r143 u143 1205711 = true := by kernel_rfl
theorem piece144 : resEqb (evH Tryz.prog ct144 60 (.fn 127) as144 (trU m144) 1169424) r144 u144 1207125 = true := by kernel_rfl
theorem piece145 : resEqb (evH Tryz.prog ct145 60 (.fn 82) as145 (trU m145) 1210264) r145 u145 1245720 = true := by kernel_rfl
theorem piece146 : resEqb (evH Tryz.prog ct146 60 (.fn 127) as146 (trU m146) 1209433) r146 u146 1247134 = true := by kernel_rfl
theorem piece147 : resEqb (evH Tryz.prog ct147 60 (.fn 82) as147 (trU m147) 1250273) r147 u147 1285729 = true := by kernel_rfl
theorem piece148 : resEqb (evH Tryz.prog ct148 60 (.fn 127) as148 (trU m148) 1249442) r148 u148 1287143 = true := by kernel_rfl
end Go.Pv.CD
