import Derived.Test.YtgnnkajjlhmgkaaGreatDoorLit
/- Pieces of the closed run of the chapter's example. -/
set_option linter.all false
set_option maxRecDepth 100000
namespace Go.Pv.NP
open Go Go.Proofs
theorem piece25 : resEqb (evH Tryz.prog ct25 60 (.fn 183) as25 (trU m25) 1223210) r25 u25 1227286 = true := by kernel_rfl
theorem piece26 : resEqb (evH Tryz.prog ct26 60 (.fn 186) as26 (trU m26) 1228066) r26 u26 1232590 = true := by kernel_rfl
theorem piece27 : resEqb (evH Tryz.prog ct27 60 (.fn 187) as27 (trU m27) 1232598) r27 u27 1233127 = true := by kernel_rfl
theorem piece28 : resEqb (evH Tryz.prog ct28 60 (.fn 183) as28 (trU m28) 1233171) r28 u28 1234702 = true := by kernel_rfl
theorem piece29 : resEqb (evH Tryz.prog ct29 60 (.fn 186) as29 (trU m29) 1235230) r29 u29 1239124 = true := by kernel_rfl
theorem piece30 : resEqb (evH Tryz.prog ct30 60 (.fn 183) as30 (trU m30) 1239579) r30 u30 1245987 = true := by kernel_rfl
theorem piece31 : resEqb (evH Tryz.prog ct31 60 (.fn 184) as31 (trU m31) 1245995) r31 u31 1246546 = true := by kernel_rfl
theorem piece32 : resEqb (evH Tryz.prog ct32 60 (.fn 185) as32 (trU m32) 1246554) r32 u32 1247135 = true := by kernel_rfl
end Go.Pv.NP
