import Derived.Test.YtefgfnbifbkanaaGreatDoorLit
/- Pieces of the closed run of the chapter's example. -/
set_option linter.all false
set_option maxRecDepth 100000
namespace Go.Pv.CD
open Go Go.Proofs
theorem piece20 : resEqb (evH Tryz.prog ct20 60 (.fn 28) as20 (trU m20) 353624) r20 u20 354714 = true := by kernel_rfl
theorem piece21 : resEqb (evH Tryz.prog ct21 60 (.fn 11) as21 (trU m21) 353375) r21 u21 356857 = true := by kernel_rfl
theorem piece22 : resEqb (evH Tryz.prog ct22 60 (.fn 11) as22 (trU m22) 356906) r22 u22 360388 = true := by kernel_rfl
theorem piece23 : resEqb (evH Tryz.prog ct23 60 (.fn 11) as23 (trU m23) 360437) r23 u23 363919 = true := by kernel_rfl
theorem piece24 : resEqb (evH Tryz.prog ct24 60 (.fn 11) as24 (trU m24) 363968) r24 u24 367450 = true := by kernel_rfl
theorem piece25 : resEqb (evH Tryz.prog ct25 60 (.fn 11) as25 (trU m25) 367499) r25 u25 370981 = true := by kernel_rfl
theorem piece26 : resEqb (evH Tryz.prog ct26 60 (.fn 11) as26 (trU m26) 371030) r26 u26 374512 = true := by kernel_rfl
theorem piece27 : resEqb (evH Tryz.prog ct27 60 (.fn 11) as27 (trU m27) 374561) r27 u27 378043 = true := by kernel_rfl
theorem piece28 : resEqb (evH Tryz.prog ct28 60 (.fn 11) as28 (trU m28) 378092) r28 u28 381574 = true := by kernel_rfl
theorem piece29 : resEqb (evH Tryz.prog ct29 60 (.fn 11) as29 (trU m29) 381623) r29 u29 385105 = true := by kernel_rfl
end Go.Pv.CD
