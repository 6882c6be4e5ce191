import Derived.Test.YtgnnkajjlhmgkaaGreatDoorLit
/- Pieces of the closed run of the chapter's example. -/
set_option linter.all false
set_option maxRecDepth 100000
namespace Go.Pv.NP
open Go Go.Proofs
theorem piece13 : resEqb (evH Tryz.prog ct13 60 (.fn 88) as13 (trU m13) 442461) r13 u13 524513 = true := by kernel_rfl
theorem piece14 : resEqb (evH Tryz.prog ct14 60 (.fn 64) as14 (trU m14) 438010) r14 u14 527949 = true := by kernel_rfl
theorem piece15 : resEqb (evH Tryz.prog ct15 60 (.fn 10) as15 (trU m15) 3753) r15 u15 611767 = true := by kernel_rfl
theorem piece16 : resEqb (evH Tryz.prog ct16 60 (.fn 110) as16 (trU m16) 780764) r16 u16 781672 = true := by kernel_rfl
theorem piece17 : resEqb (evH Tryz.prog ct17 60 (.fn 61) as17 (trU m17) 780722) r17 u17 950571 = true := by kernel_rfl
theorem piece18 : resEqb (evH Tryz.prog ct18 60 (.fn 110) as18 (trU m18) 950670) r18 u18 951739 = true := by kernel_rfl
theorem piece19 : resEqb (evH Tryz.prog ct19 60 (.fn 64) as19 (trU m19) 950594) r19 u19 1040382 = true := by kernel_rfl
theorem piece20 : resEqb (evH Tryz.prog ct20 60 (.fn 10) as20 (trU m20) 611779) r20 u20 1123849 = true := by kernel_rfl
theorem piece21 : resEqb (evH Tryz.prog ct21 60 (.fn 120) as21 (trU m21) 1123870) r21 u21 1211592 = true := by kernel_rfl
theorem piece22 : resEqb (evH Tryz.prog ct22 60 (.fn 183) as22 (trU m22) 1213900) r22 u22 1217514 = true := by kernel_rfl
theorem piece23 : resEqb (evH Tryz.prog ct23 60 (.fn 186) as23 (trU m23) 1218294) r23 u23 1222629 = true := by kernel_rfl
theorem piece24 : resEqb (evH Tryz.prog ct24 60 (.fn 187) as24 (trU m24) 1222637) r24 u24 1223166 = true := by kernel_rfl
end Go.Pv.NP
