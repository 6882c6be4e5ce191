import Derived.Test.YtefgfnbifbkanaaGreatDoorLit
/- Pieces of the closed run of the chapter's example. -/
set_option linter.all false
set_option maxRecDepth 100000
namespace Go.Pv.CD
open Go Go.Proofs
theorem piece9 : resEqb (evH Tryz.prog ct9 60 (.fn 23) as9 (trU m9) 86620) r9 u9 135902 = true := by kernel_rfl
theorem piece10 : resEqb (evH Tryz.prog ct10 60 (.fn 82) as10 (trU m10) 86585) r10 u10 187728 = true := by kernel_rfl
theorem piece11 : resEqb (evH Tryz.prog ct11 60 (.fn 6) as11 (trU m11) 85766) r11 u11 187764 = true := by kernel_rfl
theorem piece12 : resEqb (evH Tryz.prog ct12 60 (.fn 136) as12 (trU m12) 291779) r12 u12 292761 = true := by kernel_rfl
theorem piece13 : resEqb (evH Tryz.prog ct13 60 (.fn 82) as13 (trU m13) 294298) r13 u13 344651 = true := by kernel_rfl
theorem piece14 : resEqb (evH Tryz.prog ct14 60 (.fn 127) as14 (trU m14) 293448) r14 u14 346137 = true := by kernel_rfl
theorem piece15 : resEqb (evH Tryz.prog ct15 60 (.fn 136) as15 (trU m15) 346361) r15 u15 347348 = true := by kernel_rfl
theorem piece16 : resEqb (evH Tryz.prog ct16 60 (.fn 82) as16 (trU m16) 237872) r16 u16 350925 = true := by kernel_rfl
theorem piece17 : resEqb (evH Tryz.prog ct17 60 (.fn 9) as17 (trU m17) 187777) r17 u17 351197 = true := by kernel_rfl
theorem piece18 : resEqb (evH Tryz.prog ct18 60 (.fn 4) as18 (trU m18) 2) r18 u18 351483 = true := by kernel_rfl
theorem piece19 : resEqb (evH Tryz.prog ct19 60 (.fn 28) as19 (trU m19) 351614) r19 u19 352028 = true := by kernel_rfl
end Go.Pv.CD
