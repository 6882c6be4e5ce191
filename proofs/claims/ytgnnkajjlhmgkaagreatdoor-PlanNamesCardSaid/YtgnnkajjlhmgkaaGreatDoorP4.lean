import Derived.Test.YtgnnkajjlhmgkaaGreatDoorLit
/- Pieces of the closed run of the chapter's example. -/
set_option linter.all false
set_option maxRecDepth 100000
namespace Go.Pv.NP
open Go Go.Proofs
theorem piece4 : resEqb (evH Tryz.prog ct4 60 (.fn 61) as4 (trU m4) 3984) r4 u4 171911 = true := by kernel_rfl
theorem piece5 : resEqb (evH Tryz.prog ct5 60 (.fn 110) as5 (trU m5) 173544) r5 u5 175070 = true := by kernel_rfl
theorem piece6 : resEqb (evH Tryz.prog ct6 60 (.fn 110) as6 (trU m6) 175084) r6 u6 176153 = true := by kernel_rfl
theorem piece7 : resEqb (evH Tryz.prog ct7 60 (.fn 110) as7 (trU m7) 176167) r7 u7 176692 = true := by kernel_rfl
theorem piece8 : resEqb (evH Tryz.prog ct8 60 (.fn 61) as8 (trU m8) 173502) r8 u8 345495 = true := by kernel_rfl
theorem piece9 : resEqb (evH Tryz.prog ct9 60 (.fn 110) as9 (trU m9) 345594) r9 u9 347120 = true := by kernel_rfl
theorem piece10 : resEqb (evH Tryz.prog ct10 60 (.fn 88) as10 (trU m10) 351383) r10 u10 433435 = true := by kernel_rfl
theorem piece11 : resEqb (evH Tryz.prog ct11 60 (.fn 64) as11 (trU m11) 345518) r11 u11 437973 = true := by kernel_rfl
theorem piece12 : resEqb (evH Tryz.prog ct12 60 (.fn 110) as12 (trU m12) 438086) r12 u12 439155 = true := by kernel_rfl
end Go.Pv.NP
