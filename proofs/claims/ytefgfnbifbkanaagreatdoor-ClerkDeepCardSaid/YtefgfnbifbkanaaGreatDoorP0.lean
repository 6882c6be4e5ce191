import Derived.Test.YtefgfnbifbkanaaGreatDoorLit
/- Pieces of the closed run of the chapter's example. -/
set_option linter.all false
set_option maxRecDepth 100000
namespace Go.Pv.CD
open Go Go.Proofs
theorem piece0 : resEqb (evH Tryz.prog ct0 60 (.fn 28) as0 (trU m0) 1267) r0 u0 2269 = true := by kernel_rfl
theorem piece1 : resEqb (evH Tryz.prog ct1 60 (.fn 11) as1 (trU m1) 1018) r1 u1 4412 = true := by kernel_rfl
theorem piece2 : resEqb (evH Tryz.prog ct2 60 (.fn 23) as2 (trU m2) 5284) r2 u2 38181 = true := by kernel_rfl
theorem piece3 : resEqb (evH Tryz.prog ct3 60 (.fn 82) as3 (trU m3) 43735) r3 u3 77703 = true := by kernel_rfl
theorem piece4 : resEqb (evH Tryz.prog ct4 60 (.fn 127) as4 (trU m4) 42885) r4 u4 78921 = true := by kernel_rfl
theorem piece5 : resEqb (evH Tryz.prog ct5 60 (.fn 136) as5 (trU m5) 79145) r5 u5 80137 = true := by kernel_rfl
theorem piece6 : resEqb (evH Tryz.prog ct6 60 (.fn 82) as6 (trU m6) 5249) r6 u6 83734 = true := by kernel_rfl
theorem piece7 : resEqb (evH Tryz.prog ct7 60 (.fn 6) as7 (trU m7) 4420) r7 u7 84009 = true := by kernel_rfl
theorem piece8 : resEqb (evH Tryz.prog ct8 60 (.fn 28) as8 (trU m8) 84113) r8 u8 84458 = true := by kernel_rfl
end Go.Pv.CD
