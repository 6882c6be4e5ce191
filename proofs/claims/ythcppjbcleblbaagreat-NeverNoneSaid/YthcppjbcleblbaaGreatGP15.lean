import Derived.Test.YthcppjbcleblbaaGreatLit
/- Pieces of the closed run of the chapter's example. -/
set_option linter.all false
namespace Go.Pv.NN
open Go Go.Proofs
theorem piece15 : resEqb (evH Tryz.prog ctB 60 (.fn 54) as15 (trU m15) 344) r15 u15 525 = true := by kernel_rfl
theorem piece16 : resEqb (evH Tryz.prog ctB 60 (.fn 54) as16 (trU m16) 678) r16 u16 859 = true := by kernel_rfl
theorem piece17 : resEqb (evH Tryz.prog ctB 60 (.fn 54) as17 (trU m17) 1012) r17 u17 1193 = true := by kernel_rfl
theorem piece18 : resEqb (evH Tryz.prog ctB 60 (.fn 54) as18 (trU m18) 1346) r18 u18 1527 = true := by kernel_rfl
theorem piece19 : resEqb (evH Tryz.prog ctB 60 (.fn 54) as19 (trU m19) 1680) r19 u19 1861 = true := by kernel_rfl
theorem piece20 : resEqb (evH Tryz.prog ctB 60 (.fn 54) as20 (trU m20) 2014) r20 u20 2195 = true := by kernel_rfl
theorem piece21 : resEqb (evH Tryz.prog ctB 60 (.fn 54) as21 (trU m21) 2348) r21 u21 2529 = true := by kernel_rfl
theorem piece22 : resEqb (evH Tryz.prog ctB 60 (.fn 54) as22 (trU m22) 2682) r22 u22 2863 = true := by kernel_rfl
theorem piece23 : resEqb (evH Tryz.prog ctB 60 (.fn 54) as23 (trU m23) 3016) r23 u23 3197 = true := by kernel_rfl
theorem piece24 : resEqb (evH Tryz.prog ctB 60 (.fn 54) as24 (trU m24) 3350) r24 u24 3531 = true := by kernel_rfl
theorem piece25 : resEqb (evH Tryz.prog ctB 60 (.fn 54) as25 (trU m25) 3592) r25 u25 3773 = true := by kernel_rfl
theorem piece26 : resEqb (evH Tryz.prog ctB 60 (.fn 54) as26 (trU m26) 3776) r26 u26 3957 = true := by kernel_rfl
theorem piece27 : resEqb (evH Tryz.prog ctB 60 (.fn 54) as27 (trU m27) 4018) r27 u27 4199 = true := by kernel_rfl
end Go.Pv.NN
