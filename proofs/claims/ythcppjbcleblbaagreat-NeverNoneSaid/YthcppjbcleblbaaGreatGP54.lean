import Derived.Test.YthcppjbcleblbaaGreatLit
/- Pieces of the closed run of the chapter's example. -/
set_option linter.all false
namespace Go.Pv.NN
open Go Go.Proofs
theorem piece54 : resEqb (evH Tryz.prog ctB 60 (.fn 54) as54 (trU m54) 9740) r54 u54 9921 = true := by kernel_rfl
theorem piece55 : resEqb (evH Tryz.prog ctB 60 (.fn 54) as55 (trU m55) 9982) r55 u55 10163 = true := by kernel_rfl
theorem piece56 : resEqb (evH Tryz.prog ctB 60 (.fn 54) as56 (trU m56) 10166) r56 u56 10347 = true := by kernel_rfl
theorem piece57 : resEqb (evH Tryz.prog ctB 60 (.fn 54) as57 (trU m57) 10408) r57 u57 10589 = true := by kernel_rfl
theorem piece58 : resEqb (evH Tryz.prog ctB 60 (.fn 54) as58 (trU m58) 10592) r58 u58 10773 = true := by kernel_rfl
theorem piece59 : resEqb (evH Tryz.prog ctB 60 (.fn 54) as59 (trU m59) 10834) r59 u59 11015 = true := by kernel_rfl
theorem piece60 : resEqb (evH Tryz.prog ctB 60 (.fn 54) as60 (trU m60) 11018) r60 u60 11199 = true := by kernel_rfl
theorem piece61 : resEqb (evH Tryz.prog ctB 60 (.fn 54) as61 (trU m61) 11260) r61 u61 11441 = true := by kernel_rfl
theorem piece62 : resEqb (evH Tryz.prog ctB 60 (.fn 54) as62 (trU m62) 11444) r62 u62 11625 = true := by kernel_rfl
theorem piece63 : resEqb (evH Tryz.prog ctB 60 (.fn 54) as63 (trU m63) 11686) r63 u63 11867 = true := by kernel_rfl
theorem piece64 : resEqb (evH Tryz.prog ctB 60 (.fn 54) as64 (trU m64) 11870) r64 u64 12051 = true := by kernel_rfl
theorem piece65 : resEqb (evH Tryz.prog ctB 60 (.fn 54) as65 (trU m65) 12112) r65 u65 12293 = true := by kernel_rfl
theorem piece66 : resEqb (evH Tryz.prog ctB 60 (.fn 54) as66 (trU m66) 12296) r66 u66 12477 = true := by kernel_rfl
end Go.Pv.NN
