import Derived.Test.YthcppjbcleblbaaGreatLit
/- Pieces of the closed run of the chapter's example. -/
set_option linter.all false
namespace Go.Pv.NN
open Go Go.Proofs
theorem piece28 : resEqb (evH Tryz.prog ctB 60 (.fn 54) as28 (trU m28) 4202) r28 u28 4383 = true := by kernel_rfl
theorem piece29 : resEqb (evH Tryz.prog ctB 60 (.fn 54) as29 (trU m29) 4444) r29 u29 4625 = true := by kernel_rfl
theorem piece30 : resEqb (evH Tryz.prog ctB 60 (.fn 54) as30 (trU m30) 4628) r30 u30 4809 = true := by kernel_rfl
theorem piece31 : resEqb (evH Tryz.prog ctB 60 (.fn 54) as31 (trU m31) 4870) r31 u31 5051 = true := by kernel_rfl
theorem piece32 : resEqb (evH Tryz.prog ctB 60 (.fn 54) as32 (trU m32) 5054) r32 u32 5235 = true := by kernel_rfl
theorem piece33 : resEqb (evH Tryz.prog ctB 60 (.fn 54) as33 (trU m33) 5296) r33 u33 5477 = true := by kernel_rfl
theorem piece34 : resEqb (evH Tryz.prog ctB 60 (.fn 54) as34 (trU m34) 5480) r34 u34 5661 = true := by kernel_rfl
theorem piece35 : resEqb (evH Tryz.prog ctB 60 (.fn 54) as35 (trU m35) 5722) r35 u35 5903 = true := by kernel_rfl
theorem piece36 : resEqb (evH Tryz.prog ctB 60 (.fn 54) as36 (trU m36) 5906) r36 u36 6087 = true := by kernel_rfl
theorem piece37 : resEqb (evH Tryz.prog ctB 60 (.fn 54) as37 (trU m37) 6148) r37 u37 6329 = true := by kernel_rfl
theorem piece38 : resEqb (evH Tryz.prog ctB 60 (.fn 54) as38 (trU m38) 6332) r38 u38 6513 = true := by kernel_rfl
theorem piece39 : resEqb (evH Tryz.prog ctB 60 (.fn 54) as39 (trU m39) 6574) r39 u39 6755 = true := by kernel_rfl
theorem piece40 : resEqb (evH Tryz.prog ctB 60 (.fn 54) as40 (trU m40) 6758) r40 u40 6939 = true := by kernel_rfl
end Go.Pv.NN
