import Derived.Test.YthcppjbcleblbaaGreatLit
/- Pieces of the closed run of the chapter's example. -/
set_option linter.all false
namespace Go.Pv.NN
open Go Go.Proofs
theorem piece41 : resEqb (evH Tryz.prog ctB 60 (.fn 54) as41 (trU m41) 7000) r41 u41 7181 = true := by kernel_rfl
theorem piece42 : resEqb (evH Tryz.prog ctB 60 (.fn 54) as42 (trU m42) 7184) r42 u42 7365 = true := by kernel_rfl
theorem piece43 : resEqb (evH Tryz.prog ctB 60 (.fn 54) as43 (trU m43) 7426) r43 u43 7607 = true := by kernel_rfl
theorem piece44 : resEqb (evH Tryz.prog ctB 60 (.fn 54) as44 (trU m44) 7610) r44 u44 7791 = true := by kernel_rfl
theorem piece45 : resEqb (evH Tryz.prog ctB 60 (.fn 54) as45 (trU m45) 7852) r45 u45 8033 = true := by kernel_rfl
theorem piece46 : resEqb (evH Tryz.prog ctB 60 (.fn 54) as46 (trU m46) 8036) r46 u46 8217 = true := by kernel_rfl
theorem piece47 : resEqb (evH Tryz.prog ctB 60 (.fn 54) as47 (trU m47) 8278) r47 u47 8459 = true := by kernel_rfl
theorem piece48 : resEqb (evH Tryz.prog ctB 60 (.fn 54) as48 (trU m48) 8462) r48 u48 8643 = true := by kernel_rfl
theorem piece49 : resEqb (evH Tryz.prog ctB 60 (.fn 54) as49 (trU m49) 8704) r49 u49 8885 = true := by kernel_rfl
theorem piece50 : resEqb (evH Tryz.prog ctB 60 (.fn 54) as50 (trU m50) 8888) r50 u50 9069 = true := by kernel_rfl
theorem piece51 : resEqb (evH Tryz.prog ctB 60 (.fn 54) as51 (trU m51) 9130) r51 u51 9311 = true := by kernel_rfl
theorem piece52 : resEqb (evH Tryz.prog ctB 60 (.fn 54) as52 (trU m52) 9314) r52 u52 9495 = true := by kernel_rfl
theorem piece53 : resEqb (evH Tryz.prog ctB 60 (.fn 54) as53 (trU m53) 9556) r53 u53 9737 = true := by kernel_rfl
end Go.Pv.NN
