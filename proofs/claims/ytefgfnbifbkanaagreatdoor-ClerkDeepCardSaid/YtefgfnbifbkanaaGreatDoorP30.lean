import Derived.Test.YtefgfnbifbkanaaGreatDoorLit
/- Pieces of the closed run of the chapter's example. -/
set_option linter.all false
set_option maxRecDepth 100000
namespace Go.Pv.CD
open Go Go.Proofs
theorem piece30 : resEqb (evH Tryz.prog ct30 60 (.fn 11) as30 (trU m30) 385154) r30 u30 388636 = true := by kernel_rfl
theorem piece31 : resEqb (evH Tryz.prog ct31 60 (.fn 11) as31 (trU m31) 388685) r31 u31 392167 = true := by kernel_rfl
theorem piece32 : resEqb (evH Tryz.prog ct32 60 (.fn 11) as32 (trU m32) 392216) r32 u32 395698 = true := by kernel_rfl
theorem piece33 : resEqb (evH Tryz.prog ct33 60 (.fn 11) as33 (trU m33) 395747) r33 u33 399229 = true := by kernel_rfl
theorem piece34 : resEqb (evH Tryz.prog ct34 60 (.fn 11) as34 (trU m34) 399278) r34 u34 402760 = true := by kernel_rfl
theorem piece35 : resEqb (evH Tryz.prog ct35 60 (.fn 11) as35 (trU m35) 402809) r35 u35 406291 = true := by kernel_rfl
theorem piece36 : resEqb (evH Tryz.prog ct36 60 (.fn 5) as36 (trU m36) 351484) r36 u36 406310 = true := by kernel_rfl
theorem piece37 : resEqb (evH Tryz.prog ct37 60 (.fn 82) as37 (trU m37) 496416) r37 u37 500767 = true := by kernel_rfl
theorem piece38 : resEqb (evH Tryz.prog ct38 60 (.fn 127) as38 (trU m38) 495585) r38 u38 501928 = true := by kernel_rfl
theorem piece39 : resEqb (evH Tryz.prog ct39 60 (.fn 136) as39 (trU m39) 502152) r39 u39 503139 = true := by kernel_rfl
end Go.Pv.CD
