import Derived.Test.YtgnnkajjlhmgkaaGreatDoorLit
/- Pieces of the closed run of the chapter's example. -/
set_option linter.all false
set_option maxRecDepth 100000
namespace Go.Pv.NP
open Go Go.Proofs
theorem piece38 : resEqb (evH Tryz.prog ct38 60 (.fn 186) as38 (trU m38) 1265491) r38 u38 1276441 = true := by kernel_rfl
theorem piece39 : resEqb (evH Tryz.prog ct39 60 (.fn 187) as39 (trU m39) 1276449) r39 u39 1277128 = true := by kernel_rfl
theorem piece40 : resEqb (evH Tryz.prog ct40 60 (.fn 183) as40 (trU m40) 1277172) r40 u40 1280284 = true := by kernel_rfl
theorem piece41 : resEqb (evH Tryz.prog ct41 60 (.fn 186) as41 (trU m41) 1281188) r41 u41 1284943 = true := by kernel_rfl
end Go.Pv.NP
