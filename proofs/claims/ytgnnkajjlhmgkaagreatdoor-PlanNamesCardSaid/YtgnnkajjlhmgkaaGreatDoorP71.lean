import Derived.Test.YtgnnkajjlhmgkaaGreatDoorLit
/- Pieces of the closed run of the chapter's example. -/
set_option linter.all false
set_option maxRecDepth 100000
namespace Go.Pv.NP
open Go Go.Proofs
theorem piece71 : resEqb (evH Tryz.prog ct71 60 (.fn 186) as71 (trU m71) 1405246) r71 u71 1409784 = true := by kernel_rfl
theorem piece72 : resEqb (evH Tryz.prog ct72 60 (.fn 187) as72 (trU m72) 1409792) r72 u72 1410321 = true := by kernel_rfl
theorem piece73 : resEqb (evH Tryz.prog ct73 60 (.fn 183) as73 (trU m73) 1410365) r73 u73 1421969 = true := by kernel_rfl
theorem piece74 : resEqb (evH Tryz.prog ct74 60 (.fn 184) as74 (trU m74) 1421977) r74 u74 1422700 = true := by kernel_rfl
theorem piece75 : resEqb (evH Tryz.prog ct75 60 (.fn 185) as75 (trU m75) 1422708) r75 u75 1423493 = true := by kernel_rfl
end Go.Pv.NP
