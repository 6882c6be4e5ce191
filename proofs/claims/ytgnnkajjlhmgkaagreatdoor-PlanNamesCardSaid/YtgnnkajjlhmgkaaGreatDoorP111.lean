import Derived.Test.YtgnnkajjlhmgkaaGreatDoorLit
/- Pieces of the closed run of the chapter's example. -/
set_option linter.all false
set_option maxRecDepth 100000
namespace Go.Pv.NP
open Go Go.Proofs
theorem piece111 : resEqb (evH Tryz.prog ct111 60 (.fn 186) as111 (trU m111) 1726002) r111 u111 1737568 = true := by kernel_rfl
theorem piece112 : resEqb (evH Tryz.prog ct112 60 (.fn 187) as112 (trU m112) 1737576) r112 u112 1738255 = true := by kernel_rfl
theorem piece113 : resEqb (evH Tryz.prog ct113 60 (.fn 183) as113 (trU m113) 1738299) r113 u113 1741706 = true := by kernel_rfl
theorem piece114 : resEqb (evH Tryz.prog ct114 60 (.fn 186) as114 (trU m114) 1742610) r114 u114 1746365 = true := by kernel_rfl
end Go.Pv.NP
