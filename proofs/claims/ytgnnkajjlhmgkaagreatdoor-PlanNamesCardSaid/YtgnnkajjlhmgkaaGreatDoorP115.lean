import Derived.Test.YtgnnkajjlhmgkaaGreatDoorLit
/- Pieces of the closed run of the chapter's example. -/
set_option linter.all false
set_option maxRecDepth 100000
namespace Go.Pv.NP
open Go Go.Proofs
theorem piece115 : resEqb (evH Tryz.prog ct115 60 (.fn 183) as115 (trU m115) 1746820) r115 u115 1758519 = true := by kernel_rfl
theorem piece116 : resEqb (evH Tryz.prog ct116 60 (.fn 184) as116 (trU m116) 1758527) r116 u116 1759250 = true := by kernel_rfl
theorem piece117 : resEqb (evH Tryz.prog ct117 60 (.fn 185) as117 (trU m117) 1759258) r117 u117 1760043 = true := by kernel_rfl
theorem piece118 : resEqb (evH Tryz.prog ct118 60 (.fn 186) as118 (trU m118) 1760051) r118 u118 1771617 = true := by kernel_rfl
theorem piece119 : resEqb (evH Tryz.prog ct119 60 (.fn 187) as119 (trU m119) 1771625) r119 u119 1772304 = true := by kernel_rfl
end Go.Pv.NP
