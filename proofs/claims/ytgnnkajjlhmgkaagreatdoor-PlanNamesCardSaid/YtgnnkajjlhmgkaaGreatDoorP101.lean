import Derived.Test.YtgnnkajjlhmgkaaGreatDoorLit
/- Pieces of the closed run of the chapter's example. -/
set_option linter.all false
set_option maxRecDepth 100000
namespace Go.Pv.NP
open Go Go.Proofs
theorem piece101 : resEqb (evH Tryz.prog ct101 60 (.fn 183) as101 (trU m101) 1678367) r101 u101 1681528 = true := by kernel_rfl
theorem piece102 : resEqb (evH Tryz.prog ct102 60 (.fn 186) as102 (trU m102) 1682432) r102 u102 1686187 = true := by kernel_rfl
theorem piece103 : resEqb (evH Tryz.prog ct103 60 (.fn 183) as103 (trU m103) 1686642) r103 u103 1698942 = true := by kernel_rfl
theorem piece104 : resEqb (evH Tryz.prog ct104 60 (.fn 184) as104 (trU m104) 1698950) r104 u104 1699673 = true := by kernel_rfl
end Go.Pv.NP
