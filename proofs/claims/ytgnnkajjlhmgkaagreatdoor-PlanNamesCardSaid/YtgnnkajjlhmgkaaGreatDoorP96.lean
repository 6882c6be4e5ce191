import Derived.Test.YtgnnkajjlhmgkaaGreatDoorLit
/- Pieces of the closed run of the chapter's example. -/
set_option linter.all false
set_option maxRecDepth 100000
namespace Go.Pv.NP
open Go Go.Proofs
theorem piece96 : resEqb (evH Tryz.prog ct96 60 (.fn 183) as96 (trU m96) 1653298) r96 u96 1665056 = true := by kernel_rfl
theorem piece97 : resEqb (evH Tryz.prog ct97 60 (.fn 184) as97 (trU m97) 1665064) r97 u97 1665787 = true := by kernel_rfl
theorem piece98 : resEqb (evH Tryz.prog ct98 60 (.fn 185) as98 (trU m98) 1665795) r98 u98 1666580 = true := by kernel_rfl
theorem piece99 : resEqb (evH Tryz.prog ct99 60 (.fn 186) as99 (trU m99) 1666588) r99 u99 1677636 = true := by kernel_rfl
theorem piece100 : resEqb (evH Tryz.prog ct100 60 (.fn 187) as100 (trU m100) 1677644) r100 u100 1678323 = true := by kernel_rfl
end Go.Pv.NP
