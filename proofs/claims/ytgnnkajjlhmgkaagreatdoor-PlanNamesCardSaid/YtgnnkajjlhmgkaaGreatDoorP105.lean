import Derived.Test.YtgnnkajjlhmgkaaGreatDoorLit
/- Pieces of the closed run of the chapter's example. -/
set_option linter.all false
set_option maxRecDepth 100000
namespace Go.Pv.NP
open Go Go.Proofs
theorem piece105 : resEqb (evH Tryz.prog ct105 60 (.fn 185) as105 (trU m105) 1699681) r105 u105 1700466 = true := by kernel_rfl
theorem piece106 : resEqb (evH Tryz.prog ct106 60 (.fn 186) as106 (trU m106) 1700474) r106 u106 1712040 = true := by kernel_rfl
theorem piece107 : resEqb (evH Tryz.prog ct107 60 (.fn 187) as107 (trU m107) 1712048) r107 u107 1712727 = true := by kernel_rfl
theorem piece108 : resEqb (evH Tryz.prog ct108 60 (.fn 183) as108 (trU m108) 1712771) r108 u108 1724470 = true := by kernel_rfl
theorem piece109 : resEqb (evH Tryz.prog ct109 60 (.fn 184) as109 (trU m109) 1724478) r109 u109 1725201 = true := by kernel_rfl
theorem piece110 : resEqb (evH Tryz.prog ct110 60 (.fn 185) as110 (trU m110) 1725209) r110 u110 1725994 = true := by kernel_rfl
end Go.Pv.NP
