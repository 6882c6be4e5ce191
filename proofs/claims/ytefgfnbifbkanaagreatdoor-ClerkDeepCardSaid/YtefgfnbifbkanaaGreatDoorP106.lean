import Derived.Test.YtefgfnbifbkanaaGreatDoorLit
/- Pieces of the closed run of the chapter's example. -/
set_option linter.all false
set_option maxRecDepth 100000
namespace Go.Pv.CD
open Go Go.Proofs
theorem piece106 : resEqb (evH Tryz.prog ct106 60 (.fn 82) as106 (trU m106) 621890) r106 u106 694861 = true := by kernel_rfl
theorem piece107 : resEqb (evH Tryz.prog ct107 60 (.fn 127) as107 (trU m107) 621059) r107 u107 694889 = true := by kernel_rfl
theorem piece108 : resEqb (evH Tryz.prog ct108 60 (.fn 82) as108 (trU m108) 615737) r108 u108 695229 = true := by kernel_rfl
theorem piece109 : resEqb (evH Tryz.prog ct109 60 (.fn 127) as109 (trU m109) 614906) r109 u109 695257 = true := by kernel_rfl
theorem piece110 : resEqb (evH Tryz.prog ct110 60 (.fn 82) as110 (trU m110) 609584) r110 u110 695597 = true := by kernel_rfl
theorem piece111 : resEqb (evH Tryz.prog ct111 60 (.fn 127) as111 (trU m111) 608753) r111 u111 695625 = true := by kernel_rfl
theorem piece112 : resEqb (evH Tryz.prog ct112 60 (.fn 82) as112 (trU m112) 603431) r112 u112 695965 = true := by kernel_rfl
theorem piece113 : resEqb (evH Tryz.prog ct113 60 (.fn 127) as113 (trU m113) 602600) r113 u113 695993 = true := by kernel_rfl
end Go.Pv.CD
