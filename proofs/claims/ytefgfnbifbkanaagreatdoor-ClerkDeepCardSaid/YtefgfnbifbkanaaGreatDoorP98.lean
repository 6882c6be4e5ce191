import Derived.Test.YtefgfnbifbkanaaGreatDoorLit
/- Pieces of the closed run of the chapter's example. -/
set_option linter.all false
set_option maxRecDepth 100000
namespace Go.Pv.CD
open Go Go.Proofs
theorem piece98 : resEqb (evH Tryz.prog ct98 60 (.fn 82) as98 (trU m98) 646502) r98 u98 693389 = true := by kernel_rfl
theorem piece99 : resEqb (evH Tryz.prog ct99 60 (.fn 127) as99 (trU m99) 645671) r99 u99 693417 = true := by kernel_rfl
theorem piece100 : resEqb (evH Tryz.prog ct100 60 (.fn 82) as100 (trU m100) 640349) r100 u100 693757 = true := by kernel_rfl
theorem piece101 : resEqb (evH Tryz.prog ct101 60 (.fn 127) as101 (trU m101) 639518) r101 u101 693785 = true := by kernel_rfl
theorem piece102 : resEqb (evH Tryz.prog ct102 60 (.fn 82) as102 (trU m102) 634196) r102 u102 694125 = true := by kernel_rfl
theorem piece103 : resEqb (evH Tryz.prog ct103 60 (.fn 127) as103 (trU m103) 633365) r103 u103 694153 = true := by kernel_rfl
theorem piece104 : resEqb (evH Tryz.prog ct104 60 (.fn 82) as104 (trU m104) 628043) r104 u104 694493 = true := by kernel_rfl
theorem piece105 : resEqb (evH Tryz.prog ct105 60 (.fn 127) as105 (trU m105) 627212) r105 u105 694521 = true := by kernel_rfl
end Go.Pv.CD
