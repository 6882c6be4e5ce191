import Derived.Test.YtefgfnbifbkanaaGreatDoorLit
/- Pieces of the closed run of the chapter's example. -/
set_option linter.all false
set_option maxRecDepth 100000
namespace Go.Pv.CD
open Go Go.Proofs
theorem piece82 : resEqb (evH Tryz.prog ct82 60 (.fn 82) as82 (trU m82) 407137) r82 u82 590002 = true := by kernel_rfl
theorem piece83 : resEqb (evH Tryz.prog ct83 60 (.fn 6) as83 (trU m83) 406318) r83 u83 590277 = true := by kernel_rfl
theorem piece84 : resEqb (evH Tryz.prog ct84 60 (.fn 82) as84 (trU m84) 689573) r84 u84 690813 = true := by kernel_rfl
theorem piece85 : resEqb (evH Tryz.prog ct85 60 (.fn 127) as85 (trU m85) 688742) r85 u85 690841 = true := by kernel_rfl
theorem piece86 : resEqb (evH Tryz.prog ct86 60 (.fn 82) as86 (trU m86) 683420) r86 u86 691181 = true := by kernel_rfl
theorem piece87 : resEqb (evH Tryz.prog ct87 60 (.fn 127) as87 (trU m87) 682589) r87 u87 691209 = true := by kernel_rfl
theorem piece88 : resEqb (evH Tryz.prog ct88 60 (.fn 82) as88 (trU m88) 677267) r88 u88 691549 = true := by kernel_rfl
theorem piece89 : resEqb (evH Tryz.prog ct89 60 (.fn 127) as89 (trU m89) 676436) r89 u89 691577 = true := by kernel_rfl
end Go.Pv.CD
