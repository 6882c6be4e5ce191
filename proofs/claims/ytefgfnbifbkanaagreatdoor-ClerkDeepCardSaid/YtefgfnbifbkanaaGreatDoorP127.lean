import Derived.Test.YtefgfnbifbkanaaGreatDoorLit
/- Pieces of the closed run of the chapter's example. -/
set_option linter.all false
set_option maxRecDepth 100000
namespace Go.Pv.CD
open Go Go.Proofs
theorem piece127 : resEqb (evH Tryz.prog ct127 60 (.fn 11) as127 (trU m127) 884208) r127 u127 893274 = true := by kernel_rfl
theorem piece128 : resEqb (evH Tryz.prog ct128 60 (.fn 39) as128 (trU m128) 909825) r128 u128 911200 = true := by kernel_rfl
theorem piece129 : resEqb (evH Tryz.prog ct129 60 (.fn 23) as129 (trU m129) 893306) r129 u129 926203 = true := by kernel_rfl
theorem piece130 : resEqb (evH Tryz.prog ct130 60 (.fn 82) as130 (trU m130) 970633) r130 u130 1005934 = true := by kernel_rfl
theorem piece131 : resEqb (evH Tryz.prog ct131 60 (.fn 127) as131 (trU m131) 969802) r131 u131 1007080 = true := by kernel_rfl
theorem piece132 : resEqb (evH Tryz.prog ct132 60 (.fn 136) as132 (trU m132) 1007406) r132 u132 1008383 = true := by kernel_rfl
theorem piece133 : resEqb (evH Tryz.prog ct133 60 (.fn 136) as133 (trU m133) 1008396) r133 u133 1009364 = true := by kernel_rfl
theorem piece134 : resEqb (evH Tryz.prog ct134 60 (.fn 23) as134 (trU m134) 1010254) r134 u134 1043151 = true := by kernel_rfl
theorem piece135 : resEqb (evH Tryz.prog ct135 60 (.fn 82) as135 (trU m135) 1010219) r135 u135 1045675 = true := by kernel_rfl
theorem piece136 : resEqb (evH Tryz.prog ct136 60 (.fn 127) as136 (trU m136) 1009388) r136 u136 1047089 = true := by kernel_rfl
theorem piece137 : resEqb (evH Tryz.prog ct137 60 (.fn 82) as137 (trU m137) 1050228) r137 u137 1085684 = true := by kernel_rfl
theorem piece138 : resEqb (evH Tryz.prog ct138 60 (.fn 127) as138 (trU m138) 1049397) r138 u138 1087098 = true := by kernel_rfl
end Go.Pv.CD
