import Derived.Test.YtefgfnbifbkanaaGreatDoorLit
/- Pieces of the closed run of the chapter's example. -/
set_option linter.all false
set_option maxRecDepth 100000
namespace Go.Pv.CD
open Go Go.Proofs
theorem piece52 : resEqb (evH Tryz.prog ct52 60 (.fn 82) as52 (trU m52) 466656) r52 u52 530512 = true := by kernel_rfl
theorem piece53 : resEqb (evH Tryz.prog ct53 60 (.fn 127) as53 (trU m53) 465825) r53 u53 531673 = true := by kernel_rfl
theorem piece54 : resEqb (evH Tryz.prog ct54 60 (.fn 136) as54 (trU m54) 531897) r54 u54 532884 = true := by kernel_rfl
theorem piece55 : resEqb (evH Tryz.prog ct55 60 (.fn 82) as55 (trU m55) 460704) r55 u55 536461 = true := by kernel_rfl
theorem piece56 : resEqb (evH Tryz.prog ct56 60 (.fn 127) as56 (trU m56) 459873) r56 u56 537622 = true := by kernel_rfl
theorem piece57 : resEqb (evH Tryz.prog ct57 60 (.fn 136) as57 (trU m57) 537846) r57 u57 538833 = true := by kernel_rfl
end Go.Pv.CD
