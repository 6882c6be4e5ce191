import Derived.Test.YtefgfnbifbkanaaGreatDoorLit
/- Pieces of the closed run of the chapter's example. -/
set_option linter.all false
set_option maxRecDepth 100000
namespace Go.Pv.CD
open Go Go.Proofs
theorem piece64 : resEqb (evH Tryz.prog ct64 60 (.fn 82) as64 (trU m64) 442848) r64 u64 554308 = true := by kernel_rfl
theorem piece65 : resEqb (evH Tryz.prog ct65 60 (.fn 127) as65 (trU m65) 442017) r65 u65 555469 = true := by kernel_rfl
theorem piece66 : resEqb (evH Tryz.prog ct66 60 (.fn 136) as66 (trU m66) 555693) r66 u66 556680 = true := by kernel_rfl
theorem piece67 : resEqb (evH Tryz.prog ct67 60 (.fn 82) as67 (trU m67) 436896) r67 u67 560257 = true := by kernel_rfl
theorem piece68 : resEqb (evH Tryz.prog ct68 60 (.fn 127) as68 (trU m68) 436065) r68 u68 561418 = true := by kernel_rfl
theorem piece69 : resEqb (evH Tryz.prog ct69 60 (.fn 136) as69 (trU m69) 561642) r69 u69 562629 = true := by kernel_rfl
end Go.Pv.CD
