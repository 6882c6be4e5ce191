import Derived.Test.YtefgfnbifbkanaaGreatDoorLit
/- Pieces of the closed run of the chapter's example. -/
set_option linter.all false
set_option maxRecDepth 100000
namespace Go.Pv.CD
open Go Go.Proofs
theorem piece58 : resEqb (evH Tryz.prog ct58 60 (.fn 82) as58 (trU m58) 454752) r58 u58 542410 = true := by kernel_rfl
theorem piece59 : resEqb (evH Tryz.prog ct59 60 (.fn 127) as59 (trU m59) 453921) r59 u59 543571 = true := by kernel_rfl
theorem piece60 : resEqb (evH Tryz.prog ct60 60 (.fn 136) as60 (trU m60) 543795) r60 u60 544782 = true := by kernel_rfl
theorem piece61 : resEqb (evH Tryz.prog ct61 60 (.fn 82) as61 (trU m61) 448800) r61 u61 548359 = true := by kernel_rfl
theorem piece62 : resEqb (evH Tryz.prog ct62 60 (.fn 127) as62 (trU m62) 447969) r62 u62 549520 = true := by kernel_rfl
theorem piece63 : resEqb (evH Tryz.prog ct63 60 (.fn 136) as63 (trU m63) 549744) r63 u63 550731 = true := by kernel_rfl
end Go.Pv.CD
