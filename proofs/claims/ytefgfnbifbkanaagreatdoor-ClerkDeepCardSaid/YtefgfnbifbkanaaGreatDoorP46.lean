import Derived.Test.YtefgfnbifbkanaaGreatDoorLit
/- Pieces of the closed run of the chapter's example. -/
set_option linter.all false
set_option maxRecDepth 100000
namespace Go.Pv.CD
open Go Go.Proofs
theorem piece46 : resEqb (evH Tryz.prog ct46 60 (.fn 82) as46 (trU m46) 478560) r46 u46 518614 = true := by kernel_rfl
theorem piece47 : resEqb (evH Tryz.prog ct47 60 (.fn 127) as47 (trU m47) 477729) r47 u47 519775 = true := by kernel_rfl
theorem piece48 : resEqb (evH Tryz.prog ct48 60 (.fn 136) as48 (trU m48) 519999) r48 u48 520986 = true := by kernel_rfl
theorem piece49 : resEqb (evH Tryz.prog ct49 60 (.fn 82) as49 (trU m49) 472608) r49 u49 524563 = true := by kernel_rfl
theorem piece50 : resEqb (evH Tryz.prog ct50 60 (.fn 127) as50 (trU m50) 471777) r50 u50 525724 = true := by kernel_rfl
theorem piece51 : resEqb (evH Tryz.prog ct51 60 (.fn 136) as51 (trU m51) 525948) r51 u51 526935 = true := by kernel_rfl
end Go.Pv.CD
