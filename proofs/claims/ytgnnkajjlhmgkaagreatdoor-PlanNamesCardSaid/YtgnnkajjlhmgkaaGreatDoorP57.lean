import Derived.Test.YtgnnkajjlhmgkaaGreatDoorLit
/- Pieces of the closed run of the chapter's example. -/
set_option linter.all false
set_option maxRecDepth 100000
namespace Go.Pv.NP
open Go Go.Proofs
theorem piece57 : resEqb (evH Tryz.prog ct57 60 (.fn 186) as57 (trU m57) 1358851) r57 u57 1370417 = true := by kernel_rfl
theorem piece58 : resEqb (evH Tryz.prog ct58 60 (.fn 187) as58 (trU m58) 1370425) r58 u58 1371104 = true := by kernel_rfl
theorem piece59 : resEqb (evH Tryz.prog ct59 60 (.fn 30) as59 (trU m59) 1123862) r59 u59 1371117 = true := by kernel_rfl
theorem piece60 : resEqb (evH Tryz.prog ct60 60 (.fn 183) as60 (trU m60) 1373572) r60 u60 1376670 = true := by kernel_rfl
end Go.Pv.NP
