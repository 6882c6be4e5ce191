import Derived.Test.YtgnnkajjlhmgkaaGreatDoorLit
/- Pieces of the closed run of the chapter's example. -/
set_option linter.all false
set_option maxRecDepth 100000
namespace Go.Pv.NP
open Go Go.Proofs
theorem piece47 : resEqb (evH Tryz.prog ct47 60 (.fn 183) as47 (trU m47) 1311571) r47 u47 1323270 = true := by kernel_rfl
theorem piece48 : resEqb (evH Tryz.prog ct48 60 (.fn 184) as48 (trU m48) 1323278) r48 u48 1324001 = true := by kernel_rfl
theorem piece49 : resEqb (evH Tryz.prog ct49 60 (.fn 185) as49 (trU m49) 1324009) r49 u49 1324794 = true := by kernel_rfl
theorem piece50 : resEqb (evH Tryz.prog ct50 60 (.fn 186) as50 (trU m50) 1324802) r50 u50 1336368 = true := by kernel_rfl
theorem piece51 : resEqb (evH Tryz.prog ct51 60 (.fn 187) as51 (trU m51) 1336376) r51 u51 1337055 = true := by kernel_rfl
end Go.Pv.NP
