import Derived.Test.YtgnnkajjlhmgkaaGreatDoorLit
/- Pieces of the closed run of the chapter's example. -/
set_option linter.all false
set_option maxRecDepth 100000
namespace Go.Pv.NP
open Go Go.Proofs
theorem piece52 : resEqb (evH Tryz.prog ct52 60 (.fn 183) as52 (trU m52) 1337099) r52 u52 1340506 = true := by kernel_rfl
theorem piece53 : resEqb (evH Tryz.prog ct53 60 (.fn 186) as53 (trU m53) 1341410) r53 u53 1345165 = true := by kernel_rfl
theorem piece54 : resEqb (evH Tryz.prog ct54 60 (.fn 183) as54 (trU m54) 1345620) r54 u54 1357319 = true := by kernel_rfl
theorem piece55 : resEqb (evH Tryz.prog ct55 60 (.fn 184) as55 (trU m55) 1357327) r55 u55 1358050 = true := by kernel_rfl
theorem piece56 : resEqb (evH Tryz.prog ct56 60 (.fn 185) as56 (trU m56) 1358058) r56 u56 1358843 = true := by kernel_rfl
end Go.Pv.NP
