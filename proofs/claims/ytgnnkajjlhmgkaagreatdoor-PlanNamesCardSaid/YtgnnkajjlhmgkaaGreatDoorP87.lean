import Derived.Test.YtgnnkajjlhmgkaaGreatDoorLit
/- Pieces of the closed run of the chapter's example. -/
set_option linter.all false
set_option maxRecDepth 100000
namespace Go.Pv.NP
open Go Go.Proofs
theorem piece87 : resEqb (evH Tryz.prog ct87 60 (.fn 186) as87 (trU m87) 1629154) r87 u87 1633725 = true := by kernel_rfl
theorem piece88 : resEqb (evH Tryz.prog ct88 60 (.fn 187) as88 (trU m88) 1633733) r88 u88 1634262 = true := by kernel_rfl
theorem piece89 : resEqb (evH Tryz.prog ct89 60 (.fn 183) as89 (trU m89) 1634306) r89 u89 1635600 = true := by kernel_rfl
theorem piece90 : resEqb (evH Tryz.prog ct90 60 (.fn 186) as90 (trU m90) 1636128) r90 u90 1640048 = true := by kernel_rfl
theorem piece91 : resEqb (evH Tryz.prog ct91 60 (.fn 183) as91 (trU m91) 1640503) r91 u91 1647016 = true := by kernel_rfl
theorem piece92 : resEqb (evH Tryz.prog ct92 60 (.fn 184) as92 (trU m92) 1647024) r92 u92 1647575 = true := by kernel_rfl
theorem piece93 : resEqb (evH Tryz.prog ct93 60 (.fn 185) as93 (trU m93) 1647583) r93 u93 1648164 = true := by kernel_rfl
theorem piece94 : resEqb (evH Tryz.prog ct94 60 (.fn 186) as94 (trU m94) 1648172) r94 u94 1652717 = true := by kernel_rfl
theorem piece95 : resEqb (evH Tryz.prog ct95 60 (.fn 187) as95 (trU m95) 1652725) r95 u95 1653254 = true := by kernel_rfl
end Go.Pv.NP
