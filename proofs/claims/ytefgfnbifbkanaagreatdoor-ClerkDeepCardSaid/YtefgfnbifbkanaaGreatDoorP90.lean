import Derived.Test.YtefgfnbifbkanaaGreatDoorLit
/- Pieces of the closed run of the chapter's example. -/
set_option linter.all false
set_option maxRecDepth 100000
namespace Go.Pv.CD
open Go Go.Proofs
theorem piece90 : resEqb (evH Tryz.prog ct90 60 (.fn 82) as90 (trU m90) 671114) r90 u90 691917 = true := by kernel_rfl
theorem piece91 : resEqb (evH Tryz.prog ct91 60 (.fn 127) as91 (trU m91) 670283) r91 u91 691945 = true := by kernel_rfl
theorem piece92 : resEqb (evH Tryz.prog ct92 60 (.fn 82) as92 (trU m92) 664961) r92 u92 692285 = true := by kernel_rfl
theorem piece93 : resEqb (evH Tryz.prog ct93 60 (.fn 127) as93 (trU m93) 664130) r93 u93 692313 = true := by kernel_rfl
theorem piece94 : resEqb (evH Tryz.prog ct94 60 (.fn 82) as94 (trU m94) 658808) r94 u94 692653 = true := by kernel_rfl
theorem piece95 : resEqb (evH Tryz.prog ct95 60 (.fn 127) as95 (trU m95) 657977) r95 u95 692681 = true := by kernel_rfl
theorem piece96 : resEqb (evH Tryz.prog ct96 60 (.fn 82) as96 (trU m96) 652655) r96 u96 693021 = true := by kernel_rfl
theorem piece97 : resEqb (evH Tryz.prog ct97 60 (.fn 127) as97 (trU m97) 651824) r97 u97 693049 = true := by kernel_rfl
end Go.Pv.CD
