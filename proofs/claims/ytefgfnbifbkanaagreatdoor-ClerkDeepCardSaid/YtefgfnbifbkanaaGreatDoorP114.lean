import Derived.Test.YtefgfnbifbkanaaGreatDoorLit
/- Pieces of the closed run of the chapter's example. -/
set_option linter.all false
set_option maxRecDepth 100000
namespace Go.Pv.CD
open Go Go.Proofs
theorem piece114 : resEqb (evH Tryz.prog ct114 60 (.fn 82) as114 (trU m114) 597278) r114 u114 696333 = true := by kernel_rfl
theorem piece115 : resEqb (evH Tryz.prog ct115 60 (.fn 127) as115 (trU m115) 596447) r115 u115 696361 = true := by kernel_rfl
theorem piece116 : resEqb (evH Tryz.prog ct116 60 (.fn 82) as116 (trU m116) 591126) r116 u116 696701 = true := by kernel_rfl
theorem piece117 : resEqb (evH Tryz.prog ct117 60 (.fn 6) as117 (trU m117) 590307) r117 u117 696737 = true := by kernel_rfl
theorem piece118 : resEqb (evH Tryz.prog ct118 60 (.fn 9) as118 (trU m118) 699792) r118 u118 806414 = true := by kernel_rfl
theorem piece119 : resEqb (evH Tryz.prog ct119 60 (.fn 28) as119 (trU m119) 807922) r119 u119 808590 = true := by kernel_rfl
theorem piece120 : resEqb (evH Tryz.prog ct120 60 (.fn 23) as120 (trU m120) 810819) r120 u120 827331 = true := by kernel_rfl
theorem piece121 : resEqb (evH Tryz.prog ct121 60 (.fn 82) as121 (trU m121) 831912) r121 u121 865792 = true := by kernel_rfl
theorem piece122 : resEqb (evH Tryz.prog ct122 60 (.fn 127) as122 (trU m122) 831015) r122 u122 865820 = true := by kernel_rfl
theorem piece123 : resEqb (evH Tryz.prog ct123 60 (.fn 82) as123 (trU m123) 810784) r123 u123 882471 = true := by kernel_rfl
theorem piece124 : resEqb (evH Tryz.prog ct124 60 (.fn 6) as124 (trU m124) 809899) r124 u124 882507 = true := by kernel_rfl
theorem piece125 : resEqb (evH Tryz.prog ct125 60 (.fn 28) as125 (trU m125) 884457) r125 u125 889535 = true := by kernel_rfl
theorem piece126 : resEqb (evH Tryz.prog ct126 60 (.fn 39) as126 (trU m126) 891833) r126 u126 893208 = true := by kernel_rfl
end Go.Pv.CD
