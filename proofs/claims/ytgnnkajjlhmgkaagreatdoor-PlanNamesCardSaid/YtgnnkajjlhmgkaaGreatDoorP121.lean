import Derived.Test.YtgnnkajjlhmgkaaGreatDoorLit
/- Pieces of the closed run of the chapter's example. -/
set_option linter.all false
set_option maxRecDepth 100000
namespace Go.Pv.NP
open Go Go.Proofs
theorem piece121 : resEqb (evH Tryz.prog ct121 60 (.fn 110) as121 (trU m121) 1905973) r121 u121 1907499 = true := by kernel_rfl
theorem piece122 : resEqb (evH Tryz.prog ct122 60 (.fn 152) as122 (trU m122) 1905931) r122 u122 1997776 = true := by kernel_rfl
theorem piece123 : resEqb (evH Tryz.prog ct123 60 (.fn 110) as123 (trU m123) 2047338) r123 u123 2048407 = true := by kernel_rfl
theorem piece124 : resEqb (evH Tryz.prog ct124 60 (.fn 152) as124 (trU m124) 2047296) r124 u124 2136613 = true := by kernel_rfl
theorem piece125 : resEqb (evH Tryz.prog ct125 60 (.fn 110) as125 (trU m125) 2136871) r125 u125 2138275 = true := by kernel_rfl
theorem piece126 : resEqb (evH Tryz.prog ct126 60 (.fn 152) as126 (trU m126) 2136829) r126 u126 2142826 = true := by kernel_rfl
theorem piece127 : resEqb (evH Tryz.prog ct127 60 (.fn 110) as127 (trU m127) 2313354) r127 u127 2314880 = true := by kernel_rfl
theorem piece128 : resEqb (evH Tryz.prog ct128 60 (.fn 110) as128 (trU m128) 2314894) r128 u128 2316459 = true := by kernel_rfl
end Go.Pv.NP
