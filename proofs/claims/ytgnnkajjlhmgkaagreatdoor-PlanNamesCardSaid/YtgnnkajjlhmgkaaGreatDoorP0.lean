import Derived.Test.YtgnnkajjlhmgkaaGreatDoorLit
/- Pieces of the closed run of the chapter's example. -/
set_option linter.all false
set_option maxRecDepth 100000
namespace Go.Pv.NP
open Go Go.Proofs
theorem piece0 : resEqb (evH Tryz.prog ct0 60 (.fn 110) as0 (trU m0) 4026) r0 u0 4934 = true := by kernel_rfl
theorem piece1 : resEqb (evH Tryz.prog ct1 60 (.fn 110) as1 (trU m1) 4948) r1 u1 5473 = true := by kernel_rfl
theorem piece2 : resEqb (evH Tryz.prog ct2 60 (.fn 110) as2 (trU m2) 5487) r2 u2 6012 = true := by kernel_rfl
theorem piece3 : resEqb (evH Tryz.prog ct3 60 (.fn 88) as3 (trU m3) 6019) r3 u3 88071 = true := by kernel_rfl
end Go.Pv.NP
