import Derived.Test.YtpalcgkdgldbgaaGreatLit
import Derived.Test.YtpalcgkdgldbgaaGreatProg
/- Piece 1 of the closed run of ClerkNames. -/
namespace Go.Pv
open Go Go.Proofs
theorem piece1 : resEqb (evH Tryz.prog ctN 60 (.fn 10) as1 (trU m1) 4421) r1 u1 84010 = true := by kernel_rfl
end Go.Pv
