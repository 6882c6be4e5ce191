import Derived.Test.YtpalcgkdgldbgaaGreatLit
import Derived.Test.YtpalcgkdgldbgaaGreatProg
/- Piece 3 of the closed run of ClerkNames. -/
namespace Go.Pv
open Go Go.Proofs
theorem piece3 : resEqb (evH Tryz.prog ctN 60 (.fn 10) as3 (trU m3) 85767) r3 u3 188051 = true := by kernel_rfl
end Go.Pv
