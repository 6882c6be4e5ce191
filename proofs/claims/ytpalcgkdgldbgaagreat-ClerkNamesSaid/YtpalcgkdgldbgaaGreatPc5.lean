import Derived.Test.YtpalcgkdgldbgaaGreatLit
import Derived.Test.YtpalcgkdgldbgaaGreatProg
/- Piece 5 of the closed run of ClerkNames. -/
namespace Go.Pv
open Go Go.Proofs
theorem piece5 : resEqb (evH Tryz.prog ctN 60 (.fn 30) as5 (trU m5) 238194) r5 u5 287476 = true := by kernel_rfl
end Go.Pv
