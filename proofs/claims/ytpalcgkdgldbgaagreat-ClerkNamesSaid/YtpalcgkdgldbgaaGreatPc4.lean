import Derived.Test.YtpalcgkdgldbgaaGreatLit
import Derived.Test.YtpalcgkdgldbgaaGreatProg
/- Piece 4 of the closed run of ClerkNames. -/
namespace Go.Pv
open Go Go.Proofs
theorem piece4 : resEqb (evH Tryz.prog ctN 60 (.fn 30) as4 (trU m4) 188075) r4 u4 237357 = true := by kernel_rfl
end Go.Pv
