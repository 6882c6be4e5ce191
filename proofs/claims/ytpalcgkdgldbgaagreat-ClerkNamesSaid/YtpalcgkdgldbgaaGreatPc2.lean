import Derived.Test.YtpalcgkdgldbgaaGreatLit
import Derived.Test.YtpalcgkdgldbgaaGreatProg
/- Piece 2 of the closed run of ClerkNames. -/
namespace Go.Pv
open Go Go.Proofs
theorem piece2 : resEqb (evH Tryz.prog ctN 60 (.fn 65) as2 (trU m2) 288048) r2 u2 350888 = true := by kernel_rfl
end Go.Pv
