import Derived.Test.YtpalcgkdgldbgaaGreatLit
import Derived.Test.YtpalcgkdgldbgaaGreatProg
/- The closed run of ClerkNames, but for the pieces. -/
namespace Go.Pv
open Go Go.Proofs
def ctM : Hd := hit 10 as1 (trU m1) ([(r1, u1)], 84010) (hit 65 as2 (trU m2) ([(r2, u2)], 350888) (hit 10 as3 (trU m3) ([(r3, u3)], 188051) (hit 30 as4 (trU m4) ([(r4, u4)], 237357) (hit 30 as5 (trU m5) ([(r5, u5)], 287476) ctN))))
theorem pieceM : isTrueR (evH Tryz.prog ctM 60 (.fn 3) [] .nil 1) = true := by kernel_rfl
end Go.Pv
