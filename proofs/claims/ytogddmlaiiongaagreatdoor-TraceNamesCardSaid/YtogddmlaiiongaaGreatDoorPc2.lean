import Derived.Test.YtogddmlaiiongaaGreatDoorLit
import Derived.Test.YtogddmlaiiongaaGreatDoorProg
/- Piece 2 of the closed run of TraceNames. -/
namespace Go.Pv
open Go Go.Proofs
theorem piece2 : resEqb (evH Tryz.prog ct1 60 (.fn 46) as2 (trU m2) 114093) r2 u2 173741 = true := by kernel_rfl
end Go.Pv
