import Derived.Test.YtogddmlaiiongaaGreatDoorLit
import Derived.Test.YtogddmlaiiongaaGreatDoorProg
/- Piece 1 of the closed run of TraceNames. -/
namespace Go.Pv
open Go Go.Proofs
theorem piece1 : resEqb (evH Tryz.prog ct0 60 (.fn 11) as1 (trU m1) 6759) r1 u1 113939 = true := by kernel_rfl
end Go.Pv
