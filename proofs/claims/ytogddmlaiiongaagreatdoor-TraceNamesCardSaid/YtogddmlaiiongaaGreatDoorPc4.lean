import Derived.Test.YtogddmlaiiongaaGreatDoorLit
import Derived.Test.YtogddmlaiiongaaGreatDoorProg
/- Piece 4 of the closed run of TraceNames. -/
namespace Go.Pv
open Go Go.Proofs
theorem piece4 : resEqb (evH Tryz.prog ct3 60 (.fn 12) as4 (trU m4) 113952) r4 u4 241522 = true := by kernel_rfl
end Go.Pv
