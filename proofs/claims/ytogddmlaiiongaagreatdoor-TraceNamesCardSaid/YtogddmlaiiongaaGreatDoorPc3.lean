import Derived.Test.YtogddmlaiiongaaGreatDoorLit
import Derived.Test.YtogddmlaiiongaaGreatDoorProg
/- Piece 3 of the closed run of TraceNames. -/
namespace Go.Pv
open Go Go.Proofs
theorem piece3 : resEqb (evH Tryz.prog ct2 60 (.fn 46) as3 (trU m3) 173766) r3 u3 232874 = true := by kernel_rfl
end Go.Pv
