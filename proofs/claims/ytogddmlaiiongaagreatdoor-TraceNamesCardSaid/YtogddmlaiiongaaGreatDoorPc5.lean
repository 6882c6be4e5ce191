import Derived.Test.YtogddmlaiiongaaGreatDoorLit
import Derived.Test.YtogddmlaiiongaaGreatDoorProg
/- Piece 5 of the closed run of TraceNames. -/
namespace Go.Pv
open Go Go.Proofs
theorem piece5 : resEqb (evH Tryz.prog ct4 60 (.fn 48) as5 (trU m5) 290851) r5 u5 356537 = true := by kernel_rfl
end Go.Pv
