import Derived.Test.YtogddmlaiiongaaGreatDoorLit
import Derived.Test.YtogddmlaiiongaaGreatDoorProg
/- The closed run of TraceNames, but for the pieces. -/
namespace Go.Pv
open Go Go.Proofs
theorem pieceM : isTrueR (evH Tryz.prog ct6 60 (.fn 3) [] .nil 1) = true := by kernel_rfl
end Go.Pv
