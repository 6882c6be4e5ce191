import Derived.Test.YtogddmlaiiongaaGreatDoorLit
import Derived.Test.YtogddmlaiiongaaGreatDoorProg
/- Piece 6 of the closed run of TraceNames. -/
namespace Go.Pv
open Go Go.Proofs
theorem piece6 : resEqb (evH Tryz.prog ct5 60 (.fn 13) as6 (trU m6) 241528) r6 u6 462686 = true := by kernel_rfl
end Go.Pv
