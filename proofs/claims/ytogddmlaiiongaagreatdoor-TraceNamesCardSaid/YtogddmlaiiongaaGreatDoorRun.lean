import Derived.Test.YtogddmlaiiongaaGreatDoorPc1
import Derived.Test.YtogddmlaiiongaaGreatDoorPc2
import Derived.Test.YtogddmlaiiongaaGreatDoorPc3
import Derived.Test.YtogddmlaiiongaaGreatDoorPc4
import Derived.Test.YtogddmlaiiongaaGreatDoorPc5
import Derived.Test.YtogddmlaiiongaaGreatDoorPc6
import Derived.Test.YtogddmlaiiongaaGreatDoorPcm
/- The closed run of TraceNames, joined: the function answers true, in every world, and what was there is as it was. -/
namespace Go.Pv
open Go Go.Proofs Go.RowKit
theorem mixT : Tryz.prog.follows .mixedOrders = true := by kernel_rfl
theorem ok0 : HdOk Tryz.prog ct0 := Go.Pv.noCt_ok
theorem ok1 : HdOk Tryz.prog ct1 := hit_ok ok0 (evH_ok mixT ok0 60) (resEqb_eq piece1)
theorem ok2 : HdOk Tryz.prog ct2 := hit_ok ok1 (evH_ok mixT ok1 60) (resEqb_eq piece2)
theorem ok3 : HdOk Tryz.prog ct3 := hit_ok ok2 (evH_ok mixT ok2 60) (resEqb_eq piece3)
theorem ok4 : HdOk Tryz.prog ct4 := hit_ok ok3 (evH_ok mixT ok3 60) (resEqb_eq piece4)
theorem ok5 : HdOk Tryz.prog ct5 := hit_ok ok4 (evH_ok mixT ok4 60) (resEqb_eq piece5)
theorem ok6 : HdOk Tryz.prog ct6 := hit_ok ok5 (evH_ok mixT ok5 60) (resEqb_eq piece6)
theorem runAll : CallT Tryz.prog 3 [] (fun _ => none) (.ok (.d (.v (.bool true)))) (fun _ => none) := closed_run mixT ok6 pieceM
theorem walkAll (w : World) : Calls Tryz.prog 3 #[] w fun e w' => e = .returned (.bool true) ∧ Kept w w' := walk0 runAll w
end Go.Pv
