import Derived.Test.YtgnnkajjlhmgkaaGreatDoorRows
import Derived.Test.YtgnnkajjlhmgkaaGreatDoorCards
import Derived.ProofKit
import Derived.OpenShut
import Derived.ChangeSame
import Derived.ChangeVars
import Derived.JoinedOf
import Derived.LaidLaws
import Derived.LaidHandle
import Derived.Stop.Joined
import Derived.SevenTiedAt
/- The closed facts of PlanNames' row, of which the great ones are theorems of their own. -/
set_option linter.all false
set_option maxRecDepth 100000
set_option maxHeartbeats 8000000
namespace Go.Proofs.YtgnnkajjlhmgkaaGreatDoor.planNames
open Go.ChangeShapes Go.WideShapes Go.ChangeAt Go.RowKit
theorem inPlaceF:Tryz.prog.inPlace 3=Rows.planNamesRow.inPlace:=by kernel_rfl
theorem unfF:Tryz.prog.unfollowed 3=true:=by kernel_rfl
theorem recF:Tryz.prog.recurses 3=true:=by kernel_rfl
theorem namedF:Tryz.prog.varsNamed 3=Rows.planNamesRow.named:=by kernel_rfl
theorem mayF:Tryz.prog.mayEnter=true:=by kernel_rfl
theorem heardF:Tryz.prog.stopsHeard=true:=by kernel_rfl
theorem rowedF:mapsRowed Tryz.prog=true:=by kernel_rfl
theorem laidF:laidOutB Tryz.prog=true:=by kernel_rfl
theorem liftF:Tryz.prog.liftsFinal=Rows.planNamesRow.lifted:=by kernel_rfl
theorem keysF:Tryz.prog.plainKeys=Rows.planNamesRow.plainKeys:=by kernel_rfl
theorem closedF:joinedFacts Tryz.prog 3 Tryz.f3 Rows.planNamesSpec Rows.planNamesRow=true:=by
 unfold joinedFacts
 rw[inPlaceF,unfF,recF,namedF,mayF,heardF,rowedF,laidF,liftF,keysF]
 kernel_rfl
end Go.Proofs.YtgnnkajjlhmgkaaGreatDoor.planNames
