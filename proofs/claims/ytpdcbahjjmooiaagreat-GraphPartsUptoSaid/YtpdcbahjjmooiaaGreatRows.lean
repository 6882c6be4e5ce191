/-
  NARROWER THAN 'FOR EVERY INPUT', by the rows' own cells (each row's printed sentence says how): GraphPaths: loops · GraphParts: loops · GraphReaches: loops · GraphSteps: loops · GraphHolds: loops.
  DERIVED. THE GIVEN ROWS OF THIS SEAT. 5 by the template 'for every input the law returns true; each argument reads behind the call as it read before'; 0 by the template 'total and deterministic' (their statements: YtpdcbahjjmooiaaGreatTotals.lean).
  GIVEN WITH THE SEED: the statements are not yours to turn. If you find one false, say at which input.
  Laid BY PROGRAM, IN A SANDBOX (cutbox-rows.mjs): the forced cells as the released guide's own fill.sh prints them over the translation 6fafa1ef16ed3157… (all of the seat's roots in one cut). By AI agents, Wed Nov 11 2026. No macro, syntax, notation, axiom, sorry.
-/
import Derived.Test.YtpdcbahjjmooiaaGreatChecked
import GoSem.Claim
import GoSem.ClaimJoined
import GoSem.ClaimMapViews
import Derived.JoinedTies
import Derived.KernelRfl
namespace Go.Proofs.YtpdcbahjjmooiaaGreat
/- THE CELL 'sum', in the pinned program and in every row, IS THE sha256 OF THE DUMP (.gsa) THAT YtpdcbahjjmooiaaGreatProg.lean LOADS. Nothing in Lean hashes anything: it is a label: what it is worth is what the hold of that sum in a sandbox is worth. -/
noncomputable def Tryz.pinned : Pinned := { name := "ytpdcbahjjmooiaagreat", sum := "6fafa1ef16ed31576d37e1d191320293df9b5f7fec448013d39dafb0e1948a3b", checked := Tryz.checked }
namespace Rows
def none {H : Type} : Left H := { results := [], args := [] }

/-- 'posternlaw22.GraphPaths': WHATEVER THE INPUT: true; the input reads as it did. -/
def graphPathsSpec : ChangeSpec := { name := "graphPaths", fn := fun _ => fun
  | [d1, d2, d3] => { results := [.lit (.bool true)], args := [d1, d2, d3] }
  | _ => none }
def graphPathsRow : OpenClaim := { program := "ytpdcbahjjmooiaagreat", sum := "6fafa1ef16ed31576d37e1d191320293df9b5f7fec448013d39dafb0e1948a3b", func := "postern/posternlaw22.GraphPaths", spec := "graphPaths", unfollowed := true, recurses := true, loops := true, plainKeys := false, apart := false }
def GraphPathsSaid : Prop := graphPathsRow.holds Tryz.pinned (OpenSpec.ofChange graphPathsSpec)

/-- ITS FALSE NEIGHBOUR: 'it returns false'. Refute it at one input. -/
def graphPathsWrong : ChangeSpec := { name := "graphPaths", fn := fun _ => fun
  | [d1, d2, d3] => { results := [.lit (.bool false)], args := [d1, d2, d3] }
  | _ => none }
def GraphPathsWrongFalsely : Prop := graphPathsRow.holds Tryz.pinned (OpenSpec.ofChange graphPathsWrong)

/-- 'posternlaw22.GraphParts': WHATEVER THE INPUT: true; the input reads as it did. -/
def graphPartsSpec : ChangeSpec := { name := "graphParts", fn := fun _ => fun
  | [d1, d2, d3] => { results := [.lit (.bool true)], args := [d1, d2, d3] }
  | _ => none }
def graphPartsRow : OpenClaim := { program := "ytpdcbahjjmooiaagreat", sum := "6fafa1ef16ed31576d37e1d191320293df9b5f7fec448013d39dafb0e1948a3b", func := "postern/posternlaw22.GraphParts", spec := "graphParts", unfollowed := true, recurses := true, loops := true, plainKeys := false, apart := false }
def GraphPartsSaid : Prop := graphPartsRow.holds Tryz.pinned (OpenSpec.ofChange graphPartsSpec)

/-- ITS FALSE NEIGHBOUR: 'it returns false'. Refute it at one input. -/
def graphPartsWrong : ChangeSpec := { name := "graphParts", fn := fun _ => fun
  | [d1, d2, d3] => { results := [.lit (.bool false)], args := [d1, d2, d3] }
  | _ => none }
def GraphPartsWrongFalsely : Prop := graphPartsRow.holds Tryz.pinned (OpenSpec.ofChange graphPartsWrong)

/-- 'posternlaw22.GraphReaches': WHATEVER THE INPUT: true; the input reads as it did. -/
def graphReachesSpec : ChangeSpec := { name := "graphReaches", fn := fun _ => fun
  | [d1, d2, d3] => { results := [.lit (.bool true)], args := [d1, d2, d3] }
  | _ => none }
def graphReachesRow : OpenClaim := { program := "ytpdcbahjjmooiaagreat", sum := "6fafa1ef16ed31576d37e1d191320293df9b5f7fec448013d39dafb0e1948a3b", func := "postern/posternlaw22.GraphReaches", spec := "graphReaches", unfollowed := true, recurses := true, loops := true, plainKeys := false, apart := false }
def GraphReachesSaid : Prop := graphReachesRow.holds Tryz.pinned (OpenSpec.ofChange graphReachesSpec)

/-- ITS FALSE NEIGHBOUR: 'it returns false'. Refute it at one input. -/
def graphReachesWrong : ChangeSpec := { name := "graphReaches", fn := fun _ => fun
  | [d1, d2, d3] => { results := [.lit (.bool false)], args := [d1, d2, d3] }
  | _ => none }
def GraphReachesWrongFalsely : Prop := graphReachesRow.holds Tryz.pinned (OpenSpec.ofChange graphReachesWrong)

/-- 'posternlaw22.GraphSteps': WHATEVER THE INPUT: true; the input reads as it did. -/
def graphStepsSpec : ChangeSpec := { name := "graphSteps", fn := fun _ => fun
  | [d1, d2, d3] => { results := [.lit (.bool true)], args := [d1, d2, d3] }
  | _ => none }
def graphStepsRow : OpenClaim := { program := "ytpdcbahjjmooiaagreat", sum := "6fafa1ef16ed31576d37e1d191320293df9b5f7fec448013d39dafb0e1948a3b", func := "postern/posternlaw22.GraphSteps", spec := "graphSteps", unfollowed := true, recurses := true, loops := true, plainKeys := false, apart := false }
def GraphStepsSaid : Prop := graphStepsRow.holds Tryz.pinned (OpenSpec.ofChange graphStepsSpec)

/-- ITS FALSE NEIGHBOUR: 'it returns false'. Refute it at one input. -/
def graphStepsWrong : ChangeSpec := { name := "graphSteps", fn := fun _ => fun
  | [d1, d2, d3] => { results := [.lit (.bool false)], args := [d1, d2, d3] }
  | _ => none }
def GraphStepsWrongFalsely : Prop := graphStepsRow.holds Tryz.pinned (OpenSpec.ofChange graphStepsWrong)

/-- 'posternlaw22.GraphHolds': WHATEVER THE INPUT: true; the input reads as it did. -/
def graphHoldsSpec : ChangeSpec := { name := "graphHolds", fn := fun _ => fun
  | [d1, d2, d3] => { results := [.lit (.bool true)], args := [d1, d2, d3] }
  | _ => none }
def graphHoldsRow : OpenClaim := { program := "ytpdcbahjjmooiaagreat", sum := "6fafa1ef16ed31576d37e1d191320293df9b5f7fec448013d39dafb0e1948a3b", func := "postern/posternlaw22.GraphHolds", spec := "graphHolds", unfollowed := true, recurses := true, loops := true, plainKeys := false, apart := false }
def GraphHoldsSaid : Prop := graphHoldsRow.holds Tryz.pinned (OpenSpec.ofChange graphHoldsSpec)

/-- ITS FALSE NEIGHBOUR: 'it returns false'. Refute it at one input. -/
def graphHoldsWrong : ChangeSpec := { name := "graphHolds", fn := fun _ => fun
  | [d1, d2, d3] => { results := [.lit (.bool false)], args := [d1, d2, d3] }
  | _ => none }
def GraphHoldsWrongFalsely : Prop := graphHoldsRow.holds Tryz.pinned (OpenSpec.ofChange graphHoldsWrong)

/- THE SECOND FORM. 'bulk': how many values and letters a reading holds, each counted each time it is reached (what is shared counts as often as it is met; a slice's spare places count too). A statement '..UptoSaid' is the law's where the arguments, and the package variables that the reading takes, are together of bulk at most 1048576: NARROWER than '..Said'. Prove '..Said' where nothing that the law and all that it calls make is longer than what came in: it says more and counts as full. Else prove '..UptoSaid'. A law counts once. -/
mutual
def uptoBulk {H : Type} : DataW H → Nat
  | .lit (.string bytes) => bytes.length + 1
  | .lit _ => 1
  | .nil => 1
  | .ptr d => uptoBulk d + 1
  | .slice elems spare => uptoBulkAll elems + uptoBulkAll spare + 1
  | .agg parts => uptoBulkAll parts + 1
  | .iface _ d => uptoBulk d + 1
  | .map entries => uptoBulkEntries entries + 1
  | .held _ => 1
def uptoBulkAll {H : Type} : List (DataW H) → Nat
  | [] => 0
  | d :: r => uptoBulk d + uptoBulkAll r
def uptoBulkEntries {H : Type} : List (Lit × DataW H) → Nat
  | [] => 0
  | x :: r => uptoBulkEntry x + uptoBulkEntries r
def uptoBulkEntry {H : Type} : Lit × DataW H → Nat
  | (.string bytes, d) => bytes.length + uptoBulk d + 1
  | (_, d) => uptoBulk d + 1
 end
def uptoSmall : (H : Type) → List (DataW H) → Bool := fun _ ds => decide (uptoBulkAll ds ≤ 1048576)
def OpenSpec.upto (s : _root_.Go.ChangeSpec) : _root_.Go.OpenSpec := { _root_.Go.OpenSpec.ofChange s with cond := some uptoSmall }

/-- 'posternlaw22.GraphPaths', WHERE WHAT IT READS IS OF BULK AT MOST 1048576: true; the input reads as it did. -/
def graphPathsUptoRow : OpenClaim := { program := "ytpdcbahjjmooiaagreat", sum := "6fafa1ef16ed31576d37e1d191320293df9b5f7fec448013d39dafb0e1948a3b", func := "postern/posternlaw22.GraphPaths", spec := "graphPaths", unfollowed := true, recurses := true, loops := true, plainKeys := false, apart := false, narrowed := true }
def GraphPathsUptoSaid : Prop := graphPathsUptoRow.holds Tryz.pinned (OpenSpec.upto graphPathsSpec)

/-- 'posternlaw22.GraphParts', WHERE WHAT IT READS IS OF BULK AT MOST 1048576: true; the input reads as it did. -/
def graphPartsUptoRow : OpenClaim := { program := "ytpdcbahjjmooiaagreat", sum := "6fafa1ef16ed31576d37e1d191320293df9b5f7fec448013d39dafb0e1948a3b", func := "postern/posternlaw22.GraphParts", spec := "graphParts", unfollowed := true, recurses := true, loops := true, plainKeys := false, apart := false, narrowed := true }
def GraphPartsUptoSaid : Prop := graphPartsUptoRow.holds Tryz.pinned (OpenSpec.upto graphPartsSpec)

/-- 'posternlaw22.GraphReaches', WHERE WHAT IT READS IS OF BULK AT MOST 1048576: true; the input reads as it did. -/
def graphReachesUptoRow : OpenClaim := { program := "ytpdcbahjjmooiaagreat", sum := "6fafa1ef16ed31576d37e1d191320293df9b5f7fec448013d39dafb0e1948a3b", func := "postern/posternlaw22.GraphReaches", spec := "graphReaches", unfollowed := true, recurses := true, loops := true, plainKeys := false, apart := false, narrowed := true }
def GraphReachesUptoSaid : Prop := graphReachesUptoRow.holds Tryz.pinned (OpenSpec.upto graphReachesSpec)

/-- 'posternlaw22.GraphSteps', WHERE WHAT IT READS IS OF BULK AT MOST 1048576: true; the input reads as it did. -/
def graphStepsUptoRow : OpenClaim := { program := "ytpdcbahjjmooiaagreat", sum := "6fafa1ef16ed31576d37e1d191320293df9b5f7fec448013d39dafb0e1948a3b", func := "postern/posternlaw22.GraphSteps", spec := "graphSteps", unfollowed := true, recurses := true, loops := true, plainKeys := false, apart := false, narrowed := true }
def GraphStepsUptoSaid : Prop := graphStepsUptoRow.holds Tryz.pinned (OpenSpec.upto graphStepsSpec)

/-- 'posternlaw22.GraphHolds', WHERE WHAT IT READS IS OF BULK AT MOST 1048576: true; the input reads as it did. -/
def graphHoldsUptoRow : OpenClaim := { program := "ytpdcbahjjmooiaagreat", sum := "6fafa1ef16ed31576d37e1d191320293df9b5f7fec448013d39dafb0e1948a3b", func := "postern/posternlaw22.GraphHolds", spec := "graphHolds", unfollowed := true, recurses := true, loops := true, plainKeys := false, apart := false, narrowed := true }
def GraphHoldsUptoSaid : Prop := graphHoldsUptoRow.holds Tryz.pinned (OpenSpec.upto graphHoldsSpec)

end Rows
end Go.Proofs.YtpdcbahjjmooiaaGreat
