/- TraceNames: the Go function postern/posternlaw21.TraceNames returns true, in every world in which errors.errorType holds what the program's text lays there; the card ties that variable to the text. No other condition. (The walk is a closed run of an evaluator that is proved sound; the shell began as proof-skeleton.mjs's print.) -/
import Derived.Test.YtogddmlaiiongaaGreatDoorRows
import Derived.Test.YtogddmlaiiongaaGreatDoorCards
import Derived.Test.YtogddmlaiiongaaGreatDoorTie
import Derived.Test.YtogddmlaiiongaaGreatDoorRun
import Derived.ProofKit
import Derived.OpenShut
import Derived.ChangeSame
import Derived.ChangeVars
import Derived.JoinedOf
import Derived.LaidLaws
import Derived.LaidHandle
import Derived.Stop.Joined
import Derived.SevenTiedAt
namespace Go.Proofs.YtogddmlaiiongaaGreatDoor.traceNames
open Go.ChangeShapes Go.WideShapes Go.ChangeAt Go.RowKit
set_option linter.unusedVariables false

theorem own : ownKnob Tryz.prog.godebug = none := by kernel_rfl

/-- a world that meets the condition: the settled one, the variable's cell laid -/
noncomputable def laidWorld (os : Os) : World :=
  let w0 := World.holding Tryz.prog os ⟨#[], #[], []⟩
  { w0 with heap := w0.heap.modify 0 fun
      | .cells _ t frozen => .cells #[.iface 392 (.agg #[.pointer (some ⟨1, 297, none⟩)])] t frozen
      | o => o }
theorem laidWorld_met (os : Os) (args : Array Value) : laidMetH Tryz.prog Rows.traceNamesRow.laid ((laidWorld os).forCall (fun _ _ => 0) ⟨#[], args, []⟩).memory :=
  laidMetH_of_parts (laidMet_nil _ _) (by kernel_rfl)

set_option maxRecDepth 100000 in
theorem lifted (os : Os) (started : os.Started) (H : Type) (enc : TypeId × Value → H) :
    ReturnsInHanded {} Tryz.checked os 3 .any (fun w args => (Rows.traceNamesSpec.pre enc Tryz.prog Tryz.f3 [] false w args ∧ laidMetH Tryz.prog Rows.traceNamesRow.laid w) ∧ sizedMet enc Tryz.prog Tryz.f3 (OpenSpec.ofChange Rows.traceNamesSpec) false w args)
      (Rows.traceNamesSpec.post enc Tryz.prog Tryz.f3 false true false false) := by
  refine returnsInHanded_of_change_and (C := Tryz.checked) (X := fun w _ => laidMetH Tryz.prog Rows.traceNamesRow.laid w) (fun _ _ _ hh h => h.of_heap hh) own started (by kernel_rfl) Tryz.func3
    (ChangeSpec.witness_at (enc := enc) (C := Tryz.checked) (os := os) (X := fun w _ => laidMetH Tryz.prog Rows.traceNamesRow.laid w) false (laidWorld os) #[] 8 rfl (by kernel_rfl) (by kernel_rfl) (by kernel_rfl) (by kernel_rfl) (by kernel_rfl) (laidWorld_met os _)) ?_
  intro W base args ds gs before hval0 hW _ _ hL _
  have hW' := hW
  obtain ⟨p, q, hA0, hV0, rfl, hfz, hnd⟩ := hW
  have hA : DataW.TrodAll enc Tryz.prog W 0 (fun _ => true) true Tryz.f3.params.toList args.toList ds p := hA0
  rw [Tryz.params3] at hA
  obtain ⟨rfl, rfl, rfl⟩ := trodAll_none hA
  obtain ⟨rfl, rfl⟩ := trodVars_none hV0
  clear hA0 hval0
  simp only [List.append_nil] at hW'
  refine (Go.Pv.walkAll W).mono fun e W' ⟨he, hg⟩ => ?_
  subst he
  exact ⟨_, rfl, Go.Pv.post_of_kept (pa := []) (pv := []) hW' (fun _ _ _ => (trodAll_cons_mk (shut_bool Tryz.underlying4 _) trodAll_mk0)) (fun sp _ => rfl) (fun _ _ => rfl) rfl
    (hg.frame _) hg.2.1 (ok_one (by kernel_rfl) rfl (okWide_bool_mk Tryz.underlying4 _))⟩

theorem inPlaceF : Tryz.prog.inPlace 3 = Rows.traceNamesRow.inPlace := by kernel_rfl
theorem unfF : Tryz.prog.unfollowed 3 = true := by kernel_rfl
theorem recF : Tryz.prog.recurses 3 = true := by kernel_rfl
theorem namedF : Tryz.prog.varsNamed 3 = Rows.traceNamesRow.named := by kernel_rfl
theorem closedF : joinedFacts Tryz.prog 3 Tryz.f3 Rows.traceNamesSpec Rows.traceNamesRow = true := by
  unfold joinedFacts
  rw [inPlaceF, unfF, recF, namedF]
  kernel_rfl
theorem fnF : Tryz.prog.funcNamed Rows.traceNamesRow.func = some 3 := by kernel_rfl
theorem instF : Tryz.f3.isInstance Tryz.prog Rows.traceNamesRow.origin Rows.traceNamesRow.targs := of_decide_eq_true (by kernel_rfl)
theorem wrapF : Tryz.f3.isWrapper Tryz.prog Rows.traceNamesRow.wrapper Rows.traceNamesRow.mainSum := by unfold Func.isWrapper; rw [if_neg (of_decide_eq_false (by kernel_rfl))]; exact ⟨rfl, rfl⟩
theorem goesF : false = Rows.traceNamesRow.goesBy Tryz.prog := by kernel_rfl
theorem mainF : Tryz.prog.mainIs = some (true, "29bbca39b1d99dfc72cf079e892c1394ed5dc4013fe34ad750ae63af08900af3".toList) := by kernel_rfl
theorem looksF : true = Tryz.prog.looks [] := by kernel_rfl
theorem wfF : Rows.traceNamesRow.wfByText (OpenSpec.ofChange Rows.traceNamesSpec) = true := by kernel_rfl

theorem over : Rows.TraceNamesSaid :=
  OpenClaim.holds_of_wide 3 Tryz.f3 rfl rfl rfl rfl rfl rfl rfl ⟨rfl, rfl, rfl, rfl, rfl⟩ rfl rfl rfl rfl rfl fnF Tryz.func3 closedF instF wrapF
    (fun os started H enc _ => lifted os started H enc)

/-- the card -/
theorem proved : Rows.TraceNamesCardSaid :=
  Claim7.holds_tied_plain_at .later [] [.handle] true (true, "29bbca39b1d99dfc72cf079e892c1394ed5dc4013fe34ad750ae63af08900af3") true
    over (fun _ h => by cases h) wfF (fun _ h => by cases h) traceNames_row_tie rfl ⟨rfl, rfl⟩ mainF rfl
    (fun f fn hf hfn => by
      obtain rfl : f = 3 := Option.some.inj (fnF.symm.trans hf) |>.symm
      obtain rfl : fn = Tryz.f3 := (Option.some.inj (Tryz.func3.symm.trans hfn)).symm
      exact ⟨looksF, fun j t ht => by
        rw [Tryz.params3] at ht
        simp at ht⟩)
    goesF
#print axioms proved
end Go.Proofs.YtogddmlaiiongaaGreatDoor.traceNames
