/- ClerkNames: the Go function postern/posternlaw18.ClerkNames returns true, in every world. No conditions. (The shell was written by proof-skeleton.mjs; the walk is a closed run of an evaluator that is proved sound.) -/
import Derived.Test.YtpalcgkdgldbgaaGreatRows
import Derived.WalkKit
import Derived.Test.YtpalcgkdgldbgaaGreatExt
import Derived.Test.YtpalcgkdgldbgaaGreatPc1
import Derived.Test.YtpalcgkdgldbgaaGreatPc2
import Derived.Test.YtpalcgkdgldbgaaGreatPc3
import Derived.Test.YtpalcgkdgldbgaaGreatPc4
import Derived.Test.YtpalcgkdgldbgaaGreatPc5
import Derived.Test.YtpalcgkdgldbgaaGreatPcm
import Derived.ProofKit
import Derived.OpenShut
namespace Go.Proofs.YtpalcgkdgldbgaaGreat.clerkNames
open Go.ChangeShapes Go.WideShapes Go.ChangeAt Go.RowKit
set_option linter.unusedVariables false      -- a walk need not use every 'w<i>' (that an integer argument fits its kind)

theorem own : ownKnob Tryz.prog.godebug = none := by kernel_rfl

theorem mix : Tryz.prog.follows .mixedOrders = true := by kernel_rfl

theorem walk (w : World) :
    Calls Tryz.prog 3 #[] w fun e w' => e = .returned (.bool true) ∧ Go.Pv.Kept w w' :=
  Go.Pv.walk0 (Go.Pv.closed_run mix (Go.Pv.hit_ok (Go.Pv.hit_ok (Go.Pv.hit_ok (Go.Pv.hit_ok (Go.Pv.hit_ok Go.Pv.ctN_ok (Go.Pv.evH_ok mix Go.Pv.ctN_ok 60) (Go.Pv.resEqb_eq Go.Pv.piece5)) (Go.Pv.evH_ok mix Go.Pv.ctN_ok 60) (Go.Pv.resEqb_eq Go.Pv.piece4)) (Go.Pv.evH_ok mix Go.Pv.ctN_ok 60) (Go.Pv.resEqb_eq Go.Pv.piece3)) (Go.Pv.evH_ok mix Go.Pv.ctN_ok 60) (Go.Pv.resEqb_eq Go.Pv.piece2)) (Go.Pv.evH_ok mix Go.Pv.ctN_ok 60) (Go.Pv.resEqb_eq Go.Pv.piece1)) Go.Pv.pieceM) w

/-! ### THE ROW's STEP: WRITTEN OUT: LEAVE IT -/
set_option maxRecDepth 100000 in
theorem lifted (os : Os) (started : os.Started) (H : Type) (enc : TypeId × Value → H) :
    ReturnsInHanded {} Tryz.checked os 3 .any (Rows.clerkNamesSpec.pre6 enc Tryz.prog Tryz.f3 Rows.clerkNamesRow.domain false) (Rows.clerkNamesSpec.post enc Tryz.prog Tryz.f3 false true false false) := by
  refine returnsInHanded_of_change (C := Tryz.checked) own started (by kernel_rfl) Tryz.func3
    (ChangeSpec.witness6 (enc := enc) (C := Tryz.checked) false ⟨#[], #[], []⟩ 8 (by kernel_rfl) (by kernel_rfl) (by kernel_rfl) (by kernel_rfl)) ?_
  intro W base args ds gs before hval0 hW hcnd _
  have hval : ∀ (j : Nat) t v, Tryz.f3.params[j]? = some t → args[j]? = some v → Value.okWide Tryz.prog W .any base t v := hval0
  have hW' := hW
  obtain ⟨p, q, hA0, hV, rfl, hfz, hnd⟩ := hW
  have hA : DataW.TrodAll enc Tryz.prog W 0 (fun _ => true) true Tryz.f3.params.toList args.toList ds p := hA0
  rw [Tryz.params3] at hA hval
  obtain ⟨rfl, rfl, rfl⟩ := trodAll_none hA
  obtain ⟨rfl, rfl⟩ := trodVars_none hV
  clear hA0 hval0
  simp only [List.append_nil] at hW'
  refine (walk  W).mono fun e W' ⟨he, hg⟩ => ?_
  subst he
  exact ⟨_, rfl, Go.Pv.post_of_kept (pa := []) (pv := []) hW' (fun _ _ _ => (trodAll_cons_mk (shut_bool Tryz.underlying4 _) trodAll_mk0)) (fun sp _ => rfl) (fun _ _ => rfl) rfl
    (hg.frame _) hg.2.1 (ok_one (by kernel_rfl) rfl (okWide_bool_mk Tryz.underlying4 _))⟩

theorem over : Rows.clerkNamesRow.holds Tryz.pinned (OpenSpec.ofChange Rows.clerkNamesSpec) :=
  OpenClaim.holds_of_wide 3 Tryz.f3 rfl rfl rfl rfl rfl rfl rfl ⟨rfl, rfl, rfl, rfl, rfl⟩ rfl rfl rfl rfl rfl (by kernel_rfl) Tryz.func3 (by kernel_rfl)
    (of_decide_eq_true (by kernel_rfl)) (by unfold Func.isWrapper; first | (rw [if_pos (by decide +kernel)]; kernel_rfl) | (rw [if_neg (by decide +kernel)]; exact ⟨rfl, rfl⟩))
    (fun os started H enc _ => lifted os started H enc)

/-- ████ THE STATEMENT ████ -/
theorem proved : Rows.ClerkNamesSaid :=
  over
#print axioms proved
end Go.Proofs.YtpalcgkdgldbgaaGreat.clerkNames
