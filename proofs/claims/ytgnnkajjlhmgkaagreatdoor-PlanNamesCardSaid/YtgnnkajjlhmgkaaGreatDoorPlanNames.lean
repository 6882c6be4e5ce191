/- PlanNames: the Go function postern/posternlaw24.PlanNames returns true, in every world in which the four package variables errors.errorType, internal/strconv.uint64pow10, math/bits.deBruijn32tab and math/bits.deBruijn64tab hold what the program's text lays there; the card ties these variables to the text. No other condition. (The walk is a closed run of an evaluator that is proved sound; the shell began as proof-skeleton.mjs's print.) -/
import Derived.Test.YtgnnkajjlhmgkaaGreatDoorRun
import Derived.Test.YtgnnkajjlhmgkaaGreatDoorRows
import Derived.Test.YtgnnkajjlhmgkaaGreatDoorCards
import Derived.Test.YtgnnkajjlhmgkaaGreatDoorTy
import Derived.Test.YtgnnkajjlhmgkaaGreatDoorTg
import Derived.Test.YtgnnkajjlhmgkaaGreatDoorTh
import Derived.ProofKit
import Derived.OpenShut
import Derived.ChangeSame
import Derived.ChangeVars
import Derived.JoinedOf
import Derived.LaidLaws
import Derived.LaidHandle
import Derived.Stop.Joined
import Derived.SevenTiedAt
set_option linter.all false
set_option maxRecDepth 100000
set_option maxHeartbeats 8000000
namespace Go.Proofs.YtgnnkajjlhmgkaaGreatDoor.planNames
open Go.ChangeShapes Go.WideShapes Go.ChangeAt Go.RowKit
theorem own:ownKnob Tryz.prog.godebug=none:=by kernel_rfl
def tab0:Array Value:= #[.int .u64 1,.int .u64 10,.int .u64 100,.int .u64 1000,.int .u64 10000,.int .u64 100000,.int .u64 1000000,.int .u64 10000000,.int .u64 100000000,.int .u64 1000000000,.int .u64 10000000000,.int .u64 100000000000,.int .u64 1000000000000,.int .u64 10000000000000,.int .u64 100000000000000,.int .u64 1000000000000000,.int .u64 10000000000000000,.int .u64 100000000000000000,.int .u64 1000000000000000000,.int .u64 10000000000000000000]
def tab2:Array Value:= #[.int .u8 0,.int .u8 1,.int .u8 28,.int .u8 2,.int .u8 29,.int .u8 14,.int .u8 24,.int .u8 3,.int .u8 30,.int .u8 22,.int .u8 20,.int .u8 15,.int .u8 25,.int .u8 17,.int .u8 4,.int .u8 8,.int .u8 31,.int .u8 27,.int .u8 13,.int .u8 23,.int .u8 21,.int .u8 19,.int .u8 16,.int .u8 7,.int .u8 26,.int .u8 12,.int .u8 18,.int .u8 6,.int .u8 11,.int .u8 5,.int .u8 10,.int .u8 9]
def tab3:Array Value:= #[.int .u8 0,.int .u8 1,.int .u8 56,.int .u8 2,.int .u8 57,.int .u8 49,.int .u8 28,.int .u8 3,.int .u8 61,.int .u8 58,.int .u8 42,.int .u8 50,.int .u8 38,.int .u8 29,.int .u8 17,.int .u8 4,.int .u8 62,.int .u8 47,.int .u8 59,.int .u8 36,.int .u8 45,.int .u8 43,.int .u8 51,.int .u8 22,.int .u8 53,.int .u8 39,.int .u8 33,.int .u8 30,.int .u8 24,.int .u8 18,.int .u8 12,.int .u8 5,.int .u8 63,.int .u8 55,.int .u8 48,.int .u8 27,.int .u8 60,.int .u8 41,.int .u8 37,.int .u8 16,.int .u8 46,.int .u8 35,.int .u8 44,.int .u8 21,.int .u8 52,.int .u8 32,.int .u8 23,.int .u8 11,.int .u8 54,.int .u8 26,.int .u8 40,.int .u8 15,.int .u8 34,.int .u8 20,.int .u8 31,.int .u8 10,.int .u8 25,.int .u8 14,.int .u8 19,.int .u8 9,.int .u8 13,.int .u8 8,.int .u8 7,.int .u8 6]
noncomputable def laidWorld(os:Os):World:=
 let w0:=World.holding Tryz.prog os ⟨#[],#[],[]⟩
 {w0 with heap:=(((w0.heap.modify 0 (λ|.cells _ t frozen=>.cells tab0 t frozen|o=>o)).modify 1 (λ|.cells _ t frozen=>.cells #[.iface 478 (.agg #[.pointer (some ⟨4,382,none⟩)])] t frozen|o=>o)).modify 2 (λ|.cells _ t frozen=>.cells tab2 t frozen|o=>o)).modify 3 (λ|.cells _ t frozen=>.cells tab3 t frozen|o=>o)}
theorem laidWorld_met(os:Os)(args:Array Value):laidMetH Tryz.prog Rows.planNamesRow.laid ((laidWorld os).forCall (λ_ _=>0) ⟨#[],args,[]⟩).memory:=
 laidMetH_of_parts (laidMet_of_run' 8 (by kernel_rfl) (by kernel_rfl)) (by kernel_rfl)
theorem plan_t:Go.Pv.CallT Tryz.prog 3 [] (λ_=>none) (.ok (.d (.v (.bool true)))) (λ_=>none):=
 Go.Pv.closed_run Go.Pv.mix (Go.Pv.hitV_ok (f0:=4) (cs:=[]) (v:=.d (.v (.bool true))) Go.Pv.noCt_ok Go.Pv.NP.awake_ok rfl) (d:=20) (nx:=1) (by kernel_rfl)
theorem walkAll(W:World):Calls Tryz.prog 3 #[] W (fun e w'=>e=.returned (.bool true)/\Go.Pv.Kept W w'):=Go.Pv.walk0 plan_t W
theorem lifted(os:Os)(started:os.Started)(H:Type)(enc:TypeId×Value->H):
 ReturnsInHanded {} Tryz.checked os 3 .any (λw args=>(Rows.planNamesSpec.pre enc Tryz.prog Tryz.f3 [] false w args/\laidMetH Tryz.prog Rows.planNamesRow.laid w)/\sizedMet enc Tryz.prog Tryz.f3 (OpenSpec.ofChange Rows.planNamesSpec) false w args)
  (Rows.planNamesSpec.post enc Tryz.prog Tryz.f3 false true false false):=by
 refine returnsInHanded_of_change_and (C:=Tryz.checked) (X:=λw _=>laidMetH Tryz.prog Rows.planNamesRow.laid w) (λ_ _ _ hh h=>h.of_heap hh) own started (by kernel_rfl) Tryz.func3
  (ChangeSpec.witness_at (enc:=enc) (C:=Tryz.checked) (os:=os) (X:=λw _=>laidMetH Tryz.prog Rows.planNamesRow.laid w) false (laidWorld os) #[] 8 rfl (by kernel_rfl) (by kernel_rfl) (by kernel_rfl) (by kernel_rfl) (by kernel_rfl) (laidWorld_met os _)) ?_
 intro W base args ds gs before hval0 hW _ _ hL _
 have hW':=hW
 obtain⟨p,q,hA0,hV0,rfl,hfz,hnd⟩:=hW
 have hA:DataW.TrodAll enc Tryz.prog W 0 (λ_=>true) true Tryz.f3.params.toList args.toList ds p:=hA0
 rw[Tryz.params3]at hA
 obtain⟨rfl,rfl,rfl⟩:=trodAll_none hA
 obtain⟨rfl,rfl⟩:=trodVars_none hV0
 clear hA0 hval0
 simp only[List.append_nil]at hW'
 refine(walkAll W).mono λe W'⟨he,hg⟩=>?_
 subst he
 exact⟨_,rfl,Go.Pv.post_of_kept (pa:=[]) (pv:=[]) hW' (λ_ _ _=>(trodAll_cons_mk (shut_bool Tryz.underlying4 _) trodAll_mk0)) (λsp _=>rfl) (λ_ _=>rfl) rfl
  (World.keptBut_mono (λ_ f=>f.elim) hg.1) hg.2.1 (ok_one (by kernel_rfl) rfl (okWide_bool_mk Tryz.underlying4 _))⟩
theorem fnF:Tryz.prog.funcNamed Rows.planNamesRow.func=some 3:=by kernel_rfl
theorem instF:Tryz.f3.isInstance Tryz.prog Rows.planNamesRow.origin Rows.planNamesRow.targs:=of_decide_eq_true (by kernel_rfl)
theorem wrapF:Tryz.f3.isWrapper Tryz.prog Rows.planNamesRow.wrapper Rows.planNamesRow.mainSum:=by unfold Func.isWrapper;rw[if_neg (of_decide_eq_false (by kernel_rfl))];exact⟨rfl,rfl⟩
theorem mainF:Tryz.prog.mainIs=some (true,"c40980ea537cee635b72ce6a0aa72aa6d9747a901718aefa4a2b81c3f931e1f2".toList):=by kernel_rfl
theorem looksF:true=Tryz.prog.looks []:=by kernel_rfl
theorem wfF:Rows.planNamesRow.wfByText (OpenSpec.ofChange Rows.planNamesSpec)=true:=by kernel_rfl
theorem over:Rows.PlanNamesSaid:=
 OpenClaim.holds_of_wide 3 Tryz.f3 rfl rfl rfl rfl rfl rfl rfl ⟨rfl,rfl,rfl,rfl,rfl⟩ rfl rfl rfl rfl rfl fnF Tryz.func3 closedF instF wrapF
  (λos started H enc _=>lifted os started H enc)
theorem proved:Rows.PlanNamesCardSaid:=
 Claim7.holds_tied_plain_at .later [] [.handle,.data,.data,.data] true (true,"c40980ea537cee635b72ce6a0aa72aa6d9747a901718aefa4a2b81c3f931e1f2") true
  over (λ_ h=>by cases h) wfF (λ_ h=>by cases h) planNames_row_tie rfl ⟨rfl,rfl⟩ mainF rfl
  (λf fn hf hfn=>by
    obtain rfl:f=3:=Option.some.inj (fnF.symm.trans hf)|>.symm
    obtain rfl:fn=Tryz.f3:=(Option.some.inj (Tryz.func3.symm.trans hfn)).symm
    exact⟨looksF,λj t ht=>by
     rw[Tryz.params3]at ht
     simp at ht⟩)
  goesF
#print axioms proved
end Go.Proofs.YtgnnkajjlhmgkaaGreatDoor.planNames
