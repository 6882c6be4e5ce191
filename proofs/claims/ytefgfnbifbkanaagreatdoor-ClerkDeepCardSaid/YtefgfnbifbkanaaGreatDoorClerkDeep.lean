/- ClerkDeep: the Go function postern/posternlaw18.ClerkDeep returns true, in every world in which errors.errorType holds what the program's text lays there; the card ties that variable to the text. No other condition. (The walk is a closed run of an evaluator that is proved sound; the shell began as proof-skeleton.mjs's print.) -/
import Derived.Test.YtefgfnbifbkanaaGreatDoorRun
import Derived.Test.YtefgfnbifbkanaaGreatDoorRows
import Derived.Test.YtefgfnbifbkanaaGreatDoorCards
import Derived.Test.YtefgfnbifbkanaaGreatDoorTie
import Derived.ProofKit
import Derived.OpenShut
import Derived.ChangeSame
import Derived.ChangeVars
import Derived.JoinedOf
import Derived.LaidLaws
import Derived.LaidHandle
import Derived.Stop.Joined
import Derived.SevenTiedAt
set_option linter.all false
set_option maxRecDepth 100000
set_option maxHeartbeats 8000000
namespace Go.Proofs.YtefgfnbifbkanaaGreatDoor.clerkDeep
open Go.ChangeShapes Go.WideShapes Go.ChangeAt Go.RowKit
theorem own:ownKnob Tryz.prog.godebug=none:=by kernel_rfl
noncomputable def laidWorld(os:Os):World:=
 let w0:=World.holding Tryz.prog os ⟨#[],#[],[]⟩
 {w0 with heap:=w0.heap.modify 0 λ
   |.cells _ t frozen=>.cells #[.iface 135 (.agg #[.pointer (some ⟨1,33,none⟩)])] t frozen
   |o=>o}
theorem laidWorld_met(os:Os)(args:Array Value):laidMetH Tryz.prog Rows.clerkDeepRow.laid ((laidWorld os).forCall (λ_ _=>0) ⟨#[],args,[]⟩).memory:=
 laidMetH_of_parts (laidMet_nil _ _) (by kernel_rfl)
theorem walkAll(W:World):Calls Tryz.prog 3 #[] W (λe w'=>e=.returned (.bool true)/\Go.Pv.Kept W w'):=Go.Pv.walk0 Go.Pv.CD.root_t W
theorem lifted(os:Os)(started:os.Started)(H:Type)(enc:TypeId×Value->H):
 ReturnsInHanded {} Tryz.checked os 3 .any (λw args=>(Rows.clerkDeepSpec.pre enc Tryz.prog Tryz.f3 [] false w args/\laidMetH Tryz.prog Rows.clerkDeepRow.laid w)/\sizedMet enc Tryz.prog Tryz.f3 (OpenSpec.ofChange Rows.clerkDeepSpec) false w args)
  (Rows.clerkDeepSpec.post enc Tryz.prog Tryz.f3 false true false false):=by
 refine returnsInHanded_of_change_and (C:=Tryz.checked) (X:=λw _=>laidMetH Tryz.prog Rows.clerkDeepRow.laid w) (λ_ _ _ hh h=>h.of_heap hh) own started (by kernel_rfl) Tryz.func3
  (ChangeSpec.witness_at (enc:=enc) (C:=Tryz.checked) (os:=os) (X:=λw _=>laidMetH Tryz.prog Rows.clerkDeepRow.laid w) false (laidWorld os) #[] 8 rfl (by kernel_rfl) (by kernel_rfl) (by kernel_rfl) (by kernel_rfl) (by kernel_rfl) (laidWorld_met os _)) ?_
 intro W base args ds gs before hval0 hW _ _ hL _
 have hW':=hW
 obtain⟨p,q,hA0,hV0,rfl,hfz,hnd⟩:=hW
 have hA:DataW.TrodAll enc Tryz.prog W 0 (λ_=>true) true Tryz.f3.params.toList args.toList ds p:=hA0
 rw[Tryz.params3]at hA
 obtain⟨rfl,rfl,rfl⟩:=trodAll_none hA
 obtain⟨rfl,rfl⟩:=trodVars_none hV0
 clear hA0 hval0
 simp only[List.append_nil]at hW'
 refine(walkAll W).mono λe W'⟨he,hg⟩=>?_
 subst he
 exact⟨_,rfl,Go.Pv.post_of_kept (pa:=[]) (pv:=[]) hW' (λ_ _ _=>(trodAll_cons_mk (shut_bool Tryz.underlying4 _) trodAll_mk0)) (λsp _=>rfl) (λ_ _=>rfl) rfl
  (World.keptBut_mono (λ_ f=>f.elim) hg.1) hg.2.1 (ok_one (by kernel_rfl) rfl (okWide_bool_mk Tryz.underlying4 _))⟩
theorem inPlaceF:Tryz.prog.inPlace 3=Rows.clerkDeepRow.inPlace:=by kernel_rfl
theorem unfF:Tryz.prog.unfollowed 3=true:=by kernel_rfl
theorem recF:Tryz.prog.recurses 3=true:=by kernel_rfl
theorem namedF:Tryz.prog.varsNamed 3=Rows.clerkDeepRow.named:=by kernel_rfl
theorem closedF:joinedFacts Tryz.prog 3 Tryz.f3 Rows.clerkDeepSpec Rows.clerkDeepRow=true:=by
 unfold joinedFacts
 rw[inPlaceF,unfF,recF,namedF]
 kernel_rfl
theorem fnF:Tryz.prog.funcNamed Rows.clerkDeepRow.func=some 3:=by kernel_rfl
theorem instF:Tryz.f3.isInstance Tryz.prog Rows.clerkDeepRow.origin Rows.clerkDeepRow.targs:=of_decide_eq_true (by kernel_rfl)
theorem wrapF:Tryz.f3.isWrapper Tryz.prog Rows.clerkDeepRow.wrapper Rows.clerkDeepRow.mainSum:=by unfold Func.isWrapper;rw[if_neg (of_decide_eq_false (by kernel_rfl))];exact⟨rfl,rfl⟩
theorem goes_none{P:Program}{f:FuncId}(h:P.funcs.any Func.goes=false):P.goes f=false:=by
 have key:∀g:FuncId,(P.funcs[g]?).any Func.goes=false:=by
  intro g
  cases hg:P.funcs[g]? with
  |none=>rfl
  |some fn=>
   obtain⟨hl,e⟩:=Array.getElem?_eq_some_iff.1 hg
   have:=(Array.any_eq_false.1 h) g hl
   rw[e]at this
   simpa using this
 unfold Program.goes
 rw[h,Bool.and_false,Bool.or_false]
 simp only[key]
 simp
theorem goes_row{P:Program}{c:OpenClaim}{f:FuncId}(h:P.funcs.any Func.goes=false)(hf:P.funcNamed c.func=some f)(hs:c.start=.entering):false=c.goesBy P:=by
 unfold OpenClaim.goesBy Program.goesAt Program.goesFrom
 rw[hf,hs]
 simp only[Option.any_some,goes_none h,Bool.or_false]
theorem allG:Tryz.prog.funcs.any Func.goes=false:=by kernel_rfl
theorem goesF:false=Rows.clerkDeepRow.goesBy Tryz.prog:=goes_row allG fnF rfl
theorem mainF:Tryz.prog.mainIs=some (true,"908fff622587c8905cd8149804bc405d96cd7281b894aec29865dc7577627c34".toList):=by kernel_rfl
theorem looksF:true=Tryz.prog.looks []:=by kernel_rfl
theorem wfF:Rows.clerkDeepRow.wfByText (OpenSpec.ofChange Rows.clerkDeepSpec)=true:=by kernel_rfl
theorem over:Rows.ClerkDeepSaid:=
 OpenClaim.holds_of_wide 3 Tryz.f3 rfl rfl rfl rfl rfl rfl rfl ⟨rfl,rfl,rfl,rfl,rfl⟩ rfl rfl rfl rfl rfl fnF Tryz.func3 closedF instF wrapF
  (λos started H enc _=>lifted os started H enc)
theorem proved:Rows.ClerkDeepCardSaid:=
 Claim7.holds_tied_plain_at .later [] [.handle] true (true,"908fff622587c8905cd8149804bc405d96cd7281b894aec29865dc7577627c34") true
  over (λ_ h=>by cases h) wfF (λ_ h=>by cases h) clerkDeep_row_tie rfl ⟨rfl,rfl⟩ mainF rfl
  (λf fn hf hfn=>by
    obtain rfl:f=3:=Option.some.inj (fnF.symm.trans hf)|>.symm
    obtain rfl:fn=Tryz.f3:=(Option.some.inj (Tryz.func3.symm.trans hfn)).symm
    exact⟨looksF,λj t ht=>by
     rw[Tryz.params3]at ht
     simp at ht⟩)
  goesF
#print axioms proved
end Go.Proofs.YtefgfnbifbkanaaGreatDoor.clerkDeep
