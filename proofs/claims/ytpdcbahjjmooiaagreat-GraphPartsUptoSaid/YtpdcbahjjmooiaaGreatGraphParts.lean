import Derived.Test.YtpdcbahjjmooiaaGreatQ16
/- GraphParts: the Go function postern/posternlaw22.GraphParts returns true and leaves its arguments as they were, where what it reads is of bulk at most 1048576. No other conditions. -/
set_option linter.unusedVariables false
set_option maxRecDepth 100000
namespace Go.Proofs.YtpdcbahjjmooiaaGreat.graphParts
open Go.ChangeShapes Go.WideShapes Go.ChangeAt Go.RowKit
theorem own:ownKnob Tryz.prog.godebug=none:=by kernel_rfl
theorem laid:laidOutB Tryz.prog=true:=by kernel_rfl
theorem rd1:Tryz.prog.readableRec 27=true:=by kernel_rfl
theorem rd2:Tryz.prog.readableRec 35=true:=by kernel_rfl
theorem rd3:Tryz.prog.readableRec 47=true:=by kernel_rfl
theorem sz:Nat.ble 48 Tryz.prog.types.size=true:=by kernel_rfl
theorem contract(H:Type)(enc:TypeId×Value->H)(W:World)(base:Nat)(args:Array Value)(ds gs:List (DataW H))(before:List MemPlace)
 (aYK:∀(j:Nat)t v,Tryz.f4.params[j]?=some t->args[j]?=some v->Value.okWide Tryz.prog W .any base t v)
 (hW:DataW.Whole enc Tryz.prog Tryz.f4.params.toList Rows.graphPartsSpec.vars false W args.toList ds gs before)(hk:Rows.uptoSmall H (ds++gs)=true):
 Calls Tryz.prog 4 args W λe W'=>∃v,e=.returned v/\Rows.graphPartsSpec.post enc Tryz.prog Tryz.f4 false true false false W args v W':=by
 have hW':=hW
 obtain⟨p,q,hA0,hV,rfl,hfz,y4⟩:=hW
 have hA:DataW.TrodAll enc Tryz.prog W 0 (λ_=>true) true Tryz.f4.params.toList args.toList ds p:=hA0
 rw[Tryz.params4]at hA aYK
 obtain⟨rfl,rfl⟩:=trodVars_none hV
 have cX:∀x∈p++[],x.block<W.heap.size:=λx hx=>hW'.lt x hx
 simp only[List.append_nil]at hW' hk cX
 obtain⟨v,v',v'',d,d',d'',p1,p2,p3,rfl,rfl,rfl,⟨n,h1⟩,⟨n',h2⟩,⟨n'',h3⟩⟩:=trodAll_three hA
 have hB:=of_decide_eq_true hk
 simp only[Rows.uptoBulkAll]at hB
 have hv:Value.okWide Tryz.prog W .any base 27 v:=aYK 0 _ v rfl rfl
 obtain⟨x,l,F,hJ,hF,g1,g2,g3⟩:=Go.Pv.a5C (w:=W) (enc:=enc) ⟨_,h1⟩ ⟨_,h2⟩ ⟨_,h3⟩ (by simp only[Go.Pv.rI];omega)
 obtain⟨us,rfl⟩:∃us,v=.agg us:=by
  unfold Value.okWide at hv
  rw[Tryz.underlying27]at hv
  obtain⟨us,h,_⟩:=hv
  exact⟨us,h⟩
 obtain⟨a2,n2,m2,rfl⟩:=okWide_slice Tryz.underlying35 (aYK 1 35 v' rfl rfl)
 obtain⟨a3,n3,m3,rfl⟩:=okWide_slice Tryz.underlying47 (aYK 2 47 v'' rfl rfl)
 refine(Go.Pv.aMW (Go.Pv.a3S x l F hJ hF _) (cs:=[.agg x.aT1,.sl 4 (l.map Go.Pv.U4.aT1),.sl 3 (F.map Go.Pv.ndC)]) (vs:=[.agg us,.slice a2 n2 m2,.slice a3 n3 m3]) ?_).mono λe W'⟨he,hg⟩=>?_
 ·simp only[Go.Pv.C.bR]
  exact⟨_,_,rfl,g1.agg,_,_,rfl,g2.den,_,_,rfl,g3.den,rfl⟩
 subst he
 have hps:∀sp:Nat->Bool,(∀p∈p1++p2++p3,sp p.block=true)->_:=λsp hs=>Go.Pv.M8 laid hg (sp:=sp) _ _ _ _ (λt ht=>by
  have hz:=Nat.le_of_ble_eq_true sz
  have:t=27\/t=35\/t=47:=by simpa using ht
  rcases this with rfl|rfl|rfl
  · exact⟨rd1,Nat.lt_of_lt_of_le (by decide:27<48) hz⟩
  · exact⟨rd2,Nat.lt_of_lt_of_le (by decide:35<48) hz⟩
  · exact⟨rd3,Nat.lt_of_lt_of_le (by decide:47<48) hz⟩) hA cX hs
 exact⟨_,rfl,Go.Pv.QQ (pa:=p1++p2++p3) (pv:=[]) hW' (λ_ _ _=>(trodAll_cons_mk (shut_bool Tryz.underlying4 _) trodAll_mk0)) (λsp hs=>hps sp hs) (λ_ _=>rfl) (by simp)
  (hg.kept.frame _) hg.kept.2.1 (ok_one (by kernel_rfl) rfl (okWide_bool_mk Tryz.underlying4 _))⟩
theorem lifted(os:Os)(started:os.Started)(H:Type)(enc:TypeId×Value->H)(F:Stop.Interp):
 ReturnsInHanded {} Tryz.checked os 4 .any ((Rows.OpenSpec.upto Rows.graphPartsSpec).pre6 enc Tryz.prog Tryz.f4 Rows.graphPartsUptoRow.domain false) (((Rows.OpenSpec.upto Rows.graphPartsSpec).at F).post enc Tryz.prog Tryz.f4 false true false false):=by
 refine returnsInHanded_of_cond (C:=Tryz.checked) (s:=Rows.OpenSpec.upto Rows.graphPartsSpec) (k:=Rows.uptoSmall) rfl own started (by kernel_rfl) Tryz.func4
  (OpenSpec.witness (enc:=enc) (C:=Tryz.checked) (s:=Rows.OpenSpec.upto Rows.graphPartsSpec) (k:=Rows.uptoSmall) rfl false ⟨#[],#[.agg #[.slice none 0 0,.slice none 0 0,.slice none 0 0,.int .i64 0,.slice none 0 0],.slice none 0 0,.slice none 0 0],[]⟩ 8 (by kernel_rfl) (by kernel_rfl) (by kernel_rfl)
    (x:=([.agg [.nil,.nil,.nil,.lit (.int .i64 0),.nil],.nil,.nil],[],[])) (by kernel_rfl) rfl (by kernel_rfl)) ?_
 intro W base args ds gs before aYK hW _ hk _
 exact contract H enc W base args ds gs before aYK hW hk
theorem over:Rows.graphPartsUptoRow.holds Tryz.pinned (Rows.OpenSpec.upto Rows.graphPartsSpec):=
 OpenClaim.holds_of_cond 4 Tryz.f4 rfl rfl rfl rfl rfl rfl rfl ⟨rfl,rfl,rfl,rfl,rfl⟩ rfl rfl rfl rfl rfl (by kernel_rfl) Tryz.func4 (by kernel_rfl)
  (of_decide_eq_true (by kernel_rfl)) (by unfold Func.isWrapper;first|(rw[if_pos (by decide+kernel)];kernel_rfl)|(rw[if_neg (by decide+kernel)];exact⟨rfl,rfl⟩))
  (λos started H enc _ F=>lifted os started H enc F)
theorem proved:Rows.GraphPartsUptoSaid:=
 over
#print axioms proved
end Go.Proofs.YtpdcbahjjmooiaaGreat.graphParts
