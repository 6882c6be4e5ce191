/- NeverNone: the Go function postern/posternlaw25.NeverNone returns true, whatever the question and the subject, in every world, and its arguments read as before. No conditions. -/
import Derived.Test.YthcppjbcleblbaaGreatRun
import Derived.Test.YthcppjbcleblbaaGreatRows
import Derived.ProofKit
import Derived.OpenShut
import Derived.WideKeyArgs
set_option linter.all false
set_option maxRecDepth 100000
set_option maxHeartbeats 8000000
namespace Go.Pv
open Go.ChangeShapes Go.WideShapes Go.ChangeAt Go.RowKit
theorem oneCell_ok{P:Program}{w:World}{r:Reach}{b:Nat}{t:TypeId}{v:Value}(h:Cell.okWide P w r b t v):v.oneCell'=true:=by
 cases v with
 |agg a=>unfold Cell.okWide Cell.ok at h;split at h<;>first|(rename_i h1 h2;cases h2;done)|(split at h<;>first|(rename_i h1 h2;cases h2;done)|exact h.elim)
 |tuple a=>unfold Cell.okWide Cell.ok at h;split at h<;>first|(rename_i h1 h2;cases h2;done)|(split at h<;>first|(rename_i h1 h2;cases h2;done)|exact h.elim)
 |_=>rfl
theorem agg_x{P:Program}{W:World}{r:Reach}{b:Nat}{t:TypeId}{cs:Array Value}{fs:Array Field}(hr:Row.okWide P W r b t cs){w:World}{M:Nat->Prop}{m:Mem}{ρ:Nat->Value}:A.Den w M m ρ (.agg (List.replicate cs.size .x)) (.agg cs):=by
 obtain⟨ts,_,_,hc⟩:=hr
 have key:∀l:List Value,A.DenL w M m ρ (List.replicate l.length .x) l:=by
  intro l
  induction l with
  |nil=>simp only[List.length_nil,List.replicate_zero,A.DenL]
  |cons v l ih=>
   simp only[List.length_cons,List.replicate_succ,A.DenL]
   exact⟨v,l,rfl,by simp only[A.Den],ih⟩
 simp only[A.Den]
 refine⟨cs,rfl,λu hu=>?_,by have:=key cs.toList;simpa using this⟩
 obtain⟨i,hi⟩:=List.mem_iff_getElem?.1 hu
 obtain⟨_,_,h⟩:=hc i u (by simpa using hi)
 exact oneCell_ok h
theorem Keeps.sameAt{w w':World}(h:Keeps (λ_=>False) w w'){p:MemPlace}(hb:p.block<w.heap.size):w.sameAt w' p:=by
 cases p with
 |cell b o=>exact World.cell?_of_block (h.block b hb λe=>e)
 |map b=>exact h.block b hb λe=>e
section
variable{H:Type}{enc:TypeId×Value->H}{P:Program}
theorem args_same(hl:laidOutB P=true){W W':World}(hK:Keeps (λ_=>False) W W'){sp:Nat->Bool}:∀(ts:List TypeId)(vs:List Value)(ds:List (DataW H))(ps:List MemPlace),(∀t∈ts,P.readableRec t=true/\t<P.types.size)->
 DataW.TrodAll enc P W 0 (λ_=>true) true ts vs ds ps->(∀p∈ps,p.block<W.heap.size)->(∀p∈ps,sp p.block=true)->DataW.TrodAll enc P W' 0 sp true ts vs ds ps
 |[],[],[],ps,_,h,_,_=>h
 |t::ts,v::vs,d::ds,ps,ht,h,hb,hs=>by
  obtain⟨p,q,h1,h2,rfl⟩:=h
  have htt:=ht t (by simp)
  exact⟨p,q,Go.WideElems.Trod_stays hl htt.1 htt.2 h1 (λx hx=>hK.sameAt (hb x (by simp[hx]))) (λx hx=>hs x (by simp[hx])),
   args_same hl hK ts vs ds q (λt h=>ht t (by simp[h])) h2 (λx hx=>hb x (by simp[hx])) (λx hx=>hs x (by simp[hx])),rfl⟩
 |[],[],_::_,_,_,h,_,_=>h.elim
 |[],_::_,_,_,_,h,_,_=>h.elim
 |_::_,[],_,_,_,h,_,_=>h.elim
 |_::_,_::_,[],_,_,h,_,_=>h.elim
end
theorem walkX{P:Program}{f:FuncId}{xs:List A}{vs:List Value}{w:World}(h:CallT P f xs (λ_=>none) (.ok (.d (.v (.bool true)))) (λ_=>none))(hd:∀(M:Nat->Prop)(m:Mem)(ρ:Nat->Value),A.DenL w M m ρ xs vs):
 Calls P f vs.toArray w λe w'=>e=.returned (.bool true)/\Keeps (λ_=>False) w w':=by
 have h0:SatAt (λ_=>False) (λ_=>False) w ⟨0,none⟩ (λ_=>.x) (λ_=>none) (λ_=>undef) {tmps:= #[],defers:=[]} w:=
  {keeps:=Keeps.refl _ _,size:=rfl,defers:=(λds e=>by cases e),tmps:=(λn=>by simp[A.Den]),res:=(λi r e=>by cases e),own:=(λi r b e=>by cases e),apart:=(λi j r r2 b e=>by cases e)}
 refine(h.2 _ _ _ _ w _ _ w h0 (λb e=>e.elim) vs (hd _ _ _)).mono ?_
 rintro e w' ⟨ρ',h1,_,y,rfl,hy⟩
 simp only[A.Den,C.Den]at hy
 subst hy
 exact⟨rfl,h1.keeps⟩
end Go.Pv
namespace Go.Proofs.YthcppjbcleblbaaGreat.neverNone
open Go.ChangeShapes Go.WideShapes Go.ChangeAt Go.RowKit
theorem own:ownKnob Tryz.prog.godebug=none:=by kernel_rfl
theorem laid:laidOutB Tryz.prog=true:=by kernel_rfl
theorem rd1:Tryz.prog.readableRec 25=true:=by kernel_rfl
theorem rd2:Tryz.prog.readableRec 31=true:=by kernel_rfl
theorem sz:Nat.ble 36 Tryz.prog.types.size=true:=by kernel_rfl
theorem c25:Tryz.prog.cellsOf 25=3:=by kernel_rfl
theorem c31:Tryz.prog.cellsOf 31=4:=by kernel_rfl
theorem lifted(os:Os)(started:os.Started)(H:Type)(enc:TypeId×Value->H):
 ReturnsInHanded {} Tryz.checked os 3 .any (Rows.neverNoneSpec.pre6 enc Tryz.prog Tryz.f3 Rows.neverNoneRow.domain false) (Rows.neverNoneSpec.post enc Tryz.prog Tryz.f3 false true false false):=by
 refine returnsInHanded_of_change (C:=Tryz.checked) own started (by kernel_rfl) Tryz.func3
  (ChangeSpec.witness6 (enc:=enc) (C:=Tryz.checked) false ⟨#[],#[.agg #[.int .i64 0,.int .u8 0,.int .i64 0],.agg #[.int .i64 0,.slice none 0 0,.slice none 0 0,.slice none 0 0]],[]⟩ 8 (by kernel_rfl) (by kernel_rfl) (by kernel_rfl) (by kernel_rfl)) ?_
 intro W base args ds gs before hval0 hW hcnd _
 have hval:∀(j:Nat)t v,Tryz.f3.params[j]?=some t->args[j]?=some v->Value.okWide Tryz.prog W .any base t v:=hval0
 have hW':=hW
 obtain⟨p,q,hA0,hV,rfl,hfz,hnd⟩:=hW
 have hA:DataW.TrodAll enc Tryz.prog W 0 (λ_=>true) true Tryz.f3.params.toList args.toList ds p:=hA0
 rw[Tryz.params3]at hA hval
 obtain⟨rfl,rfl⟩:=trodVars_none hV
 have hlt:∀x∈p++[],x.block<W.heap.size:=λx hx=>hW'.lt x hx
 simp only[List.append_nil]at hW' hlt
 obtain⟨v,v',d,d',p1,p2,rfl,rfl,rfl,h1,h2⟩:=trodAll_two hA
 have hv:Value.okWide Tryz.prog W .any base 25 v:=hval 0 _ v rfl rfl
 have hv':Value.okWide Tryz.prog W .any base 31 v':=hval 1 _ v' rfl rfl
 unfold Value.okWide at hv hv'
 rw[Tryz.underlying25]at hv
 rw[Tryz.underlying31]at hv'
 obtain⟨us,rfl,hs,hr⟩:=hv
 obtain⟨us',rfl,hs',hr'⟩:=hv'
 rw[c25]at hs
 rw[c31]at hs'
 refine(Go.Pv.walkX (vs:=[.agg us,.agg us']) Go.Pv.NN.main λM m ρ=>?_).mono λe W'⟨he,hg⟩=>?_
 ·simp only[Go.Pv.A.DenL]
  refine⟨_,_,rfl,?_,_,_,rfl,?_,rfl⟩
  ·have:=Go.Pv.agg_x (fs:= #[]) hr (w:=W) (M:=M) (m:=m) (ρ:=ρ)
   rw[hs]at this
   exact this
  ·have:=Go.Pv.agg_x (fs:= #[]) hr' (w:=W) (M:=M) (m:=m) (ρ:=ρ)
   rw[hs']at this
   exact this
 subst he
 have hps:∀sp:Nat->Bool,(∀p∈p1++p2,sp p.block=true)->_:=λsp hs=>Go.Pv.args_same laid hg (sp:=sp) _ _ _ _ (λt ht=>by
  have hz:=Nat.le_of_ble_eq_true sz
  have:t=25\/t=31:=by simpa using ht
  rcases this with rfl|rfl
  · exact⟨rd1,Nat.lt_of_lt_of_le (by decide:25<36) hz⟩
  · exact⟨rd2,Nat.lt_of_lt_of_le (by decide:31<36) hz⟩) hA hlt hs
 exact⟨_,rfl,Go.Pv.post_of_kept (pa:=p1++p2) (pv:=[]) hW' (λ_ _ _=>(trodAll_cons_mk (shut_bool Tryz.underlying4 _) trodAll_mk0)) (λsp hs=>hps sp hs) (λ_ _=>rfl) (by simp)
  (hg.kept.frame _) hg.kept.2.1 (ok_one (by kernel_rfl) rfl (okWide_bool_mk Tryz.underlying4 _))⟩
theorem over:Rows.neverNoneRow.holds Tryz.pinned (OpenSpec.ofChange Rows.neverNoneSpec):=
 OpenClaim.holds_of_wide 3 Tryz.f3 rfl rfl rfl rfl rfl rfl rfl ⟨rfl,rfl,rfl,rfl,rfl⟩ rfl rfl rfl rfl rfl (by kernel_rfl) Tryz.func3 (by kernel_rfl)
  (of_decide_eq_true (by kernel_rfl)) (by unfold Func.isWrapper;first|(rw[if_pos (by decide+kernel)];kernel_rfl)|(rw[if_neg (by decide+kernel)];exact⟨rfl,rfl⟩))
  (λos started H enc _=>lifted os started H enc)
theorem proved:Rows.NeverNoneSaid:=
 over
#print axioms proved
end Go.Proofs.YthcppjbcleblbaaGreat.neverNone
