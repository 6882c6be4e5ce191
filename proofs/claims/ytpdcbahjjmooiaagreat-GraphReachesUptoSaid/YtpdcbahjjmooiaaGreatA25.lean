import Derived.Test.YtpdcbahjjmooiaaGreatA24
/- A program logic over the model, contracts of the functions that the law reaches: part 25. (Names and blanks were shortened by program.) -/
set_option linter.unusedVariables false
set_option linter.unusedSimpArgs false
set_option linter.constructorNameAsVariable false
set_option linter.unusedSectionVars false
set_option linter.deprecated false
set_option maxRecDepth 100000
set_option maxHeartbeats 8000000
open Go Go.Proofs
namespace Go.Pv
open Go.RowKit
variable{r u:Int}{x:X4}{l:List U4}
structure DC(w:D4)(v:R4):Prop where
 th:v.things=w.things
 nd:(w.things.map (·.ref)).Nodup
 pos:∀t∈w.things,0<t.ref
 kind:∀t∈w.things,1<=t.bQ.kind/\t.bQ.kind<=16
 set:∀t∈w.things,0<=t.bQ.set/\t.bQ.set<256
 fit:∀t∈w.things,t.bQ.aAZ
section
variable{w:D4}{v:R4}
theorem DC.find(h:DC w v)(r:Int):v.find r=w.find r:=by unfold R4.find D4.find;rw[h.th]
theorem DC.mI(h:DC w v)(r:Int):v.mI r=w.mI r:=by unfold R4.mI D4.mI;rw[h.find]
theorem DC.iI(h:DC w v)(r:Int):v.iI r=w.iI r:=by unfold R4.iI D4.iI;rw[h.find]
theorem N0{t:T4}(hf:w.find r=some t):t∈w.things/\t.ref=r:=⟨cT hf,by have:=iD hf;exact of_decide_eq_true this⟩
theorem DC.zB(h:DC w v)(r:Int):v.zB r=w.zB r:=by
 unfold R4.zB D4.zB R4.iI;rw[h.find];cases w.find r<;>rfl
theorem DC.LA(h:DC w v)(r:Int):(v.iI r).of=w.LA r:=by
 unfold D4.LA R4.iI;rw[h.find];cases w.find r<;>rfl
theorem DC.SL(h:DC w v)(r:Int):(v.iI r).by_=w.SL r:=by
 unfold D4.SL R4.iI;rw[h.find];cases w.find r<;>rfl
theorem DC.aDI(h:DC w v)(r:Int):(v.iI r).home=w.aDI r:=by
 unfold D4.aDI R4.iI;rw[h.find];cases w.find r<;>rfl
theorem DC.aW1(h:DC w v)(r:Int):decide (v.zB r≠0)=w.mI r:=by
 rw[h.zB];unfold D4.zB D4.mI;cases hf:w.find r with
 |none=>rfl
 |some t=>
  have:=h.kind t (N0 hf).1;simp only[dF,gZ,Option.isSome_some,decide_eq_true_eq];omega
theorem W1(k:Int):y5 k=uY k:=by
 unfold y5 uY;rw[jT];simp
theorem aPD(q d:Int)(L:List Int)(h:L≠[]):(q::L).getD ((q::L).length -1) d=L.getD (L.length -1) d:=by
 cases L with
 |nil=>exact absurd rfl h
 |cons a L=>simp
structure aXI(w:D4)(v:R4)(k:Nat)(q:Int):Prop where
 ne:v.pX (k+1) q≠[]
 len:(v.pX (k+1) q).length<=k+1
 fuel:∀m,k+1<=m->v.pX m q=v.pX (k+1) q
 last:y5 (v.zB ((v.pX (k+1) q).getD ((v.pX (k+1) q).length -1) 0))=false
 sub:∀a∈v.pX (k+1) q,w.mI a=true/\∀m,k+1<=m->(v.pX m a).length<=(v.pX (k+1) q).length
 nodup:(v.pX (k+1) q).Nodup
theorem DC.aXG(h:DC w v):∀(k:Nat)(q:Int),w.zF k q=true->aXI w v k q
 |k,q,he=>by
  cases hf:w.find q with
  |none=>unfold D4.zF at he;rw[hf]at he;cases he
  |some t=>
   have hfv:=h.find q;rw[hf]at hfv;have hb:w.mI q=true:=by unfold D4.mI;rw[hf];rfl
   have hk:v.zB q=t.bQ.kind:=by unfold R4.zB R4.iI;rw[hfv];rfl
   cases hw:uY t.bQ.kind with
   |false=>
    have e:∀m,k+1<=m->v.pX m q=[q]:=λm hm=>by
     obtain⟨m,rfl⟩:∃m',m=m'+1:=⟨m -1,oM⟩;rw[R4.pX,hfv];simp[W1,hw]
    have e0:=e (k+1) (bT _)
    exact⟨by rw[e0];simp,by rw[e0];simp,λm hm=>by rw[e m hm,e0],by rw[e0];simp[hk,W1,hw],λa ha=>by
     rw[e0,aR]at ha;subst ha
     exact⟨hb,λm hm=>by rw[e m hm,e0];exact bT _⟩,by rw[e0];simp⟩
   |true=>
    cases k with
    |zero=>rw[SE hf hw]at he;cases he
    |succ k=>
     rw[JR hf hw]at he;by_cases ho:w.mI t.bQ.of=true
     ·rw[if_pos ho]at he;have ih:=h.aXG k t.bQ.of he;have e:∀m,k+1+1<=m->v.pX m q=q::v.pX (k+1) t.bQ.of:=λm hm=>by
       obtain⟨m,rfl⟩:∃m',m=m'+1:=⟨m -1,oM⟩;rw[R4.pX,hfv];simp only[W1,hw,if_true];rw[ih.fuel m oM]
      have e0:=e (k+1+1) (bT _);refine⟨by rw[e0];simp,by rw[e0];have:=ih.len;simp;omega,λm hm=>by rw[e m hm,e0],?_,λa ha=>?_,?_⟩
      ·rw[e0,aPD _ _ _ ih.ne];exact ih.last
      ·rw[e0]at ha⊢;rcases aO.1 ha with ha|ha
       ·subst ha;exact⟨hb,λm hm=>by rw[e m hm];exact bT _⟩
       ·have:=ih.sub a ha;exact⟨this.1,λm hm=>by rw[aQ];have:=this.2 m oM;omega⟩
      ·rw[e0,gR];refine⟨λhm=>?_,ih.nodup⟩;have:=(ih.sub q hm).2 (k+1+1) oM;rw[e0,aQ]at this;omega
     ·rw[if_neg ho]at he;cases he
theorem DC.yK(h:DC w v)(q:Int)(he:w.zF w.things.length q=true):v.yK q=true:=by
 have hw:=h.aXG _ q he;unfold R4.yK R4.CT;rw[h.th,aE,decide_eq_true_eq,hw.last];refine⟨?_,rfl⟩;have:=GD hw.nodup (B:=w.aP) λa ha=>vM.1 (hw.sub a ha).1;unfold D4.aP at this;rw[aB]at this;exact this
theorem DC.zF(h:DC w v):∀(n:Nat)(q:Int),(v.pX n q).length<n->v.pX n q≠[]->y5 (v.zB ((v.pX n q).getD ((v.pX n q).length -1) 0))=false->w.zF (n -1) q=true
 |0,q,h1,h2,h3=>oM
 |n+1,q,h1,h2,h3=>by
  rw[R4.pX,h.find]at h1 h2 h3;cases hf:w.find q with
  |none=>rw[hf]at h2;exact absurd rfl h2
  |some t=>
   rw[hf]at h1 h3;dsimp only at h1 h3;have hk:v.zB q=t.bQ.kind:=by unfold R4.zB R4.iI;rw[h.find,hf];rfl
   cases hw:uY t.bQ.kind with
   |false=>exact aG0 hf hw
   |true=>
    have wM:y5 t.bQ.kind=true:=by rw[W1];exact hw
    rw[if_pos wM]at h1 h3;rw[aQ]at h1;by_cases hne:v.pX n t.bQ.of=[]
    ·rw[hne]at h3;simp[hk,W1,hw]at h3
    ·rw[aPD _ _ _ hne]at h3;have ih:=h.zF n t.bQ.of oM hne h3;obtain⟨n,rfl⟩:∃n',n=n'+1:=⟨n -1,oM⟩;show w.zF (n+1) q=true;rw[JR hf hw];have hb:w.mI t.bQ.of=true:=by
      unfold D4.mI;cases hf2:w.find t.bQ.of with
      |none=>rw[R4.pX,h.find,hf2]at hne;exact absurd rfl hne
      |some _=>rfl
     rw[if_pos hb];exact ih
theorem DC.aV4(h:DC w v){t:T4}(ht:t∈w.things)(hw:v.yK t.ref=true):w.zF w.things.length t.ref=true:=by
 unfold R4.yK at hw;rw[aE,decide_eq_true_eq,h.th]at hw;have h2:=v.aQV (t:=t) (by rw[h.th];exact ht);unfold R4.CT at hw h2;rw[h.th]at hw h2
 exact h.zF (w.things.length+1) t.ref oM (λe=>by rw[e]at h2;simp at h2) (by
  have:=hw.2
  simpa using this)
theorem DC.ways(h:DC w v):(∀t∈w.things,w.zF w.things.length t.ref=true)↔(∀t∈w.things,v.yK t.ref=true):=
 ⟨λg t ht=>h.yK _ (g t ht),λg t ht=>h.aV4 ht (g t ht)⟩
end
abbrev bv(a:Int):BitVec 8:=BitVec.ofInt 8 a
theorem aVV(n:Nat)(h:n<256):IntKind.u8.wrap (n:Int)=n:=by
 simp only[IntKind.wrap,IntKind.signed,IntKind.bits,c0,bY,if_false];omega
theorem W2(a b:Int):aB8 a b=((bv a&&&bv b).toNat:Int):=by
 show IntKind.u8.wrap (((bv a&&&bv b).toNat:Nat):Int)=_;exact aVV _ (bv a&&&bv b).isLt
theorem aT8(a b:Int):pO .andNot .u8 a b=((bv a&&&~~~bv b).toNat:Int):=by
 show IntKind.u8.wrap (((bv a&&&~~~bv b).toNat:Nat):Int)=_;exact aVV _ (bv a&&&~~~bv b).isLt
theorem aTN(x:BitVec 8):bv (x.toNat:Int)=x:=by
 unfold bv;rw[BitVec.ofInt_natCast];simp
theorem bv_and(a b:Int):bv (aB8 a b)=bv a&&&bv b:=by rw[W2,aTN]
theorem aUW(a:Int)(h:0<=a)(h2:a<256):((bv a).toNat:Int)=a:=by
 unfold bv;rw[u3];omega
theorem aVY(s u:Int)(h0:0<=u)(h1:u<=63):aB8 63 u=u:=by
 have:((List.range 64).all λk=>decide (aB8 63 k=k))=true:=kK;have:=cV.1 this u.toNat (jI.2 oM);rw[decide_eq_true_eq,DY h0]at this;exact this
theorem aQZ(a b c:Int):aB8 (aB8 a b) c=aB8 a (aB8 b c):=by
 rw[W2 (aB8 a b) c,bv_and,W2 a (aB8 b c),bv_and,BitVec.and_assoc]
theorem aVZ(a b:Int):aB8 a (aB8 a b)=aB8 a b:=by
 rw[<-aQZ,W2 (aB8 a a) b,bv_and,BitVec.and_self,<-W2 a b]
theorem aQB(s u:Int)(h0:0<=s)(h1:s<256)(h:pO .andNot .u8 s u=0):aB8 s u=s:=by
 rw[aT8]at h;have h2:bv s&&&~~~bv u=0#8:=BitVec.eq_of_toNat_eq (by simpa using h);have h3:bv s&&&bv u=bv s:=by
  apply BitVec.eq_of_getLsbD_eq;intro i hi;have:=congrArg (λx=>x.getLsbD i) h2;simp only[BitVec.getLsbD_and,BitVec.getLsbD_not,hi,decide_true,cA,BitVec.getLsbD_zero]at this⊢;revert this;cases(bv s).getLsbD i<;>cases(bv u).getLsbD i<;>simp
 rw[W2,h3,aUW s h0 h1]
theorem aV2:∀k:Int,0<=aGR k/\aGR k<=63:=by
 intro k;unfold aGR
 repeat' split
 all_goals exact⟨eD,eD⟩
theorem aTO(k s:Int)(h:k≠14):aD8 k s=aGR k:=by
 unfold aD8 aGR;by_cases k1:k=1
 ·rw[if_pos k1,if_pos k1];decide
 rw[if_neg k1,if_neg k1];by_cases k2:k=2\/k=3
 ·rw[if_pos k2,if_pos k2];decide
 rw[if_neg k2,if_neg k2];by_cases k3:k=4
 ·rw[if_pos k3,if_pos k3];decide
 rw[if_neg k3,if_neg k3];by_cases k4:k=5\/k=6\/k=8\/k=12
 ·rw[if_pos k4,if_pos k4]
 rw[if_neg k4,if_neg k4];by_cases k5:k=9
 ·rw[if_pos k5,if_pos k5];decide
 rw[if_neg k5,if_neg k5];by_cases k6:k=10
 ·rw[if_pos k6,if_pos k6]
 rw[if_neg k6,if_neg k6];by_cases k7:k=11
 ·rw[if_pos k7,if_pos k7]
 rw[if_neg k7,if_neg k7];by_cases k8:k=13
 ·rw[if_pos k8,if_pos k8];decide
 rw[if_neg k8,if_neg k8,if_neg h]
structure aVW(w:D4)(v:R4)(k:Nat)(q u:Int):Prop where
 bd:0<=u/\u<=63
 p:∀m,k+1<=m->∀s,w.MD m s q=some (aB8 (aB8 63 s) u)
 d:∀m,k+1<=m->v.MD m q=some u
theorem aVW.eq{w:D4}{v:R4}{k:Nat}{q:Int}(h:aVW w v k q u)(ht:v.things=w.things)(hk:k<=w.things.length):w.tY q=u/\v.tY q=u:=by
 have h1:=h.p (w.things.length+1) oM 63;have h2:=h.d (w.things.length+1) oM;unfold D4.tY R4.tY;rw[ht,h1,h2];refine⟨?_,rfl⟩;rw[show aB8 63 63=63 from rfl,aVY 0 u h.bd.1 h.bd.2];rfl
def aOI(w:D4)(v:R4):Prop:=∀t∈w.things,t.bQ.kind=14->pO .andNot .u8 t.bQ.set (w.tY t.bQ.of)=0\/pO .andNot .u8 t.bQ.set (v.tY t.bQ.of)=0
theorem DC.MD{w:D4}{v:R4}(h:DC w v)(hF:aOI w v):∀(k:Nat)(q:Int),k<=w.things.length->w.zF k q=true->∃u,aVW w v k q u
 |k,q,hk,he=>by
  cases hf:w.find q with
  |none=>unfold D4.zF at he;rw[hf]at he;cases he
  |some t=>
   have hfv:=h.find q;rw[hf]at hfv;have ht:=(N0 hf).1;cases hw:uY t.bQ.kind with
   |false=>
    have hn:¬t.bQ.kind=14/\¬t.bQ.kind=15/\¬t.bQ.kind=16:=by
     simp only[uY,decide_eq_false_iff_not,not_or]at hw;exact hw
    have hb:=aV2 t.bQ.kind;refine⟨aGR t.bQ.kind,hb,λm hm s=>?_,λm hm=>?_⟩
    ·obtain⟨m,rfl⟩:∃m',m=m'+1:=⟨m -1,oM⟩;rw[D4.MD,hf];dsimp only;rw[if_neg hn.1,if_neg oM];rfl
    ·obtain⟨m,rfl⟩:∃m',m=m'+1:=⟨m -1,oM⟩;rw[R4.MD,hfv];dsimp only;rw[if_neg oM,aTO _ _ hn.1]
   |true=>
    cases k with
    |zero=>rw[SE hf hw]at he;cases he
    |succ k=>
     rw[JR hf hw]at he;by_cases ho:w.mI t.bQ.of=true
     ·rw[if_pos ho]at he;obtain⟨u,ih⟩:=h.MD hF k t.bQ.of oM he;have hie:=ih.eq h.th oM;by_cases k14:t.bQ.kind=14
      ·have hs:=h.set t ht;have hz:pO .andNot .u8 t.bQ.set u=0:=by
        have:=hF t ht k14;rw[hie.1,hie.2]at this;rcases this with e|e<;>exact e
       have e:=aQB t.bQ.set u hs.1 hs.2 hz;have hbd:=aB9 t.bQ.set u (.inr ih.bd);rw[e]at hbd;refine⟨t.bQ.set,hbd,λm hm s=>?_,λm hm=>?_⟩
       ·obtain⟨m,rfl⟩:∃m',m=m'+1:=⟨m -1,oM⟩;rw[D4.MD,hf];dsimp only;rw[if_pos k14,ih.p m oM];show some (aB8 (aB8 63 (aB8 (aB8 63 s) t.bQ.set)) u)=_;rw[<-aQZ 63 (aB8 63 s),aVZ,aQZ (aB8 63 s),e]
       ·obtain⟨m,rfl⟩:∃m',m=m'+1:=⟨m -1,oM⟩;rw[R4.MD,hfv];dsimp only;rw[if_neg oM,k14];rfl
      ·have k15:t.bQ.kind=15\/t.bQ.kind=16:=by
        simp only[uY,decide_eq_true_eq]at hw;rcases hw with e|e
        ·exact absurd e k14
        ·exact e
       refine⟨u,ih.bd,λm hm s=>?_,λm hm=>?_⟩
       ·obtain⟨m,rfl⟩:∃m',m=m'+1:=⟨m -1,oM⟩;rw[D4.MD,hf];dsimp only;rw[if_neg k14,if_pos k15,ih.p m oM]
       ·obtain⟨m,rfl⟩:∃m',m=m'+1:=⟨m -1,oM⟩;rw[R4.MD,hfv];dsimp only;rw[if_pos k15,ih.d m oM]
     ·rw[if_neg ho]at he;cases he
theorem DC.jR{w:D4}{v:R4}(h:DC w v)(hF:aOI w v)(hE:∀t∈w.things,w.zF w.things.length t.ref=true)(r:Int):w.tY r=v.tY r/\0<=w.tY r/\w.tY r<=63:=by
 cases hf:w.find r with
 |none=>
  have hfv:=h.find r;rw[hf]at hfv;unfold D4.tY R4.tY;rw[D4.MD,R4.MD,hf,hfv];simp
 |some t=>
  obtain⟨ht,rfl⟩:=N0 hf;obtain⟨u,hu⟩:=h.MD hF _ _ (bT _) (hE t ht);have:=hu.eq h.th (bT _);rw[this.1,this.2];exact⟨rfl,hu.bd⟩
section
variable{w:D4}{v:R4}
theorem W4.aPJ(x:W4)(h:x.aAZ):x.held=x.refs:=by
 have e:∀v:V,v.nI=true->v.eI=v.refs:=λv hv=>by unfold V.eI;rw[V.QI,hv,if_pos rfl]
 unfold W4.held W4.refs W4.vA;rw[aG,dL,bP,fJ,e _ h.value,bH];have e1:x.values.map V.eI=x.values.map V.refs:=cQ λa ha=>e a (h.values a ha);have e2:(x.names.map λn=>n.value.eI)=x.names.map (V.refs∘λn=>n.value):=cQ λa ha=>e _ (h.names a ha);rw[e1,e2]
theorem DC.WO(h:DC w v)(x:W4)(hx:x.aAZ):v.WO x=w.V9 x:=by
 unfold R4.WO D4.V9;rw[W4.aPJ x hx,jT];simp only[h.aW1];rw[cV,eC,qR];constructor
 ·intro g r hr;simpa using g r hr
 ·intro g r hr;simpa using g r hr
theorem DC.aWB(h:DC w v)(x:W4):v.aA5 x=false↔((!xT x.kind||w.mI x.of)&&((!DB x.kind||w.mI x.by_)&&(!decide (x.kind=13)||(decide (x.of=0)||w.mI x.of))))=true:=by
 unfold R4.aA5 W4.aR9 xT DB uY;rw[h.mI,h.mI];generalize w.mI x.of=p;generalize w.mI x.by_=q
 grind
theorem DC.there(h:DC w v)(x:W4)(of k:Int):v.n4 x of k=w.n4 x of k:=by
 unfold R4.n4 D4.n4;rw[h.aDI,<-h.zB];rfl
theorem DC.other(h:DC w v)(r k of:Int):v.QN r k of false=w.QN r k of:=by
 unfold R4.QN D4.QN;rw[h.th];rfl
theorem aWX(h:∀t∈w.things,t.bQ.kind=14->(w.JW (lP w.things)).aCS t.bQ t.ref=true){t:T4}(ht:t∈w.things)(hk:t.bQ.kind=14):w.things.all (FX t.ref t.bQ)=true:=by
 rw[cV];intro u hu;unfold FX;by_cases e1:u.bQ.kind=14
 ·by_cases e2:u.bQ.of=t.bQ.of
  ·by_cases e3:u.bQ.set=t.bQ.set
   ·have h1:=h t ht hk;have h2:=h u hu e1;unfold D4.aCS at h1 h2;rw[e2,e3]at h2;simp only[D4.JW]at h1 h2;cases hf:(lP w.things).find? λf=>decide (f.1=(t.bQ.of,t.bQ.set))with
    |none=>
     have:=mN.1 hf t.fc (aA4.2 ⟨t,jU.2 ⟨ht,decide_eq_true hk⟩,rfl⟩);simp[T4.fc]at this
    |some f=>
     rw[hf]at h1 h2;simp only[decide_eq_true_eq]at h1 h2;rw[decide_eq_true (show u.ref=t.ref by rw[<-h2,h1])];rfl
   ·simp[e3]
  ·simp[e2]
 ·simp[e1]
theorem aWY(hnd:(w.things.map (·.ref)).Nodup)(h:∀t∈w.things,t.bQ.kind=14->w.things.all (FX t.ref t.bQ)=true):((lP w.things).map (·.1)).Nodup/\∀t∈w.things,t.bQ.kind=14->(w.JW (lP w.things)).aCS t.bQ t.ref=true:=by
 have key:∀t∈w.things,t.bQ.kind=14->∀u∈w.things,u.bQ.kind=14->u.bQ.of=t.bQ.of->u.bQ.set=t.bQ.set->u.ref=t.ref:=λt ht hk u hu e1 e2 e3=>by
  have:=cV.1 (h t ht hk) u hu;unfold FX at this;simpa [e1,e2,e3]using this
 constructor
 ·unfold lP;rw[bH];unfold List.Nodup at hnd⊢;rw[List.pairwise_map]at hnd⊢;refine List.Pairwise.imp_of_mem (λ{a b}ha hb hab e=>?_) (hnd.filter _);obtain⟨ha1,ha2⟩:=jU.1 ha;obtain⟨hb1,hb2⟩:=jU.1 hb;simp only[decide_eq_true_eq]at ha2 hb2;simp only[Function.comp,aD]at e;exact hab (key b hb1 hb2 a ha1 ha2 e.1 e.2)
 ·intro t ht hk;unfold D4.aCS;simp only[D4.JW];cases hf:(lP w.things).find? λf=>decide (f.1=(t.bQ.of,t.bQ.set))with
  |none=>rfl
  |some f=>
   have h1:=iD hf;have h2:=cT hf;obtain⟨u,hu,rfl⟩:=aA4.1 h2;obtain⟨hu1,hu2⟩:=jU.1 hu;simp only[decide_eq_true_eq]at hu2;simp only[decide_eq_true_eq,aD]at h1;exact decide_eq_true (key t ht hk u hu1 hu2 h1.1 h1.2)
theorem aTT{F:D4}{x:W4}(hk:x.kind=14)(h:F.qJ r x u=true):pO .andNot .u8 x.set u=0/\F.aCS x r=true:=by
 unfold D4.qJ at h;rw[if_neg oM,if_neg oM,if_neg oM,if_neg oM,if_neg oM,if_neg oM,if_neg oM,if_pos hk]at h;simp only[aE,decide_eq_true_eq]at h;exact⟨h.2.2.2.1,h.2.2.2.2⟩
theorem aV9{F:D4}{x:W4}(hk:x.kind=15)(h:F.qJ r x u=true):F.LA x.by_=r:=by
 unfold D4.qJ at h;rw[if_neg oM,if_neg oM,if_neg oM,if_neg oM,if_pos hk]at h;simp only[aE,decide_eq_true_eq]at h;exact h.2.2
theorem DC.aVJ(h:DC w v)(hs:w.sH=true):aOI w v/\(∀t∈w.things,w.zF w.things.length t.ref=true)/\∀t∈w.things,v.RV t.ref t.bQ (v.tY t.bQ.of)=0:=by
 unfold D4.sH at hs;simp only[aE,cV,decide_eq_true_eq]at hs;obtain⟨h1,h2,h3⟩:=hs;have hE:∀t∈w.things,w.zF w.things.length t.ref=true:=λt ht=>(h1 t ht).2;have hF:aOI w v:=λt ht hk=>.inl (aTT hk (h3 t ht)).1;have hA:=h.jR hF hE;refine⟨hF,hE,λt ht=>?_⟩;have a1:=(h1 t ht).1;have a3:=h3 t ht;unfold D4.GL at a1;rw[aE]at a1;unfold R4.RV;have hl:v.aA5 t.bQ=false:=(h.aWB t.bQ).2 a1.2;rw[h.WO _ (h.fit t ht),a1.1,if_neg eD,hl,if_neg eD,if_pos];have hpos:=h.pos t ht;unfold D4.NV at a3;rw[(hA t.bQ.of).1]at a3;have hfd:=aWX (w:=w) (λu hu hk=>(aTT hk (h3 u hu)).2) ht;have ho:t.bQ.kind=15->v.QN t.ref 15 t.bQ.by_ true=false:=λhk=>by
  unfold R4.QN;rw[qR];intro u hu;rw[h.th]at hu;unfold aBY;have e:∀s∈w.things,s.bQ.kind=15->w.LA s.bQ.by_=s.ref:=λs hs hk=>aV9 (F:=w.JW (lP w.things)) hk (h3 s hs);by_cases k:u.bQ.kind=15
  ·by_cases b:u.bQ.by_=t.bQ.by_
   ·have e1:=e t ht hk;have e2:=e u hu k;rw[b,e1]at e2;simp[e2]
   ·simp[b]
  ·simp[k]
 unfold D4.qJ at a3;unfold R4.EK;simp only[h.there,h.other,h.LA,h.SL];have t1:∀x of k,(w.JW (lP w.things)).n4 x of k=w.n4 x of k:=λ_ _ _=>rfl;have t2:∀r k of,(w.JW (lP w.things)).QN r k of=w.QN r k of:=λ_ _ _=>rfl;have t3:∀r,(w.JW (lP w.things)).mI r=w.mI r:=λ_=>rfl;have t4:∀r,(w.JW (lP w.things)).LA r=w.LA r:=λ_=>rfl;have t5:∀r,(w.JW (lP w.things)).SL r=w.SL r:=λ_=>rfl;have t6:∀r,(w.JW (lP w.things)).zB r=w.zB r:=λ_=>rfl;have t7:∀r,(v.iI r).kind=w.zB r:=h.zB;rw[h.th];simp only[t1,t2,t3,t4,t5,t6,t7]at a3⊢
 grind
theorem aPX{x:W4}(h:v.RV r x u=0):v.WO x=true/\v.aA5 x=false/\v.EK r x u=true:=by
 unfold R4.RV at h;by_cases h1:v.WO x=false
 ·rw[if_pos h1]at h;simp at h
 rw[if_neg h1]at h;by_cases h2:v.aA5 x=true
 ·rw[if_pos h2]at h;simp at h
 rw[if_neg h2]at h;by_cases h3:v.EK r x u=true
 ·exact⟨by simpa using h1,by simpa using h2,h3⟩
 ·rw[if_neg h3]at h;simp at h
theorem aTK{x:W4}(hk:x.kind=14)(h:v.EK r x u=true):pO .andNot .u8 x.set u=0/\v.things.all (FX r x)=true:=by
 unfold R4.EK at h;rw[if_neg oM,if_neg oM,if_neg oM,if_neg oM,if_neg oM,if_neg oM,if_neg oM,if_pos hk]at h;simp only[aE,decide_eq_true_eq]at h;exact⟨h.1.2.1,h.2⟩
theorem DC.aRN(h:DC w v)(hW:∀t∈w.things,v.yK t.ref=true)(hs:∀t∈w.things,v.RV t.ref t.bQ (v.tY t.bQ.of)=0):aOI w v/\w.sH=true:=by
 have hE:=h.ways.2 hW;have hF:aOI w v:=λt ht hk=>.inr (aTK hk (aPX (hs t ht)).2.2).1;have hA:=h.jR hF hE;refine⟨hF,?_⟩
 have hfp:=aWY h.nd (λt ht hk=>by
  have:=(aTK hk (aPX (hs t ht)).2.2).2;rw[h.th]at this
  exact this)
 unfold D4.sH;simp only[aE,cV,decide_eq_true_eq];refine⟨λt ht=>⟨?_,hE t ht⟩,hfp.1,λt ht=>?_⟩
 ·obtain⟨b1,b2,b3⟩:=aPX (hs t ht);unfold D4.GL;rw[aE];refine⟨?_,(h.aWB t.bQ).1 b2⟩;rw[<-h.WO _ (h.fit t ht)];exact b1
 ·obtain⟨b1,b2,b3⟩:=aPX (hs t ht);have hl:=(h.aWB t.bQ).1 b2;have hpos:=h.pos t ht;have hfd:=hfp.2 t ht;unfold D4.NV;rw[(hA t.bQ.of).1];unfold R4.EK at b3;unfold D4.qJ;unfold xT DB uY at hl;simp only[h.there,h.other,h.LA,h.SL]at b3;have t1:∀x of k,(w.JW (lP w.things)).n4 x of k=w.n4 x of k:=λ_ _ _=>rfl;have t2:∀r k of,(w.JW (lP w.things)).QN r k of=w.QN r k of:=λ_ _ _=>rfl;have t3:∀r,(w.JW (lP w.things)).mI r=w.mI r:=λ_=>rfl;have t4:∀r,(w.JW (lP w.things)).LA r=w.LA r:=λ_=>rfl;have t5:∀r,(w.JW (lP w.things)).SL r=w.SL r:=λ_=>rfl;have t6:∀r,(w.JW (lP w.things)).zB r=w.zB r:=λ_=>rfl;have t7:∀r,(v.iI r).kind=w.zB r:=h.zB;rw[h.th]at b3;simp only[t1,t2,t3,t4,t5,t6,t7]at b3⊢
  grind
theorem aWG:((List.range 64).all λk=>decide ((H6 k).toNat=aAK k))=true:=kK
theorem DC.spare(h:DC w v)(hF:aOI w v)(hE:∀t∈w.things,w.zF w.things.length t.ref=true):∀L:List T4,w.oL L=v.oL L
 |[]=>rfl
 |t::r=>by
  rw[D4.oL,R4.oL,h.spare hF hE r];congr 1;unfold D4.term R4.term;obtain⟨a,b,c⟩:=h.jR hF hE t.ref;have:=cV.1 aWG (w.tY t.ref).toNat (jI.2 oM);rw[decide_eq_true_eq,DY b]at this;rw[<-a,this]
end
structure aQX(x:X4):Prop where
 fit:∀t∈x.things,t.bQ.aAZ
 kind:∀t∈x.things,0<=t.bQ.kind/\t.bQ.kind<256
 set:∀t∈x.things,0<=t.bQ.set/\t.bQ.set<256
theorem aR8(w:D4)(n xl:Int)(hn:(w.made.length:Int)=n):∀(T:List T4)(q:Int),(∀t∈T,t.bQ.aAZ/\0<=t.bQ.kind)->(ZE w xl T q=true↔L4 n xl T q=true/\∀t∈T,t.bQ.kind=14->TK t.bQ.set=true)
 |[],q,h=>by simp[ZE,L4]
 |t::r,q,h=>by
  have ih:=aR8 w n xl hn r t.ref λu hu=>h u (uE _ hu);have h0:=h t (List.mem_cons_self ..);rw[ZE,L4];simp only[aE,decide_eq_true_eq,ih,t.bQ.aTV w n hn h0.2 h0.1,List.forall_mem_cons];constructor
  ·rintro⟨⟨a,b,c⟩,d,e⟩;exact⟨⟨a,b,d⟩,c,e⟩
  ·rintro⟨⟨a,b,d⟩,c,e⟩;exact⟨⟨a,b,c⟩,d,e⟩
theorem aRJ{x:W4}{n:Int}(h:x.tB n=true):1<=x.kind/\x.kind<=16:=by
 unfold W4.tB W4.kM at h;simp only[aE,decide_eq_true_eq]at h;exact⟨h.1.1,h.1.2.1⟩
theorem aOW(n xl:Int):∀(T:List T4)(q:Int),L4 n xl T q=true->(∀t∈T,q<t.ref/\t.bQ.tB n=true)/\(T.map (·.ref)).Nodup/\(q<=xl->q+T.length<=xl)
 |[],q,h=>sM
 |t::r,q,h=>by
  rw[L4]at h;simp only[aE,decide_eq_true_eq]at h;obtain⟨⟨a,b⟩,c,d⟩:=h;obtain⟨i1,i2,i3⟩:=aOW n xl r t.ref d;refine⟨λu hu=>?_,?_,λ_=>?_⟩
  ·rcases aO.1 hu with rfl|hu
   ·exact⟨a,c⟩
   ·have:=i1 u hu;exact⟨oM,this.2⟩
  ·rw[aG,gR];refine⟨λhm=>?_,i2⟩;obtain⟨u,hu,e⟩:=aA4.1 hm;have:=(i1 u hu).1;omega
  ·have:=i3 b;simp only[aQ];omega
theorem aUQ(n:Nat):∀(T:List T4)(a:List Int),(∀e∈a,0<=e)->∀e∈T.foldl yV a,0<=e
 |[],a,h=>h
 |t::r,a,h=>by
  rw[fX];refine aUQ n r _ λe he=>?_;unfold yV at he;split at he
  ·exact h e he
  ·rcases oI he with he|he
   ·exact h e he
   ·subst he;rw[bF];cases hg:a[t.bQ.home.toNat]? with
    |none=>simp
    |some v=>
     have:=h v (c6 hg);simp only[gZ];omega
theorem aWP(T:List T4):∀a:List Int,(T.foldl yV a).length=a.length:=by
 induction T with
 |nil=>intro a;rfl
 |cons t r ih=>
  intro a;rw[fX,ih];unfold yV;split
  ·rfl
  ·rw[cE]
theorem aRW:∀(M H:List Int),M.length=H.length->(∀e∈H,0<=e)->(QF M H=true↔aA6 M=true/\X7 H M=true)
 |[],H,h,hn=>by
  cases H with
  |nil=>simp[QF,aA6,X7]
  |cons _ _=>simp at h
 |m::M,H,h,hn=>by
  cases H with
  |nil=>simp at h
  |cons t H=>
   have ih:=aRW M H (by simpa using h) λe he=>hn e (uE _ he);have h0:=hn t (List.mem_cons_self ..);unfold aA6 at ih;unfold QF aA6 X7;simp only[aE,decide_eq_true_eq,ih,o9];constructor
   ·rintro⟨⟨a,b⟩,c,d⟩;exact⟨⟨⟨oM,b⟩,c⟩,a,d⟩
   ·rintro⟨⟨⟨a,b⟩,c⟩,e,d⟩;exact⟨⟨e,b⟩,c,d⟩
theorem aSG(w:D4)(F:List ((Int×Int)×Int))(r:Int):(w.JW F).tY r=w.tY r:=by
 unfold D4.tY;rw[IA];rfl
theorem aBG(w:D4)(F:List ((Int×Int)×Int)):∀L:List T4,(w.JW F).oL L=w.oL L
 |[]=>rfl
 |t::r=>by
  rw[D4.oL,D4.oL,aBG w F r];unfold D4.term;rw[aSG]
theorem aQ1(hx:aQX x)(C:List Bool){n xl:Int}(h:L4 n xl x.things 0=true):DC (oD x.parents C x.things) (rW x):=by
 obtain⟨a,b,_⟩:=aOW n xl x.things 0 h;exact⟨rfl,b,λt ht=>(a t ht).1,λt ht=>aRJ (a t ht).2,hx.set,hx.fit⟩
theorem aR5(hx:aQX x)(C:List Bool){n xl B:Int}(h:L4 n xl x.things 0=true):((oD x.parents C x.things).sH=true/\x.last+((oD x.parents C x.things).JW (lP x.things)).oL x.things<=B)↔((∀t∈x.things,(rW x).yK t.ref=true)/\(∀t∈x.things,(rW x).RV t.ref t.bQ ((rW x).tY t.bQ.of)=0)/\x.last+(rW x).oL x.things<=B):=by
 have hb:=aQ1 hx C h;constructor
 ·rintro⟨h1,h2⟩;obtain⟨hF,hE,h3⟩:=hb.aVJ h1;rw[aBG,hb.spare hF hE]at h2;exact⟨hb.ways.1 hE,h3,h2⟩
 ·rintro⟨h1,h2,h3⟩;obtain⟨hF,hS⟩:=hb.aRN h1 h2;rw[aBG,hb.spare hF (hb.ways.2 h1)];exact⟨hS,h3⟩
theorem aU5(hx:aQX x)(C:List Bool){n xl:Int}(h:L4 n xl x.things 0=true)(h1:∀t∈x.things,(rW x).yK t.ref=true)(h2:∀t∈x.things,(rW x).RV t.ref t.bQ ((rW x).tY t.bQ.of)=0):∀t∈x.things,t.bQ.kind=14->TK t.bQ.set=true:=by
 have hb:=aQ1 hx C h;intro t ht hk;obtain⟨hF,hS⟩:=hb.aRN h1 h2;have hA:=hb.jR hF (hb.ways.2 h1) t.bQ.of;have hz:=(aTK hk (aPX (h2 t ht)).2.2).1;have hs:=hx.set t ht;have e:=aQB t.bQ.set ((rW x).tY t.bQ.of) hs.1 hs.2 hz;have hbd:=aB9 t.bQ.set ((rW x).tY t.bQ.of) (.inr (by rw[<-hA.1];exact hA.2));rw[e]at hbd;rw[(aUC t.bQ.set hs.1 hs.2).2,decide_eq_false oM];rfl
theorem aRR(hx:aQX x):y9 x=uB x:=by
 have hf:∀t∈x.things,t.bQ.aAZ/\0<=t.bQ.kind:=λt ht=>⟨hx.fit t ht,(hx.kind t ht).1⟩;rw[jT];unfold y9 uB YB aOT aPS;simp only[aE,decide_eq_true_eq,cV];by_cases hm:x.made.length=x.parents.length+1
 case neg=>simp[hm]
 have hn:((oD x.parents (DU x) []).made.length:Int)=((x.made.length:Nat):Int):=by
  rw[hm];simp only[oD,zrs,aS]
 have e1:=aR8 (oD x.parents (DU x) []) _ x.last hn x.things 0 hf;have e2:=aRW x.made (UR (x.parents.length+1) x.things) (by unfold UR;rw[aWP,aS,hm]) (aUQ (x.parents.length+1) _ _ (λe he=>by rw[(List.mem_replicate.1 he).2];omega));rw[e1,e2];rw[hm]at*;constructor
 ·rintro⟨a1,a2,a3,a4,⟨a5,a6⟩,⟨a7,a8⟩,a9,b1,b2,b3⟩;obtain⟨c1,c2,c3⟩:=(aR5 hx (DU x) a5 (B:=64*x.made.sum)).1 ⟨b2,b3⟩;have hl:=(aOW _ _ _ _ a5).2.2 a9;exact⟨⟨a1,a2⟩,a3,a4,a7,⟨a9,b1,oM⟩,a5,a8,c1,c2,c3⟩
 ·rintro⟨⟨a1,a2⟩,a3,a4,a7,⟨a9,b1,_⟩,a5,a8,c1,c2,c3⟩;obtain⟨b2,b3⟩:=(aR5 hx (DU x) a5 (B:=64*x.made.sum)).2 ⟨c1,c2,c3⟩;exact⟨a1,a2,a3,a4,⟨a5,aU5 hx (DU x) a5 c1 c2⟩,⟨a7,a8⟩,a9,b1,b2,b3⟩
theorem aT0(out:List Int)(x y:Int):y∈aBV out x↔y∈out\/y=x:=by
 unfold aBV;rw[XK];by_cases h:x∈out
 ·rw[if_pos (decide_eq_true h)];constructor
  ·exact .inl
  ·rintro(g|g)
   ·exact g
   ·subst g;exact h
 ·rw[if_neg (by simpa using h)];rw[bN,aO];have e:=gJ (aOB out x) out;constructor
  ·rintro(g|g|g)
   ·exact .inl (dJ g)
   ·exact .inr g
   ·exact .inl (dI g)
  ·rintro(g|g)
   ·rw[<-e,bN]at g;rcases g with g|g
    ·exact .inl g
    ·exact .inr (.inr g)
   ·exact .inr (.inl g)
theorem aP6:∀(out:List Int)(x:Int),out.Pairwise (· <·)->x∉out->(∀y∈out.take (aOB out x),y<x)/\∀y∈out.drop (aOB out x),x<y
 |[],x,h,hx=>sM
 |a::r,x,h,hx=>by
  rw[wP]at h;simp only[aO,not_or]at hx;have ih:=aP6 r x h.2 hx.2;unfold aOB at ih⊢;by_cases ha:a<x
  ·rw[List.takeWhile_cons_of_pos (by simpa using ha),aQ,cC,vZ];refine⟨λy hy=>?_,ih.2⟩;rcases aO.1 hy with rfl|hy
   ·exact ha
   ·exact ih.1 y hy
  ·rw[List.takeWhile_cons_of_neg (by simpa using ha)];simp only[cS,fD,n6];refine⟨sM,λy hy=>?_⟩;rcases aO.1 hy with rfl|hy
   ·omega
   ·have:=h.1 y hy;omega
theorem aT1(out:List Int)(x:Int)(h:out.Pairwise (· <·)):(aBV out x).Pairwise (· <·):=by
 unfold aBV;rw[XK];by_cases hx:x∈out
 ·rw[if_pos (decide_eq_true hx)];exact h
 ·rw[if_neg (by simpa using hx)];obtain⟨a,b⟩:=aP6 out x h hx;rw[List.pairwise_append];refine⟨h.sublist (List.take_sublist _ _),?_,?_⟩
  ·rw[wP];exact⟨b,h.sublist (List.drop_sublist _ _)⟩
  ·intro y hy z hz;have h1:=a y hy;rcases aO.1 hz with rfl|hz
   ·exact h1
   ·have:=b z hz;omega
theorem aP4:∀(l out:List Int)(x:Int),x∈l.foldl aBV out↔x∈out\/x∈l
 |[],out,x=>sM
 |a::l,out,x=>by rw[fX,aP4 l,aT0,aO,or_assoc]
theorem aP5:∀(l out:List Int),out.Pairwise (· <·)->(l.foldl aBV out).Pairwise (· <·)
 |[],out,h=>h
 |a::l,out,h=>by rw[fX];exact aP5 l _ (aT1 out a h)
theorem OD(l:List Int)(x:Int):x∈kV l↔x∈l:=by unfold kV;rw[aP4];simp
theorem aS1(l:List Int):(kV l).Pairwise (· <·):=aP5 l [] .nil
theorem aWJ{A B:List Int}(h:∀x,x∈A↔x∈B):oZ A=kV B:=Y5 (K9 A) (aS1 B) λx=>by rw[o3,OD,h]
theorem aPW:∀(more out:List Int),∃e,wB out more=out++e
 |[],out=>⟨[],by simp[wB]⟩
 |r::m,out=>by
  obtain⟨e,he⟩:=aPW m (QB out r);have:wB out (r::m)=wB (QB out r) m:=rfl;rw[this,he];unfold QB;split
  ·exact⟨e,rfl⟩
  ·exact⟨r::e,sM⟩
theorem aSL(v:R4)(l:List Int):∀(n i:Nat)(out:List Int),(v.univ l).length<=n+i->i<=out.length->out.Nodup->(∀x∈out,x∈v.univ l)->(∀x∈out,FD v.lS l x)->(∀x∈l,x∈out)->(∀j(h:j<out.length),j<i->∀q∈v.lS out[j],q∈out)->∀x,x∈v.N2 n i out↔FD v.lS l x:=by
 have fin:∀(i:Nat)(out:List Int),out.length<=i->(∀x∈out,FD v.lS l x)->(∀x∈l,x∈out)->(∀j(h:j<out.length),j<i->∀q∈v.lS out[j],q∈out)->∀x,x∈out↔FD v.lS l x:=λi out hi h1 h2 h3 x=>by
  refine⟨h1 x,λh=>?_⟩;induction h with
  |base hb=>exact h2 _ hb
  |step _ hq ih=>
   obtain⟨j,hj,e⟩:=dH.1 ih;exact h3 j hj oM _ (by rw[e];exact hq)
 intro n;induction n with
 |zero=>
  intro i out hN hi hn hu h1 h2 h3 x;have:=aEM hn hu;exact fin i out oM h1 h2 h3 x
 |succ n ih=>
  intro i out hN hi hn hu h1 h2 h3 x;rw[R4.N2];cases hg:out[i]? with
  |none=>
   have:=List.getElem?_eq_none_iff.1 hg;exact fin i out this h1 h2 h3 x
  |some r=>
   obtain⟨hl,e⟩:=bA.1 hg;obtain⟨e2,he2⟩:=aPW (v.lS r) out;dsimp only;have hlen:(wB out (v.lS r)).length=out.length+e2.length:=by rw[he2,aU]
   have hr:r∈out:=c6 hg;refine ih (i+1) _ oM oM (zI hn) (λy hy=>?_) (λy hy=>?_) (λy hy=>tO.2 (.inl (h2 y hy))) (λj hj hji q hq=>?_) x
   ·rcases tO.1 hy with hy|hy
    ·exact hu y hy
    ·exact v.aO0 l r y hy
   ·rcases tO.1 hy with hy|hy
    ·exact h1 y hy
    ·exact .step (h1 r hr) hy
   ·have hjo:j<out.length:=oM;have e3:(wB out (v.lS r))[j]=out[j]:=by
     simp only[he2];exact List.getElem_append_left hjo
    rw[e3]at hq;refine tO.2 ?_;by_cases hij:j=i
    ·subst hij;rw[e]at hq;exact .inr hq
    ·exact .inl (h3 j hjo oM q hq)
theorem aSK(v:R4)(l:List Int)(x:Int):x∈v.YB l↔FD v.lS l x:=by
 unfold R4.YB;refine aSL v l _ 0 _ oM oM (zI .nil) (λy hy=>?_) (λy hy=>?_) (λy hy=>tO.2 (.inr hy)) (λj _ hj=>oM) x
 ·rcases tO.1 hy with hy|hy
  ·simp at hy
  ·exact List.mem_append_left _ hy
 ·rcases tO.1 hy with hy|hy
  ·simp at hy
  ·exact .base hy
theorem FD.same{st st':Int->List Int}{L M:List Int}(hs:∀r q,q∈st r↔q∈st' r)(hl:∀x,x∈L↔x∈M)(x:Int):FD st L x↔FD st' M x:=by
 constructor
 ·intro h;induction h with
  |base hb=>exact .base ((hl _).1 hb)
  |step _ hq ih=>exact .step ih ((hs _ _).1 hq)
 ·intro h;induction h with
  |base hb=>exact .base ((hl _).2 hb)
  |step _ hq ih=>exact .step ih ((hs _ _).2 hq)
section
variable{w:D4}{v:R4}
theorem DC.steps(h:DC w v)(r q:Int):q∈w.cX r↔q∈v.lS r:=by
 unfold D4.cX R4.lS;rw[bN,bN];refine or_congr ?_ ?_
 ·unfold D4.oE R4.SV D4.aDH;rw[h.mI,h.iI];cases hb:w.mI r with
  |false=>simp
  |true=>
   rw[if_neg sM,if_pos rfl,o3,OD];have hx:(w.iI r).aAZ:=by
    unfold D4.mI at hb;unfold D4.iI;cases hf:w.find r with
    |none=>rw[hf]at hb;cases hb
    |some t=>exact h.fit t (N0 hf).1
   rw[<-W4.aPJ _ hx];unfold W4.held W4.xB jL;simp only[bN];constructor
   ·rintro((a|a)|a)
    ·exact .inl a
    ·exact .inr (.inr a)
    ·exact .inr (.inl a)
   ·rintro(a|a|a)
    ·exact .inl (.inl a)
    ·exact .inr a
    ·exact .inl (.inr a)
 ·unfold D4.nW R4.LY D4.aDH;rw[h.mI,h.iI];cases hb:w.mI r with
  |false=>simp
  |true=>simp
theorem DC.aWZ(h:DC w v)(hg:w.gA){L M:List Int}(hm:∀x,x∈L↔x∈M):w.v8 L=v.BB M/\w.v7 L=v.DV M:=by
 unfold D4.v8 D4.v7 R4.BB R4.DV;have e:(L.all w.mI=true)↔(M.all v.mI=true):=by
  rw[cV,cV];constructor
  ·intro g x hx;rw[h.mI];exact g x ((hm x).2 hx)
  ·intro g x hx;rw[<-h.mI];exact g x ((hm x).1 hx)
 by_cases hc:L.all w.mI=true
 ·rw[if_pos hc,if_pos hc,if_pos (e.1 hc),if_pos (e.1 hc)];refine⟨aWJ λx=>?_,rfl⟩;rw[wV w hg,aSK,FD.same h.steps hm]
 ·rw[if_neg hc,if_neg hc,if_neg (λg=>hc (e.2 g)),if_neg (λg=>hc (e.2 g))];exact⟨rfl,rfl⟩
end
theorem YI{N:List N4}(h:aAT N=true):jL N=l9 N:=by
 unfold aAT at h;simp only[aE,cV,decide_eq_true_eq]at h;unfold jL l9;congr 1;rw[bH];refine cQ λn hn=>?_;simp only[Function.comp];unfold V.eI;rw[V.QI,(h.2.1 n hn).2,if_pos rfl]
theorem aR4(n xl:Int):∀(T:List T4)(q:Int),L4 n xl T q=true->∀t∈T,t.ref<=xl
 |[],q,h,t,ht=>by simp at ht
 |u::r,q,h,t,ht=>by
  rw[L4]at h;simp only[aE,decide_eq_true_eq]at h;rcases aO.1 ht with rfl|ht
  ·exact h.1.2
  ·exact aR4 n xl r u.ref h.2.2 t ht
structure aO9(x:X4):Prop where
 hx:aQX x
 f:RI x
 b:uB x=true
 th:L4 x.made.length x.last x.things 0=true
theorem aTX(hx:aQX x)(h:y9 x=true):aO9 x:=by
 have h2:=h;rw[aRR hx]at h2;refine⟨hx,aL0 h,h2,?_⟩;unfold uB aOT at h2;simp only[aE]at h2;exact h2.2.2.2.2.2.1
theorem aO9.bth(h:aO9 x):DC (bJ x) (rW x):=by
 have:=aQ1 h.hx (DU x) h.th;exact⟨this.th,this.nd,this.pos,this.kind,this.set,this.fit⟩
theorem aO9.ck(h:aO9 x){u:U4}(hab:S4.RF u.code)(hs:u.seen.length<=400):(bJ x).zE u=(rW x).MR u:=by
 have hb:=h.bth;have hmade:=h.f.made;have e1:(bJ x).HU u.side=(rW x).HU u.side:=by
  unfold D4.HU R4.HU;show(decide (0<=u.side)&&decide (u.side<(x.made.length:Int)))=(decide (0<=u.side)&&decide (u.side<=(x.parents.length:Int)));rw[hmade];congr 1;exact decide_eq_decide.2 (by push_cast;omega)
 have e2:∀r,(bJ x).pK r=(rW x).K1 r:=λr=>by
  unfold D4.pK R4.K1;congr 1;show((bJ x).mI r||decide (r<=x.last))=decide (r<=x.last);cases hi:(bJ x).mI r with
  |false=>rfl
  |true=>
   unfold D4.mI at hi;cases hf:(bJ x).find r with
   |none=>rw[hf]at hi;cases hi
   |some t=>
    obtain⟨ht,rfl⟩:=N0 hf;rw[decide_eq_true (aR4 _ _ _ _ h.th t ht)];rfl
 unfold D4.zE R4.MR;rw[e1,aSF _ hab,aQA,decide_eq_true (show u.seen.length<=524288 by omega),show(bJ x).pK=(rW x).K1 from funext e2];cases hn:aAT u.names with
 |false=>simp
 |true=>
  rw[YI hn];have e3:((l9 u.names).all λr=>(bJ x).mI r&&decide (r∈u.seen))=u.names.all λn=>n.value.refs.all ((rW x).aDF u):=by
   unfold l9;rw[List.all_flatten,List.all_map,List.all_map];have e4:(λr=>(bJ x).mI r&&decide (r∈u.seen))=(rW x).aDF u:=by
    funext r;unfold R4.aDF;rw[hb.mI]
   rw[e4];rfl
  rw[e3];simp only[o6,cA,yO]
theorem aTW(w:D4)(hg:w.gA){L:List Int}(h:L≠[]):w.uJ L≠[]:=by
 cases L with
 |nil=>exact absurd rfl h
 |cons a L=>
  intro e;have:=(wV w hg (a::L) a).2 (.base sM);rw[e]at this;simp at this
theorem aP3(w:D4)(hg:w.gA)(L:List Int)(hL0:L≠[])(hall:L.all w.mI=true)(hN:w.qK L<=2^37):∀(m:Mem)(d:Nat),m d=none->aJ Tryz.prog 19 [.d (.ip w.cells),.d (.sl 1 (iR L))] m (.ok (.eL [.h d,.d (ci 0)])) (aX m d (dU 25 1 (iR (oZ (w.uJ L))))):=by
 refine iW mix (F:=λd=>.eL [.h d,.d (ci 0)]) (r:=dU 25 1 (iR (oZ (w.uJ L)))) Tryz.func19 rfl kK (bD rfl) rfl (oJ _ _ _) (λ_ _=>rfl) (λi j hj=>by simpa [A.hs,A.lQ]using hj) (λg=>eT g _ _ _) (aRS w hg L hL0 hall hN _ (λh ml=>?_) (λh i ml hi=>?_) _ rfl)
 ·exact absurd h (aTW w hg hL0)
 ·exact⟨i,rfl,hi⟩
theorem aQ4(w:D4)(hw:w.qV)(l:List U4)(hl:l.length<=2^30)(hu:∀i(h:i<l.length),l[i].gA)(hne:¬l.all w.zE=true):Pu 21 [.d (.ip w.cells),.d (.sl 4 (l.map U4.cells))] (.eL [.d (.nl 1),.d (ci 190)]):=by
 have hgm:=yG w hw l hl hu;have e3:w.s8 l=190:=by unfold D4.s8;rw[if_neg hne]
 rw[e3]at hgm;refine iC mix Tryz.func21 ?_
 repeat'(first|refine bl ?_|refine aF hgm (bw ?_))
 exact .eL (cs:=[.nl 1,ci 190]) (.cons (.d _) (.cons (.d _) .nil))
theorem aPC(w:D4)(hw:w.qV)(l:List U4)(hl:l.length<=2^30)(hu:∀i(h:i<l.length),l[i].gA)(hN:w.qK (pG l)<=2^36)(hall:l.all w.zE=true)(hin:(pG l).all w.mI=true)(Q:A->List (Nat×R)->Prop)(q1:pG l=[]->∀ml,Q (.eL [.d (.sl 1 []),.d (ci 0)]) ml)(q2:pG l≠[]->∀i ml,aK ml i=some (dU 25 1 (iR (oZ (w.uJ (pG l)))))->Q (.eL [.h i,.d (ci 0)]) ml):∀c,Tryz.f21.body=some c->vc Tryz.prog [] Tryz.f21.ntmps c (C9 0 [.d (.ip w.cells),.d (.sl 4 (l.map U4.cells))]) [] 1 (JS Tryz.prog Tryz.f21 Q):=by
 have hsum:∀i,(((l.take i).map λu=>jL u.names).flatten).length<=(pG l).length:=λi=>by
  unfold pG;have h1:(l.map λu=>jL u.names).flatten=((l.take i).map λu=>jL u.names).flatten++((l.drop i).map λu=>jL u.names).flatten:=by rw[<-List.flatten_append,<-List.map_append,gJ]
  rw[h1,aU];omega
 have hN0:(pG l).length<=2^36:=by unfold D4.qK at hN;omega
 have hsum:∀i,(((l.take i).map λu=>jL u.names).flatten).length<=2^36:=λi=>cL (hsum i) hN0;have hnl:∀i(h:i<l.length),V.dB (l[i].names.map (·.value))+l[i].names.length<=2^35:=λi h=>by have h1:=(hu i h).names;have h2:=(hu i h).nlen;omega
 have hil:∀i(h:i<l.length),(jL l[i].names).length<=2^36:=λi h=>by
  have h1:=hsum (i+1);rw[aT h,bP,fJ]at h1;simp at h1;omega
 intro c hc;cases hc;have hgm:=yG w hw l hl hu;have e3:w.s8 l=0:=by unfold D4.s8;rw[if_pos hall]
 rw[e3]at hgm
 repeat'(first|refine bl ?_|refine aF hgm (bw ?_))
 refine cY mix (λa:Nat×List Int=>a.1<=l.length/\a.2=((l.take a.1).map λu=>jL u.names).flatten) (I:=λa=>[(0,.d (.ip w.cells)),(16,.d (.sl 4 (l.map U4.cells))),(17,.d (ci l.length)),(7,lv 1 900 (iR a.2)),(18,.d (ci a.1))])
  (J:=λa=>lm 900 25 1 (iR a.2) []) (μ:=λa=>l.length -a.1) 2000 (0,[]) 0
  (λQ:List Int=>Q=pG l) (λQ=>[(7,dl Q),(0,.d (.ip w.cells))]) (λQ=>[]) 4000 ⟨sM,sM⟩ (by exact mZ) ?_ ?_
 ·rintro⟨i,Q⟩ ⟨hi,hQ⟩;dsimp only at hi hQ⊢;have hlen:Q.length<=2^36:=by
   have h1:=hsum i;rw[hQ];omega
  cases Q with
  |nil=>
   show vc _ _ _ _ _ [] _ _
   repeat'(first|refine bl ?_|refine bS (λh=>?_) (λh=>?_))
   ·refine cD rfl eD h ?_;have hst:((l.take (i+1)).map λu=>jL u.names).flatten=((l.take i).map λu=>jL u.names).flatten++jL l[i].names:=by rw[aT h,bP,fJ];simp
    conv=>whnf
    repeat'(first|refine bl ?_|refine aF (D0 l[i].names (hnl i h)) (bw ?_))
    have hq:=hil i h;conv=>whnf
    skip
    refine n8 (by simp only[aB];omega) kK ?_;conv=>whnf
    refine E9.mk (λh1=>?_) (λh1=>?_)
    ·have h1:jL l[i].names=[]:=by simpa using h1
     conv=>whnf
     refine bl ?_;refine⟨(i+1,[]),dM,⟨dM,by dsimp only;rw[hst,h1,dS,<-hQ]⟩,?_⟩;exact mZ
    ·have h1:jL l[i].names≠[]:=by simpa using h1
     conv=>whnf
     refine bl ?_;refine⟨(i+1,jL l[i].names),dM,⟨dM,by dsimp only;rw[hst,<-hQ,bZ]⟩,?_⟩;cases hrr:jL l[i].names with
     |nil=>exact absurd hrr h1
     |cons r Q=>
      dsimp only[iR,List.map_cons,lv,lm];exact mv 2072 900
      all_goals first|exact cO rfl rfl|exact cO rfl (by rw[hrr];rfl)
   ·rw[aI oM]at hQ;exact⟨[],hQ,by exact mZ⟩
  |cons r Q=>
   show vc _ _ _ _ _ [(900,dU 25 1 (iR (r::Q))),] _ _
   repeat'(first|refine bl ?_|refine bS (λh=>?_) (λh=>?_))
   ·refine cD rfl eD h ?_;have hst:((l.take (i+1)).map λu=>jL u.names).flatten=((l.take i).map λu=>jL u.names).flatten++jL l[i].names:=by rw[aT h,bP,fJ];simp
    conv=>whnf
    repeat'(first|refine bl ?_|refine aF (D0 l[i].names (hnl i h)) (bw ?_))
    have hq:=hil i h;conv=>whnf
    skip
    refine n8 (by simp only[aB,bE];omega) kK ?_;conv=>whnf
    refine bl ?_;refine⟨(i+1,r::(Q++jL l[i].names)),dM,⟨dM,by dsimp only;rw[hst,<-hQ];rfl⟩,?_⟩;refine mq 2072 900 ?_
    all_goals exact cO rfl (gG (r::Q) (jL l[i].names))
   ·rw[aI oM]at hQ;exact⟨r::Q,hQ,cN.freeze [900] trivial ⟨.rd (.dU (eX rfl rfl)),.same _,trivial⟩ trivial ⟨trivial,trivial,trivial⟩ trivial⟩
 rintro Q hQ;subst hQ;have hgn:=λh=>aP3 w hw.togA (pG l) h hin oM;have hge:=aAG w hw.togA;generalize w.uJ (pG l)=O at hgn q2;generalize pG l=L at hgn q1 q2⊢;cases L with
 |nil=>
  repeat'(first|refine bl ?_|refine dR hge (.cons (.same _) (.cons (.nl _ _) .nil)) (bw ?_))
  exact q1 rfl _
 |cons l0 L=>
  have hgn:=hgn sM
  repeat'(first|refine bl ?_|refine fQ hgn 5000 rfl (bw ?_))
  exact q2 sM 5000 _ rfl
theorem aQ3(w:D4)(hw:w.qV)(l:List U4)(hl:l.length<=2^30)(hu:∀i(h:i<l.length),l[i].gA)(hN:w.qK (pG l)<=2^36)(hall:l.all w.zE=true)(h0:pG l=[]):Pu 21 [.d (.ip w.cells),.d (.sl 4 (l.map U4.cells))] (.eL [.d (.sl 1 []),.d (ci 0)]):=by
 refine CV mix Tryz.func21 rfl kK (bD rfl) rfl (aPC w hw l hl hu hN hall (by rw[h0];rfl) _ (λh ml=>?_) (λh i ml hi=>?_) _ rfl)
 ·exact .eL (cs:=[.sl 1 [],ci 0]) (.cons (.d _) (.cons (.d _) .nil))
 ·exact absurd h0 h
theorem aQ5(w:D4)(hw:w.qV)(l:List U4)(hl:l.length<=2^30)(hu:∀i(h:i<l.length),l[i].gA)(hN:w.qK (pG l)<=2^36)(hall:l.all w.zE=true)(hin:(pG l).all w.mI=true)(h0:pG l≠[]):∀(m:Mem)(d:Nat),m d=none->aJ Tryz.prog 21 [.d (.ip w.cells),.d (.sl 4 (l.map U4.cells))] m (.ok (.eL [.h d,.d (ci 0)])) (aX m d (dU 25 1 (iR (oZ (w.uJ (pG l)))))):=by
 refine iW mix (F:=λd=>.eL [.h d,.d (ci 0)]) (r:=dU 25 1 (iR (oZ (w.uJ (pG l))))) Tryz.func21 rfl kK (bD rfl) rfl (oJ _ _ _) (λ_ _=>rfl) (λi j hj=>by simpa [A.hs,A.lQ]using hj) (λg=>eT g _ _ _) (aPC w hw l hl hu hN hall hin _ (λh ml=>?_) (λh i ml hi=>?_) _ rfl)
 ·exact absurd h h0
 ·exact⟨i,rfl,hi⟩
theorem aOY:Pu 13 [.d (.sl 1 []),.d (.sl 1 [])] (.d (cb true)):=by
 refine iC mix Tryz.func13 ?_;refine bl ?_;refine bV mix (λi:Unit=>True) (I:=λi=>[(0,.d (.sl 1 [])),(1,.d (.sl 1 [])),(5,.d (cb true)),(6,.d (ci 0))]) (J:=λi=>[]) (μ:=λi=>0) 1000 () trivial (by exact mZ) ?_;intro i hi;refine bl ?_;exact dP rfl
theorem aSO(L:List Int)(r:Int)(hL:L.length<=2^38):Pu 115 [.d (.sl 1 (iR L)),.d (ci r)] (.d (ci (idxOf (λx=>decide (r=x)) L))):=by
 refine iC mix Tryz.func115 ?_;refine bl ?_;refine bV mix (λi:Nat=>i<=L.length/\(L.take i).any (λx=>decide (r=x))=false) (I:=λi=>[(0,.d (.sl 1 (iR L))),(1,.d (ci r)),(7,.d (ci L.length)),(8,.d (ci i))])
  (J:=λi=>[]) (μ:=λi=>L.length -i) 100 0 ⟨oM,rfl⟩ (by exact mZ) ?_
 rintro i ⟨hi,h0⟩
 repeat'(first|refine bl ?_|refine bS (λh=>?_) (λh=>?_)|refine cD rfl eD aM (bw ?_))
 ·have hlt:i<L.length:=aM;exact oF (CN (λx=>decide (r=x)) L i hlt h0 (by simpa using‹r=L[i]›)).symm
 ·have hlt:i<L.length:=aM;refine⟨i+1,oM,⟨oM,A2 (λx=>decide (r=x)) L i hlt h0 (by simpa using‹¬r=L[i]›)⟩,?_⟩;exact mZ
 ·rw[aI oM]at h0;exact oF (CM _ L h0).symm
theorem aPO(L:List Int)(r:Int)(hL:L.length<=2^38):Pu 63 [.d (.sl 1 (iR L)),.d (ci r)] (.d (cb (decide (r∈L)))):=by
 refine iC mix Tryz.func63 ?_;refine bl ?_;refine aF (aSO L r hL) ?_;conv=>whnf
 refine bl ?_;refine dP ?_;rw[yH,<-XK L r];congr 1;funext x;exact decide_eq_decide.2 ⟨Eq.symm,Eq.symm⟩
def D4.aO3(w:D4)(r:Int)(l:List U4):Nat->List Int
 |0=>[]
 |i+1=>w.aO3 r l i++(match l[i]? with
  |some u=>if r∈w.gN [u]then [(i:Int)]else []
  |none=>[])
theorem D4.aVM(w:D4)(r:Int)(l:List U4)(i:Nat)(h:i<l.length):w.aO3 r l (i+1)=w.aO3 r l i++(if r∈w.gN [l[i]]then [(i:Int)]else []):=by
 rw[D4.aO3,aC h]
theorem D4.aO4(w:D4)(r:Int)(l:List U4):∀i,(w.aO3 r l i).length<=i
 |0=>by simp[D4.aO3]
 |i+1=>by
  have ih:=D4.aO4 w r l i;rw[D4.aO3,aU]
  have:(match l[i]? with
  |some u=>if r∈w.gN [u]then [(i:Int)]else []
  |none=>[]).length<=1:=by
   split
   ·split<;>simp
   ·simp
  omega
def D4.aAW(w:D4)(r:Int)(l:List U4):List Int:=if l.all w.zE=true then(if w.mI r=true then w.aO3 r l l.length else [])else []
def D4.aJK(w:D4)(r:Int)(l:List U4):Int:=if l.all w.zE=true then(if w.mI r=true then 0 else 5)else 190
theorem aSM(w:D4)(hw:w.qV)(r:Int)(l:List U4)(hl:l.length<=2^30)(hu:∀i(h:i<l.length),l[i].gA)(hN:∀i(h:i<l.length),w.zE l[i]=true->w.qK (pG [l[i]])<=2^36/\w.wF [l[i]]=0/\(w.gN [l[i]]).length<=2^30):Pu 23 [.d (.ip w.cells),.d (ci r),.d (.sl 4 (l.map U4.cells))] (.eL [.d (.sl 1 (iR (w.aAW r l))),.d (ci (w.aJK r l))]):=by
 have hgm:=yG w hw l hl hu;have hi0:=sB w r;refine iC mix Tryz.func23 ?_;cases hall:l.all w.zE with
 |false=>
  have e3:w.s8 l=190:=by unfold D4.s8;rw[hall];rfl
  rw[e3]at hgm;unfold D4.aAW D4.aJK;rw[hall,if_neg gO,if_neg gO]
  repeat'(first|refine bl ?_|refine aF hgm (bw ?_))
  exact .eL (cs:=[.sl 1 (iR []),ci 190]) (.cons (.nz _ _) (.cons (.d _) .nil))
 |true=>
  have e3:w.s8 l=0:=by unfold D4.s8;rw[hall];rfl
  rw[e3]at hgm;unfold D4.aAW D4.aJK;rw[hall,if_pos rfl,if_pos rfl];cases hb:w.mI r with
  |false=>
   rw[hb]at hi0;rw[if_neg gO,if_neg gO]
   repeat'(first|refine bl ?_|refine aF hgm (bw ?_)|refine aF hi0 (bw ?_))
   exact .eL (cs:=[.sl 1 (iR []),ci 5]) (.cons (.nz _ _) (.cons (.d _) .nil))
  |true=>
   rw[hb]at hi0;rw[if_pos rfl,if_pos rfl]
   repeat'(first|refine bl ?_|refine aF hgm (bw ?_)|refine aF hi0 (bw ?_))
   refine bV mix (λa:Nat×List Int=>a.1<=l.length/\a.2=w.aO3 r l a.1) (I:=λa=>[(0,.d (.ip w.cells)),(1,.d (ci r)),(24,.d (.sl 4 (l.map U4.cells))),(25,.d (ci l.length)),(9,lv 1 900 (iR a.2)),(26,.d (ci a.1))])
    (J:=λa=>lm 900 3 1 (iR a.2) []) (μ:=λa=>l.length -a.1) 3000 (0,[]) ⟨sM,rfl⟩ (by exact mZ) ?_
   rintro⟨i,Q⟩ ⟨hi,hQ⟩;dsimp only at hi hQ⊢;have hQl:=w.aO4 r l i;rw[<-hQ]at hQl;by_cases hlt:i<l.length
   ·have hst:=w.aVM r l i hlt;rw[<-hQ]at hst;have hck:w.zE l[i]=true:=cV.1 hall _ (aY hlt);obtain⟨n1,n2,n3⟩:=hN i hlt hck;have hr1:=VV w hw l[i] (hu i hlt) hck n1;rw[n2]at hr1;generalize w.gN [l[i]]=M at hst hr1 n3;have hin:=aPO M r oM;cases hd:decide (r∈M)with
    |true=>
     rw[hd]at hin;rw[if_pos (of_decide_eq_true hd)]at hst;cases Q with
     |nil=>
      show vc _ _ _ _ _ [] _ _
      repeat'(first|refine bl ?_|refine bS (λh=>?_) (λh=>?_)|refine cD rfl eD hlt (bw ?_)|refine dZ.mk (.eL [.d (.sl 1 (iR M)),.d (ci 0)]) [] (aJ.l8 hr1 ⟨sn,trivial⟩ ⟨rfl,trivial⟩ ⟨aZ,trivial⟩ trivial) (bw ?_)|refine aF hin (bw ?_))
      all_goals try(exfalso;omega)
      refine n8 (by simp only[cE,aS];omega) kK ?_;conv=>whnf
      refine E9.mk (λhz1=>absurd hz1 sM) (λhz1=>?_);conv=>whnf
      refine bl ?_;refine⟨(i+1,[(i:Int)]),dM,⟨dM,hst.symm⟩,?_⟩;dsimp only[iR,List.map_cons,List.map_nil,lv,lm];exact mv 3176 900
      all_goals exact cO rfl rfl
     |cons q0 Q=>
      show vc _ _ _ _ _ [(900,dU 3 1 (iR (q0::Q)))] _ _
      repeat'(first|refine bl ?_|refine bS (λh=>?_) (λh=>?_)|refine cD rfl eD hlt (bw ?_)|refine dZ.mk (.eL [.d (.sl 1 (iR M)),.d (ci 0)]) [] (aJ.l8 hr1 ⟨sn,trivial⟩ ⟨rfl,trivial⟩ ⟨aZ,trivial⟩ trivial) (bw ?_)|refine aF hin (bw ?_))
      all_goals try(exfalso;omega)
      refine n8 (by simp only[cE,aS,aB,aQ,bE];simp only[aQ]at hQl;omega) kK ?_;conv=>whnf
      refine bl ?_;refine⟨(i+1,q0::(Q++[(i:Int)])),dM,⟨dM,hst.symm⟩,?_⟩;dsimp only[iR,List.map_cons,List.map_nil,lv,lm];refine mq 3176 900 ?_
      all_goals exact cO rfl (gG (q0::Q) [(i:Int)])
    |false=>
     rw[hd]at hin;rw[if_neg (of_decide_eq_false hd),dS]at hst;cases Q with
     |nil=>
      show vc _ _ _ _ _ [] _ _
      repeat'(first|refine bl ?_|refine bS (λh=>?_) (λh=>?_)|refine cD rfl eD hlt (bw ?_)|refine dZ.mk (.eL [.d (.sl 1 (iR M)),.d (ci 0)]) [] (aJ.l8 hr1 ⟨sn,trivial⟩ ⟨rfl,trivial⟩ ⟨aZ,trivial⟩ trivial) (bw ?_)|refine aF hin (bw ?_))
      all_goals try(exfalso;omega)
      exact⟨(i+1,[]),dM,⟨dM,hst.symm⟩,by exact mZ⟩
     |cons q0 Q=>
      show vc _ _ _ _ _ [(900,dU 3 1 (iR (q0::Q)))] _ _
      repeat'(first|refine bl ?_|refine bS (λh=>?_) (λh=>?_)|refine cD rfl eD hlt (bw ?_)|refine dZ.mk (.eL [.d (.sl 1 (iR M)),.d (ci 0)]) [] (aJ.l8 hr1 ⟨sn,trivial⟩ ⟨rfl,trivial⟩ ⟨aZ,trivial⟩ trivial) (bw ?_)|refine aF hin (bw ?_))
      all_goals try(exfalso;omega)
      exact⟨(i+1,q0::Q),dM,⟨dM,hst.symm⟩,by exact mZ⟩
   ·have hi':i=l.length:=oM;subst hi';rw[<-hQ];cases Q with
    |nil=>
     show vc _ _ _ _ _ [] _ _;refine bl ?_;refine O8.f (decide_eq_false (by(try simp only[aB]);omega)) ?_;refine bl ?_;exact .eL (cs:=[.sl 1 (iR []),ci 0]) (.cons (.nz _ _) (.cons (.d _) .nil))
    |cons q0 Q=>
     show vc _ _ _ _ _ [(900,dU 3 1 (iR (q0::Q)))] _ _;refine bl ?_;refine O8.f (decide_eq_false (by(try simp only[aB]);omega)) ?_;refine bl ?_;exact .eL (cs:=[.sl 1 (iR (q0::Q)),ci 0]) (.cons (.dU (t:=3) rfl) (.cons (.d _) .nil))
structure aSB(x:X4)(l:List U4):Prop where
 cR:∀t∈x.things,t.bQ.cR<=2^20/\t.bQ.wt
 tl:x.things.length<=2^30
 pl:x.parents.length<=2^38
 cl:x.cuts.length<=2^38
 ml:x.made.length<=2^38
 home:∀t∈x.things,-9223372036854775808<=t.bQ.home/\t.bQ.home<=9223372036854775807
 ll:l.length<=2^30
 gA:∀u∈l,u.gA
 wD:∀u∈l,u.wD
 nm:∀u∈l,V.dB (u.names.map (·.value))<=2^20
theorem aOK(h:CI x l=true):x.things.length<=60/\x.parents.length<=40/\l.length<=12/\(∀t∈x.things,t.bQ.fits=true)/\∀u∈l,u.seen.length<=400:=by
 unfold CI at h;simp only[aE,decide_eq_true_eq,cV]at h;obtain⟨⟨⟨a,b,_,_,c⟩,d⟩,e⟩:=h;refine⟨oM,oM,oM,d,λu hu=>?_⟩;have:=e u hu;unfold U4.K2 at this;simp only[aE,decide_eq_true_eq]at this;omega
theorem aRP(hJ:aSB x l)(h:CI x l=true):aQX x:=
 ⟨λt ht=>W4.aWA ((aOK h).2.2.2.1 t ht),λt ht=>(hJ.cR t ht).2.kind,λt ht=>(hJ.cR t ht).2.set⟩
structure pS(x:X4)(l:List U4):Prop extends aSB x l where
 fr:aO9 x
 len:x.things.length<=60
 pr:x.parents.length<=40
 l12:l.length<=12
 seen:∀u∈l,u.seen.length<=400
theorem aU4(hJ:aSB x l)(h:CI x l=true)(hb:y9 x=true):pS x l:=
 ⟨hJ,aTX (aRP hJ h) hb,(aOK h).1,(aOK h).2.1,(aOK h).2.2.1,(aOK h).2.2.2.2⟩
section
variable{x:X4}{l:List U4}
theorem pS.w(h:pS x l):(bJ x).qV:=J1 h.fr.f (λt ht=>(h.cR t ht).1) h.len h.pr
theorem pS.v(h:pS x l):(rW x).gA where
 len:=h.tl
 cR:=λt ht=>cL (h.cR t ht).1 (bD rfl)
 kind:=λt ht=>(h.cR t ht).2.kind
 sm:=λt ht=>cL (h.cR t ht).1 (bD rfl)
theorem pS.ck(h:pS x l):l.all (bJ x).zE=l.all (rW x).MR:=by
 rw[jT,cV,cV];constructor
 ·intro g u hu;rw[<-h.fr.ck (h.gA u hu).jR (h.seen u hu)];exact g u hu
 ·intro g u hu;rw[h.fr.ck (h.gA u hu).jR (h.seen u hu)];exact g u hu
theorem aPZ{w:D4}{u:U4}(h:w.zE u=true):aAT u.names=true:=by
 unfold D4.zE at h;simp only[aE]at h;rw[<-aQA];exact h.2.2.1
theorem pS.steps(h:pS x l)(r:Int):((bJ x).cX r).length<=2^20+2:=by
 unfold D4.cX;rw[aU];have h1:=tP (bJ x) r;have h2:((bJ x).oE r).length<=2^20:=by
  by_cases h0:(bJ x).aDH r=0
  ·rw[vN h0];refine cL (xH _) (cL (N7 _) ?_);unfold D4.iI;cases hf:(bJ x).find r with
   |none=>exact bD rfl
   |some t=>exact(h.cR t (cT hf)).1
  ·rw[D8 h0];simp
 omega
theorem pS.qK(h:pS x l)(L:List Int)(hL:L.length<=2^30):(bJ x).qK L<=2^36:=by
 unfold D4.qK;have h1:=aFY (bJ x).cX (2^20+2) h.steps (bJ x).aP [];have h2:(bJ x).aP.length<=60:=by unfold D4.aP;rw[aB];exact h.len
 have h3:(bJ x).aP.length*(2^20+2)<=60*(2^20+2):=l5 h2 (bT _);omega
theorem W4.EO(y:W4):y.refs.length<=y.cR:=by
 unfold W4.refs W4.vA;have h1:=V.EO y.value;have key:∀L:List V,(L.map V.refs).flatten.length<=V.dB L:=by
  intro L;induction L with
  |nil=>simp
  |cons v L ih=>
   have:=V.EO v;simp only[aG,dL,aU,V.dB];omega
 have h2:=key y.values;have h3:=key (y.names.map (·.value));have hc:y.cR=y.value.cR+V.dB y.values+S4.dB y.code+y.names.length+V.dB (y.names.map (·.value)):=rfl;rw[aG,dL,bP,fJ,aU,aU];omega
theorem pS.lS(h:pS x l)(r:Int):((rW x).lS r).length<=2^20+2:=by
 unfold R4.lS;rw[aU];have h1:((rW x).LY r).length<=2:=by
  unfold R4.LY
  repeat' split
  all_goals simp
 have h2:((rW x).SV r).length<=2^20:=by
  unfold R4.SV;split
  ·refine cL (RJ _) (cL (W4.EO _) ?_);unfold R4.iI;cases hf:(rW x).find r with
   |none=>exact bD rfl
   |some t=>exact(h.cR t (cT hf)).1
  ·simp
 omega
theorem pS.univ(h:pS x l)(L:List Int)(hL:L.length<=2^29):((rW x).univ L).length<=2^30:=by
 unfold R4.univ;rw[aU];have h1:=KB (L:=(rW x).things.map λt=>(rW x).lS t.ref) (B:=2^20+2) λe he=>by
  obtain⟨t,_,rfl⟩:=aA4.1 he;exact h.lS t.ref
 rw[aB]at h1;have h2:(rW x).things.length*(2^20+2)<=60*(2^20+2):=l5 h.len (bT _);omega
theorem aPG(N:List N4):(l9 N).length<=V.dB (N.map (·.value)):=by
 unfold l9;generalize N.map (·.value)=L;induction L with
 |nil=>simp
 |cons v L ih=>
  have:=V.EO v;simp only[aG,dL,aU,V.dB];omega
theorem pS.aSN(h:pS x l):(xJ l).length<=2^24:=by
 unfold xJ;have h1:=KB (L:=l.map λu=>kV (l9 u.names)) (B:=2^20) λe he=>by
  obtain⟨u,hu,rfl⟩:=aA4.1 he;exact cL (RJ _) (cL (aPG _) (h.nm u hu))
 rw[aB]at h1;have h2:l.length*2^20<=12*2^20:=l5 h.l12 (bT _);omega
theorem pS.aL2(h:pS x l):(pG l).length<=2^24:=by
 unfold pG;have h1:=KB (L:=l.map λu=>jL u.names) (B:=2^20) λe he=>by
  obtain⟨u,hu,rfl⟩:=aA4.1 he;exact cL (IG u) (h.nm u hu)
 rw[aB]at h1;have h2:l.length*2^20<=12*2^20:=l5 h.l12 (bT _);omega
theorem pS.from(h:pS x l){L M:List Int}(hm:∀y,y∈L↔y∈M):(bJ x).v8 L=(rW x).BB M/\(bJ x).v7 L=(rW x).DV M:=h.fr.bth.aWZ h.w.togA hm
theorem aSP(hck:∀u∈l,aAT u.names=true)(y:Int):y∈pG l↔y∈xJ l:=by
 unfold pG xJ;simp only[rQ,aA4];constructor
 ·rintro⟨_,⟨u,hu,rfl⟩,h⟩;refine⟨_,⟨u,hu,rfl⟩,?_⟩;rw[OD,<-YI (hck u hu)];exact h
 ·rintro⟨_,⟨u,hu,rfl⟩,h⟩;refine⟨_,⟨u,hu,rfl⟩,?_⟩;rw[OD,<-YI (hck u hu)]at h;exact h
theorem pS.names(h:pS x l)(hck:l.all (bJ x).zE=true):∀u∈l,aAT u.names=true:=λu hu=>aPZ (cV.1 hck u hu)
theorem pS.reach(h:pS x l):(bJ x).gN l=(rW x).gN l/\(bJ x).wF l=(rW x).wF l:=by
 unfold D4.gN D4.wF R4.gN R4.wF;rw[<-h.ck];cases hck:l.all (bJ x).zE with
 |false=>exact⟨rfl,rfl⟩
 |true=>
  rw[if_pos rfl,if_pos rfl,if_pos rfl,if_pos rfl];exact h.from (aSP (h.names hck))
theorem pS.u6(h:pS x l)(hck:l.all (bJ x).zE=true):(pG l).all (bJ x).mI=true:=by
 rw[cV];intro r hr;obtain⟨i,hi,h1⟩:=KR.1 hr;exact aLT (cV.1 hck _ (aY hi)) r h1
theorem pS.one(h:pS x l)(u:U4)(hu:u∈l):pS x [u]:=
 ⟨⟨h.cR,h.tl,h.pl,h.cl,h.ml,h.home,by simp,λy hy=>by rw[aR.1 hy];exact h.gA u hu,λy hy=>by rw[aR.1 hy];exact h.wD u hu,λy hy=>by rw[aR.1 hy];exact h.nm u hu⟩,
   h.fr,h.len,h.pr,sM,λy hy=>by rw[aR.1 hy];exact h.seen u hu⟩
theorem pS.YC(h:pS x l){L:List Int}(hL:∀r∈L,(bJ x).mI r=true):(oZ ((bJ x).uJ L)).length<=60:=by
 have hn:(oZ ((bJ x).uJ L)).Nodup:=(K9 _).imp λh=>oM;have hl:=GD hn (B:=(bJ x).aP) λr hr=>by
  rw[o3,wV _ h.w.togA]at hr;exact vM.1 (QS h.fr.f hL hr)
 have h2:(bJ x).aP.length<=60:=by unfold D4.aP;rw[aB];exact h.len
 omega
theorem pS.aSJ(h:pS x l)(L:List Int):((rW x).BB L).length<=60:=by
 rw[<-(h.from (L:=L) (M:=L) λ_=>Iff.rfl).1];unfold D4.v8;by_cases hc:L.all (bJ x).mI=true
 ·rw[if_pos hc];exact h.YC (cV.1 hc)
 ·rw[if_neg hc];simp
theorem pS.aUF(h:pS x l){u:U4}(hu:u∈l)(hck:(bJ x).zE u=true):(bJ x).gN [u]=(rW x).BB (kV (l9 u.names))/\(bJ x).wF [u]=0/\((bJ x).gN [u]).length<=60:=by
 have h1:=h.one u hu;have hall:[u].all (bJ x).zE=true:=by simp[hck]
 have e:=(h1.from (L:=pG [u]) (M:=kV (l9 u.names)) λy=>by rw[aDN,OD,YI (aPZ hck)]);have hin:=h1.u6 hall;have hg:=SU (λr hr=>cV.1 hin r hr);have e1:(bJ x).gN [u]=(bJ x).v8 (pG [u]):=by unfold D4.gN;rw[if_pos hall]
 have e2:(bJ x).wF [u]=(bJ x).v7 (pG [u]):=by unfold D4.wF;rw[if_pos hall]
 refine⟨by rw[e1];exact e.1,by rw[e2];exact hg.2,?_⟩;rw[e1,hg.1];exact h.YC (λr hr=>cV.1 hin r hr)
theorem pS.who(h:pS x l)(r:Int)(hck:l.all (bJ x).zE=true):∀i,(bJ x).aO3 r l i=(rW x).aO2 r l i
 |0=>rfl
 |i+1=>by
  rw[D4.aO3,R4.aO2,h.who r hck i];congr 1;cases hg:l[i]? with
  |none=>rfl
  |some u=>
   have hu:=c6 hg;dsimp only;rw[(h.aUF hu (cV.1 hck u hu)).1]
theorem pS.aVU(h:pS x l)(r:Int):(bJ x).aAW r l=(rW x).aAW r l/\(bJ x).aJK r l=(rW x).aJK r l:=by
 unfold D4.aAW D4.aJK R4.aAW R4.aJK;rw[<-h.ck,h.fr.bth.mI];cases hck:l.all (bJ x).zE with
 |false=>exact⟨rfl,rfl⟩
 |true=>
  rw[if_pos rfl,if_pos rfl,h.who r hck];exact⟨rfl,rfl⟩
end
theorem aTM(x:X4)(p q:List C)(h1:Pu 25 [.d (.agg x.cells)] (.eL [.d (.ip p),.d (ci 0)]))(h2:Pu 44 [.d (.agg x.cells)] (.eL [.d (.ip q),.d (ci 0)])):Pu 10 [.d (.agg x.cells)] (.eL [.d (.ip p),.d (.ip q)]):=by
 refine iC mix Tryz.func10 ?_
 repeat'(first|refine bl ?_|refine dR h1 (.cons (.agg x.cells) .nil) (bw ?_)|refine dR h2 (.cons (.agg x.cells) .nil) (bw ?_))
 exact .eL (cs:=[.ip p,.ip q]) (.cons (.d _) (.cons (.d _) .nil))
theorem aUV(x:X4)(h1:Pu 25 [.d (.agg x.cells)] (.eL [.d H5,.d (ci 71)]))(h2:Pu 44 [.d (.agg x.cells)] (.eL [.d H5,.d (ci 71)])):Pu 10 [.d (.agg x.cells)] (.eL [.d H5,.d H5]):=by
 refine iC mix Tryz.func10 ?_
 repeat'(first|refine bl ?_|refine dR h1 (.cons (.agg x.cells) .nil) (bw ?_)|refine dR h2 (.cons (.agg x.cells) .nil) (bw ?_))
 exact .eL (cs:=[H5,H5]) (.cons (.d _) (.cons (.d _) .nil))
theorem aV0(hJ:aSB x l)(hf:CI x l=true)(hb:y9 x=false):Pu 10 [.d (.agg x.cells)] (.eL [.d H5,.d H5]):=by
 have h1:=aHE x (λt ht=>cL (hJ.cR t ht).1 (bD rfl)) hJ.tl hJ.pl hJ.cl hJ.ml hJ.home;have h2:=aQL x (λt ht=>⟨cL (hJ.cR t ht).1 (bD rfl),(hJ.cR t ht).2⟩) hJ.tl hJ.pl hJ.cl hJ.ml hJ.home;have hr:uB x=false:=by rw[<-aRR (aRP hJ hf)];exact hb
 rw[show DW x=H5 by unfold DW;rw[hb];rfl,show DV x=71 by unfold DV;rw[hb];rfl]at h1;rw[show RC x=H5 by unfold RC;rw[hr];rfl,show QO x=71 by unfold QO;rw[hr];rfl]at h2;exact aUV x h1 h2
theorem aV1(hR:pS x l):Pu 10 [.d (.agg x.cells)] (.eL [.d (.ip (bJ x).cells),.d (.ip (rW x).cells)]):=by
 have h1:=aHE x (λt ht=>cL (hR.cR t ht).1 (bD rfl)) hR.tl hR.pl hR.cl hR.ml hR.home;have h2:=aQL x (λt ht=>⟨cL (hR.cR t ht).1 (bD rfl),(hR.cR t ht).2⟩) hR.tl hR.pl hR.cl hR.ml hR.home;have hb:=hR.fr.f.b;have hr:=hR.fr.b;rw[show DW x=.ip (bJ x).cells by unfold DW;rw[hb];rfl,show DV x=0 by unfold DV;rw[hb];rfl]at h1;rw[show RC x=.ip (rW x).cells by unfold RC;rw[hr];rfl,show QO x=0 by unfold QO;rw[hr];rfl]at h2;exact aTM x _ _ h1 h2
end Go.Pv
