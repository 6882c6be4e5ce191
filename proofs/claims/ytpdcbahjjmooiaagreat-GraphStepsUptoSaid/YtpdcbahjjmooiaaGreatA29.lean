import Derived.Test.YtpdcbahjjmooiaaGreatA28
/- A program logic over the model, contracts of the functions that the law reaches: part 29. (Names and blanks were shortened by program.) -/
set_option linter.unusedVariables false
set_option linter.unusedSimpArgs false
set_option linter.constructorNameAsVariable false
set_option linter.unusedSectionVars false
set_option linter.deprecated false
set_option maxRecDepth 100000
set_option maxHeartbeats 8000000
open Go Go.Proofs
namespace Go.Pv
open Go.RowKit
variable{st:Int->List Int}{to r:Int}{n i:Nat}{T P H:List Int}{F F0:List (Int×Int)}
theorem PL(d:Array Int):∀(m:Nat)(x:Int),x∈Go.Lib.compactUpTo d m↔∃j,j<m/\d[j]! =x
 |0,x=>by simp[Go.Lib.compactUpTo]
 |m+1,x=>by
  rw[Go.Lib.compactUpTo_succ,bN,PL d m x];constructor
  ·rintro(⟨j,hj,e⟩|h)
   ·exact⟨j,by omega,e⟩
   ·split at h
    ·exact⟨m,by omega,(aR.1 h).symm⟩
    ·simp at h
  ·rintro⟨j,hj,e⟩;by_cases hk:Go.Lib.keeps d m=true
   ·rw[if_pos hk];by_cases hjm:j<m
    ·exact .inl ⟨j,hjm,e⟩
    ·have:j=m:=by omega
     subst this;exact .inr (by simp[e])
   ·rw[if_neg hk];refine .inl ?_;by_cases hjm:j<m
    ·exact⟨j,hjm,e⟩
    ·have:j=m:=by omega
     subst this;unfold Go.Lib.keeps at hk;simp only[decide_eq_true_eq,not_or,Decidable.not_not]at hk;exact⟨j -1,by omega,by rw[<-hk.2];exact e⟩
theorem XR(d:Array Int):∀(m:Nat),(∀i j,i<j->j<m->d[i]! <=d[j]!)->(Go.Lib.compactUpTo d m).Pairwise (· <·)
 |0,_=>by simp[Go.Lib.compactUpTo]
 |m+1,h=>by
  rw[Go.Lib.compactUpTo_succ];have ih:=XR d m λi j h1 h2=>h i j h1 (by omega);by_cases hk:Go.Lib.keeps d m=true
  ·rw[if_pos hk];refine List.pairwise_append.2 ⟨ih,by simp,λx hx y hy=>?_⟩;rw[aR.1 hy];obtain⟨j,hj,e⟩:=(PL d m x).1 hx;unfold Go.Lib.keeps at hk;simp only[decide_eq_true_eq]at hk;have h1:d[m -1]! <=d[m]! :=h (m -1) m (by omega) (by omega);have h2:d[j]! <=d[m -1]! :=by
    by_cases e2:j=m -1
    ·subst e2;exact Int.le_refl _
    ·exact h j (m -1) (by omega) (by omega)
   have h3:d[m]! ≠d[m -1]! :=by
    rcases hk with hk|hk
    ·omega
    ·exact hk
   omega
  ·rw[if_neg hk,dS];exact ih
theorem GS(L:List Int):(Go.Sort.sort eF L.toArray).toList=L.mergeSort (λx y=>decide (x<=y)):=Go.Sort.sortInt L
theorem ID(d:Array Int)(j:Nat)(h:j<d.size):d[j]! =d.toList[j]'(by simpa using h):=by
 rw[getElem!_pos d j h];simp
theorem o3(L:List Int)(x:Int):x∈oZ L↔x∈L:=by
 unfold oZ DH;rw[jY,PL];have h1:x∈(Go.Sort.sort eF L.toArray).toList↔x∈L:=by rw[GS];simp
 rw[<-h1,dH];constructor
 ·rintro⟨j,hj,e⟩;exact⟨j,by simpa using hj,by rw[<-ID _ _ hj];exact e⟩
 ·rintro⟨j,hj,e⟩;have hj':j<(Go.Sort.sort eF L.toArray).size:=by simpa using hj
  exact⟨j,hj',by rw[ID _ _ hj'];exact e⟩
theorem K9(L:List Int):(oZ L).Pairwise (· <·):=by
 unfold oZ DH;rw[jY];refine XR _ _ λi j h1 h2=>?_;rw[ID _ _ (by omega),ID _ _ h2];have h3:(L.mergeSort λx y=>decide (x<=y)).Pairwise λa b=>decide (a<=b)=true:=List.pairwise_mergeSort (λa b c h1 h2=>by simp only[decide_eq_true_eq]at*;omega) (λa b=>by simp only[gP,decide_eq_true_eq];omega) L;have h4:=List.pairwise_iff_getElem.1 h3;simp only[<-GS]at h4;simpa using h4 i j (by simp;omega) (by simpa using h2) h1
theorem Y5:∀{A B:List Int},A.Pairwise (· <·)->B.Pairwise (· <·)->(∀x,x∈A↔x∈B)->A=B
 |[],[],_,_,_=>rfl
 |[],b::B,_,_,h=>by have:=(h b).2 (by simp);simp at this
 |a::A,[],_,_,h=>by have:=(h a).1 (by simp);simp at this
 |a::A,b::B,h1,h2,h=>by
  rw[List.pairwise_cons]at h1 h2;have e:a=b:=by
   have h3:=(h a).1 (by simp);have h4:=(h b).2 (by simp);rcases aO.1 h3 with e|h3
   ·exact e
   rcases aO.1 h4 with e|h4
   ·exact e.symm
   have:=h1.1 _ h4;have:=h2.1 _ h3;omega
  subst e;congr 1;refine Y5 h1.2 h2.2 λx=>?_;constructor
  ·intro hx;rcases aO.1 ((h x).1 (by simp[hx]))with e|h5
   ·subst e;have:=h1.1 _ hx;omega
   ·exact h5
  ·intro hx;rcases aO.1 ((h x).2 (by simp[hx]))with e|h5
   ·subst e;have:=h2.1 _ hx;omega
   ·exact h5
theorem wV(w:D4)(hg:w.gA)(L:List Int)(x:Int):x∈w.uJ L↔FD w.cX L x:=by
 unfold D4.uJ;refine PE w.cX w.aP hg.nodup (E0 w) L (w.qK L) L [] (by unfold D4.qK;omega) (λx hx=>.base hx) (by simp) (λx hx=>.inr hx) (by simp) x
theorem FD.trans{L M:List Int}{x:Int}(h:FD st L x)(hm:∀y∈L,FD st M y):FD st M x:=by
 induction h with
 |base hb=>exact hm _ hb
 |step _ hq ih=>exact .step ih hq
theorem FD.split{L:List Int}{x:Int}(h:FD st L x):∃y∈L,FD st [y] x:=by
 induction h with
 |base hb=>exact⟨_,hb,.base (by simp)⟩
 |step _ hq ih=>obtain⟨y,h1,h2⟩:=ih;exact⟨y,h1,.step h2 hq⟩
theorem aAE(w:D4)(hg:w.gA)(L:List Int):oZ (w.uJ (oZ (w.uJ L)))=oZ (w.uJ L):=by
 refine Y5 (K9 _) (K9 _) λx=>?_;rw[o3,o3,wV w hg,wV w hg];constructor
 ·intro h;refine h.trans λy hy=>?_;rw[o3,wV w hg]at hy;exact hy
 ·intro h;refine h.trans λy hy=>.base ?_;rw[o3,wV w hg];exact .base hy
def tB(F:List (Int×Int))(r v:Int):List (Int×Int):=if kJ F r=true then xG F r v else F++[(r,v)]
theorem zP(F:List (Int×Int))(r v q:Int):cR (tB F r v) q=if q=r then v else cR F q:=by
 unfold tB;split
 ·rename_i h;exact PQ F r v q h
 ·rename_i h;exact PN F r v q (by simpa using h)
theorem OF(F:List (Int×Int))(r v:Int):(tB F r v).map (·.1)=if kJ F r=true then F.map (·.1)else F.map (·.1)++[r]:=by
 unfold tB;split
 ·exact EN F r v
 ·simp
def oV(F:List (Int×Int))(r q:Int):Bool:=decide (0<cR F q)&&(decide (cR F r=0)||decide (cR F q+1<cR F r))
def l7(r:Int)(s:List (Int×Int)×Bool)(q:Int):List (Int×Int)×Bool:=if oV s.1 r q=true then(tB s.1 r (cR s.1 q+1),true)else s
def qM(st:Int->List Int)(s:List (Int×Int)×Bool)(r:Int):List (Int×Int)×Bool:=(st r).foldl (l7 r) s
def KZ(st:Int->List Int)(T:List Int)(F:List (Int×Int)):List (Int×Int)×Bool:=T.foldl (qM st) (F,false)
def MM(st:Int->List Int)(T:List Int):Nat->List (Int×Int)->List (Int×Int)
 |0,F=>F
 |n+1,F=>if(KZ st T F).2=true then MM st T n (KZ st T F).1 else(KZ st T F).1
inductive Way(st:Int->List Int)(to:Int):Nat->Int->Prop
 |here:Way st to 1 to
 |step {n:Nat} {r q:Int} (hq:q∈st r) (h:Way st to n q):Way st to (n+1) r
theorem Way.pos(h:Way st to n r):1<=n:=by cases h<;>omega
structure zI(st:Int->List Int)(T:List Int)(to:Int)(F:List (Int×Int)):Prop where
 keys:∀k∈F.map (·.1),k∈T
 nodup:(F.map (·.1)).Nodup
 val:∀f∈F,1<=f.2/\f.2<=F.length
 way:∀r,0<cR F r->Way st to (cR F r).toNat r
 at1:cR F to=1
theorem zI.bd(h:zI st T to F)(r:Int):0<=cR F r/\cR F r<=F.length:=by
 cases hh:kJ F r with
 |true=>obtain⟨f,h1,h2,h3⟩:=rT F r hh;have:=h.val f h1;omega
 |false=>rw[uC F r hh];omega
theorem GD:∀{A B:List Int},A.Nodup->(∀x∈A,x∈B)->A.length<=B.length
 |[],B,_,_=>by simp
 |a::A,B,h,hs=>by
  have h1:=gR.1 h;have ha:a∈B:=hs a (by simp);have h2:∀x∈A,x∈B.erase a:=λx hx=>by
   have hne:x≠a:=λe=>h1.1 (e▸hx);exact(List.mem_erase_of_ne hne).2 (hs x (by simp[hx]))
  have h3:=GD h1.2 h2;have h4:=List.length_erase_of_mem ha;have:0<B.length:=List.length_pos_of_mem ha;simp only[aQ];omega
theorem zI.len(h:zI st T to F):F.length<=T.length:=by
 have:=GD h.nodup h.keys;simpa using this
theorem wU(st:Int->List Int)(T:List Int)(to:Int)(h:to∈T):zI st T to [(to,1)]where
 keys:=by simp[h]
 nodup:=by simp
 val:=by simp
 way:=λr hr=>by
  unfold cR at hr⊢;by_cases e:to=r
  ·subst e;simp;exact .here
  ·simp[e]at hr
 at1:=by simp[cR]
theorem aDF(h:zI st T to F)(r:Int):kJ F r=true↔0<cR F r:=by
 constructor
 ·intro hh;obtain⟨f,h1,h2,h3⟩:=rT F r hh;have:=h.val f h1;omega
 ·intro hh;cases hk:kJ F r with
  |true=>rfl
  |false=>rw[uC F r hk]at hh;omega
theorem zI.look(h:zI st T to F){r q:Int}(hr:r∈T)(hq:q∈st r)(hb:oV F r q=true):zI st T to (tB F r (cR F q+1)):=by
 unfold oV at hb;simp only[aE,gP,decide_eq_true_eq]at hb;have hq1:=h.bd q;have hne:r≠to:=by
  rintro rfl;have:=h.at1;rcases hb.2 with h2|h2<;>omega
 refine⟨?_,?_,?_,?_,?_⟩
 ·intro k hk;rw[OF]at hk;split at hk
  ·exact h.keys k hk
  ·rcases bN.1 hk with hk|hk
   ·exact h.keys k hk
   ·rw[aR.1 hk];exact hr
 ·rw[OF];split
  ·exact h.nodup
  ·rename_i hn;refine iS.2 ⟨h.nodup,by simp,λx hx y hy e=>?_⟩;rw[aR.1 hy]at e;exact hn (mP.2 (e▸hx))
 ·unfold tB;split
  ·rename_i hh;have hc:=(aDF h r).1 hh;have hrb:=h.bd r;intro f hf;unfold xG at hf⊢;rw[aB];obtain⟨f0,hf0,rfl⟩:=aM.1 hf;have:=h.val f0 hf0;split
   ·dsimp only;rcases hb.2 with h2|h2<;>omega
   ·exact this
  ·intro f hf;rw[aU,List.length_singleton];rcases bN.1 hf with hf|hf
   ·have:=h.val f hf;omega
   ·rw[aR.1 hf];dsimp only;omega
 ·intro x hx;rw[zP]at hx⊢;split
  ·rename_i e;subst e;have:=Way.step hq (h.way q hb.1);have e2:(cR F q+1).toNat=(cR F q).toNat+1:=by omega
   rw[e2];exact this
  ·rename_i e;rw[if_neg e]at hx;exact h.way x hx
 ·rw[zP,if_neg (tG hne)];exact h.at1
def vZ(T:List Int)(N:Nat)(F:List (Int×Int)):Nat:=(T.map λt=>if cR F t=0 then N+1 else(cR F t).toNat).sum
theorem SK(N:Nat)(F:List (Int×Int))(r v:Int)(h1:0<v)(h2:v<=N)(h3:cR F r=0\/(0<cR F r/\v<cR F r)):∀(T:List Int),vZ T N (tB F r v)<=vZ T N F/\(r∈T->vZ T N (tB F r v)<vZ T N F)
 |[]=>by simp[vZ]
 |t::T=>by
  obtain⟨i1,i2⟩:=SK N F r v h1 h2 h3 T;unfold vZ at i1 i2⊢;simp only[aG,gU];by_cases e:t=r
  ·subst e;have e2:(if cR (tB F t v) t=0 then N+1 else(cR (tB F t v) t).toNat)<if cR F t=0 then N+1 else(cR F t).toNat:=by
    rw[zP,if_pos rfl,if_neg (by omega)];split<;>omega
   exact⟨by omega,λ_=>by omega⟩
  ·have e2:(if cR (tB F r v) t=0 then N+1 else(cR (tB F r v) t).toNat)=if cR F t=0 then N+1 else(cR F t).toNat:=by
    rw[zP,if_neg e]
   rw[e2];refine⟨by omega,λhm=>?_⟩;rcases aO.1 hm with e3|hm
   ·exact absurd e3.symm e
   ·have:=i2 hm;omega
theorem aHQ(h:zI st T to F){r q:Int}(hr:r∈T)(hq:q∈st r)(hb:oV F r q=true):vZ T T.length (tB F r (cR F q+1))<vZ T T.length F:=by
 have h2:=(h.look hr hq hb).bd r;have h3:=(h.look hr hq hb).len;rw[zP,if_pos rfl]at h2;unfold oV at hb;simp only[aE,gP,decide_eq_true_eq]at hb;refine(SK _ F r _ (by omega) (by omega) ?_ T).2 hr;rcases hb.2 with h4|h4
 ·exact .inl h4
 ·exact .inr ⟨by omega,h4⟩
structure wM(st:Int->List Int)(T:List Int)(to:Int)(F0:List (Int×Int))(s:List (Int×Int)×Bool):Prop where
 inv:zI st T to s.1
 same:s.2=false->s.1=F0
 less:s.2=true->vZ T T.length s.1<vZ T T.length F0
theorem wM.look{st:Int->List Int}{T:List Int}{to:Int}{F0:List (Int×Int)}{s:List (Int×Int)×Bool}(h:wM st T to F0 s){r q:Int}(hr:r∈T)(hq:q∈st r):wM st T to F0 (l7 r s q):=by
 unfold l7;split
 ·rename_i hb;have hw:=aHQ h.inv hr hq hb;refine⟨h.inv.look hr hq hb,by simp,λ_=>?_⟩;cases h2:s.2 with
  |false=>rw[h.same h2]at hw⊢;exact hw
  |true=>have:=h.less h2;dsimp only;omega
 ·exact h
theorem wM.foldl{st:Int->List Int}{T:List Int}{to:Int}{F0:List (Int×Int)}{r:Int}(hr:r∈T):∀(L:List Int)(s:List (Int×Int)×Bool),wM st T to F0 s->(∀q∈L,q∈st r)->wM st T to F0 (L.foldl (l7 r) s)
 |[],s,h,_=>h
 |q::L,s,h,hL=>wM.foldl hr L _ (h.look hr (hL q (by simp))) λx hx=>hL x (by simp[hx])
theorem wM.row{s:List (Int×Int)×Bool}(h:wM st T to F0 s){r:Int}(hr:r∈T):wM st T to F0 (qM st s r):=wM.foldl hr (st r) s h λq hq=>hq
theorem wM.rows{st:Int->List Int}{T:List Int}{to:Int}{F0:List (Int×Int)}:∀(L:List Int)(s:List (Int×Int)×Bool),wM st T to F0 s->(∀q∈L,q∈T)->wM st T to F0 (L.foldl (qM st) s)
 |[],s,h,_=>h
 |r::L,s,h,hL=>wM.rows L _ (h.row (hL r (by simp))) λx hx=>hL x (by simp[hx])
theorem NK(h:zI st T to F):wM st T to F (KZ st T F):=wM.rows T (F,false) ⟨h,λ_=>rfl,by simp⟩ λq hq=>hq
theorem YI{r:Int}:∀(L:List Int)(s:List (Int×Int)×Bool),(L.foldl (l7 r) s).2=false->s.2=false/\L.foldl (l7 r) s=s/\∀q∈L,oV s.1 r q=false
 |[],s,h=>⟨h,rfl,by simp⟩
 |q::L,s,h=>by
  rw[fX]at h⊢;obtain⟨h1,h2,h3⟩:=YI L _ h;unfold l7 at h1 h2 h3;by_cases hb:oV s.1 r q=true
  ·rw[if_pos hb]at h1;cases h1
  ·rw[if_neg hb]at h1 h2 h3;have hs:l7 r s q=s:=by unfold l7;rw[if_neg hb]
   rw[hs];refine⟨h1,h2,λx hx=>?_⟩;rcases aO.1 hx with rfl|hx
   ·simpa using hb
   ·exact h3 x hx
theorem aEZ{st:Int->List Int}:∀(L:List Int)(s:List (Int×Int)×Bool),(L.foldl (qM st) s).2=false->s.2=false/\∀r∈L,∀q∈st r,oV s.1 r q=false
 |[],s,h=>⟨h,by simp⟩
 |r::L,s,h=>by
  rw[fX]at h;obtain⟨h1,h3⟩:=aEZ L _ h;obtain⟨g1,g2,g3⟩:=YI (st r) s h1;have g2:qM st s r=s:=g2;rw[g2]at h3;refine⟨g1,λx hx=>?_⟩;rcases aO.1 hx with rfl|hx
  ·exact g3
  ·exact h3 x hx
theorem z7{st:Int->List Int}{T:List Int}{to:Int}:∀(n:Nat)(F:List (Int×Int)),zI st T to F->vZ T T.length F<n->zI st T to (MM st T n F)/\∀r∈T,∀q∈st r,oV (MM st T n F) r q=false
 |0,F,h,hw=>by omega
 |n+1,F,h,hw=>by
  have hp:=NK h;rw[MM];split
  ·rename_i hb;have:=hp.less hb;exact z7 n _ hp.inv (by omega)
  ·rename_i hb;have hb:(KZ st T F).2=false:=by simpa using hb
   refine⟨hp.inv,?_⟩;rw[hp.same hb];exact(aEZ T (F,false) hb).2
structure aJI(st:Int->List Int)(T:List Int)(to:Int)(F:List (Int×Int)):Prop where
 inv:zI st T to F
 least:∀n r,Way st to n r->0<cR F r/\cR F r<=n
theorem P2(hst:∀r,r∉T->st r=[])(h:zI st T to F)(he:∀r∈T,∀q∈st r,oV F r q=false):aJI st T to F:=by
 refine⟨h,λn r hw=>?_⟩;induction hw with
 |here=>rw[h.at1];omega
 | @step n r q hq _ ih=>
   have hr:r∈T:=by
    by_cases hr:r∈T
    ·exact hr
    ·rw[hst r hr]at hq;simp at hq
   have h1:=he r hr q hq;unfold oV at h1;have h2:=h.bd r;simp only[gI,lA,decide_eq_false_iff_not]at h1;omega
def pX(F:List (Int×Int))(b r:Int):Int:=if 0<cR F r/\(b=0\/cR F r<cR F b)then r else b
def jX(F:List (Int×Int))(l:List Int):Int:=(oZ l).foldl (pX F) 0
theorem QI(F:List (Int×Int)):∀(L:List Int)(b:Int),(∀x∈L,0<cR F x->x≠0)->(b≠0->0<cR F b)->(L.foldl (pX F) b=0/\b=0/\∀x∈L,¬0<cR F x)\/(L.foldl (pX F) b≠0/\0<cR F (L.foldl (pX F) b)/\(L.foldl (pX F) b∈L\/L.foldl (pX F) b=b)/\(∀x∈L,0<cR F x->cR F (L.foldl (pX F) b)<=cR F x)/\(b≠0->cR F (L.foldl (pX F) b)<=cR F b))
 |[],b,_,hb=>by
  by_cases h:b=0
  ·exact .inl ⟨h,h,by simp⟩
  ·exact .inr ⟨h,hb h,.inr rfl,by simp,λ_=>by simp⟩
 |r::L,b,h0,hb=>by
  rw[fX];have hL:∀x∈L,0<cR F x->x≠0:=λx hx=>h0 x (by simp[hx]);by_cases hc:0<cR F r/\(b=0\/cR F r<cR F b)
  ·have e:pX F b r=r:=by unfold pX;rw[if_pos hc]
   rw[e];have hr0:=h0 r (by simp) hc.1;rcases QI F L r hL (λ_=>hc.1)with⟨_,g,_⟩|⟨g1,g2,g3,g4,g5⟩
   ·exact absurd g hr0
   ·refine .inr ⟨g1,g2,.inl ?_,λx hx hx0=>?_,λhb0=>?_⟩
    ·rcases g3 with g3|g3
     ·simp[g3]
     ·rw[g3];simp
    ·rcases aO.1 hx with rfl|hx
     ·exact g5 hr0
     ·exact g4 x hx hx0
    ·have:=g5 hr0;rcases hc.2 with h|h
     ·exact absurd h hb0
     ·omega
  ·have e:pX F b r=b:=by unfold pX;rw[if_neg hc]
   rw[e];rcases QI F L b hL hb with⟨g1,g2,g3⟩|⟨g1,g2,g3,g4,g5⟩
   ·refine .inl ⟨g1,g2,λx hx=>?_⟩;rcases aO.1 hx with rfl|hx
    ·exact λh=>hc ⟨h,.inl g2⟩
    ·exact g3 x hx
   ·refine .inr ⟨g1,g2,?_,λx hx hx0=>?_,g5⟩
    ·rcases g3 with g3|g3
     ·simp[g3]
     ·exact .inr g3
    ·rcases aO.1 hx with rfl|hx
     ·by_cases hb0:b=0
      ·exact absurd ⟨hx0,.inl hb0⟩ hc
      ·have:=g5 hb0;by_cases hlt:cR F x<cR F b
       ·exact absurd ⟨hx0,.inr hlt⟩ hc
       ·omega
     ·exact g4 x hx hx0
theorem BB(F:List (Int×Int))(l:List Int)(h0:∀x∈l,0<cR F x->x≠0):(jX F l=0/\∀x∈l,¬0<cR F x)\/(jX F l≠0/\0<cR F (jX F l)/\jX F l∈l/\∀x∈l,0<cR F x->cR F (jX F l)<=cR F x):=by
 have hm:=o3 l;rcases QI F (oZ l) 0 (λx hx=>h0 x ((hm x).1 hx)) (λh=>absurd rfl h)with⟨g1,_,g3⟩|⟨g1,g2,g3,g4,_⟩
 ·exact .inl ⟨g1,λx hx=>g3 x ((hm x).2 hx)⟩
 ·refine .inr ⟨g1,g2,?_,λx hx=>g4 x ((hm x).2 hx)⟩;rcases g3 with g3|g3
  ·exact(hm _).1 g3
  ·exact absurd g3 g1
def goS(F:List (Int×Int))(st:Int->List Int)(to:Int):Nat->Int->List Int->List Int×Bool
 |0,_,_=>([],false)
 |n+1,a,out=>if a=0 then([],false)else if a=to then(out++[a],true)else goS F st to n (jX F (st a)) (out++[a])
inductive Trail(st:Int->List Int)(to:Int):List Int->Prop
 |one:Trail st to [to]
 |cons {r q:Int} {l:List Int} (hq:q∈st r) (h:Trail st to (q::l)):Trail st to (r::q::l)
theorem SV{F:List (Int×Int)}{st:Int->List Int}{T:List Int}{to:Int}(h:aJI st T to F)(hst:∀r,r∉T->st r=[])(hl:∀r∈T,∀q∈st r,oV F r q=false)(h0:cR F 0=0):∀(n m:Nat)(a:Int)(out:List Int),cR F a=(n:Int)->0<n->n<=m->∃P,goS F st to m a out=(out++a::P,true)/\Trail st to (a::P)/\P.length+1=n
 |0,m,a,out,hc,hn,_=>by omega
 |n+1,0,a,out,hc,hn,hm=>by omega
 |n+1,m+1,a,out,hc,hn,hm=>by
  have ha0:a≠0:=by rintro rfl;omega
  rw[goS,if_neg ha0];by_cases e:a=to
  ·subst e;rw[if_pos rfl];have:=h.inv.at1;exact⟨[],rfl,.one,by simp;omega⟩
  ·rw[if_neg e];have hw:=h.inv.way a (by omega);have e2:(cR F a).toNat=n+1:=by omega
   rw[e2]at hw;cases hw with
   |here=>exact absurd rfl e
   | @step k r q hq hw=>
     have hl1:=h.least _ _ hw;have hne:∀x∈st a,0<cR F x->x≠0:=λx _ hx=>by rintro rfl;omega
     rcases BB F (st a) hne with⟨g1,g2⟩|⟨g1,g2,g3,g4⟩
     ·exact absurd hl1.1 (g2 q hq)
     ·have g5:=g4 q hq hl1.1;have haT:a∈T:=by
       by_cases hr:a∈T
       ·exact hr
       ·rw[hst a hr]at hq;simp at hq
      have hlk:=hl a haT _ g3;unfold oV at hlk;simp only[gI,lA,decide_eq_false_iff_not]at hlk;have hp:=hw.pos;obtain⟨P,p1,p2,p3⟩:=SV h hst hl h0 n m (jX F (st a)) (out++[a]) (by omega) (by omega) (by omega);refine⟨jX F (st a)::P,?_,.cons g3 p2,by simp only[aQ];omega⟩;rw[p1];simp
theorem YC(n:Nat)(out:List Int):goS F st to n 0 out=([],false):=by cases n<;>simp[goS]
theorem OZ(h:Trail st to P):∀k(hk:k<P.length),Way st to (P.length -k) P[k]:=by
 induction h with
 |one=>intro k hk;simp at hk;subst hk;exact .here
 | @cons r q l hq h ih=>
   intro k hk;cases k with
   |zero=>exact .step hq (ih 0 (by simp))
   |succ k=>
    have:=ih k (by simpa using hk);simpa using this
theorem Way.snoc{q:Int}(h:Way st to n r)(hq:q∈st to):Way st q (n+1) r:=by
 induction h with
 |here=>exact .step hq .here
 |step hq' _ ih=>exact .step hq' ih
theorem L4(h:Trail st to P):∀k(hk:k+1<P.length),P[k+1]∈st P[k]:=by
 induction h with
 |one=>intro k hk;simp at hk
 | @cons r q l hq h ih=>
   intro k hk;cases k with
   |zero=>exact hq
   |succ k=>exact ih k (by simpa using hk)
theorem GY{st:Int->List Int}{to:Int}{P:List Int}(h:Trail st to P):∀k(hk:k<P.length),Way st P[k] (k+1) (P[0]'(by omega))
 |0,hk=>.here
 |k+1,hk=>(GY h k (by omega)).snoc (L4 h k hk)
theorem Way.app{q:Int}{m:Nat}(h:Way st q n r)(h2:Way st to m q):Way st to (n+m -1) r:=by
 induction h with
 |here=>have:1+m -1=m:=by omega
        rw[this];exact h2
 | @step n r x hq h ih=>
   have hp:=h.pos;have:=Way.step hq ih;have e:n+1+m -1=n+m -1+1:=by omega
   rw[e];exact this
def RJ(st:Int->List Int)(H:List Int)(to:Int)(n:Nat):Prop:=(∃r∈H,Way st to n r)/\∀m r,r∈H->Way st to m r->n<=m
theorem aAS{m:Nat}(h:RJ st H to n)(h':RJ st H to m):n=m:=by
 obtain⟨r,hr,hw⟩:=h.1;obtain⟨s,hs,hv⟩:=h'.1;have:=h.2 _ _ hs hv;have:=h'.2 _ _ hr hw;omega
theorem RC(h:Way st to n r):FD st [r] to:=by
 induction h with
 |here=>exact .base (by simp)
 |step hq _ ih=>exact ih.trans λy hy=>by rw[aR.1 hy];exact .step (.base (by simp)) hq
theorem aH9{x:Int}(h:FD st H x):∃r∈H,∃n,Way st x n r:=by
 induction h with
 |base hb=>exact⟨_,hb,1,.here⟩
 |step _ hq ih=>obtain⟨r,h1,n,h2⟩:=ih;exact⟨r,h1,n+1,h2.snoc hq⟩
def EK(st:Int->List Int)(T H:List Int)(to:Int):List Int×Bool:=
 let F:=MM st T (vZ T T.length [(to,1)]+1) [(to,1)]
 goS F st to (T.length+1) (jX F H) []
structure aJK(st:Int->List Int)(T:List Int):Prop where
 out:∀r,r∉T->st r=[]
 zero:(0:Int)∉T
 nodup:T.Nodup
theorem BC(h:aJK st T)(ht:to∈T):
 (EK st T H to=([],false)/\¬FD st H to)\/∃P,EK st T H to=(P,true)/\FD st H to/\Trail st to P/\RJ st H to P.length/\∃hp:0<P.length,P[0]∈H:=by
 obtain⟨e1,e2⟩:=z7 (vZ T T.length [(to,1)]+1) [(to,1)] (wU st T to ht) (kC _);unfold EK;dsimp only;generalize MM st T (vZ T T.length [(to,1)]+1) [(to,1)]=F at e1 e2⊢;have hE:=P2 h.out e1 e2;have hz:cR F 0=0:=by
  cases hk:kJ F 0 with
  |false=>exact uC F 0 hk
  |true=>exact absurd (e1.keys _ (mP.1 hk)) h.zero
 have hne:∀x∈H,0<cR F x->x≠0:=λx _ hx=>by rintro rfl;omega
 rcases BB F H hne with⟨g1,g2⟩|⟨g1,g2,g3,g4⟩
 ·refine .inl ⟨by rw[g1,YC],λhr=>?_⟩;obtain⟨r,hr,n,hw⟩:=aH9 hr;exact g2 r hr (hE.least _ _ hw).1
 ·have hb:=e1.bd (jX F H);have hlen:=e1.len;obtain⟨P,p1,p2,p3⟩:=SV hE h.out e2 hz (cR F (jX F H)).toNat (T.length+1) (jX F H) [] (by omega) (by omega) (by omega);refine .inr ⟨jX F H::P,by simpa using p1,?_,p2,?_,by simp,g3⟩
  ·exact(RC (e1.way _ g2)).trans λy hy=>by rw[aR.1 hy];exact .base g3
  ·rw[aQ,p3];refine⟨⟨_,g3,e1.way _ g2⟩,λm r hr hw=>?_⟩;have h1:=hE.least _ _ hw;have h2:=g4 r hr h1.1;omega
theorem aEL(h:aJK st T)(hT:Trail st to P)(hm:RJ st H to P.length)(hp:0<P.length)(h0:P[0]∈H)(k:Nat)(hk:k<P.length)(hkT:P[k]∈T):∃Q,EK st T H P[k]=(Q,true)/\Q.length=k+1:=by
 have hw:=GY hT k hk;have hmin:RJ st H P[k] (k+1):=by
  refine⟨⟨_,h0,hw⟩,λm r hr hw'=>?_⟩;have:=hm.2 _ _ hr (hw'.app (OZ hT k hk));have:=hw'.pos;omega
 have hr:FD st H P[k]:=(RC hw).trans λy hy=>by rw[aR.1 hy];exact .base h0
 rcases BC (H:=H) h hkT with⟨_,g⟩|⟨Q,q1,_,_,q4,_⟩
 ·exact absurd hr g
 ·exact⟨Q,q1,aAS q4 hmin⟩
def l8(low:List Nat)(i:Nat):Nat:=low[i]?.getD i
def eC(low:List Nat)(i:Nat):Nat:=if h:l8 low i<i then eC low (l8 low i)else i
 termination_by i
theorem xJ(low:List Nat)(i:Nat):eC low i<=i:=by
 induction i using Nat.strongRecOn with
 |ind i ih=>
  rw[eC];split
  ·rename_i h;have:=ih _ h;omega
  ·exact bT _
theorem LA(low:List Nat)(i:Nat):¬l8 low (eC low i)<eC low i:=by
 induction i using Nat.strongRecOn with
 |ind i ih=>
  rw[eC];split
  ·rename_i h;exact ih _ h
  ·rename_i h;exact h
theorem xC(low:List Nat)(M m x:Nat)(hM:M<low.length):l8 (low.set M m) x=if x=M then m else l8 low x:=by
 unfold l8;rw[List.getElem?_set];by_cases h:M=x
 ·subst h;simp[hM]
 ·have:¬x=M:=λe=>h e.symm;simp[h,this]
theorem aBG(low:List Nat)(M m:Nat)(hM:M<low.length)(h1:¬l8 low M<M)(h2:¬l8 low m<m)(hm:m<=M)(x:Nat):eC (low.set M m) x=if eC low x=M then m else eC low x:=by
 induction x using Nat.strongRecOn with
 |ind x ih=>
  by_cases hx:l8 low x<x
  ·have hne:x≠M:=by rintro rfl;exact h1 hx
   have e:l8 (low.set M m) x=l8 low x:=by rw[xC _ _ _ _ hM,if_neg hne]
   have e1:eC low x=eC low (l8 low x):=by rw[eC,dif_pos hx]
   rw[e1,eC,dif_pos (by rw[e];exact hx),e];exact ih _ hx
  ·have e1:eC low x=x:=by rw[eC,dif_neg hx]
   rw[e1];by_cases hxM:x=M
   ·subst hxM;rw[if_pos rfl];have e:l8 (low.set x m) x=m:=by rw[xC _ _ _ _ hM,if_pos rfl]
    by_cases hlt:m<x
    ·rw[eC,dif_pos (by rw[e];exact hlt),e,eC,dif_neg];rw[xC _ _ _ _ hM,if_neg (by omega)];exact h2
    ·rw[eC,dif_neg (by rw[e];exact hlt)];omega
   ·rw[if_neg hxM,eC,dif_neg];rw[xC _ _ _ _ hM,if_neg hxM];exact hx
def fR(F:List (Int×Int))(i:Nat)(low:List Nat)(r:Int):List Nat:=if kJ F r=true then low.set (max (eC low i) (eC low (cR F r).toNat)) (min (eC low i) (eC low (cR F r).toNat))else low
structure zD(F:List (Int×Int))(n:Nat):Prop where
 val:∀f∈F,0<=f.2/\f.2<n
theorem zD.at(h:zD F n){r:Int}(hr:kJ F r=true):0<=cR F r/\cR F r<n:=by
 obtain⟨f,h1,h2,h3⟩:=rT F r hr;have:=h.val f h1;omega
theorem pW(F:List (Int×Int))(i:Nat)(low:List Nat)(r:Int):(fR F i low r).length=low.length:=by
 unfold fR;split<;>simp
theorem yK{low:List Nat}(hF:zD F low.length)(hi:i<low.length)(hr:kJ F r=true)(x:Nat):eC (fR F i low r) x=if eC low x=max (eC low i) (eC low (cR F r).toNat)then min (eC low i) (eC low (cR F r).toNat)else eC low x:=by
 have hk:=hF.at hr;have l1:=xJ low i;have l2:=xJ low (cR F r).toNat;have r1:=LA low i;have r2:=LA low (cR F r).toNat;unfold fR;rw[if_pos hr];generalize eC low i=a at*;generalize eC low (cR F r).toNat=b at*;refine aBG low _ _ (by omega) ?_ ?_ (by omega) x
 ·rcases Nat.le_total a b with h|h
  ·rw[Nat.max_eq_right h];exact r2
  ·rw[Nat.max_eq_left h];exact r1
 ·rcases Nat.le_total a b with h|h
  ·rw[Nat.min_eq_left h];exact r1
  ·rw[Nat.min_eq_right h];exact r2
theorem TC{low:List Nat}(hF:zD F low.length)(hi:i<low.length){x y:Nat}(h:eC low x=eC low y):eC (fR F i low r) x=eC (fR F i low r) y:=by
 by_cases hr:kJ F r=true
 ·rw[yK hF hi hr,yK hF hi hr,h]
 ·unfold fR;rw[if_neg hr];exact h
theorem aAT{low:List Nat}(hF:zD F low.length)(hi:i<low.length)(hr:kJ F r=true):eC (fR F i low r) i=eC (fR F i low r) (cR F r).toNat:=by
 rw[yK hF hi hr,yK hF hi hr];generalize eC low i=a;generalize eC low (cR F r).toNat=b;split<;>split<;>omega
theorem kT(F:List (Int×Int))(i:Nat):∀(L:List Int)(low:List Nat),(L.foldl (fR F i) low).length=low.length
 |[],low=>rfl
 |r::L,low=>by rw[fX,kT F i L,pW]
theorem AF{F:List (Int×Int)}{i:Nat}{x y:Nat}:∀(L:List Int)(low:List Nat),zD F low.length->i<low.length->eC low x=eC low y->eC (L.foldl (fR F i) low) x=eC (L.foldl (fR F i) low) y
 |[],low,_,_,h=>h
 |r::L,low,hF,hi,h=>by
  rw[fX];exact AF L _ (by rw[pW];exact hF) (by rw[pW];exact hi) (TC hF hi h)
theorem N2{F:List (Int×Int)}{i:Nat}:∀(L:List Int)(low:List Nat),zD F low.length->i<low.length->∀r∈L,kJ F r=true->eC (L.foldl (fR F i) low) i=eC (L.foldl (fR F i) low) (cR F r).toNat
 |[],low,_,_,r,h,_=>by simp at h
 |q::L,low,hF,hi,r,h,hr=>by
  rw[fX];have hF':zD F (fR F i low q).length:=by rw[pW];exact hF
  have hi':i<(fR F i low q).length:=by rw[pW];exact hi
  rcases aO.1 h with rfl|h
  ·exact AF L _ hF' hi' (aAT hF hi hr)
  ·exact N2 L _ hF' hi' r h hr
def pV(F:List (Int×Int))(E:Nat->List Int):Nat->Nat->List Nat->List Nat
 |0,_,low=>low
 |n+1,k,low=>pV F E n (k+1) ((E k).foldl (fR F k) low)
theorem NZ(F:List (Int×Int))(E:Nat->List Int):∀(n k:Nat)(low:List Nat),(pV F E n k low).length=low.length
 |0,k,low=>rfl
 |n+1,k,low=>by rw[pV,NZ F E n,kT]
theorem HL{F:List (Int×Int)}{E:Nat->List Int}{x y:Nat}:∀(n k:Nat)(low:List Nat),zD F low.length->k+n<=low.length->eC low x=eC low y->eC (pV F E n k low) x=eC (pV F E n k low) y
 |0,k,low,_,_,h=>h
 |n+1,k,low,hF,hk,h=>by
  rw[pV];exact HL n (k+1) _ (by rw[kT];exact hF) (by rw[kT];omega) (AF _ _ hF (by omega) h)
theorem F2{F:List (Int×Int)}{E:Nat->List Int}:∀(n k:Nat)(low:List Nat),zD F low.length->k+n<=low.length->∀i,k<=i->i<k+n->∀r∈E i,kJ F r=true->eC (pV F E n k low) i=eC (pV F E n k low) (cR F r).toNat
 |0,k,low,_,_,i,h1,h2,r,h,hr=>by omega
 |n+1,k,low,hF,hk,i,h1,h2,r,h,hr=>by
  rw[pV];have hF':zD F ((E k).foldl (fR F k) low).length:=by rw[kT];exact hF
  have hk':k+1+n<=((E k).foldl (fR F k) low).length:=by rw[kT];omega
  by_cases e:i=k
  ·subst e;exact HL n _ _ hF' hk' (N2 _ _ hF (by omega) r h hr)
  ·exact F2 n (k+1) _ hF' hk' i (by omega) (by omega) r h hr
theorem V0{E:Nat->List Int}(hF:zD F n)(hi:i<n)(hH:∀x∈H,x∈E i/\kJ F x=true)(hst:∀x q,kJ F x=true->q∈st x->q∈E (cR F x).toNat/\kJ F q=true){x:Int}(h:FD st H x):kJ F x=true/\eC (pV F E n 0 (List.range n)) i=eC (pV F E n 0 (List.range n)) (cR F x).toNat:=by
 have hF':zD F (List.range n).length:=by rw[vT];exact hF
 induction h with
 |base hb=>
  obtain⟨h1,h2⟩:=hH _ hb;exact⟨h2,F2 n 0 _ hF' (by simp) i (by omega) (by omega) _ h1 h2⟩
 |step _ hq ih=>
  obtain⟨h1,h2⟩:=ih;obtain⟨h3,h4⟩:=hst _ _ h1 hq;have hk:=hF.at h1;exact⟨h4,h2.trans (F2 n 0 _ hF' (by simp) _ (by omega) (by omega) _ h3 h4)⟩
def D4.EP(w:D4):Prop:=(w.things.map (·.ref)).Pairwise (· <·)
theorem aIM{L M:List Int}(hM:M.Pairwise (· <·))(hp:L.Perm M):(Go.Sort.sort eF L.toArray)=M.toArray:=by
 have h:(Go.Sort.sort eF L.toArray).toList=M:=by
  rw[GS];have h1:(L.mergeSort λx y=>decide (x<=y)).Perm M:=(List.mergeSort_perm _ _).trans hp;have h2:(L.mergeSort λx y=>decide (x<=y)).Pairwise λa b=>decide (a<=b)=true:=List.pairwise_mergeSort (λa b c h1 h2=>by simp only[decide_eq_true_eq]at*;omega) (λa b=>by simp only[gP,decide_eq_true_eq];omega) L;have h3:M.Pairwise λa b=>decide (a<=b)=true:=hM.imp λh=>by simp only[decide_eq_true_eq];omega
  exact h1.eq_of_pairwise (λa b _ _ h1 h2=>by simp only[decide_eq_true_eq]at*;omega) h2 h3
 exact Array.ext' (by rw[h])
theorem K6(w:D4)(hl:w.things.length<=2^30)(hr:w.EP):∀(m:Mem)(d:Nat),m d=none->aJ Tryz.prog 83 [.d (.ip w.cells)] m (.ok (.h d)) (aX m d (dU 25 1 (iR w.aP))):=by
 refine iW mix (F:=A.h) (r:=dU 25 1 (iR w.aP)) Tryz.func83 rfl (by kernel_rfl) (bD rfl) rfl (oJ _ _ _) (λ_ _=>rfl) (λi j hj=>by simpa [A.hs]using hj) (λg=>eT g _ _ _) ?_;refine bl ?_;have hb:Tryz.prog.bytesOf 25=8:=by kernel_rfl
 have hz:(zc Tryz.prog 8 25).length=Tryz.prog.cellsOf 25:=by kernel_rfl
 have hz2:0<Tryz.prog.cellsOf 25:=bD (by kernel_rfl);refine xR.mk ?_ ?_
 ·rw[aE];refine⟨decide_eq_true ⟨hz,hz2,by omega,by omega,?_,?_⟩,rfl⟩
  ·rw[hb,aB];omega
  ·rw[aB];omega
 conv=>whnf
 refine bl ?_;refine xI rfl ?_;conv=>whnf
 refine bl ?_;refine cY mix (λa:Option (Ky×C)×List T4×List Int=>(a.2.2++a.2.1.map (·.ref)).Perm w.aP) (I:=λa=>[(3,.h 900),(15,.h 97)])
  (J:=λa=>[(900,dU 25 1 (iR a.2.2)),(97,.di a.1 (a.2.1.map T4.kv))]) (μ:=λa=>a.2.1.length) 1000 (none,w.things,[]) 0
  (λQ:List Int=>Q.Perm w.aP) (λQ=>[(3,.h 900)]) (λQ=>[(900,dU 25 1 (iR Q))]) 2000 (.refl _) (by exact mv 49 900) ?_ ?_
 ·rintro⟨cur,L,Q⟩ hp;dsimp only at hp⊢;have hlen:=hp.length_eq;unfold D4.aP at hlen;simp only[aU,aB]at hlen;refine bl ?_;refine tR (λh0=>?_) (λi hi=>?_)
  ·conv=>whnf
   refine bl ?_;subst h0;refine⟨Q,by simpa using hp,?_⟩;exact mv 5000 5001
  ·conv=>whnf
   refine bl ?_;refine n8 (by simp only[aB,bE,cE,aS];omega) (by kernel_rfl) ?_;conv=>whnf
   refine bl ?_;refine⟨(some (T4.kv L[i]),L.eraseIdx i,Q++[L[i].ref]),pR _ _ hi,?_,?_⟩
   ·dsimp only;refine List.Perm.trans ?_ hp;rw[bG];refine qX _ ?_;have:=(CU L i hi).map (λt:T4=>t.ref);exact this.symm
   ·skip
    refine mq 1064 900 ?_
    all_goals exact cO rfl (gG Q [L[i].ref])
 rintro Q hQ;have hlen:=hQ.length_eq;unfold D4.aP at hlen;rw[aB]at hlen;have hs:=aIM hr hQ
 repeat'(first|refine bl ?_|refine lN 900 (iG (Go.Sort.sort eF Q.toArray)) ((Q5 Q.toArray (by simp only[nJ];omega)).AK (oJ _ _ _) (λg=>eT g _ _ _) (λg=>eT g _ _ _) rfl (by simp[A.lQ,A.hs]) (aK _) 900 rfl) (bw ?_))
 rw[hs];exact⟨_,rfl,rfl⟩
def xP:List Bool->Int->List Int
 |[],_=>[]
 |b::r,k=>if b=true then k::xP r (k+1)else xP r (k+1)
theorem aBH(L M:List T4):bE (L.map T4.cells)++bE (M.map T4.cells)=bE ((L++M).map T4.cells):=by simp[bE]
def D4.tell(w:D4):X4:=⟨w.parents,xP w.cut 0,w.things,w.last,w.made⟩
theorem ZC(w:D4)(hg:w.gA)(hr:w.EP)(h1:w.parents.length<=2^38)(h2:w.made.length<=2^38)(h3:w.cut.length<=2^36):∀m,aJ Tryz.prog 38 [.d (.ip w.cells)] m (.ok (.d (.agg w.tell.cells))) m:=by
 refine iC mix Tryz.func38 ?_
 repeat'(first|refine bl ?_|refine aF (vQ w) (bw ?_)|refine cH (G6 (iR w.made) (by simp only[aB];omega) (by simp)) (bw ?_)|refine cH (DG (iR w.parents) (by simp only[aB];omega) (by simp)) (bw ?_))
 have hyl:∀(L:List Bool)(k:Int),(xP L k).length<=L.length:=λL=>by
  induction L with
  |nil=>intro k;simp[xP]
  |cons b r ih=>intro k;rw[xP];have:=ih (k+1);split<;>simp only[aQ]<;>omega
 refine cY mix (λa:Nat×List Int=>a.1<=w.cut.length/\a.2++xP (w.cut.drop a.1) a.1=xP w.cut 0) (I:=λa=>[(0,.d (.ip w.cells)),(2,.lp 1 0),(3,.lp 145 0),(29,.d (.sl 1 (w.cut.map λb=>[cb b]))),(30,.d (ci w.cut.length)),(31,.d (ci a.1))])
  (J:=λa=>(1,.cells false (List.map A.d (zc Tryz.prog 8 27)))::(145,.cells false [.d (.sl 1 (iR w.parents)),lv 1 900 (iR a.2),.d (.nl 17),.d (ci w.last),.d (.sl 1 (iR w.made))])::lm 900 3 1 (iR a.2) []) (μ:=λa=>w.cut.length -a.1) 1000 (0,[]) 0
  (λ_:Unit=>True) (λ_=>[(0,.d (.ip w.cells)),(2,.lp 1 0),(3,.lp 145 0)]) (λ_=>[(1,.cells false (List.map A.d (zc Tryz.prog 8 27))),(145,.cells false [.d (.sl 1 (iR w.parents)),.d (.sl 1 (iR (xP w.cut 0))),.d (.nl 17),.d (ci w.last),.d (.sl 1 (iR w.made))])]) 2000 ⟨by simp,by simp⟩ (by exact mv 5000 5001) ?_ ?_
 ·rintro⟨i,Q⟩ ⟨hi,hQ⟩;dsimp only at hi hQ⊢;have hql:Q.length<=w.cut.length:=by
   have h5:=congrArg List.length hQ;have h6:=hyl w.cut 0;simp only[aU]at h5;omega
  have hst:∀(h:i<w.cut.length),(w.cut[i]=true->(Q++[(i:Int)])++xP (w.cut.drop (i+1)) ((i+1:Nat):Int)=xP w.cut 0)/\(w.cut[i]=false->Q++xP (w.cut.drop (i+1)) ((i+1:Nat):Int)=xP w.cut 0):=λh=>by
   rw[dE h,xP]at hQ;rw[show(i:Int)+1=((i+1:Nat):Int) by omega]at hQ;constructor<;>intro e<;>rw[e]at hQ
   ·rw[if_pos rfl]at hQ;rw[bG];exact hQ
   ·rw[if_neg gO]at hQ;exact hQ
  cases Q with
  |nil=>
   show vc _ _ _ _ _ [(1,.cells false (List.map A.d (zc Tryz.prog 8 27))),(145,.cells false [.d (.sl 1 (iR w.parents)),.d (.nl 1),.d (.nl 17),.d (ci w.last),.d (.sl 1 (iR w.made))])] _ _
   repeat'(first|refine bl ?_|refine bS (λh=>?_) (λh=>?_)|refine cD rfl (by decide) (by assumption) (bw ?_))
   ·refine n8 (by simp only[aB,bE,cE,aS];omega) (by kernel_rfl) ?_;conv=>whnf
    refine E9.mk (λh=>by cases h) (λh=>?_);conv=>whnf
    refine bl ?_;refine⟨(i+1,[(i:Int)]),by dsimp only;omega,⟨by dsimp only;omega,(hst (by assumption)).1 (by assumption)⟩,?_⟩;dsimp only[iR,List.map_cons,List.map_nil,lv,lm];exact mv 1088 900
    all_goals exact cO rfl rfl
   ·refine⟨(i+1,[]),by dsimp only;omega,⟨by dsimp only;omega,(hst (by assumption)).2 (by assumption)⟩,?_⟩;dsimp only[iR,List.map_cons,List.map_nil,lv,lm];exact mv 5000 5001
   ·rw[dT (by omega),xP,dS]at hQ;refine⟨(),trivial,?_⟩;rw[<-hQ];exact cN.freeze [] trivial ⟨.same _,.same _,.same _,trivial⟩ ⟨⟨rfl,_,rfl,.cells (.same _)⟩,⟨rfl,_,rfl,.cells (.cons (.same _) (.cons (.rd (.nz _ _)) (.same _)))⟩,trivial⟩ ⟨trivial,⟨sn,trivial⟩,⟨sn,trivial⟩,trivial⟩ ⟨trivial,trivial,trivial⟩
  |cons q0 Q=>
   show vc _ _ _ _ _ [(1,.cells false (List.map A.d (zc Tryz.prog 8 27))),(145,.cells false [.d (.sl 1 (iR w.parents)),.h 900,.d (.nl 17),.d (ci w.last),.d (.sl 1 (iR w.made))]),(900,dU 3 1 (iR (q0::Q)))] _ _
   repeat'(first|refine bl ?_|refine bS (λh=>?_) (λh=>?_)|refine cD rfl (by decide) (by assumption) (bw ?_))
   ·refine n8 (by simp only[aB,bE,cE,aS];omega) (by kernel_rfl) ?_;conv=>whnf
    refine bl ?_;refine⟨(i+1,q0::(Q++[(i:Int)])),by dsimp only;omega,⟨by dsimp only;omega,(hst (by assumption)).1 (by assumption)⟩,?_⟩;dsimp only[iR,List.map_cons,List.map_nil,lv,lm];refine mq 1088 900 ?_
    all_goals exact cO rfl (gG (q0::Q) [(i:Int)])
   ·refine⟨(i+1,q0::Q),by dsimp only;omega,⟨by dsimp only;omega,(hst (by assumption)).2 (by assumption)⟩,?_⟩;dsimp only[iR,List.map_cons,List.map_nil,lv,lm];exact mv 5000 5001
    all_goals exact cO rfl rfl
   ·rw[dT (by omega),xP,dS]at hQ;refine⟨(),trivial,?_⟩;rw[<-hQ];exact cN.freeze [900] trivial ⟨.same _,.same _,.same _,trivial⟩ ⟨⟨rfl,_,rfl,.cells (.same _)⟩,⟨rfl,_,rfl,.cells (.cons (.same _) (.cons (.rd (.dU (eX rfl rfl))) (.same _)))⟩,trivial⟩ ⟨trivial,⟨sn,trivial⟩,⟨sn,trivial⟩,trivial⟩ ⟨trivial,trivial,trivial⟩
 rintro _ _
 repeat'(first|refine bl ?_|refine fQ (K6 w hg.len hr) 3000 rfl (bw ?_))
 have hnl:w.aP.length=w.things.length:=by unfold D4.aP;rw[aB]
 refine cY mix (λi:Nat=>i<=w.things.length) (I:=λi=>[(0,.d (.ip w.cells)),(2,.lp 1 0),(3,.lp 145 0),(45,.d (.sl 1 (iR w.aP))),(46,.d (ci w.aP.length)),(47,.d (ci i))])
  (J:=λi=>(1,.cells false (List.map A.d (zc Tryz.prog 8 27)))::(145,.cells false [.d (.sl 1 (iR w.parents)),.d (.sl 1 (iR (xP w.cut 0))),lv 17 900 ((w.things.take i).map T4.cells),.d (ci w.last),.d (.sl 1 (iR w.made))])::lm 900 93 17 ((w.things.take i).map T4.cells) []) (μ:=λi=>w.things.length -i) 5000 0 2
  (λ_:Unit=>True) (λ_=>[(2,.lp 1 0),(3,.lp 145 0)]) (λ_=>[(1,.cells false (List.map A.d (zc Tryz.prog 8 27))),(145,.cells false [.d (.sl 1 (iR w.parents)),.d (.sl 1 (iR (xP w.cut 0))),.d (.sl 17 (w.things.map T4.cells)),.d (ci w.last),.d (.sl 1 (iR w.made))])]) 7000 (by omega) ?_ ?_ ?_
 ·refine cN.freeze [3000] trivial ⟨.same _,.same _,.same _,.rd (.dU (eX rfl rfl)),cvE (qD (by simp only[aB,bE])),.same _,trivial⟩ ⟨⟨rfl,_,rfl,.cells (.same _)⟩,⟨rfl,_,rfl,.cells (.same _)⟩,trivial⟩ ⟨trivial,⟨sn,trivial⟩,⟨sn,trivial⟩,trivial,trivial,trivial,trivial⟩ ?_;rw[fD];exact⟨trivial,trivial,trivial⟩
 ·intro i hi;have hst:∀(h:i<w.things.length),w.aP[i]'(by omega)=w.things[i].ref/\w.find w.things[i].ref=some w.things[i]/\w.things.take (i+1)=w.things.take i++[w.things[i]]:=λh=>by
   refine⟨by simp[D4.aP],?_,aT h⟩;unfold D4.find;cases hf:w.things.find? λt=>decide (t.ref=w.things[i].ref)with
   |none=>
    have:=mN.1 hf w.things[i] (aY h);simp at this
   |some t=>
    have e1:=iD hf;simp only[decide_eq_true_eq]at e1;obtain⟨j,hj,e2⟩:=dH.1 (cT hf);subst e2;have hn:=hg.nodup;have:j=i:=by
     refine(jB (h₀:=by simpa using hj) (h₁:=by simpa using h) hn).1 ?_;simpa using e1
    subst this;rfl
  have hlt0:(w.things.take i).length<=w.things.length:=by simp;omega
  have hgl:=hg.len;generalize hQ:w.things.take i=Q at hst hlt0⊢;cases Q with
  |nil=>
   show vc _ _ _ _ _ [(1,.cells false (List.map A.d (zc Tryz.prog 8 27))),(145,.cells false [.d (.sl 1 (iR w.parents)),.d (.sl 1 (iR (xP w.cut 0))),.d (.nl 17),.d (ci w.last),.d (.sl 1 (iR w.made))])] _ _
   repeat'(first|refine bl ?_|refine bS (λh=>?_) (λh=>?_)|refine cD rfl (by decide) (by assumption) (bw ?_))
   ·have hlt:i<w.aP.length:=by assumption
    obtain⟨s1,s2,s3⟩:=hst (by omega);refine EA (by decide) (λt ht=>?_) (λht=>?_)
    ·have e:t=w.things[i]'(by omega):=eY ((show w.find w.aP[i]=some t from ht).symm.trans (by rw[s1];exact s2));subst e;have hm:=aY (show i<w.things.length by omega);obtain⟨m1,m2,m3⟩:=hg.may _ hm;have hcn:=hg.cR _ hm;conv=>whnf
     repeat' refine cH (yX _ (by omega) m1 m2 m3) (bw ?_)
     rw[s1];refine n8 (by simp only[aB,bE,cE,aS,aQ]at*;omega) (by kernel_rfl) ?_;conv=>whnf
     refine E9.mk (λh=>by cases h) (λh=>?_);conv=>whnf
     refine bl ?_;refine⟨i+1,by omega,by omega,?_⟩;rw[s3];dsimp only[List.nil_append,List.map_cons,List.map_nil,lv,lm];exact mv 5144 900
     all_goals exact cO rfl rfl
    ·exfalso;have:w.find w.aP[i]=none:=ht;rw[s1,s2]at this;cases this
   ·rw[aI (by omega)]at hQ;refine⟨(),trivial,?_⟩;rw[hQ];exact cN.freeze [] trivial ⟨.same _,.same _,trivial⟩ ⟨⟨rfl,_,rfl,.cells (.same _)⟩,⟨rfl,_,rfl,.cells (.cons (.same _) (.cons (.same _) (.cons (.rd (.nz _ _)) (.same _))))⟩,trivial⟩ ⟨⟨sn,trivial⟩,⟨sn,trivial⟩,trivial⟩ ⟨trivial,trivial,trivial⟩
  |cons q0 Q=>
   show vc _ _ _ _ _ [(1,.cells false (List.map A.d (zc Tryz.prog 8 27))),(145,.cells false [.d (.sl 1 (iR w.parents)),.d (.sl 1 (iR (xP w.cut 0))),.h 900,.d (ci w.last),.d (.sl 1 (iR w.made))]),(900,dU 93 17 ((q0::Q).map T4.cells))] _ _
   repeat'(first|refine bl ?_|refine bS (λh=>?_) (λh=>?_)|refine cD rfl (by decide) (by assumption) (bw ?_))
   ·have hlt:i<w.aP.length:=by assumption
    obtain⟨s1,s2,s3⟩:=hst (by omega);refine EA (by decide) (λt ht=>?_) (λht=>?_)
    ·have e:t=w.things[i]'(by omega):=eY ((show w.find w.aP[i]=some t from ht).symm.trans (by rw[s1];exact s2));subst e;have hm:=aY (show i<w.things.length by omega);obtain⟨m1,m2,m3⟩:=hg.may _ hm;have hcn:=hg.cR _ hm;conv=>whnf
     repeat' refine cH (yX _ (by omega) m1 m2 m3) (bw ?_)
     rw[s1];refine n8 (by simp only[aB,bE,cE,aS,aQ]at*;omega) (by kernel_rfl) ?_;conv=>whnf
     refine bl ?_;refine⟨i+1,by omega,by omega,?_⟩;rw[s3];dsimp only[List.cons_append,List.map_cons,List.map_nil,lv,lm];refine mq 5144 900 ?_
     all_goals exact cO rfl (aBH (q0::Q) [w.things[i]])
    ·exfalso;have:w.find w.aP[i]=none:=ht;rw[s1,s2]at this;cases this
   ·rw[aI (by omega)]at hQ;refine⟨(),trivial,?_⟩;rw[hQ];exact cN.freeze [900] trivial ⟨.same _,.same _,trivial⟩ ⟨⟨rfl,_,rfl,.cells (.same _)⟩,⟨rfl,_,rfl,.cells (.cons (.same _) (.cons (.same _) (.cons (.rd (.dU (eX rfl rfl))) (.same _))))⟩,trivial⟩ ⟨⟨sn,trivial⟩,⟨sn,trivial⟩,trivial⟩ ⟨trivial,trivial,trivial⟩
 rintro _ _;refine bl ?_;exact .one (.agg (wJ.data _ w.tell.cells))
end Go.Pv
