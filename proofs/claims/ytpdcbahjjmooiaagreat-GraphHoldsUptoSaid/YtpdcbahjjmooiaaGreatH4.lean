import Derived.Test.YtpdcbahjjmooiaaGreatH3
import Derived.Orders
import Derived.Laws.StructEq
/- A program logic over the model, contracts of the functions that the law reaches: part 4. (Names and blanks were shortened by program.) -/
set_option linter.unusedVariables false
set_option linter.unusedSimpArgs false
set_option linter.constructorNameAsVariable false
set_option linter.unusedSectionVars false
set_option linter.deprecated false
set_option maxRecDepth 100000
set_option maxHeartbeats 8000000
open Go
namespace Go.Pv
open Go.RowKit
variable{m m1:Mem}{X:Nat->Bool}{t:TypeId}{k:Ky}
def R.hs:R->List Nat
 |.cells _ l=>A.lQ l
 |.fW _ _ _ l=>A.lQ l.flatten
 |.mp _ kv st=>A.lQ (kv.map (·.2))++st.map (·.2)
 |.fr l=>A.lQ l
 |.it i sc start _=>i::sc::start
 |.lo _ _ ts _ _ _=>A.lQ ts
 |.cu src _ l=>src.hs++A.lQ l.flatten
 |_=>[]
theorem Has.restrict(hm:∀i r,m1 i=some r->m i=some r){i:Nat}(hi:m1 i≠none){p q:Prop}(h:Has m i p)(hpq:m1 i=m i->p->q):Has m1 i q:=by
 refine⟨hi,λhd=>?_⟩;cases h1:m1 i with
 |none=>exact absurd h1 hi
 |some r=>
  have h2:=hm i r h1;exact hpq (by rw[h1,h2]) (h.2 (by rw[h2];rw[h1]at hd;exact hd))
theorem FA.restrict(hm:∀i r,m1 i=some r->m i=some r){ids:List Nat}(hi:∀i∈ids,m1 i≠none){p:Prop}(h:FA m ids p):FA m1 ids p:=by
 refine⟨hi,λhd=>h.2 λi hii e=>hd i hii ?_⟩;cases h1:m1 i with
 |none=>exact absurd h1 (hi i hii)
 |some r=>rw[<-e,hm i r h1]
mutual
theorem A.kU{w:World}{M:Nat->Prop}{m m1:Mem}{ρ:Nat->Value}(hm:∀i r,m1 i=some r->m i=some r):∀(a:A)(y:Value),(∀i∈a.hs,m1 i≠none)->a.Den w M m ρ y->a.Den w M m1 ρ y
 |.d c,y,_,hd=>by simpa only[A.Den]using hd
 |.lp i off,y,hi,hd=>by
  simp only[A.Den]at hd⊢;exact hd.restrict hm (hi i (by simp[A.hs])) λ_ e=>e
 |.h i,y,hi,hd=>by
  simp only[A.Den]at hd⊢;exact hd.restrict hm (hi i (by simp[A.hs])) λ_ e=>e
 |.ep i es k off,y,hi,hd=>by
  simp only[A.Den]at hd⊢;exact hd.restrict hm (hi i (by simp[A.hs])) λ_ e=>e
 |.sv i lo n,y,hi,hd=>by
  simp only[A.Den]at hd⊢;exact hd.restrict hm (hi i (by simp[A.hs])) λe⟨a,cap,h1,h2,es,fz,t,l,h5,h6⟩=>⟨a,cap,h1,h2,es,fz,t,l,e.trans h5,h6⟩
 |.fn f first caps,y,hi,hd=>by
  simp only[A.Den]at hd⊢;obtain⟨us,vs,hy,h1,h2⟩:=hd;exact⟨us,vs,hy,A.fG hm first _ (λi h=>hi i (by simp[A.hs,h])) h1,A.fG hm caps _ (λi h=>hi i (by simp[A.hs,h])) h2⟩
 |.agg l,y,hi,hd=>by
  simp only[A.Den]at hd⊢;obtain⟨vs,hy,h0,h1⟩:=hd;exact⟨vs,hy,h0,A.fG hm l _ (λi h=>hi i (by simpa [A.hs]using h)) h1⟩
 |.eL l,y,hi,hd=>by
  simp only[A.Den]at hd⊢;obtain⟨vs,hy,h1⟩:=hd;exact⟨vs,hy,A.fG hm l _ (λi h=>hi i (by simpa [A.hs]using h)) h1⟩
 |.AE t a,y,hi,hd=>by
  simp only[A.Den]at hd⊢;obtain⟨v,hy,h1⟩:=hd;exact⟨v,hy,A.kU hm a _ (λi h=>hi i (by simpa [A.hs]using h)) h1⟩
 |.x,y,_,hd=>by simp only[A.Den]
theorem A.fG{w:World}{M:Nat->Prop}{m m1:Mem}{ρ:Nat->Value}(hm:∀i r,m1 i=some r->m i=some r):∀(l:List A)(ys:List Value),(∀i∈A.lQ l,m1 i≠none)->A.bR w M m ρ l ys->A.bR w M m1 ρ l ys
 |[],ys,_,hd=>by simpa only[A.bR]using hd
 |c::r,ys,hi,hd=>by
  simp only[A.bR]at hd⊢;obtain⟨y,yr,hy,h1,h2⟩:=hd;exact⟨y,yr,hy,A.kU hm c y (λi h=>hi i (by simp[A.lQ,h])) h1,A.fG hm r yr (λi h=>hi i (by simp[A.lQ,h])) h2⟩
end
theorem R.rY{w:World}{M:Nat->Prop}{ρ:Nat->Value}(hm:∀i r,m1 i=some r->m i=some r){r:R}{h:Value}(hi:∀i∈r.hs,m1 i≠none)(hr:r.Ok w M m ρ h):r.Ok w M m1 ρ h:=by
 cases r with
 |dead=>trivial
 |cells fz l=>
  obtain⟨b,cs,t,e,h1,h2,h3⟩:=hr;exact⟨b,cs,t,e,h1,A.fG hm _ _ (λi q=>hi i (by simpa [R.hs]using q)) h2,h3⟩
 |fW fz t es l=>
  obtain⟨xs,h1,h2,h3⟩:=hr;exact⟨xs,h1,A.fG hm _ _ (λi q=>hi i (by simpa [R.hs]using q)) h2,h3⟩
 |fr l=>
  obtain⟨vs,e,h1⟩:=hr;exact⟨vs,e,A.fG hm _ _ (λi q=>hi i (by simpa [R.hs]using q)) h1⟩
 |it i sc start seen=>
  obtain⟨b,mb,si,sa,e,h1,h2,h5,h4⟩:=hr;exact⟨b,mb,si,sa,e,h1,h2.restrict hm (hi i (by simp[R.hs])) λ_ q=>q,h5.restrict hm (hi sc (by simp[R.hs])) λ_ q=>q,h4.1,FA.restrict hm (λj hj=>hi j (by simp[R.hs,hj])) h4.2⟩
 |wL=>exact hr
 |AV=>exact hr
 |si s pos=>exact hr
 |di cur rest=>exact hr
 |df tk=>exact hr
 |cu src es l=>
  obtain⟨a,e,h1,h2,h3⟩:=hr;refine⟨a,e,A.kU hm _ _ (λi q=>hi i (by simp only[R.hs,bN];exact .inl q)) h1,h2,h3.imp id ?_⟩;rintro⟨b,off,xs,e,h4,h5,h6,h7⟩;exact⟨b,off,xs,e,h4,h5,A.fG hm _ _ (λi q=>hi i (by simp only[R.hs,bN];exact .inr q)) h6,h7⟩
 |lo st pend ts ps asg bod=>
  obtain⟨l,fn,vs,D,e,h1,h2⟩:=hr;exact⟨l,fn,vs,D,e,h1,A.fG hm _ _ (λi q=>hi i (by simpa [R.hs]using q)) h2⟩
 |mp fz kv st=>
  obtain⟨b,es,cl,l,e,h1,h2,h3,h4,h5⟩:=hr;exact⟨b,es,cl,l,e,h1,h2,A.fG hm _ _ (λi q=>hi i (by simp[R.hs,q])) h3,h4,λp hp=>(h5 p hp).restrict hm (hi p.2 (by simp only[R.hs,bN];exact .inr (aA4.2 ⟨p,hp,rfl⟩))) λ_ q=>q⟩
theorem pN:∀(u:List (Nat×R)){m1 m:Mem},(∀i r,m1 i=some r->m i=some r)->∀i r,aH m1 u i=some r->aH m u i=some r
 |[],m1,m,h,i,r,e=>h i r e
 |(j,q)::t,m1,m,h,i,r,e=>by
  simp only[aH]at e⊢;refine pN t (λk s hk=>?_) i r e;by_cases hkj:k=j
  ·subst hkj;simpa [aX]using hk
  ·simp[aX,hkj]at hk⊢;exact h k s hk
theorem nP:∀(u:List (Nat×R)){m1:Mem}{i:Nat},aH m1 u i=none->m1 i=none/\∀m:Mem,aH m u i=m i
 |[],m1,i,e=>⟨e,λ_=>rfl⟩
 |(j,q)::t,m1,i,e=>by
  simp only[aH]at e⊢;obtain⟨h1,h2⟩:=nP t e;have hij:i≠j:=by rintro rfl;simp[aX]at h1
  exact⟨by simpa [aX,hij]using h1,λm=>by rw[h2];simp[aX,hij]⟩
theorem xS:∀(u:List (Nat×R)){m1:Mem}{i:Nat},m1 i=none->aH m1 u i≠none->∃p∈u,p.1=i
 |[],m1,i,h,e=>absurd h e
 |(j,q)::t,m1,i,h,e=>by
  by_cases hij:i=j
  ·exact⟨(j,q),sM,hij.symm⟩
  ·simp only[aH]at e;obtain⟨p,hp,hpi⟩:=xS t (m1:=aX m1 j q) (by simp[aX,hij,h]) e;exact⟨p,by simp[hp],hpi⟩
theorem qT.frame{P:Program}{o:Oper}{T1 T:Nat->A}{v:A}{ups:List (Nat×R)}(h:qT P o T1 m1 v (aH m1 ups))(hT:∀n,T1 n=.x\/(T1 n=T n/\∀i∈(T n).hs,m1 i≠none))
 (hm:∀i r,m1 i=some r->m i=some r)(n0:∀i r,m1 i=some r->∀j∈r.hs,m1 j≠none)(aXW:∀p∈ups,m1 p.1=none->m p.1=none):qT P o T m v (aH m ups):=by
 intro ro N M0 S0 w0 ρ a w hs cX next Q hn
 let M1:Nat->Prop:=λb=>M0 b\/∃i r,m i=some r/\m1 i=none/\r.live=true/\jK (ρ i)=some b;let S1:Nat->Prop:=λb=>∃i r,m1 i=some r/\r.live=true/\jK (ρ i)=some b;have aXP:∀b,dD M1 m1 ρ b↔dD M0 m ρ b:=by
  intro b;constructor
  ·rintro((e|⟨i,r,e1,_,e2,e3⟩)|⟨i,r,e1,e2,e3⟩)
   ·exact .inl e
   ·exact .inr ⟨i,r,e1,e2,e3⟩
   ·exact .inr ⟨i,r,hm i r e1,e2,e3⟩
  ·rintro(e|⟨i,r,e1,e2,e3⟩)
   ·exact .inl (.inl e)
   ·cases hi:m1 i with
    |none=>exact .inl (.inr ⟨i,r,e1,hi,e2,e3⟩)
    |some r'=>
     have:=hm i r' hi;rw[e1]at this;simp at this;subst this;exact .inr ⟨i,r,hi,e2,e3⟩
 have aYN:dD M1 m1 ρ=dD M0 m ρ:=funext λb=>propext (aXP b);have h0:bC M1 S1 w ⟨N.n,none⟩ T1 m1 ρ a w:=
  {keeps:=iF.refl _ _,size:=hs.size,defers:=λds e=>by cases e
   tmps:=λn=>by
    rw[aYN];rcases hT n with e|⟨e,a2C⟩
    · rw[e];simp only[A.Den]
    · rw[e];exact A.kU hm _ _ a2C (hs.tmps n)
   res:=λi r hi=>by rw[aYN];exact R.rY hm (n0 i r hi) (hs.res i r (hm i r hi))
   own:=λi r b hi hl hb=>by
    obtain⟨x,y,z⟩:=hs.own i r b (hm i r hi) hl hb;refine⟨.inr ⟨i,r,hi,hl,hb⟩,?_,z⟩;rintro(e|⟨j,s,e1,e2,e3,e4⟩)
    · exact y e
    · have:=hs.apart i j r s b (hm i r hi) hl e1 e3 hb e4
      subst this;rw[hi]at e2;cases e2
   apart:=λi j r s b hi l1 hj l2 b1 b2=>hs.apart i j r s b (hm i r hi) l1 (hm j s hj) l2 b1 b2}
 have aYE:∀b,M1 b->b<w.heap.size:=λb hb=>V8 hs cX b ((aXP b).1 (.inl hb));refine h ro ⟨N.n,none⟩ M1 S1 w ρ a w h0 aYE next Q ?_
 intro y w' ρ' h1 hO hv;let ρ2:Nat->Value:=λi=>if(aH m1 ups i).isSome then ρ' i else ρ i
 have hA:∀{i:Nat}{r:R},aH m1 ups i=some r->aH m ups i=some r/\ρ2 i=ρ' i:=λ{i r}e=>⟨pN ups hm i r e,by simp[ρ2,e]⟩;have hB:∀{i:Nat},aH m1 ups i=none->m1 i=none/\aH m ups i=m i/\ρ2 i=ρ i:=λ{i}e=>⟨(nP ups e).1,(nP ups e).2 m,by simp[ρ2,e]⟩;have kk:=h1.keeps;have hS1:∀b,S1 b->dD M0 m ρ b:=λb⟨i,r,e1,e2,e3⟩=>.inr ⟨i,r,hm i r e1,e2,e3⟩;have eB:dV (dD M0 m ρ) w w':=kk.stays λb _ e=>hS1 b e;have hon:gL m (aH m ups) ρ ρ2:=by
  intro i hi;cases h':aH m1 ups i with
  |none=>
   obtain⟨e1,e2,e3⟩:=hB h';rw[e2];exact⟨hi,λhd=>⟨hd,e3,λfz t es l e=>⟨fz,t,l,e,rfl⟩⟩⟩
  |some r=>
   obtain⟨e1,e2⟩:=hA h';rw[e1];refine⟨sM,λhd=>?_⟩;cases PE:m1 i with
   |none=>
    obtain⟨p,hp,rfl⟩:=xS ups PE (by rw[h'];simp);exact absurd (aXW p hp PE) hi
   |some r0=>
    have aYF:=hm i r0 PE;obtain⟨_,q⟩:=hO i (by rw[PE];simp);rw[h']at q;obtain⟨q1,q2,q3⟩:=q hd;rw[aYF];rw[PE]at q1 q3;exact⟨q1,by rw[e2];exact q2,q3⟩
 have aVM:∀b,dD M0 (aH m ups) ρ2 b->b<w.heap.size->dD M0 m ρ b:=by
  rintro b (e|⟨i,r,hi,hl,hb⟩) hbl
  ·exact .inl e
  ·cases h':aH m1 ups i with
   |none=>
    obtain⟨e1,e2,e3⟩:=hB h';rw[e2]at hi;rw[e3]at hb;exact .inr ⟨i,r,hi,hl,hb⟩
   |some r'=>
    obtain⟨e1,e2⟩:=hA h';rw[e1]at hi;simp at hi;subst hi;rw[e2]at hb;rcases(h1.own i r' b h' hl hb).1 with q|q
    ·omega
    ·exact hS1 b q
 have aYY:∀b,dD M0 (aH m ups) ρ2 b->dD M1 (aH m1 ups) ρ' b:=by
  rintro b (e|⟨i,r,hi,hl,hb⟩)
  ·exact .inl (.inl e)
  ·cases h':aH m1 ups i with
   |none=>
    obtain⟨e1,e2,e3⟩:=hB h';rw[e2]at hi;rw[e3]at hb;exact .inl (.inr ⟨i,r,hi,e1,hl,hb⟩)
   |some r'=>
    obtain⟨e1,e2⟩:=hA h';rw[e1]at hi;simp at hi;subst hi;rw[e2]at hb;exact .inr ⟨i,r',h',hl,hb⟩
 have aY6:gL (aH m1 ups) (aH m ups) ρ' ρ2:=by
  intro i hi;cases h':aH m1 ups i with
  |none=>exact absurd h' hi
  |some r=>
   obtain⟨e1,e2⟩:=hA h';rw[e1];exact⟨sM,λhd=>⟨hd,e2,λfz t es l e=>⟨fz,t,l,e,rfl⟩⟩⟩
 refine hn y w' ρ2 ?_ hon (A.dC (dV.refl _ w') (λb hb _=>aYY b hb) aY6 _ _ hv)
 refine{keeps:=hs.keeps.trans kk λb hb⟨i,r,e1,e2,e3⟩=>?_,size:=h1.size,defers:=λds e=>eJ eB aVM hon _ _ (hs.defers ds e)
        tmps:=λn=>A.dC eB aVM hon _ _ (hs.tmps n)
        res:=λi r hi=>?_,own:=λi r b hi hl hb=>?_,apart:=λi j r s b hi l1 hj l2 b1 b2=>?_}
 ·rcases(hs.own i r b (hm i r e1) e2 e3).1 with q|q
  ·omega
  ·exact q
 ·cases h':aH m1 ups i with
  |some r'=>
   obtain⟨e1,e2⟩:=hA h';rw[e1]at hi;simp at hi;subst hi;rw[e2];exact R.hU (dV.refl _ w') (λb hb _=>aYY b hb) aY6 (λ_ _ _=>rfl) (h1.res i r' h')
  |none=>
   obtain⟨e1,e2,e3⟩:=hB h';rw[e2]at hi;rw[e3];by_cases hd:r=.dead
   ·subst hd;trivial
   ·refine R.hU eB aVM hon (λb hb aVU=>?_) (hs.res i r hi);refine kk.block b aVU ?_;rintro⟨j,s,q1,q2,q3⟩;have hij:i≠j:=by rintro rfl;rw[e1]at q1;cases q1
    exact hs.other (hm j s q1) q2 q3 hi hd hij hb
 ·cases h':aH m1 ups i with
  |some r'=>
   obtain⟨e1,e2⟩:=hA h';rw[e1]at hi;simp at hi;subst hi;rw[e2]at hb;obtain⟨x,y,z⟩:=h1.own i r' b h' hl hb;refine⟨?_,λe=>y (.inl e),z⟩;rcases x with q|⟨j,s,q1,q2,q3⟩
   ·exact .inl (cL hs.keeps.size q)
   ·exact(hs.own j s b (hm j s q1) q2 q3).1
  |none=>
   obtain⟨e1,e2,e3⟩:=hB h';rw[e2]at hi;rw[e3]at hb;obtain⟨x,y,z⟩:=hs.own i r b hi hl hb;exact⟨x,y,cG z kk.size⟩
 ·cases h':aH m1 ups i with
  |some r'=>
   obtain⟨e1,e2⟩:=hA h';rw[e1]at hi;simp at hi;subst hi;rw[e2]at b1;cases h2:aH m1 ups j with
   |some s'=>
    obtain⟨e3,e4⟩:=hA h2;rw[e3]at hj;simp at hj;subst hj;rw[e4]at b2;exact h1.apart i j r' s' b h' l1 h2 l2 b1 b2
   |none=>
    obtain⟨e3,e4,e5⟩:=hB h2;rw[e4]at hj;rw[e5]at b2;exact absurd (.inr ⟨j,s,hj,e3,l2,b2⟩) (h1.own i r' b h' l1 b1).2.1
  |none=>
   obtain⟨e1,e2,e3⟩:=hB h';rw[e2]at hi;rw[e3]at b1;cases h2:aH m1 ups j with
   |some s'=>
    obtain⟨e4,e5⟩:=hA h2;rw[e4]at hj;simp at hj;subst hj;rw[e5]at b2;exact absurd (.inr ⟨i,r,hi,e1,l1,b1⟩) (h1.own j s' b h2 l2 b2).2.1
   |none=>
    obtain⟨e4,e5,e6⟩:=hB h2;rw[e5]at hj;rw[e6]at b2;exact hs.apart i j r s b hi l1 hj l2 b1 b2
structure Rec where
 dst:Option Nat
 v:A
 u:List (Nat×R)
def mK(T:Nat->A):List Rec->Nat->A
 |[]=>T
 |r::rs=>mK (lI T r.dst r.v) rs
def kZ(m:Mem):List Rec->Mem
 |[]=>m
 |r::rs=>kZ (aH m r.u) rs
def nM(X:Nat->Bool):Nat->List Rec->List Rec
 |_,[]=>[]
 |k,r::rs=>if X k then r::nM X (k+1) rs else nM X (k+1) rs
theorem n9:∀(u:List (Nat×R))(m:Mem){n:Nat},(∀p∈u,p.1≠n)->aH m u n=m n
 |[],m,n,_=>rfl
 |(i,r)::t,m,n,h=>by
  simp only[aH];rw[n9 t _ (λp hp=>h p (by simp[hp]))];have:n≠i:=λe=>h (i,r) sM e.symm;simp[aX,this]
theorem sZ:∀(u:List (Nat×R)){m m':Mem}{n:Nat},m n=m' n->aH m u n=aH m' u n
 |[],m,m',n,h=>h
 |(i,r)::t,m,m',n,h=>by
  simp only[aH];refine sZ t ?_;unfold aX;split
  ·rfl
  ·exact h
theorem RP(u v:List (Nat×R))(m:Mem)(h:∀p∈u,∀q∈v,q.1≠p.1):aH (aH m u) v=aH (aH m v) u:=by
 funext n;by_cases hn:∃p∈u,p.1=n
 ·obtain⟨p,hp,rfl⟩:=hn;rw[n9 v _ (λq hq=>h p hp q hq)];exact sZ u (n9 v _ (λq hq=>h p hp q hq)).symm
 ·have hn':∀p∈u,p.1≠n:=λp hp e=>hn ⟨p,hp,e⟩;rw[n9 u (aH m v) hn'];exact sZ v (n9 u _ hn')
theorem aBS(T:Nat->A)(d e:Option Nat)(v x:A)(h:∀n,d=some n->e≠some n):lI (lI T d v) e x=lI (lI T e x) d v:=by
 funext n;unfold lI;by_cases h1:d=some n
 ·have:=h n h1;simp[h1,this]
 ·simp[h1]
theorem OI(u:List (Nat×R)):∀(l:List Rec)(m:Mem),(∀q∈l,∀p∈u,∀x∈q.u,x.1≠p.1)->kZ (aH m u) l=aH (kZ m l) u
 |[],m,_=>rfl
 |r::l,m,h=>by
  simp only[kZ];rw[RP u r.u m (h r sM)];exact OI u l _ (λq hq=>h q (by simp[hq]))
theorem OJ(d:Option Nat)(v:A):∀(l:List Rec)(T:Nat->A),(∀q∈l,∀n,d=some n->q.dst≠some n)->mK (lI T d v) l=lI (mK T l) d v
 |[],T,_=>rfl
 |r::l,T,h=>by
  simp only[mK];rw[aBS T d r.dst v r.v (h r sM)];exact OJ d v l _ (λq hq=>h q (by simp[hq]))
theorem QY{X:Nat->Bool}:∀{l:List Rec}{k:Nat}{r:Rec},r∈nM X k l->∃i,X (k+i)=true/\l[i]?=some r
 |[],k,r,h=>by simp[nM]at h
 |q::l,k,r,h=>by
  simp only[nM]at h;split at h
  ·rename_i hx;simp only[aO]at h;rcases h with rfl|h
   ·exact⟨0,by simpa using hx,rfl⟩
   ·obtain⟨i,h1,h2⟩:=QY h;exact⟨i+1,by rw[show k+(i+1)=k+1+i by omega];exact h1,by simpa using h2⟩
  ·obtain⟨i,h1,h2⟩:=QY h;exact⟨i+1,by rw[show k+(i+1)=k+1+i by omega];exact h1,by simpa using h2⟩
theorem OR{X Y:Nat->Bool}:∀(l:List Rec)(k:Nat),(∀i,k<=i->X i=Y i)->nM X k l=nM Y k l
 |[],k,_=>rfl
 |r::l,k,h=>by
  simp only[nM,h k (bT _)];rw[OR l (k+1) (λi hi=>h i oM)]
theorem Y8{X:Nat->Bool}:∀(l:List Rec)(k:Nat),(∀i,k<=i->i<k+l.length->X i=true)->nM X k l=l
 |[],k,_=>rfl
 |r::l,k,h=>by
  simp only[nM,h k (bT _) sM,if_true];rw[Y8 l (k+1) (λi h1 h2=>h i oM zM)]
theorem LK{X:Nat->Bool}:∀(l:List Rec)(k:Nat),(∀i,X i=false)->nM X k l=[]
 |[],k,_=>rfl
 |r::l,k,h=>by
  simp only[nM,h k,bY,if_false];exact LK l (k+1) h
def FE(X:Nat->Bool)(j:Nat):Nat->Bool:=λi=>if i=j then true else X i
theorem LJ(X:Nat->Bool)(r:Rec):∀(l:List Rec)(k j:Nat)(T:Nat->A)(m:Mem),X (k+j)=false->l[j]?=some r->
 (∀i q,j<i->X (k+i)=true->l[i]?=some q->(∀p∈r.u,∀x∈q.u,x.1≠p.1)/\∀n,r.dst=some n->q.dst≠some n)->
 kZ m (nM (FE X (k+j)) k l)=aH (kZ m (nM X k l)) r.u/\mK T (nM (FE X (k+j)) k l)=lI (mK T (nM X k l)) r.dst r.v
 |[],k,j,T,m,_,h,_=>by simp at h
 |q::l,k,0,T,m,hX,h,hd=>by
  simp at h;subst h;have h1:FE X k k=true:=by simp[FE]
  simp only[iE]at hX⊢;simp only[nM,h1,if_true,hX,bY,if_false,kZ,mK];have e:nM (FE X k) (k+1) l=nM X (k+1) l:=OR l (k+1) λi hi=>by unfold FE;rw[aT7 oM]
  rw[e];have hm:∀x∈nM X (k+1) l,(∀p∈q.u,∀y∈x.u,y.1≠p.1)/\∀n,q.dst=some n->x.dst≠some n:=by
   intro x hx;obtain⟨i,h2,h3⟩:=QY hx;exact hd (i+1) x oM (by rw[show k+(i+1)=k+1+i by omega];exact h2) (by simpa using h3)
  exact⟨OI _ _ _ λx hx=>(hm x hx).1,OJ _ _ _ _ λx hx=>(hm x hx).2⟩
 |q::l,k,j+1,T,m,hX,h,hd=>by
  have e:FE X (k+(j+1)) k=X k:=by unfold FE;rw[aT7 oM]
  have ih:=λT m=>LJ X r l (k+1) j T m (by rw[show k+1+j=k+(j+1) by omega];exact hX) (by simpa using h) (λi q' hi hx hq=>hd (i+1) q' oM (by rw[show k+(i+1)=k+1+i by omega];exact hx) (by simpa using hq));rw[show k+1+j=k+(j+1) by omega]at ih;simp only[nM,e];split
  ·simp only[kZ,mK];exact ih _ _
  ·exact ih _ _
theorem nZ{X Y:Nat->Bool}{n:Nat}:∀(l:List Rec)(k:Nat)(m m':Mem),(∀i q,l[i]?=some q->X (k+i)≠Y (k+i)->∀p∈q.u,p.1≠n)->m n=m' n->kZ m (nM X k l) n=kZ m' (nM Y k l) n
 |[],k,m,m',_,h=>h
 |q::l,k,m,m',hd,h=>by
  have hd':∀i q',l[i]?=some q'->X (k+1+i)≠Y (k+1+i)->∀p∈q'.u,p.1≠n:=λi q' hq hx=>hd (i+1) q' (by simpa using hq) (by rw[show k+(i+1)=k+1+i by omega];exact hx);have h0:=hd 0 q rfl;simp only[iE]at h0;simp only[nM];cases hx:X k<;>cases hy:Y k<;>simp only[if_true,bY,if_false,kZ]
  ·exact nZ l (k+1) m m' hd' h
  ·exact nZ l (k+1) _ _ hd' (h.trans (n9 _ _ (h0 (by simp[hx,hy]))).symm)
  ·exact nZ l (k+1) _ _ hd' ((n9 _ _ (h0 (by simp[hx,hy]))).trans h)
  ·exact nZ l (k+1) _ _ hd' (sZ _ h)
theorem pI{X Y:Nat->Bool}{n:Nat}:∀(l:List Rec)(k:Nat)(T T':Nat->A),(∀i q,l[i]?=some q->X (k+i)≠Y (k+i)->q.dst≠some n)->T n=T' n->mK T (nM X k l) n=mK T' (nM Y k l) n
 |[],k,m,m',_,h=>h
 |q::l,k,m,m',hd,h=>by
  have hd':∀i q',l[i]?=some q'->X (k+1+i)≠Y (k+1+i)->q'.dst≠some n:=λi q' hq hx=>hd (i+1) q' (by simpa using hq) (by rw[show k+(i+1)=k+1+i by omega];exact hx);have h0:=hd 0 q rfl;simp only[iE]at h0;simp only[nM];cases hx:X k<;>cases hy:Y k<;>simp only[if_true,bY,if_false,mK]
  ·exact pI l (k+1) m m' hd' h
  ·exact pI l (k+1) _ _ hd' (h.trans (by unfold lI;rw[aT7 (h0 (by simp[hx,hy]))]))
  ·exact pI l (k+1) _ _ hd' (Eq.trans (by unfold lI;rw[aT7 (h0 (by simp[hx,hy]))]) h)
  ·refine pI l (k+1) _ _ hd' ?_;unfold lI;split
   ·rfl
   ·exact h
def kO(ops:Array Oper)(T:Nat->A)(o:Oper):Option Bool:=
 match o.guard with
 |none=>some true
 |some (j,want)=>match(ops[j]?).bind (·.dst)with
  |some d=>match T d with
   |.d (.v (.bool b))=>some (b==want)
   |.eL _=>some false
   |_=>none
  |none=>none
section
variable{M0 S0:Nat->Prop}{w0:World}{N:Fr}{T:Nat->A}{m:Mem}{ρ:Nat->Value}{a:Act}{w:World}{P:Program}
theorem L8(h:bC M0 S0 w0 N T m ρ a w){ops:Array Oper}{o:Oper}{b:Bool}(hw:kO ops T o=some b):Region.wanted o (yielded ops a.tmps)=b:=by
 unfold kO at hw;unfold Region.wanted;split at hw
 ·rename_i hg;simp only[hg];simpa using hw
 ·rename_i j want hg;simp only[hg];split at hw
  ·rename_i d hd;split at hw
   ·rename_i t ht;simp only[aA]at hw;have h1:=h.tmps d;rw[ht]at h1;simp only[A.Den,C.Den]at h1;have h2:a.tmps[d]?=some (.bool t):=by
     rw[cZ]at h1;cases hq:a.tmps[d]? with
     |none=>rw[hq]at h1;simp[undef]at h1
     |some x=>rw[hq]at h1;simp at h1;rw[h1]
    unfold yielded;rw[hd];simp only[Option.bind_some,h2];rw[<-hw];cases t<;>cases want<;>rfl
   ·rename_i l ht;simp only[aA]at hw;have h1:=h.tmps d;rw[ht]at h1;simp only[A.Den]at h1;obtain⟨vs,h1,_⟩:=h1;have h2:a.tmps[d]?=none\/a.tmps[d]?=some (.tuple vs):=by
     rw[cZ]at h1;cases hq:a.tmps[d]? with
     |none=>exact .inl rfl
     |some x=>rw[hq]at h1;simp at h1;rw[h1];exact .inr rfl
    unfold yielded;rw[hd];rcases h2 with h2|h2<;>simp only[Option.bind_some,h2]<;>(subst hw;rfl)
   ·cases hw
  ·cases hw
theorem bC.drew(h:bC M0 S0 w0 N T m ρ a w)(k:Nat):bC M0 S0 w0 N T m ρ a {w with drawn:=k}:=by
 have eB:dV (dD M0 m ρ) w {w with drawn:=k}:=⟨bT _,λ_ _ _=>rfl⟩
 exact{keeps:=h.keeps.trans (S':=λ_=>False) ⟨rfl,rfl,rfl,bT _,λ_ _ _=>rfl⟩ (λ_ _ e=>e.elim),size:=h.size
       defers:=λds e=>eJ eB (λ_ e _=>e) (gL.refl m ρ) _ _ (h.defers ds e)
       tmps:=λn=>A.dC eB (λ_ e _=>e) (gL.refl m ρ) _ _ (h.tmps n)
       res:=λi r hi=>R.hU eB (λ_ e _=>e) (gL.refl m ρ) (λ_ _ _=>rfl) (h.res i r hi)
       own:=h.own,apart:=h.apart}
end
structure RL(P:Program)(ops:Array Oper)(recs:List Rec)(anc:Nat->Nat->Bool)(F:Nat->Nat->Prop)(Rq:Nat->Mem->Prop)(n:Nat)(T:Nat->A)(m:Mem):Prop where
 len:recs.length=ops.size
 dst:∀(k:Nat)(o:Oper)(r:Rec),ops[k]?=some o->recs[k]?=some r->r.dst=o.dst/\∀d,o.dst=some d->d<n
 gA:∀(k:Nat)(o:Oper)(r:Rec),ops[k]?=some o->recs[k]?=some r->
  ((kO ops (mK T (nM (anc k) 0 recs)) o=some false/\r.v=.eL []/\r.u=[])\/
   (kO ops (mK T (nM (anc k) 0 recs)) o=some true/\∀(T':Nat->A)(m':Mem),(∀x∈o.looksAt ops,T' x=mK T (nM (anc k) 0 recs) x)->(∀i,F k i->m' i=kZ m (nM (anc k) 0 recs) i)->
     Rq k m'->(∀p∈r.u,kZ m (nM (anc k) 0 recs) p.1=none->m' p.1=none)->qT P o T' m' r.v (aH m' r.u)))
 rq:∀(k:Nat)(o:Oper)(X:Nat->Bool),ops[k]?=some o->X k=false->(∀i q,recs[i]?=some q->X i≠anc k i->i≠k/\anc i k=false/\anc k i=false)->Rq k (kZ m (nM X 0 recs))
 guard:∀(k:Nat)(o:Oper)(j:Nat)(b:Bool),ops[k]?=some o->o.guard=some (j,b)->∀d,(ops[j]?).bind (·.dst)=some d->d∈o.looksAt ops
 fresh:∀(k:Nat)(r:Rec),recs[k]?=some r->∀p∈r.u,kZ m (nM (anc k) 0 recs) p.1=none->F k p.1
 apart:∀(i j:Nat)(p q:Rec)(o:Oper),i≠j->recs[i]?=some p->recs[j]?=some q->ops[j]?=some o->anc i j=false->anc j i=false->
  (∀d,p.dst=some d->d∉o.looksAt ops/\q.dst≠some d)/\∀x∈p.u,¬F j x.1/\∀y∈q.u,y.1≠x.1
 down:∀(k:Nat)(o:Oper),ops[k]?=some o->∀e∈o.after,Region.binds .any e=true->e.on<k
 anc:∀(k:Nat)(o:Oper)(j:Nat),ops[k]?=some o->anc k j=true->∃e∈o.after,Region.binds .any e=true/\(e.on=j\/anc e.on j=true)
theorem xA{p q:Nat->Bool}:∀{l:List Nat}{i:Nat},(∀j,q j=true->p j=true)->i∈l->p i=true->q i=false->(l.filter q).length<(l.filter p).length
 |[],i,_,h,_,_=>by simp at h
 |x::l,i,hpq,h,hp,hq=>by
  have hle:∀(l:List Nat),(l.filter q).length<=(l.filter p).length:=by
   intro l;induction l with
   |nil=>simp
   |cons y l ih=>
    simp only[lZ];cases hy:q y
    ·cases p y<;>simp<;>omega
    ·simp[hpq y hy];omega
  simp only[lZ];simp only[aO]at h;by_cases hx:i=x
  ·subst hx;have:=hle l;simp[hp,hq];omega
  ·have ih:=xA hpq (h.resolve_left hx) hp hq;cases hy:q x
   ·cases p x<;>simp<;>omega
   ·simp[hpq x hy];exact ih
section
variable{M0 S0:Nat->Prop}{w0:World}{N:Fr}{T:Nat->A}{m:Mem}{ρ:Nat->Value}{P:Program}{ops:Array Oper}{recs:List Rec}{anc:Nat->Nat->Bool}{F:Nat->Nat->Prop}{Rq:Nat->Mem->Prop}
theorem WM{ro:Option Nat}(mS:RL P ops recs anc F Rq N.n T m)(cX:∀b,M0 b->b<w0.heap.size){Q:Exit->Act->World->Prop}
 (hQ:∀(a:Act)(w:World)(ρ':Nat->Value),bC M0 S0 w0 N (mK T recs) (kZ m recs) ρ' a w->gL m (kZ m recs) ρ ρ'->Q .normal a w):
 ∀(fuel:Nat)(listed:Array Bool)(ρ':Nat->Value)(a:Act)(w:World),listed.size=ops.size->((List.range ops.size).filter λi=> !listed.getD i false).length<=fuel->
  (∀k o,ops[k]?=some o->listed.getD k false=true->∀e∈o.after,Region.binds .any e=true->listed.getD e.on false=true)->
  bC M0 S0 w0 N (mK T (nM (λi=>listed.getD i false) 0 recs)) (kZ m (nM (λi=>listed.getD i false) 0 recs)) ρ' a w->gL m (kZ m (nM (λi=>listed.getD i false) 0 recs)) ρ ρ'->
  wpAnyIn (FW ro) 0 P .any ops Q fuel listed a w:=by
 have aWW:∀(listed:Array Bool)(ρ':Nat->Value)(a:Act)(w:World),listed.size=ops.size->Region.ready .any ops listed=[]->
  bC M0 S0 w0 N (mK T (nM (λi=>listed.getD i false) 0 recs)) (kZ m (nM (λi=>listed.getD i false) 0 recs)) ρ' a w->gL m (kZ m (nM (λi=>listed.getD i false) 0 recs)) ρ ρ'->Q .normal a w:=by
  intro listed ρ' a w vZ hr hs hO;have aWV:∀i,i<ops.size->listed.getD i false=true:=by
   intro i;induction i using Nat.strongRecOn with
   |_ i ih=>
    intro hi;cases hX:listed.getD i false with
    |true=>rfl
    |false=>
     exfalso;have aWE:i∈Region.ready .any ops listed:=by
      unfold Region.ready;rw[jU];refine⟨by simpa using hi,?_⟩;have h1:listed.getD i true=false:=by
       have:i<listed.size:=oM;simp[Array.getD,this]at hX⊢;exact hX
      rw[h1,cF hi];simp only[fB,dF,gZ,cA,Array.all_eq_true'];intro e he;cases hb:Region.binds .any e with
      |false=>simp
      |true=>
       have hd:=mS.down i _ (cF hi) e he hb;simp[ih e.on hd oM]
     rw[hr]at aWE;simp at aWE
  have aYB:nM (λi=>listed.getD i false) 0 recs=recs:=Y8 recs 0 λi _ h=>aWV i (by have:=mS.len;omega);rw[aYB]at hs hO;exact hQ a w ρ' hs hO
 intro fuel;induction fuel with
 |zero=>
  intro listed ρ' a w vZ hf n0 hs hO;have hr:Region.ready .any ops listed=[]:=by
   unfold Region.ready;rw[List.filter_eq_nil_iff];intro i hi;have h0:(List.range ops.size).filter (λi=> !listed.getD i false)=[]:=bL oM;rw[List.filter_eq_nil_iff]at h0;have h1:=h0 i hi;have uJ:i<listed.size:=by have:=jI.1 hi;omega
   simp[Array.getD,uJ]at h1⊢;simp[h1]
  exact⟨hr,aWW listed ρ' a w vZ hr hs hO⟩
 |succ fuel ih=>
  intro listed ρ' a w vZ hf n0 hs hO;refine⟨λhr=>aWW listed ρ' a w vZ hr hs hO,λk hk=>?_⟩;unfold Region.ready at hk;rw[jU]at hk;obtain⟨hk1,EN⟩:=hk;have hkn:k<ops.size:=by simpa using hk1
  have QS:ops[k]?=some ops[k]:=cF hkn;rw[QS]at EN;simp only[dF,gZ,aE,eC,Array.all_eq_true',gP]at EN;obtain⟨hk3,hk4⟩:=EN;have hkl:k<listed.size:=oM;have hXk:listed.getD k false=false:=by simp[Array.getD,hkl]at hk3⊢;exact hk3
  have aZ8:∀e∈(ops[k]).after,Region.binds .any e=true->listed.getD e.on false=true:=by
   intro e he hb;rcases hk4 e he with h|h
   ·rw[hb]at h;cases h
   ·exact h
  have a0U:∀(i:Nat)(o:Oper),ops[i]?=some o->(∀e∈o.after,Region.binds .any e=true->listed.getD e.on false=true)->∀j,anc i j=true->listed.getD j false=true:=by
   intro i;induction i using Nat.strongRecOn with
   |_ i ih2=>
    intro o ho aZ8 j hj;obtain⟨e,he,hb,h⟩:=mS.anc i o j ho hj;have O2:=aZ8 e he hb;rcases h with rfl|h
    ·exact O2
    ·have aW3:=mS.down i o ho e he hb;have hio:i<ops.size:=(aL.1 ho).1;exact ih2 e.on aW3 _ (cF oM) (n0 e.on _ (cF oM) O2) j h
  have a1E:∀(i:Nat)(o:Oper),ops[i]?=some o->∀j,anc i j=true->j<i:=by
   intro i;induction i using Nat.strongRecOn with
   |_ i ih2=>
    intro o ho j hj;obtain⟨e,he,hb,h⟩:=mS.anc i o j ho hj;have aW3:=mS.down i o ho e he hb;rcases h with rfl|h
    ·exact aW3
    ·have hio:i<ops.size:=(aL.1 ho).1;exact Nat.lt_trans (ih2 e.on aW3 _ (cF oM) j h) aW3
  have a08:∀j,anc k j=true->listed.getD j false=true:=a0U k _ QS aZ8;have hrk:k<recs.length:=by have:=mS.len;omega
  have hr:recs[k]?=some recs[k]:=aC hrk;have aYD:∀i q,recs[i]?=some q->listed.getD i false≠anc k i->i≠k/\anc i k=false/\anc k i=false:=by
   intro i q hq hZ;have hio:i<ops.size:=by have:=(bA.1 hq).1;have:=mS.len;omega
   have hXi:listed.getD i false=true:=by
    cases h:listed.getD i false with
    |true=>rfl
    |false=>
     cases h2:anc k i with
     |true=>exact(a08 i h2).symm.trans h▸rfl
     |false=>rw[h,h2]at hZ;exact absurd rfl hZ
   have hki:anc k i=false:=by
    cases h2:anc k i with
    |true=>rw[hXi,h2]at hZ;exact absurd rfl hZ
    |false=>rfl
   refine⟨(by rintro rfl;rw[hXk]at hXi;cases hXi),?_,hki⟩;cases h3:anc i k with
   |false=>rfl
   |true=>
    have:=a0U i _ (cF hio) (n0 i _ (cF hio) hXi) k h3;rw[hXk]at this;cases this
  have hTk:∀x∈(ops[k]).looksAt ops,mK T (nM (λi=>listed.getD i false) 0 recs) x=mK T (nM (anc k) 0 recs) x:=by
   intro x hx;refine pI recs 0 T T (λi q hq hZ=>?_) rfl;rw[fF]at hZ;obtain⟨h1,h2,h3⟩:=aYD i q hq hZ;exact λe=>((mS.apart i k q _ _ h1 hq hr QS h2 h3).1 x e).1 hx
  have hmk:∀n,F k n->kZ m (nM (λi=>listed.getD i false) 0 recs) n=kZ m (nM (anc k) 0 recs) n:=by
   intro n hn;refine nZ recs 0 m m (λi q hq hZ p hp e=>?_) rfl;rw[fF]at hZ;obtain⟨h1,h2,h3⟩:=aYD i q hq hZ;exact((mS.apart i k q _ _ h1 hq hr QS h2 h3).2 p hp).1 (e▸hn)
  have aYB:=LJ (λi=>listed.getD i false) recs[k] recs 0 k T m (by simpa using hXk) hr (λi q hi hX hq=>by
   have hX':listed.getD i false=true:=by simpa using hX
   have hio:i<ops.size:=by have:=(bA.1 hq).1;have:=mS.len;omega
   have h2:anc i k=false:=by
    cases h3:anc i k with
    |false=>rfl
    |true=>
     have:=a0U i _ (cF hio) (n0 i _ (cF hio) hX') k h3;rw[hXk]at this;cases this
   have h3:anc k i=false:=by
    cases h3:anc k i with
    |false=>rfl
    |true=>have:=a1E k _ QS i h3;omega
   have:=mS.apart k i _ q _ oM hr hq (cF hio) h3 h2
   exact⟨λp hp=>(this.2 p hp).2,λn hn=>(this.1 n hn).2⟩)
  have hX':(λi=>(listed.setIfInBounds k true).getD i false)=FE (λi=>listed.getD i false) (0+k):=by
   funext i;unfold FE;rw[fF];by_cases e:i=k
   ·subst e;simp[Array.getD,hkl]
   ·rw[aT7 e];show(listed.setIfInBounds k true).getD i false=listed.getD i false;rw[cZ,cZ,aB3 (Ne.symm e)]
  obtain⟨hd1,hd2⟩:=mS.dst k _ _ QS hr;have a0M:∀(ρ2:Nat->Value)(a2:Act)(w2:World),bC M0 S0 w0 N (lI (mK T (nM (λi=>listed.getD i false) 0 recs)) recs[k].dst recs[k].v) (aH (kZ m (nM (λi=>listed.getD i false) 0 recs)) recs[k].u) ρ2 a2 w2->
   gL (kZ m (nM (λi=>listed.getD i false) 0 recs)) (aH (kZ m (nM (λi=>listed.getD i false) 0 recs)) recs[k].u) ρ' ρ2->wpAnyIn (FW ro) 0 P .any ops Q fuel (listed.setIfInBounds k true) a2 w2:=by
   intro ρ2 a2 w2 hs2 hO2;refine ih _ ρ2 a2 w2 (by simpa using vZ) ?_ ?_ ?_ ?_
   ·have:=xA (l:=List.range ops.size) (p:=λi=> !listed.getD i false) (q:=λi=> !(listed.setIfInBounds k true).getD i false) (i:=k) (λj hj=>by
     have QB:(λi=>(listed.setIfInBounds k true).getD i false) j=false:=by simpa using hj
     rw[hX']at QB;unfold FE at QB;split at QB
     · cases QB
     · simpa using QB) (by simpa using hkn) (by simp only[hXk];rfl) (by
       have:(λi=>(listed.setIfInBounds k true).getD i false) k=true:=by rw[hX'];simp[FE]
       simpa using this)
    omega
   ·intro i o ho hi e he hb;have hi':(λi=>(listed.setIfInBounds k true).getD i false) i=true:=hi;show(λi=>(listed.setIfInBounds k true).getD i false) e.on=true;rw[hX']at hi'⊢;unfold FE at hi'⊢;rw[fF]at hi'⊢;split
    ·rfl
    ·split at hi'
     ·rename_i hik;subst hik;rw[QS]at ho;simp at ho;subst ho;exact aZ8 e he hb
     ·exact n0 i o ho hi' e he hb
   ·rw[hX',aYB.1,aYB.2];exact hs2
   ·rw[hX',aYB.1];exact hO.trans hO2
  unfold wpOpIn;rw[QS];simp only;have a0R:∀b,kO ops (mK T (nM (anc k) 0 recs)) ops[k]=some b->kO ops (mK T (nM (λi=>listed.getD i false) 0 recs)) ops[k]=some b:=by
   intro b hb;unfold kO at hb⊢;split at hb
   ·exact hb
   ·rename_i j want hg;split at hb
    ·rename_i d hd;rw[hTk d (mS.guard k _ j want QS hg d hd)];simpa [hg,hd]using hb
    ·cases hb
  rcases mS.gA k _ _ QS hr with⟨hw,hv,hu⟩|⟨hw,I5⟩
  ·rw[L8 hs (a0R _ hw)];simp only[bY,if_false];refine⟨λ_ _=>trivial,a0M ρ' _ w ?_ (by rw[hu];exact gL.refl _ _)⟩;rw[hu,hv,hd1];exact hs.put _ (λn hn=>hd2 n hn) (by simp only[A.Den];exact⟨#[],rfl,rfl⟩)
  ·rw[L8 hs (a0R _ hw)];simp only[if_true];refine I5 _ _ hTk hmk (mS.rq k _ _ QS hXk aYD) (λp hp hn=>?_) ro N M0 S0 w0 ρ' a w hs cX _ Q ?_
   ·rw[hmk _ (mS.fresh k _ hr p hp hn)];exact hn
   ·intro y w' ρ2 hs2 hO2 aWJ;refine a0M ρ2 _ w' ?_ hO2;rw[hd1];exact hs2.put _ (λn hn=>hd2 n hn) aWJ
theorem T5{ro:Option Nat}(hm:P.follows .mixedOrders=true)(mS:RL P ops recs anc F Rq N.n T m)(cX:∀b,M0 b->b<w0.heap.size){id:Nat}{Q:Exit->Act->World->Prop}{a:Act}{w:World}(hs:bC M0 S0 w0 N T m ρ a w)
 (hQ:∀(a:Act)(w:World)(ρ':Nat->Value),bC M0 S0 w0 N (mK T recs) (kZ m recs) ρ' a w->gL m (kZ m recs) ρ ρ'->Q .normal a w):(Code.region id ops true).wpIn (FW ro) 0 P Q a w:=by
 refine wpIn_region_any hm ?_;have h0:(λi=>(Array.replicate ops.size false).getD i false)=λ_=>false:=by
  funext i;by_cases h:i<ops.size<;>simp[Array.getD,h]
 refine WM mS cX hQ ops.size _ ρ a _ sM ?_ ?_ ?_ ?_
 ·have:=List.length_filter_le (λi=> !(Array.replicate ops.size false).getD i false) (List.range ops.size);simpa using this
 ·intro k o _ hk;have:(λi=>(Array.replicate ops.size false).getD i false) k=true:=hk;rw[h0]at this;cases this
 ·rw[h0,LK recs 0 (λ_=>rfl)];exact hs.drew _
 ·rw[h0,LK recs 0 (λ_=>rfl)];exact gL.refl _ _
end
def KC.same:KC->KC->Bool
 |.int k _,.int k' _=>decide (k=k')
 |.bool _,.bool _=>true
 |.str _,.str _=>true
 |_,_=>false
def KC.fits(P:Program)(t:TypeId):KC->Bool
 |.int _ _=>match P.underlying t with
  |some (.int _)=>true
  |_=>false
 |.bool _=>IH P t
 |.str _=>yJ P t
def s5(P:Program)(sub:TypeId->List KC->Bool):List Field->Nat->List KC->Bool
 |[],_,[]=>true
 |[],_,_::_=>false
 |f::fs,i,l=>decide (f.offset=i)&&(decide (f.name≠ "_")&&(match oP P f.type with
  |some false=>(match l with
   |c::r=>c.fits P f.type&&s5 P sub fs (i+1) r
   |[]=>false)
  |some true=>decide (0<P.cellsOf f.type/\P.cellsOf f.type<=l.length)&&(sub f.type (l.take (P.cellsOf f.type))&&s5 P sub fs (i+P.cellsOf f.type) (l.drop (P.cellsOf f.type)))
  |none=>false))
def qE(P:Program):Nat->TypeId->List KC->Bool
 |0,_,_=>false
 |n+1,t,l=>match P.underlying t with
  |some (.struct fs)=> !P.stoodInHeld t&&s5 P (qE P n) fs.toList 0 l
  |_=>false
def KC.mC:List KC->List KC->Bool
 |[],[]=>true
 |a::r,b::s=>a.same b&&KC.mC r s
 |_,_=>false
def Ky.fits(P:Program)(t:TypeId):Ky->Bool
 |.one c=>c.fits P t
 |.agg l=>qE P 4 t l
def Ky.same:Ky->Ky->Bool
 |.one a,.one b=>a.same b
 |.agg a,.agg b=>KC.mC a b
 |_,_=>false
theorem UE:∀{a b:List KC},KC.mC a b=true->a.length=b.length
 |[],[],_=>rfl
 |a::r,b::s,h=>by simp only[KC.mC,aE]at h;simp[UE h.2]
 |[],_::_,h=>by simp[KC.mC]at h
 |_::_,[],h=>by simp[KC.mC]at h
section
variable{P:Program}{w:World}
theorem bytes_beq(a b:ByteArray):(a.toList==b.toList)=decide (a=b):=by
 apply jT.2;simp only[beq_iff_eq,aUA]
 exact⟨λe=>by
  have e1:a.data.toList=b.data.toList:=by simpa [ByteArray.toList_eq]using e
  cases a;cases b;simp at e1;simp[e1],λe=>by rw[e]⟩
theorem UB(d:Nat){t:TypeId}{a b:KC}(hf:a.fits P t=true)(hs:a.same b=true):(Op.equalIn (d+1) t a.val b.val).run P w=.ok (decide (a=b)) w:=by
 cases a<;>cases b<;>simp only[KC.same]at hs<;>(try cases hs)
 ·rename_i k n k' n';have hs:=aUL hs;subst hs;unfold KC.fits at hf;simp only at hf;split at hf
  ·rename_i k2 hu;simp only[KC.val,run_equalIn_int w d t k k2 n n' hu];simp;exact jT.2 sM
  ·cases hf
 ·rename_i x y;simp only[KC.val,run_equalIn_bool' w d t x y (uK hf)];cases x<;>cases y<;>rfl
 ·rename_i x y;simp only[KC.val,run_equalIn_string w d t x y (oB hf),bytes_beq];simp
theorem LH:∀{a b:List KC}(n:Nat),KC.mC a b=true->KC.mC (a.take n) (b.take n)=true
 |_,_,0,_=>by simp[KC.mC]
 |[],[],_+1,_=>by simp[KC.mC]
 |a::r,b::s,n+1,h=>by
  simp only[KC.mC,aE]at h;simp only[cC,KC.mC,h.1,LH n h.2,Bool.and_self]
 |[],_::_,_,h=>by simp[KC.mC]at h
 |_::_,[],_,h=>by simp[KC.mC]at h
theorem LG:∀{a b:List KC}(n:Nat),KC.mC a b=true->KC.mC (a.drop n) (b.drop n)=true
 |_,_,0,h=>by simpa using h
 |[],[],_+1,_=>by simp[KC.mC]
 |a::r,b::s,n+1,h=>by
  simp only[KC.mC,aE]at h;simpa using LG n h.2
 |[],_::_,_,h=>by simp[KC.mC]at h
 |_::_,[],_,h=>by simp[KC.mC]at h
theorem yF{xs:Array Value}{a:List KC}{i n:Nat}(hx:∀j c,a[j]?=some c->xs[i+j]?=some c.val)(hn:n<=a.length):xs.extract i (i+n)=((a.take n).map KC.val).toArray:=by
 apply Array.ext_getElem?;intro j;rw[Array.getElem?_extract];simp only[aDR,cK,cM];by_cases hj:j<n
 ·have hj2:j<a.length:=oM;have h1:=hx j a[j] (aC hj2);have h2:i+j<xs.size:=(aL.1 h1).1;have h3:i+(a.length -1)<xs.size:=by
   have:=hx (a.length -1) _ (aC oM);exact(aL.1 this).1
  rw[aUF oM,aUF hj,h1,aC hj2];rfl
 ·rw[aT7 oM,aT7 hj];rfl
theorem TU{f:TypeId}{cs:Array Value}{off:Nat}(h:oP P f=some true)(hp:0<P.cellsOf f):(part f cs off).run P w=.ok (.agg (cs.extract off (off+P.cellsOf f))) w:=by
 obtain⟨inf,hi⟩:=sA hp;have he:P.cellsOf f=inf.size:=by simp[Program.cellsOf,hi]
 simp only[part,aV,lV h,aN,if_true,run_sizeOf hi,cB,he]
theorem R3(a b:List KC)(n:Nat):decide (a=b)=(decide (a.take n=b.take n)&&decide (a.drop n=b.drop n)):=by
 apply jT.2;simp only[aUA,aE];constructor
 ·rintro rfl;exact⟨rfl,rfl⟩
 ·rintro⟨h1,h2⟩;rw[<-List.take_append_drop n a,h1,h2,gJ]
theorem C0(d:Nat)(xs ys:Array Value)(sub:TypeId->List KC->Bool)(aVM:∀t a b,sub t a=true->KC.mC a b=true->(Op.equalIn (d+1) t (.agg (a.map KC.val).toArray) (.agg (b.map KC.val).toArray)).run P w=.ok (decide (a=b)) w):
 ∀(fs:List Field)(i:Nat)(a b:List KC),s5 P sub fs i a=true->KC.mC a b=true->
 (∀j c,a[j]?=some c->xs[i+j]?=some c.val)->(∀j c,b[j]?=some c->ys[i+j]?=some c.val)->(Op.eqFields (d+1) xs ys fs).run P w=.ok (decide (a=b)) w
 |[],i,[],b,hf,hs,_,_=>by
  cases b with
  |nil=>simp[Op.eqFields]
  |cons _ _=>simp[KC.mC]at hs
 |[],i,_::_,b,hf,hs,_,_=>by simp[s5]at hf
 |f::fs,i,a,b,hf,hs,hx,hy=>by
  simp only[s5,aE,aUA]at hf;obtain⟨rfl,h2,h3⟩:=hf;split at h3
  ·rename_i hag;split at h3
   ·rename_i c r;simp only[aE]at h3;obtain⟨h4,h5⟩:=h3;cases b with
    |nil=>simp[KC.mC]at hs
    |cons c' r'=>
     simp only[KC.mC,aE]at hs;have hx0:=hx 0 c rfl;have hy0:=hy 0 c' rfl;simp only[iE]at hx0 hy0;have ih:=C0 d xs ys sub aVM fs (f.offset+1) r r' h5 hs.2 (λj e he=>by have:=hx (j+1) e (by simpa using he);rwa [show f.offset+(j+1)=f.offset+1+j by omega]at this) (λj e he=>by have:=hy (j+1) e (by simpa using he);rwa [show f.offset+(j+1)=f.offset+1+j by omega]at this);simp only[Op.eqFields,h2,ne_eq,not_false_eq_true,if_true,aV,part,lV hag,aN,bY,if_false,hx0,hy0,cB,UB d h4 hs.1];by_cases e:c=c'
     ·subst e;simp only[decide_true,fR,bY,if_false,ih];simp
     ·simp[e]
   ·cases h3
  ·rename_i hag;simp only[aE]at h3;obtain⟨h4,h5,h6⟩:=h3;obtain⟨aWU,hle⟩:=aUL h4;have hlen:=UE hs;have ih:=C0 d xs ys sub aVM fs (f.offset+P.cellsOf f.type) (a.drop (P.cellsOf f.type)) (b.drop (P.cellsOf f.type)) h6 (LG _ hs)
    (λj e he=>by have:=hx (P.cellsOf f.type+j) e (by simpa using he);rwa [<-Nat.add_assoc]at this) (λj e he=>by have:=hy (P.cellsOf f.type+j) e (by simpa using he);rwa [<-Nat.add_assoc]at this)
   have hq:=aVM f.type _ _ h5 (LH (P.cellsOf f.type) hs);have ex:=yF hx hle;have ey:=yF (n:=P.cellsOf f.type) hy oM;simp only[Op.eqFields,h2,ne_eq,not_false_eq_true,if_true,aV,TU hag aWU,aN,ex,ey,hq];rw[R3 a b (P.cellsOf f.type)];by_cases e:a.take (P.cellsOf f.type)=b.take (P.cellsOf f.type)
   ·simp only[e,decide_true,fR,bY,if_false,ih,cA]
   ·simp[e]
  ·cases h3
theorem OO(d:Nat):∀(dep:Nat)(t:TypeId)(a b:List KC),qE P dep t a=true->KC.mC a b=true->(Op.equalIn (d+dep+1) t (.agg (a.map KC.val).toArray) (.agg (b.map KC.val).toArray)).run P w=.ok (decide (a=b)) w
 |0,_,_,_,h,_=>by simp[qE]at h
 |dep+1,t,a,b,hf,hs=>by
  unfold qE at hf;split at hf
  ·rename_i fs hu;simp only[aE,eC]at hf;have hfo:P.fieldsOf t=fs:=by simp[Program.fieldsOf,hu]
   rw[run_equalIn_struct w (d+(dep+1)) t _ _ (by rw[hfo];exact hu) hf.1,hfo];exact C0 (d+dep) _ _ (qE P dep) (OO d dep) fs.toList 0 a b hf.2 hs (λj c h=>by simp[h]) (λj c h=>by simp[h])
  ·cases hf
theorem UW(l:List KC)(j:Nat)(c:KC)(h:l[j]?=some c):((l.map KC.val).toArray)[0+j]?=some c.val:=by
 simp[h]
theorem UC(d:Nat){t:TypeId}{a b:Ky}(hf:a.fits P t=true)(hs:a.same b=true):(Op.equalIn (d+5) t a.val b.val).run P w=.ok (decide (a=b)) w:=by
 cases a<;>cases b<;>simp only[Ky.same]at hs<;>(try cases hs)
 ·simp only[Ky.val,UB (d+4) hf hs];simp
 ·rename_i x y;simp only[Ky.val,OO d 4 t x y hf hs];simp
theorem UD{a b:Ky}(hf:a.fits P t=true)(hs:a.same b=true):(Op.equal t a.val b.val).run P w=.ok (decide (a=b)) w:=UC 9995 hf hs
theorem HR(em:Bool)(n:Nat){t:TypeId}{c:KC}(hf:c.fits P t=true):(Instr.checkKey em (n+1) t c.val).run P w=.ok () w:=by
 cases c with
 |int k x=>
  unfold KC.fits at hf;simp only at hf;split at hf
  ·rename_i k2 hu;simp[Instr.checkKey,run_underlying hu,KC.val]
  ·cases hf
 |bool x=>simp[Instr.checkKey,run_underlying (uK hf),KC.val]
 |str x=>simp[Instr.checkKey,run_underlying (oB hf),KC.val]
theorem MM(em:Bool)(n:Nat)(cs:Array Value)(sub:TypeId->List KC->Bool)(aVM:∀t a,sub t a=true->(Instr.checkKey em (n+1) t (.agg (a.map KC.val).toArray)).run P w=.ok () w):
 ∀(fs:List Field)(i:Nat)(l:List KC),s5 P sub fs i l=true->(∀j c,l[j]?=some c->cs[i+j]?=some c.val)->
 (forIn fs PUnit.unit (λf(_:PUnit)=>if f.name≠ "_" then(do let v<-part f.type cs f.offset;Instr.checkKey em (n+1) f.type v;pure (ForInStep.yield PUnit.unit))else pure (ForInStep.yield PUnit.unit)):Sem PUnit).run P w=.ok PUnit.unit w
 |[],i,[],_,_=>sM
 |[],i,_::_,hf,_=>by simp[s5]at hf
 |f::fs,i,l,hf,hx=>by
  simp only[s5,aE,aUA]at hf;obtain⟨rfl,h2,h3⟩:=hf;split at h3
  ·rename_i hag;split at h3
   ·rename_i c r;simp only[aE]at h3;obtain⟨h4,h5⟩:=h3;have hx0:=hx 0 c rfl;simp only[iE]at hx0;have ih:=MM em n cs sub aVM fs (f.offset+1) r h5 (λj e he=>by have:=hx (j+1) e (by simpa using he);rwa [show f.offset+(j+1)=f.offset+1+j by omega]at this);simp only[List.forIn_cons,h2,ne_eq,not_false_eq_true,if_true,aV,part,lV hag,aN,bY,if_false,hx0,cB,HR em n h4];exact ih
   ·cases h3
  ·rename_i hag;simp only[aE]at h3;obtain⟨h4,h5,h6⟩:=h3;obtain⟨aWU,hle⟩:=aUL h4;have ih:=MM em n cs sub aVM fs (f.offset+P.cellsOf f.type) (l.drop (P.cellsOf f.type)) h6 (λj e he=>by have:=hx (P.cellsOf f.type+j) e (by simpa using he);rwa [<-Nat.add_assoc]at this);simp only[List.forIn_cons,h2,ne_eq,not_false_eq_true,if_true,aV,TU hag aWU,aN,yF hx hle,aVM _ _ h5,cB];exact ih
  ·cases h3
theorem ES(em:Bool)(n:Nat):∀(dep:Nat)(t:TypeId)(l:List KC),qE P dep t l=true->(Instr.checkKey em (n+dep+1) t (.agg (l.map KC.val).toArray)).run P w=.ok () w
 |0,_,_,h=>by simp[qE]at h
 |dep+1,t,l,hf=>by
  unfold qE at hf;split at hf
  ·rename_i fs hu;simp only[aE,eC]at hf;have:=MM (w:=w) em (n+dep) (l.map KC.val).toArray (qE P dep) (ES em n dep) fs.toList 0 l hf.2 (UW l);rw[Instr.checkKey];simp only[aV,run_underlying hu,aN];rw[<-Array.forIn_toList];rw[show n+(dep+1)=n+dep+1 by omega];simp only[this,aN,cB]
  ·cases hf
theorem mA(em:Bool)(n:Nat){t:TypeId}{k:Ky}(hf:k.fits P t=true):(Instr.checkKey em (n+5) t k.val).run P w=.ok () w:=by
 cases k with
 |one c=>exact HR em (n+4) hf
 |agg l=>exact ES em n 4 t l hf
def pT(k:Ky):List (Ky×MapEntry)->Nat->Option (Nat×Value)
 |[],_=>none
 |p::r,i=>if k=p.1 then some (i,p.2.val)else pT k r (i+1)
theorem X6{t:TypeId}{k:Ky}(hf:k.fits P t=true):∀(z:List (Ky×MapEntry))(i:Nat),(∀p∈z,p.2.key=p.1.val)->(∀p∈z,k.same p.1=true)->(Instr.findAsking t k.val (z.map (·.2)) i).run P w=.ok (pT k z i) w
 |[],i,_,_=>by simp[Instr.findAsking,pT]
 |p::r,i,hk,hs=>by
  have ih:=X6 hf r (i+1) (λq hq=>hk q (by simp[hq])) (λq hq=>hs q (by simp[hq]));simp only[aG,Instr.findAsking,pT,aV,hk p sM,UD hf (hs p sM),aN];by_cases e:k=p.1
  ·simp[e]
  ·simp[e,ih]
theorem HD{d:TypeDesc}{t:TypeId}{c:KC}(hu:P.underlying t=some d)(hf:c.fits P t=true):∀(z:List (Ky×MapEntry))(i:Nat),(∀p∈z,p.2.key=p.1.val)->(∀p∈z,(Ky.one c).same p.1=true)->Instr.findNow d c.val (z.map (·.2)) i=some (pT (.one c) z i)
 |[],i,_,_=>by simp[Instr.findNow,pT]
 |p::r,i,hk,hs=>by
  have ih:=HD hu hf r (i+1) (λq hq=>hk q (by simp[hq])) (λq hq=>hs q (by simp[hq]));have hsp:=hs p sM;simp only[aG,Instr.findNow,pT,hk p sM];cases hp:p.1 with
  |agg l=>rw[hp]at hsp;simp[Ky.same]at hsp
  |one c'=>
   rw[hp]at hsp;simp only[Ky.same]at hsp;have key:Instr.sameNow d c.val c'.val=some (decide (c=c')):=by
    cases c<;>cases c'<;>simp only[KC.same]at hsp<;>(try cases hsp)
    ·rename_i k n k' n';have:=aUL hsp;subst this;unfold KC.fits at hf;simp only at hf;split at hf
     ·rename_i k2 hu2;rw[hu]at hu2;simp at hu2;subst hu2;simp[Instr.sameNow,KC.val];exact jT.2 sM
     ·cases hf
    ·rename_i x y;have:=uK hf;rw[hu]at this;simp at this;subst this;cases x<;>cases y<;>rfl
    ·rename_i x y;have:=oB hf;rw[hu]at this;simp at this;subst this;simp only[Instr.sameNow,KC.val,beq_toListBytes,bytes_beq];simp
   simp only[Ky.val,key,Ky.one.injEq];by_cases e:c=c'
   ·simp[e]
   ·simp only[e,decide_false,if_false];exact ih
theorem LF(hf:k.fits P t=true)(z:List (Ky×MapEntry))(hk:∀p∈z,p.2.key=p.1.val)(hs:∀p∈z,k.same p.1=true):(Instr.findKey t k.val (z.map (·.2))).run P w=.ok (pT k z 0) w:=by
 cases k with
 |one c=>
  have hd:∃d,P.underlying t=some d:=by
   cases c with
   |int k n=>unfold Ky.fits KC.fits at hf;simp only at hf;split at hf
             ·exact⟨_,aM⟩
             ·cases hf
   |bool b=>exact⟨_,uK hf⟩
   |str b=>exact⟨_,oB hf⟩
  obtain⟨d,hu⟩:=hd;simp only[Instr.findKey,aV,run_underlying hu,aN,Ky.val,HD hu hf z 0 hk hs,cB]
 |agg l=>
  have hu:∃fs,P.underlying t=some (.struct fs):=by
   unfold Ky.fits qE at hf;simp only at hf;split at hf
   ·exact⟨_,aM⟩
   ·cases hf
  obtain⟨fs,hu⟩:=hu;cases z with
  |nil=>simp[Instr.findKey,run_underlying hu,Instr.findNow,pT]
  |cons p r=>
   have hn:Instr.findNow (.struct fs) (Ky.agg l).val ((p::r).map (·.2)) 0=none:=by
    simp only[aG,Instr.findNow];rfl
   simp only[Instr.findKey,aV,run_underlying hu,aN,hn];exact X6 hf (p::r) 0 hk hs
end
theorem yR{α β:Type}{f:α->β}{l1 l:List β}(h:l1.Perm l):∀{l2:List α},l=l2.map f->∃l2':List α,l2'.Perm l2/\l1=l2'.map f:=by
 induction h with
 |nil=>
  intro l2 e;cases l2 with
  |nil=>exact⟨[],.nil,rfl⟩
  |cons a r=>simp at e
 |cons x h ih=>
  intro l2 e;cases l2 with
  |nil=>simp at e
  |cons a r=>
   simp at e;obtain⟨l',h1,h2⟩:=ih e.2;exact⟨a::l',h1.cons a,by simp[e.1,h2]⟩
 |swap x y l=>
  intro l2 e;cases l2 with
  |nil=>simp at e
  |cons a r=>
   cases r with
   |nil=>simp at e
   |cons b r=>
    simp at e;obtain⟨rfl,rfl,rfl⟩:=e;exact⟨b::a::r,.swap _ _ _,rfl⟩
 |trans h1 h2 ih1 ih2=>
  intro l2 e;obtain⟨l',g1,g2⟩:=ih2 e;obtain⟨l'',g3,g4⟩:=ih1 g2;exact⟨l'',g3.trans g1,g4⟩
structure MZ(w:World)(M:Nat->Prop)(m:Mem)(ρ:Nat->Value)(es:Array MapEntry)(clock:Nat)(kv:List (Ky×A))(z:List ((Ky×A)×MapEntry)):Prop where
 toList:es.toList=z.map (·.2)
 perm:(z.map (·.1)).Perm kv
 key:∀p∈z,p.2.key=p.1.1.val
 den:∀p∈z,A.Den w M m ρ p.1.2 p.2.val
 nodup:(z.map (·.1.1)).Nodup
 born:(z.map (·.2.born)).Nodup
 old:∀p∈z,p.2.born<clock
section
variable{w:World}{M:Nat->Prop}{m:Mem}{ρ:Nat->Value}{es:Array MapEntry}{clock:Nat}{kv:List (Ky×A)}
theorem IU{α β:Type}:∀{l:List α}{r:List β},l.length=r.length->(l.zip r).map (·.1)=l
 |[],[],_=>rfl
 |a::l,b::r,h=>by simp at h;simp[IU h]
 |[],_::_,h=>by simp at h
 |_::_,[],h=>by simp at h
theorem IV{α β:Type}:∀{l:List α}{r:List β},l.length=r.length->(l.zip r).map (·.2)=r
 |[],[],_=>rfl
 |a::l,b::r,h=>by simp at h;simp[IV h]
 |[],_::_,h=>by simp at h
 |_::_,[],h=>by simp at h
theorem aD5{l:List MapEntry}(h:M4 es clock (kv.map (·.1)) l)(hd:A.bR w M m ρ (kv.map (·.2)) (l.map (·.val))):∃z,MZ w M m ρ es clock kv z:=by
 have hlen:kv.length=l.length:=by have:=congrArg List.length h.keys;simpa using this.symm
 obtain⟨z,h1,h2⟩:=yR (f:=λp:(Ky×A)×MapEntry=>p.2) h.perm (IV hlen).symm;have hz:∀p∈z,∃j:Nat,kv[j]?=some p.1/\l[j]?=some p.2:=by
  intro p hp;have:=h1.mem_iff.1 hp;obtain⟨j,hj,e⟩:=dH.1 this;refine⟨j,?_,?_⟩
  ·have:(kv.zip l)[j]?=some p:=by rw[aC hj,e]
   rw[oH]at this;exact this.1
  ·have:(kv.zip l)[j]?=some p:=by rw[aC hj,e]
   rw[oH]at this;exact this.2
 rw[A.c9]at hd;refine⟨z,h2,?_,λp hp=>?_,λp hp=>?_,?_,?_,λp hp=>?_⟩
 ·have:=h1.map (·.1);rwa [IU hlen]at this
 ·obtain⟨j,e1,e2⟩:=hz p hp;have e3:(l.map (·.key))[j]?=some p.2.key:=by simp[e2]
  rw[h.keys]at e3;simp[e1]at e3;exact e3.symm
 ·obtain⟨j,e1,e2⟩:=hz p hp;exact hd.2 j _ _ (by simp[e1]) (by simp[e2])
 ·have:(z.map (·.1.1)).Perm (kv.map (·.1)):=by
   have:=(h1.map (·.1)).map (·.1);rw[IU hlen,bH]at this;exact this
  exact(this.nodup_iff).2 h.nodup
 ·have:(z.map (·.2.born)).Perm (l.map (·.born)):=by
   have:=(h1.map (·.2)).map (·.born);rw[IV hlen,bH]at this;exact this
  exact(this.nodup_iff).2 h.born
 ·obtain⟨j,e1,e2⟩:=hz p hp;exact h.old _ (c6 e2)
theorem aI9{z:List ((Ky×A)×MapEntry)}(h:MZ w M m ρ es clock kv z):∃l,M4 es clock (kv.map (·.1)) l/\A.bR w M m ρ (kv.map (·.2)) (l.map (·.val)):=by
 obtain⟨z',h1,h2⟩:=yR (f:=λp:(Ky×A)×MapEntry=>p.1) h.perm.symm rfl;refine⟨z'.map (·.2),⟨?_,?_,?_,?_,?_⟩,?_⟩
 ·rw[h.toList];exact(h1.map _).symm
 ·rw[h2,bH,bH,bH];exact cQ λp hp=>h.key p (h1.mem_iff.1 hp)
 ·rw[h2,bH];exact((h1.map (·.1.1)).nodup_iff).2 h.nodup
 ·rw[bH];exact((h1.map (·.2.born)).nodup_iff).2 h.born
 ·intro e he;obtain⟨p,hp,rfl⟩:=aA4.1 he;exact h.old p (h1.mem_iff.1 hp)
 ·rw[A.c9];refine⟨by simp[h2],λj c y hc hy=>?_⟩;rw[h2]at hc;simp only[bH,cK,bU]at hc hy;obtain⟨p,hp,rfl⟩:=hc;obtain⟨q,hq,rfl⟩:=hy;rw[hp]at hq;cases hq;exact h.den p (h1.mem_iff.1 (c6 hp))
def fL(k:Ky):List (Ky×A)->Option A
 |[]=>none
 |p::r=>if k=p.1 then some p.2 else fL k r
theorem CP{k:Ky}{a:A}:∀{kv:List (Ky×A)},fL k kv=some a->(k,a)∈kv
 |[],h=>by simp[fL]at h
 |p::r,h=>by
  simp only[fL]at h;split at h
  ·rename_i e;simp at h;subst h;subst e;simp
  ·simp[CP h]
theorem uM{k:Ky}:∀{kv:List (Ky×A)},fL k kv=none->∀p∈kv,k≠p.1
 |[],_,p,hp=>by simp at hp
 |q::r,h,p,hp=>by
  simp only[fL]at h;split at h
  ·cases h
  ·rename_i e;simp only[aO]at hp;rcases hp with rfl|hp
   ·exact e
   ·exact uM h p hp
theorem CH{k:Ky}:∀{z:List ((Ky×A)×MapEntry)}{i n:Nat}{v:Value},pT k (z.map λp=>(p.1.1,p.2)) n=some (i,v)->∃p,z[i -n]?=some p/\n<=i/\p.1.1=k/\v=p.2.val
 |[],i,n,v,h=>by simp[pT]at h
 |p::r,i,n,v,h=>by
  simp only[aG,pT]at h;split at h
  ·rename_i e;simp at h;obtain⟨rfl,rfl⟩:=h;exact⟨p,sM,bT _,e.symm,rfl⟩
  ·obtain⟨q,h1,h2,h3,h4⟩:=CH h;refine⟨q,?_,oM,h3,h4⟩;rw[show i -n=(i -(n+1))+1 by omega];simpa using h1
theorem uI{k:Ky}:∀{z:List ((Ky×A)×MapEntry)}{n:Nat},pT k (z.map λp=>(p.1.1,p.2)) n=none->∀p∈z,k≠p.1.1
 |[],n,_,p,hp=>by simp at hp
 |q::r,n,h,p,hp=>by
  simp only[aG,pT]at h;split at h
  ·cases h
  ·rename_i e;simp only[aO]at hp;rcases hp with rfl|hp
   ·exact e
   ·exact uI h p hp
theorem MZ.find{z:List ((Ky×A)×MapEntry)}(h:MZ w M m ρ es clock kv z)(k:Ky):
 (pT k (z.map λp=>(p.1.1,p.2)) 0=none/\fL k kv=none)\/∃i p,pT k (z.map λp=>(p.1.1,p.2)) 0=some (i,p.2.val)/\z[i]?=some p/\p.1.1=k/\fL k kv=some p.1.2:=by
 cases hf:pT k (z.map λp=>(p.1.1,p.2)) 0 with
 |none=>
  left;refine⟨rfl,?_⟩;cases hg:fL k kv with
  |none=>rfl
  |some a=>
   have:=h.perm.mem_iff.2 (CP hg);obtain⟨p,hp,e⟩:=aA4.1 this;exact absurd (by rw[e]) (uI hf p hp)
 |some r=>
  right;obtain⟨i,v⟩:=r;obtain⟨p,h1,_,h2,rfl⟩:=CH hf;refine⟨i,p,rfl,by simpa using h1,h2,?_⟩;have hm:p.1∈kv:=h.perm.mem_iff.1 (aA4.2 ⟨p,c6 h1,rfl⟩);have y4:(kv.map (·.1)).Nodup:=by
   have:=(h.perm.map (·.1)).nodup_iff;rw[bH]at this;exact this.1 h.nodup
  subst h2;cases hg:fL p.1.1 kv with
  |none=>exact absurd rfl (uM hg p.1 hm)
  |some a=>
   have h3:=CP hg;have:∀{kv:List (Ky×A)}{k:Ky}{a b:A},(kv.map (·.1)).Nodup->(k,a)∈kv->(k,b)∈kv->a=b:=by
    intro kv k a b;induction kv with
    |nil=>simp
    |cons q r ih=>
     intro hn h1 h2;simp only[aG,gR,aA4]at hn;simp only[aO]at h1 h2;rcases h1 with h1|h1<;>rcases h2 with h2|h2
     ·rw[<-h1]at h2;cases h2;rfl
     ·exact absurd ⟨(k,b),h2,by rw[<-h1]⟩ hn.1
     ·exact absurd ⟨(k,a),h1,by rw[<-h2]⟩ hn.1
     ·exact ih hn.2 h1 h2
   rw[this y4 h3 hm]
end
def aHN:Value->Option KC
 |.int k n=>some (.int k n)
 |.bool b=>some (.bool b)
 |.string s=>some (.str s)
 |_=>none
theorem TD{v:Value}{c:KC}(h:aHN v=some c):v=c.val:=by
 cases v<;>simp[aHN]at h<;>(subst h;rfl)
def kcC:C->Option KC
 |.v x=>aHN x
 |_=>none
def kcA:A->Option KC
 |.d c=>kcC c
 |_=>none
def aDV:List C->Option (List KC)
 |[]=>some []
 |c::r=>match kcC c,aDV r with
  |some k,some l=>some (k::l)
  |_,_=>none
def aDU:List A->Option (List KC)
 |[]=>some []
 |c::r=>match kcA c,aDU r with
  |some k,some l=>some (k::l)
  |_,_=>none
def keyOf:A->Option Ky
 |.d (.v v)=>(aHN v).map .one
 |.d (.agg l)=>(aDV l).map .agg
 |.agg l=>(aDU l).map .agg
 |_=>none
section
variable{w:World}{M:Nat->Prop}{m:Mem}{ρ:Nat->Value}
theorem YH{c:C}{k:KC}{y:Value}(h:kcC c=some k)(hd:c.Den w M y):y=k.val:=by
 cases c<;>simp[kcC]at h
 simp only[C.Den]at hd;rw[hd];exact TD h
theorem aHM{c:A}{k:KC}{y:Value}(h:kcA c=some k)(hd:c.Den w M m ρ y):y=k.val:=by
 cases c<;>simp[kcA]at h
 simp only[A.Den]at hd;exact YH h hd
theorem TF:∀{l:List C}{ks:List KC}{ys:List Value},aDV l=some ks->C.bR w M l ys->ys=ks.map KC.val
 |[],ks,ys,h,hd=>by simp only[aDV,aA]at h;subst h;simpa only[C.bR,bM]using hd
 |c::r,ks,ys,h,hd=>by
  simp only[aDV]at h;split at h
  ·rename_i k l h1 h2;simp only[aA]at h;subst h;simp only[C.bR]at hd;obtain⟨y,yr,rfl,h3,h4⟩:=hd;rw[YH h1 h3,TF h2 h4];rfl
  ·cases h
theorem TE:∀{l:List A}{ks:List KC}{ys:List Value},aDU l=some ks->A.bR w M m ρ l ys->ys=ks.map KC.val
 |[],ks,ys,h,hd=>by simp only[aDU,aA]at h;subst h;simpa only[A.bR,bM]using hd
 |c::r,ks,ys,h,hd=>by
  simp only[aDU]at h;split at h
  ·rename_i k l h1 h2;simp only[aA]at h;subst h;simp only[A.bR]at hd;obtain⟨y,yr,rfl,h3,h4⟩:=hd;rw[aHM h1 h3,TE h2 h4];rfl
  ·cases h
theorem rF{x:A}{y:Value}(h:keyOf x=some k)(hd:x.Den w M m ρ y):y=k.val:=by
 cases x with
 |d c=>
  cases c with
  |v v=>
   simp only[keyOf,bU]at h;obtain⟨c,h1,rfl⟩:=h;simp only[A.Den,C.Den]at hd;rw[hd];exact TD h1
  |agg l=>
   simp only[keyOf,bU]at h;obtain⟨c,h1,rfl⟩:=h;simp only[A.Den,C.Den]at hd;obtain⟨vs,rfl,_,h2⟩:=hd;have:=TF h1 h2;simp only[Ky.val];rw[<-this]
  |_=>simp[keyOf]at h
 |agg l=>
  simp only[keyOf,bU]at h;obtain⟨c,h1,rfl⟩:=h;simp only[A.Den]at hd;obtain⟨vs,rfl,_,h2⟩:=hd;have:=TE h1 h2;simp only[Ky.val];rw[<-this]
 |_=>simp[keyOf]at h
end
def U2(P:Program)(t:TypeId):Option A:=
 match P.info? t with
 |some i=>match i.zero with
  |some (.agg _)=>(o5 P t).map λz=>.d (.agg z)
  |some _=>match o5 P t with
   |some [c]=>some (.d c)
   |_=>none
  |none=>none
 |none=>none
theorem O5{P:Program}{a:A}(h:U2 P t=some a)(w:World):∃v,(zeroValue t).run P w=.ok v w/\∀w M m ρ,a.Den w M m ρ v:=by
 unfold U2 at h;split at h
 ·rename_i i hi;split at h
  ·rename_i cs hz;simp only[bU]at h;obtain⟨z,h1,rfl⟩:=h;obtain⟨zv,h2,h3,⟨i',h4,h5⟩,h6⟩:=qA h1 w;rw[hi]at h4;cases h4;rw[hz]at h5;cases h5;exact⟨_,h2,λw M m ρ=>by simp only[A.Den,C.Den];exact⟨cs,rfl,h6,h3 w M⟩⟩
  ·rename_i v hZ hz;split at h
   ·rename_i c h1;simp only[aA]at h;subst h;obtain⟨zv,h2,h3,⟨i',h4,h5⟩,h6⟩:=qA h1 w;rw[hi]at h4;cases h4;rw[hz]at h5;cases h5;refine⟨_,h2,λw M m ρ=>?_⟩;have h7:=h3 w M;have hc:v.cells= #[v]:=by cases v<;>first|rfl|exact(hZ _ rfl).elim
    rw[hc]at h7;simp only[C.bR]at h7;obtain⟨y,yr,e,h8,_⟩:=h7;simp at e;simp only[A.Den];rw[e.1];exact h8
   ·cases h
  ·cases h
 ·cases h
end Go.Pv
