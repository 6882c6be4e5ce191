import Derived.Test.YtpdcbahjjmooiaaGreatA17
/- A program logic over the model, contracts of the functions that the law reaches: part 18. (Names and blanks were shortened by program.) -/
set_option linter.unusedVariables false
set_option linter.unusedSimpArgs false
set_option linter.constructorNameAsVariable false
set_option linter.unusedSectionVars false
set_option linter.deprecated false
set_option maxRecDepth 100000
set_option maxHeartbeats 8000000
open Go
namespace Go.Pv
open Go.RowKit
variable{w:World}{m:Mem}{ρ:Nat->Value}{P:Program}{v r:A}{ml mb u:List (Nat×R)}{i n:Nat}{l:List (Nat×A)}{X Y:Prop}
def A.AQ:A->Bool
 |.d c=>match c with
  |.v _=>true
  |.nl _=>true
  |_=>false
 |.lp _ _=>true
 |.h _=>true
 |.x=>true
 |_=>false
def R.IZ:R->Prop
 |.dead=>True
 |.cells fz l=>fz=false/\∀a∈l,a.AQ=true
 |.fW fz _ _ l=>fz=false/\∀a∈l.flatten,a.AQ=true
 |.mp fz kv st=>fz=false/\st=[]/\∀a∈kv.map (·.2),a.AQ=true
 |_=>False
theorem aA8{M M':Nat->Prop}{m':Mem}{ρ':Nat->Value}(hO:cI m m' ρ ρ'):∀{a:A}{y:Value},a.AQ=true->a.Den w M m ρ y->a.Den w M' m' ρ' y:=by
 intro a y h hd;cases a with
 |d c=>
  cases c with
  |v x=>simpa only[A.Den,C.Den]using hd
  |nl es=>simpa only[A.Den,C.Den]using hd
  |_=>cases h
 |lp i off=>
  simp only[A.Den]at hd⊢;exact hd.mono hO λe _⟨b,h1,h2⟩=>⟨b,e.trans h1,h2⟩
 |h i=>
  simp only[A.Den]at hd⊢;exact hd.mono hO λe _ h1=>h1.trans e.symm
 |x=>simp only[A.Den]
 |_=>cases h
theorem yS{w:World}{M M':Nat->Prop}{m m':Mem}{ρ ρ':Nat->Value}(hO:cI m m' ρ ρ'):∀{l:List A}{ys:List Value},(∀a∈l,a.AQ=true)->A.bR w M m ρ l ys->A.bR w M' m' ρ' l ys
 |[],ys,_,hd=>by simpa only[A.bR]using hd
 |c::r,ys,h,hd=>by
  simp only[A.bR]at hd⊢;obtain⟨y,yr,hy,h1,h2⟩:=hd;exact⟨y,yr,hy,aA8 hO (h c (by simp)) h1,yS hO (λa ha=>h a (by simp[ha])) h2⟩
theorem aA7{M M':Nat->Prop}{m':Mem}{ρ':Nat->Value}{h:Value}(hO:cI m m' ρ ρ'){r:R}(hf:r.IZ)(hr:r.Ok w M m ρ h):r.Ok w M' m' ρ' h:=by
 cases r with
 |dead=>trivial
 |cells fz l=>
  obtain⟨rfl,hl⟩:=hf;obtain⟨b,cs,t,e,h1,h2,h3,h4⟩:=hr;exact⟨b,cs,t,e,h1,yS hO hl h2,(λe=>by cases e),h4⟩
 |fW fz t es l=>
  obtain⟨rfl,hl⟩:=hf;obtain⟨xs,h1,h2,h3,h4,h5⟩:=hr;exact⟨xs,h1,yS hO hl h2,h3,(λe=>by cases e),h5⟩
 |mp fz kv st=>
  obtain⟨rfl,rfl,hl⟩:=hf;obtain⟨b,es,cl,l,e,h1,h2,h3,h4,h5⟩:=hr;exact⟨b,es,cl,l,e,h1,h2,yS hO hl h3,(λe=>by cases e),λp hp=>by simp at hp⟩
 |_=>cases hf
theorem aJ.aC7{f:FuncId}{as as1:List A}{m1 mF:Mem}{ups:List (Nat×R)}(h:aJ P f as1 m1 (.ok v) (aH m1 ups))(hv:Flat v)(hfz:∀i r,mF i=some r->m i=some r/\m1 i=none)(has:IX mF as as1)(hhs:∀i∈A.lQ as1,m1 i≠none)
 (hm:∀i r,m1 i=some r->m i=some r)(hcl:∀i r,m1 i=some r->∀j∈r.hs,m1 j≠none)(hfresh:∀p∈ups,m1 p.1=none->m p.1=none)(hfl:∀i r,aH m1 ups i=some r->r.IZ):aJ P f as m (.ok v) (aH m ups):=by
 refine⟨h.1,?_⟩;intro N T M0 S0 w0 ρ a w hs hlt vs hvs;let S1:Nat->Prop:=λb=>∃i r,m1 i=some r/\r.live=true/\jK (ρ i)=some b;have hfr:Frz m mF m1:=⟨hfz,λi r h1 h2=>⟨r,hm i r h1,h2⟩⟩;have hsubM:∀b,dD M0 m1 ρ b->dD M0 m ρ b:=hfr.sub;have hsh:∀j,m1 j≠none->Sh m m1 j:=by
  intro j hj;cases hq:m1 j with
  |none=>exact absurd hq hj
  |some r=>exact⟨hj,λhd=>⟨by rw[hm j r hq,<-hq];exact hd,λfz t es l e=>⟨fz,t,l,by rw[hq,<-hm j r hq];exact e,rfl⟩⟩⟩
 have h0:bC M0 S1 w ⟨N.n,none⟩ (λ_=>.x) m1 ρ a w:=
  {keeps:=iF.refl _ _,size:=hs.size,defers:=λds e=>by cases e
   tmps:=λn=>by simp only[A.Den]
   res:=λi r hi=>R.hU (dV.refl _ w) (λb hb _=>hsubM b hb) (cI.refl m1 ρ) (λ_ _ _=>rfl) (R.rY hm (hcl i r hi) (hs.res i r (hm i r hi)))
   own:=λi r b hi hl hb=>by
    obtain⟨x,y,z⟩:=hs.own i r b (hm i r hi) hl hb;exact⟨.inr ⟨i,r,hi,hl,hb⟩,y,z⟩
   apart:=λi j r s b hi l1 hj l2 b1 b2=>hs.apart i j r s b (hm i r hi) l1 (hm j s hj) l2 b1 b2}
 have hlt1:∀b,M0 b->b<w.heap.size:=λb hb=>cG (hlt b hb) hs.keeps.size;refine(h.2 ⟨N.n,none⟩ (λ_=>.x) M0 S1 w ρ a w h0 hlt1 vs (wR hs hfr has (λi hi=>hsh i (hhs i hi)) hvs)).mono ?_;rintro e w' ⟨ρ',h1,hO,hv'⟩;let ρ2:Nat->Value:=λi=>if(aH m1 ups i).isSome then ρ' i else ρ i
 have hA:∀{i:Nat}{r:R},aH m1 ups i=some r->aH m ups i=some r/\ρ2 i=ρ' i:=λ{i r}e=>⟨pN ups hm i r e,by simp[ρ2,e]⟩;have hB:∀{i:Nat},aH m1 ups i=none->m1 i=none/\aH m ups i=m i/\ρ2 i=ρ i:=λ{i}e=>⟨(nP ups e).1,(nP ups e).2 m,by simp[ρ2,e]⟩;have kk:=h1.keeps;have hS1:∀b,S1 b->dD M0 m ρ b:=λb⟨i,r,e1,e2,e3⟩=>.inr ⟨i,r,hm i r e1,e2,e3⟩;have hst:dV (dD M0 m ρ) w w':=kk.stays λb _ e=>hS1 b e;have hon:cI m (aH m ups) ρ ρ2:=by
  intro i hi;cases h':aH m1 ups i with
  |none=>
   obtain⟨e1,e2,e3⟩:=hB h';rw[e2];exact⟨hi,λhd=>⟨hd,e3,λfz t es l e=>⟨fz,t,l,e,rfl⟩⟩⟩
  |some r=>
   obtain⟨e1,e2⟩:=hA h';rw[e1];refine⟨by simp,λhd=>?_⟩;cases hmi:m1 i with
   |none=>
    obtain⟨p,hp,rfl⟩:=xS ups hmi (by rw[h'];simp);exact absurd (hfresh p hp hmi) hi
   |some r0=>
    have hmi':=hm i r0 hmi;obtain⟨_,q⟩:=hO i (by rw[hmi];simp);rw[h']at q;obtain⟨q1,q2,q3⟩:=q hd;rw[hmi'];rw[hmi]at q1 q3;exact⟨q1,by rw[e2];exact q2,q3⟩
 have hsub:∀b,dD M0 (aH m ups) ρ2 b->b<w.heap.size->dD M0 m ρ b:=by
  rintro b (e|⟨i,r,hi,hl,hb⟩) hbl
  ·exact .inl e
  ·cases h':aH m1 ups i with
   |none=>
    obtain⟨e1,e2,e3⟩:=hB h';rw[e2]at hi;rw[e3]at hb;exact .inr ⟨i,r,hi,hl,hb⟩
   |some r'=>
    obtain⟨e1,e2⟩:=hA h';rw[e1]at hi;simp at hi;subst hi;rw[e2]at hb;rcases(h1.own i r' b h' hl hb).1 with q|q
    ·omega
    ·exact hS1 b q
 have hon2:cI (aH m1 ups) (aH m ups) ρ' ρ2:=by
  intro i hi;cases h':aH m1 ups i with
  |none=>exact absurd h' hi
  |some r=>
   obtain⟨e1,e2⟩:=hA h';rw[e1];exact⟨by simp,λhd=>⟨hd,e2,λfz t es l e=>⟨fz,t,l,e,rfl⟩⟩⟩
 have hcross:∀(i j:Nat)(r s:R)(b:Nat),aH m1 ups i=some r->r.live=true->jK (ρ' i)=some b->m1 j=none->m j=some s->s.live=true->jK (ρ j)=some b->False:=by
  intro i j r s b hi l1 b1 hj1 hj l2 b2;rcases(h1.own i r b hi l1 b1).1 with q|⟨k,rk,q1,q2,q3⟩
  ·have:=(hs.own j s b hj l2 b2).2.2;omega
  ·have:=hs.apart k j rk s b (hm k rk q1) q2 hj l2 q3 b2;subst this;rw[hj1]at q1;cases q1
 refine⟨ρ2,?_,hon,?_⟩
 ·refine{keeps:=hs.keeps.trans kk λb hb⟨i,r,e1,e2,e3⟩=>?_,size:=h1.size,defers:=λds e=>eJ hst hsub hon _ _ (hs.defers ds e)
         tmps:=λn=>A.dC hst hsub hon _ _ (hs.tmps n)
         res:=λi r hi=>?_,own:=λi r b hi hl hb=>?_,apart:=λi j r s b hi l1 hj l2 b1 b2=>?_}
  ·rcases(hs.own i r b (hm i r e1) e2 e3).1 with q|q
   ·omega
   ·exact q
  ·cases h':aH m1 ups i with
   |some r'=>
    obtain⟨e1,e2⟩:=hA h';rw[e1]at hi;simp at hi;subst hi;rw[e2];exact aA7 hon2 (hfl i r' h') (h1.res i r' h')
   |none=>
    obtain⟨e1,e2,e3⟩:=hB h';rw[e2]at hi;rw[e3];by_cases hd:r=.dead
    ·subst hd;trivial
    ·refine R.hU hst hsub hon (λb hb hlt'=>?_) (hs.res i r hi);refine kk.block b hlt' ?_;rintro⟨j,s,q1,q2,q3⟩;have hij:i≠j:=by rintro rfl;rw[e1]at q1;cases q1
     exact hs.other (hm j s q1) q2 q3 hi hd hij hb
  ·cases h':aH m1 ups i with
   |some r'=>
    obtain⟨e1,e2⟩:=hA h';rw[e1]at hi;simp at hi;subst hi;rw[e2]at hb;obtain⟨x,y,z⟩:=h1.own i r' b h' hl hb;refine⟨?_,y,z⟩;rcases x with q|⟨j,s,q1,q2,q3⟩
    ·exact .inl (cL hs.keeps.size q)
    ·exact(hs.own j s b (hm j s q1) q2 q3).1
   |none=>
    obtain⟨e1,e2,e3⟩:=hB h';rw[e2]at hi;rw[e3]at hb;obtain⟨x,y,z⟩:=hs.own i r b hi hl hb;exact⟨x,y,cG z kk.size⟩
  ·cases h':aH m1 ups i with
   |some r'=>
    obtain⟨e1,e2⟩:=hA h';rw[e1]at hi;simp at hi;subst hi;rw[e2]at b1;cases h2:aH m1 ups j with
    |some s'=>
     obtain⟨e3,e4⟩:=hA h2;rw[e3]at hj;simp at hj;subst hj;rw[e4]at b2;exact h1.apart i j r' s' b h' l1 h2 l2 b1 b2
    |none=>
     obtain⟨e3,e4,e5⟩:=hB h2;rw[e4]at hj;rw[e5]at b2;exact(hcross i j r' s b h' l1 b1 e3 hj l2 b2).elim
   |none=>
    obtain⟨e1,e2,e3⟩:=hB h';rw[e2]at hi;rw[e3]at b1;cases h2:aH m1 ups j with
    |some s'=>
     obtain⟨e4,e5⟩:=hA h2;rw[e4]at hj;simp at hj;subst hj;rw[e5]at b2;exact(hcross j i s' r b h2 l2 b2 e1 hi l1 b1).elim
    |none=>
     obtain⟨e4,e5,e6⟩:=hB h2;rw[e5]at hj;rw[e6]at b2;exact hs.apart i j r s b hi l1 hj l2 b1 b2
 ·obtain⟨y,rfl,hy⟩:=hv';exact⟨y,rfl,hv.den hy⟩
def lH(g:Nat->Nat)(ml:List (Nat×R)):List (Nat×R):=ml.map λp=>(g p.1,p.2.eZ g)
theorem aCA(a b:Nat):Nat.beq a b=decide (a=b):=by
 cases h:Nat.beq a b with
 |true=>simp[bB h]
 |false=>
  have:a≠b:=λe=>by subst e;simp at h
  simp[this]
theorem rJ{g gi:Nat->Nat}(h1:∀i,gi (g i)=i)(h2:∀i,g (gi i)=i):∀ml:List (Nat×R),nK g gi (aK ml)=aK (lH g ml)
 |[]=>rfl
 |p::r=>by
  funext i;have ih:=congrFun (rJ h1 h2 r) i;simp only[nK,lH,aG,aK]at ih⊢;have e:Nat.beq p.1 (gi i)=Nat.beq (g p.1) i:=by
   rw[aCA,aCA,decide_eq_decide];exact⟨λe=>by rw[e,h2],λe=>by rw[<-e,h1]⟩
  rw[e];cases Nat.beq (g p.1) i with
  |true=>rfl
  |false=>exact ih
theorem hY:∀(u ml:List (Nat×R)),aH (aK ml) u=aK (u.reverse++ml)
 |[],ml=>rfl
 |(i,r)::u,ml=>by
  have:=hY u ((i,r)::ml);rw[fC,bG,qY,<-this,lR];rfl
theorem T6(g:Nat->Nat)(a b:List (Nat×R)):lH g (a++b)=lH g a++lH g b:=bP
theorem tZ{g gi:Nat->Nat}(h1:∀i,gi (g i)=i)(h2:∀i,g (gi i)=i)(u ml:List (Nat×R)):nK g gi (aH (aK ml) u)=aH (aK (lH g ml)) (lH g u):=by
 rw[hY,rJ h1 h2,T6,hY];congr 2;simp[lH]
def RN(ml:List (Nat×R)):List (Nat×R)->Prop
 |[]=>True
 |p::r=>aK ml p.1=some p.2/\RN ml r
theorem RN.at{ml:List (Nat×R)}:∀{l:List (Nat×R)},RN ml l->∀i r,aK l i=some r->aK ml i=some r
 |[],_,i,r,h=>by simp[aK]at h
 |p::l,h,i,r,hr=>by
  simp only[aK]at hr;cases hb:Nat.beq p.1 i with
  |true=>
   rw[hb]at hr;simp only[cond_true,aA]at hr;have:=bB hb;subst this;subst hr;exact h.1
  |false=>rw[hb]at hr;exact h.2.at i r hr
def VOk(l:List (Nat×R)):List Nat->Prop
 |[]=>True
 |i::r=>aK l i=none/\VOk l r
theorem VOk.at{l:List (Nat×R)}:∀{V:List Nat},VOk l V->∀i,s9 i V=true->aK l i=none
 |[],_,i,h=>by cases h
 |j::r,h,i,hi=>by
  simp only[s9]at hi;cases hb:Nat.beq i j with
  |true=>have:=bB hb;subst this;exact h.1
  |false=>rw[hb]at hi;exact h.2.at i hi
def FrU(ml l:List (Nat×R)):List (Nat×R)->Prop
 |[]=>True
 |p::r=>(aK l p.1≠none\/aK ml p.1=none)/\FrU ml l r
theorem FrU.at{ml l:List (Nat×R)}:∀{u:List (Nat×R)},FrU ml l u->∀p∈u,aK l p.1=none->aK ml p.1=none
 |[],_,p,hp,_=>by simp at hp
 |q::r,h,p,hp,h0=>by
  simp only[aO]at hp;rcases hp with rfl|hp
  ·exact h.1.resolve_left (λe=>e h0)
  ·exact h.2.at p hp h0
def sT:List (Nat×R)->Prop
 |[]=>True
 |p::r=>p.2.IZ/\sT r
theorem sT.at:∀{l:List (Nat×R)},sT l->∀i r,aK l i=some r->r.IZ
 |[],_,i,r,h=>by simp[aK]at h
 |p::l,h,i,r,hr=>by
  simp only[aK]at hr;cases hb:Nat.beq p.1 i with
  |true=>
   rw[hb]at hr;simp only[cond_true,aA]at hr;subst hr;exact h.1
  |false=>rw[hb]at hr;exact h.2.at i r hr
theorem sT.append:∀{l l':List (Nat×R)},sT l->sT l'->sT (l++l')
 |[],_,_,h=>h
 |p::l,_,h,h'=>⟨h.1,h.2.append h'⟩
theorem sT.reverse:∀{l:List (Nat×R)},sT l->sT l.reverse
 |[],_=>trivial
 |p::l,h=>by rw[fC];exact h.2.reverse.append ⟨h.1,trivial⟩
theorem Flat.eZ{v:A}(h:Flat v)(g:Nat->Nat):v.eZ g=v:=by
 cases h with
 |v x=>rfl
 |eL l=>
  simp only[A.eZ];congr 1;induction l with
  |nil=>rfl
  |cons x r ih=>simp only[aG,A.iV,A.eZ,ih]
theorem aJ.use{f:FuncId}{as as':List A}(h:aJ P f as (aK mb) (.ok v) (aH (aK mb) u))(hv:Flat v){g gi:Nat->Nat}(h1:∀i,gi (g i)=i)(h2:∀i,g (gi i)=i)(V:List Nat)
 (has:IX (EC V ml) as' (A.iV g as))(hhs:rB (lH g mb) (A.lQ (A.iV g as)))(hm:RN ml (lH g mb))(hV:VOk (lH g mb) V)(hcl:H9 (lH g mb) (lH g mb))(hfr:FrU ml (lH g mb) (lH g u))(hf1:sT (lH g mb))(hf2:sT (lH g u)):
 aJ P f as' (aK ml) (.ok v) (aH (aK ml) (lH g u)):=by
 have k:=h.eZ h1 h2;rw[rJ h1 h2,tZ h1 h2]at k;have e:(Rt.ok v).eZ g=.ok v:=by show Rt.ok (v.eZ g)=_;rw[hv.eZ]
 rw[e]at k;refine aJ.aC7 (mF:=EC V ml) k hv ?_ has hhs.at hm.at (λi r hi=>hcl.at i r hi) hfr.at ?_
 ·intro i r hi;unfold EC at hi;cases hq:s9 i V with
  |false=>rw[hq]at hi;cases hi
  |true=>rw[hq]at hi;exact⟨hi,hV.at i hq⟩
 ·intro i r hi;rw[hY]at hi;exact(hf2.reverse.append hf1).at i r hi
def I2(ml:List (Nat×R)):List Nat->List (Nat×R)->Prop
 |_,[]=>True
 |s,p::r=>(s9 p.1 s=true\/aK ml p.1=some p.2)/\I2 ml (p.1::s) r
theorem I2.at{ml:List (Nat×R)}:∀{l:List (Nat×R)}{s:List Nat},I2 ml s l->∀i r,s9 i s=false->aK l i=some r->aK ml i=some r
 |[],_,_,i,r,_,h=>by simp[aK]at h
 |p::l,s,h,i,r,hs,hr=>by
  simp only[aK]at hr;cases hb:Nat.beq p.1 i with
  |true=>
   rw[hb]at hr;simp only[cond_true,aA]at hr;have:=bB hb;subst this;subst hr;exact h.1.resolve_left (λe=>by rw[hs]at e;cases e)
  |false=>
   rw[hb]at hr;refine h.2.at i r ?_ hr;simp only[s9];have:Nat.beq i p.1=false:=by
    cases hq:Nat.beq i p.1 with
    |false=>rfl
    |true=>have:=bB hq;subst this;simp at hb
   rw[this];exact hs
theorem dA(h1:v=r)(h2:I2 ml [] (u.reverse++mb)):U8 mb r u v ml:=by
 refine⟨h1,λi q hq=>?_⟩;rw[hY]at hq;exact h2.at i q rfl hq
theorem V6(hm:P.follows .mixedOrders=true){f:FuncId}{fn:Func}{c:Code}{as:List A}{r:A}{mb u:List (Nat×R)}(nx:Nat)(hf:P.funcs[f]?=some fn)(hb:fn.body=some c)(hcl:kW P f=true)(hn:as.length<=fn.ntmps)
 (hv:rB (u.reverse++mb) r.hs)(hc:H9 (u.reverse++mb) u)
 (h:vc P mb fn.ntmps c (C9 0 as) mb nx (JS P fn (U8 mb r u))):aJ P f as (aK mb) (.ok r) (aH (aK mb) u):=by
 refine OC hm nx hf hb hcl hn (λi hi=>?_) (λp hp j hj=>?_) h
 ·rw[hY];exact hv.at i hi
 ·rw[hY];have:∀{l:List (Nat×R)},H9 (u.reverse++mb) l->p∈l->∀j∈p.2.hs,aK (u.reverse++mb) j≠none:=by
   intro l;induction l with
   |nil=>intro _ h;simp at h
   |cons q l ih=>
    intro h hp;simp only[aO]at hp;rcases hp with rfl|hp
    ·exact h.1.at
    ·exact ih h.2 hp
  exact this hc hp j hj
theorem YQ{t:TypeId}{es:Nat}{rows:List (List A)}{L:List (List C)}(h:aK ml i=some (.fW false t es rows))(hr:rows=bE L):aK ml i=some (dU t es L):=by rw[h,hr];rfl
theorem ER(a b:List (List C)):bE (a++b)=bE a++bE b:=by simp only[bE,bP]
theorem YF(i:Nat):id (id i)=i:=rfl
theorem sT.dU{i:Nat}{t:TypeId}{es:Nat}{L:List (List C)}(h:∀c∈L.flatten,A.AQ (.d c)=true):(Go.Pv.dU t es L).IZ:=by
 refine⟨rfl,λa ha=>?_⟩;rw[yT]at ha;obtain⟨c,hc,rfl⟩:=aM.1 ha;exact h c hc
theorem cN.trans{l' l2:List (Nat×A)}{ml' ml2:List (Nat×R)}(h1:cN mb n l ml l' ml')(h2:cN mb n l' ml' l2 ml2):cN mb n l ml l2 ml2:=by
 intro b ρb ρ a w hs ho;obtain⟨ρ1,s1,o1⟩:=h1 b ρb ρ a w hs ho;exact h2 b ρb ρ1 a w s1 o1
section
variable{M0 S0:Nat->Prop}{w0:World}{N:Fr}{T:Nat->A}{m:Mem}{ρ:Nat->Value}{a:Act}{w:World}
theorem EH:cI m (aX m i .dead) ρ ρ:=by
 intro j hj;by_cases e:j=i
 ·subst e;simp[aX]
 ·simp only[aX,e,if_false];exact⟨hj,λhd=>⟨hd,trivial,λfz t es l e=>⟨fz,t,l,e,rfl⟩⟩⟩
theorem YT:∀b,dD M0 (aX m i .dead) ρ b->dD M0 m ρ b:=by
 rintro b (e|⟨j,r,h1,h2,h3⟩)
 ·exact .inl e
 ·by_cases e:j=i
  ·subst e;simp only[aX,if_true,aA]at h1;subst h1;cases h2
  ·simp only[aX,e,if_false]at h1;exact .inr ⟨j,r,h1,h2,h3⟩
theorem bC.die(h:bC M0 S0 w0 N T m ρ a w)(i:Nat):bC M0 S0 w0 N T (aX m i .dead) ρ a w:=by
 have hst:=dV.refl (dD M0 m ρ) w;have hmu:∀b,dD M0 (aX m i .dead) ρ b->b<w.heap.size->dD M0 m ρ b:=λb hb _=>YT b hb
 exact{keeps:=h.keeps,size:=h.size
       defers:=λds e=>eJ hst hmu EH _ _ (h.defers ds e)
       tmps:=λn=>A.dC hst hmu EH _ _ (h.tmps n)
       res:=λj r hj=>by
        by_cases e:j=i
        · subst e
          simp only[aX,if_true,aA]at hj;subst hj;trivial
        · simp only[aX,e,if_false]at hj
          exact R.hU hst hmu EH (λ_ _ _=>rfl) (h.res j r hj)
       own:=λj r b hj hl hb=>by
        by_cases e:j=i
        · subst e
          simp only[aX,if_true,aA]at hj;subst hj;cases hl
        · simp only[aX,e,if_false]at hj
          exact h.own j r b hj hl hb
       apart:=λj k r s b hj l1 hk l2 b1 b2=>by
        by_cases e:j=i
        · subst e
          simp only[aX,if_true,aA]at hj;subst hj;cases l1
        · by_cases e2:k=i
          · subst e2
            simp only[aX,if_true,aA]at hk;subst hk;cases l2
          · simp only[aX,e,e2,if_false]at hj hk
            exact h.apart j k r s b hj l1 hk l2 b1 b2}
end
def J7:List Nat->Mem->Mem
 |[],m=>m
 |i::r,m=>J7 r (aX m i .dead)
section
variable{M0 S0:Nat->Prop}{w0:World}{N:Fr}{T:Nat->A}{ρ:Nat->Value}{a:Act}{w:World}
theorem N5:∀(D:List Nat){m:Mem},bC M0 S0 w0 N T m ρ a w->bC M0 S0 w0 N T (J7 D m) ρ a w/\cI m (J7 D m) ρ ρ/\∀b,dD M0 (J7 D m) ρ b->dD M0 m ρ b
 |[],m,h=>⟨h,cI.refl m ρ,λb hb=>hb⟩
 |i::r,m,h=>by
  obtain⟨k1,k2,k3⟩:=N5 r (h.die i);exact⟨k1,EH.trans k2,λb hb=>YT b (k3 b hb)⟩
end
structure aGG(D:List Nat)(mb:List (Nat×R))(r:A)(u:List (Nat×R))(v:A)(ml:List (Nat×R)):Prop where
 val:v=r
 mem:∀i q,aH (aK mb) u i=some q->J7 D (aK ml) i=some q
theorem aAR{D:List Nat}(h:aGG D mb r u v ml)(hv:∀i∈r.hs,aH (aK mb) u i≠none)(hc:∀p∈u,∀j∈p.2.hs,aH (aK mb) u j≠none):aGH (aK mb) (aK ml) (.ok v) (aH (aK mb) u) (.ok r):=by
 intro N N1 T T1 M0 S0 w0 ρ ρ2 a a1 w w2 e hs s hO hden;obtain⟨y,rfl,hy⟩:=hden;obtain⟨rfl,hsub⟩:=h;obtain⟨k1,k2,k3⟩:=N5 D s;have hO2:=hO.trans k2;have hb:=hs.back k1 hO2;have hy2:=A.dC (dV.refl _ w2) (λb hb _=>k3 b hb) k2 _ _ hy;obtain⟨q1,q2,q3⟩:=hs.cut hb hO2 hsub hv hc hy2;exact⟨ρ2,q1,q2,y,rfl,q3⟩
theorem J8:∀(D:List Nat)(ml:List (Nat×R)),J7 D (aK ml)=aK ((D.map λi=>(i,.dead)).reverse++ml)
 |[],ml=>rfl
 |i::r,ml=>by
  have:=J8 r ((i,.dead)::ml);rw[lR]at this;simp only[J7,this,aG,fC,bG,qY]
theorem XY{D:List Nat}(h1:v=r)(h2:I2 ((D.map λi=>(i,.dead)).reverse++ml) [] (u.reverse++mb)):aGG D mb r u v ml:=by
 refine⟨h1,λi q hq=>?_⟩;rw[hY]at hq;rw[J8];exact h2.at i q rfl hq
theorem V5(hm:P.follows .mixedOrders=true){f:FuncId}{fn:Func}{c:Code}{as:List A}{r:A}{mb u:List (Nat×R)}(D:List Nat)(nx:Nat)(hf:P.funcs[f]?=some fn)(hb:fn.body=some c)(hcl:kW P f=true)(hn:as.length<=fn.ntmps)
 (hv:rB (u.reverse++mb) r.hs)(hc:H9 (u.reverse++mb) u)
 (h:vc P mb fn.ntmps c (C9 0 as) mb nx (JS P fn (aGG D mb r u))):aJ P f as (aK mb) (.ok r) (aH (aK mb) u):=by
 have h1:=uX hm c _ _ _ _ h;rw[IC]at h1;refine qG hf hb hcl hn h1 ?_;rintro ex T' m' ⟨l,ml,nx,rfl,rfl,h⟩;obtain⟨e1,v,e2,h3⟩:=IF h;refine⟨e1,⟨ml,rfl⟩,v,e2,aAR h3 (λi hi=>?_) (λp hp j hj=>?_)⟩
 ·rw[hY];exact hv.at i hi
 ·rw[hY];have:∀{l:List (Nat×R)},H9 (u.reverse++mb) l->p∈l->∀j∈p.2.hs,aK (u.reverse++mb) j≠none:=by
   intro l;induction l with
   |nil=>intro _ h;simp at h
   |cons q l ih=>
    intro h hp;simp only[aO]at hp;rcases hp with rfl|hp
    ·exact h.1.at
    ·exact ih h.2 hp
  exact this hc hp j hj
theorem cN.perm(i:Nat){mb:List (Nat×R)}{n:Nat}{l:List (Nat×A)}{ml:List (Nat×R)}{fz:Bool}{kv kv':List (Ky×A)}(hp:kv.Perm kv'):cN mb n l ((i,.mp fz kv [])::ml) l ((i,.mp fz kv' [])::ml):=by
 intro b ρb ρ a w hs ho;rw[lR]at hs ho;rw[lR];obtain⟨k1,k2,k3⟩:=hs.aH8 hp;exact⟨ρ,k1,ho.trans k2⟩
theorem bC.aLV{M0 S0:Nat->Prop}{w0:World}{ds0:Option (List DA)}{T:Nat->A}{a:Act}(h:bC M0 S0 w0 ⟨n,ds0⟩ T m ρ a w){m1:Mem}{M1:Nat->Prop}{ds1:List DA}(hM:∀x,M1 x->dD M0 m ρ x)
 (hMo:∀i r x,m1 i=some r->r.live=true->jK (ρ i)=some x->¬M1 x)(hm:∀i r,m1 i=some r->m i=some r)(hT:∀n,∀i∈(T n).hs,m1 i≠none)(hd:iM w (dD M1 m1 ρ) m1 ρ ds1 a.defers)(hcl:∀i r,m1 i=some r->∀j∈r.hs,m1 j≠none):bC M1 (oO m1 ρ) w ⟨n,some ds1⟩ T m1 ρ a w:=by
 have hmu:∀b,dD M1 m1 ρ b->b<w.heap.size->dD M0 m ρ b:=by
  rintro b (e|⟨i,r,h1,h2,h3⟩) _
  ·exact hM b e
  ·exact .inr ⟨i,r,hm i r h1,h2,h3⟩
 have hmono:∀{x:A}{y:Value},x.Den w (dD M0 m ρ) m1 ρ y->x.Den w (dD M1 m1 ρ) m1 ρ y:=λ{x y}hd=>A.dC (dV.refl _ w) hmu (cI.refl m1 ρ) _ _ hd
 exact{keeps:=iF.refl _ _,size:=h.size
       defers:=λds e=>by simp only[aA]at e;subst e;exact hd
       tmps:=λn=>hmono (A.kU hm _ _ (hT n) (h.tmps n))
       res:=λi r hi=>R.hU (dV.refl _ w) hmu (cI.refl m1 ρ) (λ_ _ _=>rfl) (R.rY hm (hcl i r hi) (h.res i r (hm i r hi)))
       own:=λi r b hi hl hb=>⟨.inr ⟨i,r,hi,hl,hb⟩,hMo i r b hi hl hb,(h.own i r b (hm i r hi) hl hb).2.2⟩
       apart:=λi j r s b hi l1 hj l2 b1 b2=>h.apart i j r s b (hm i r hi) l1 (hm j s hj) l2 b1 b2}
def RK(i j:Nat)(ml2:List (Nat×R)):List (Nat×R)->Prop
 |[]=>True
 |p::r=>(Nat.beq p.1 i=false/\Nat.beq p.1 j=false/\aK ml2 p.1=some p.2)/\RK i j ml2 r
theorem PD{a b:Nat}(h:Nat.beq a b=false):a≠b:=λe=>by subst e;simp at h
theorem RK.at{i j:Nat}{ml2:List (Nat×R)}:∀{ml3:List (Nat×R)},RK i j ml2 ml3->∀k q,aK ml3 k=some q->k≠i/\k≠j/\aK ml2 k=some q
 |[],_,k,q,h=>by simp[aK]at h
 |p::r,h,k,q,hq=>by
  simp only[aK]at hq;cases hb:Nat.beq p.1 k with
  |true=>
   rw[hb]at hq;simp only[cond_true,aA]at hq;have:=bB hb;subst this;subst hq;exact⟨PD h.1.1,PD h.1.2.1,h.1.2.2⟩
  |false=>rw[hb]at hq;exact h.2.at k q hq
def aB3(i:Nat):List (Nat×R)->Prop
 |[]=>True
 |p::r=>Nat.beq p.1 i=false/\aB3 i r
theorem aB3.at{i:Nat}:∀{u:List (Nat×R)},aB3 i u->∀p∈u,p.1≠i
 |[],_,p,h=>by simp at h
 |q::r,h,p,hp=>by
  simp only[aO]at hp;rcases hp with rfl|hp
  ·exact PD h.1
  ·exact h.2.at p hp
theorem G4{i:Nat}:∀{u:List (Nat×R)}{m:Mem},(∀p∈u,p.1≠i)->aH m u i=m i
 |[],m,_=>rfl
 |p::r,m,h=>by
  simp only[aH];rw[G4 λq hq=>h q (by simp[hq])];unfold aX;rw[if_neg (λe=>h p (by simp) e.symm)]
theorem aL9{g:Operand}{ps:Array Tmp}{asg bod:Code}{K:KT}(i j nx:Nat){gf:FuncId}{us vs:List A}{u ml3:List (Nat×R)}{v:A}{ts':List A}{ps':Array Tmp}{asg' bod':Code}
 (hg:dN (lT l) g=.fn (.func gf) us vs\/∃cu cv,dN (lT l) g=.d (.fn (.func gf) cu cv)/\us=cu.map A.d/\vs=cv.map A.d)(hi:aK ml i=none)(hj:aK ml j=none)(hij:Nat.beq i j=false)
 (hcall:aJ P gf (us++([.h j]++vs)) (aK ((j,.lo .ready none (mY n (lT l)) ps asg bod)::ml)) (.ok v) (aH (aK ((j,.lo .ready none (mY n (lT l)) ps asg bod)::ml)) u))
 (hus:rB ((j,.lo .ready none (mY n (lT l)) ps asg bod)::ml) (A.lQ (us++([.h j]++vs))))(hcl:H9 ((j,.lo .ready none (mY n (lT l)) ps asg bod)::ml) ((j,.lo .ready none (mY n (lT l)) ps asg bod)::ml))(hui:aB3 i u)
 (hj2:aK (u.reverse++(j,.lo .ready none (mY n (lT l)) ps asg bod)::ml) j=some (.lo .ready none ts' ps' asg' bod'))
 (hl3:RK i j (u.reverse++(j,.lo .ready none (mY n (lT l)) ps asg bod)::ml) ml3)(h1:ClL ml3 l)(h2:H9 ml3 ml3)(hb:IW ml3 mb)(hK:K .nm l ml3 nx):RfK P mb n g ps asg bod l ml K:=by
 refine⟨λro hro b ρb ρ a w hs hob hlt Q hQ=>?_⟩;have hro:ro=none:=hro.resolve_right (by simp[sC]);subst hro;have hij':i≠j:=PD hij;generalize hlo:R.lo .ready none (mY n (lT l)) ps asg bod=lo at hcall hus hcl hj2 hl3;let mS:Mem:=aX (aX (aK ml) i (.df false)) j lo;have hsub:∀k r,aK ((j,lo)::ml) k=some r->mS k=some r:=by
  intro k r hk;rw[lR]at hk;simp only[mS,aX]at hk⊢;split at hk
  ·rename_i e;rw[if_pos e];exact hk
  ·rename_i e;rw[if_neg e];split
   ·rename_i e2;subst e2;rw[hi]at hk;cases hk
   ·exact hk
 have hcall2:aJ P gf (us++([.h j]++vs)) mS (.ok v) (aH mS u):=by
  refine aJ.frame hcall hus.at hsub (λk r hk=>hcl.at k r hk) (λp hp hk=>?_);rw[lR]at hk;simp only[mS,aX]at hk⊢;split at hk
  ·cases hk
  ·rename_i e;rw[if_neg e,if_neg (hui.at p hp)];exact hk
 have hmi:aH mS u i=some (.df false):=by
  rw[G4 hui.at];simp[mS,aX,hij']
 have hm3:∀k q,aK ml3 k=some q->k≠i/\k≠j/\aH mS u k=some q:=by
  intro k q hk;obtain⟨e1,e2,e3⟩:=hl3.at k q hk;refine⟨e1,e2,?_⟩;rw[<-hY]at e3;exact pN u hsub k q e3
 have hjj:aH mS u j=some (.lo .ready none ts' ps' asg' bod'):=by
  rw[<-hY]at hj2;exact pN u hsub j _ hj2
 subst hlo;have h:=eU.rangeFunc (P:=P) (n:=n) (T:=lT l) (m:=aK ml) (ds:=b.das) (g:=g) (ps:=ps) (asg:=asg) (bod:=bod) (Post:=λex T m ds'=>ex=.nm/\T=lT l/\ds'=.s4 i::b.das/\m=aX (aH mS u) j (.lo .exhausted none ts' ps' asg' bod')) hg hi hj hij' hcall2
  (λv' e=>⟨.ready,none,ts',ps',asg',bod',hjj,by decide,rfl,rfl,rfl,rfl⟩) (λv' e=>by cases e)
 refine h none b.M b.S b.w ρ a w rfl hs hlt Q ?_;rintro ex e T' m' ds' ρ' a' w' ⟨rfl,rfl,rfl,rfl⟩ s o d;obtain⟨D,dr,e1,hh,hr⟩:=s.defers _ rfl;have hmi':aX (aH mS u) j (.lo .exhausted none ts' ps' asg' bod') i=some (.df false):=by
  unfold aX;rw[if_neg hij'];exact hmi
 have hρ:=eH hh hmi' (by simp);obtain⟨D',hD',hw⟩:=s.res i _ hmi';rw[hρ]at hD';simp only[oN,aA,rX,and_true]at hD';subst hD';have hsub3:∀k q,aK ml3 k=some q->aX (aH mS u) j (.lo .exhausted none ts' ps' asg' bod') k=some q:=by
  intro k q hk;obtain⟨_,e2,e3⟩:=hm3 k q hk;unfold aX;rw[if_neg e2];exact e3
 have hDown:=s.own i _ D hmi' rfl (by rw[hρ];rfl);have hDl:∀k r x,aK ml3 k=some r->r.live=true->jK (ρ' k)=some x->x≠D:=by
  rintro k r x q1 q2 q3 rfl;have:=s.apart i k _ r x hmi' rfl (hsub3 k r q1) q2 (by rw[hρ];rfl) q3;exact(hm3 k r q1).1 this.symm
 let b':Bs:=⟨λx=>b.M x\/x=D,oO (aK ml3) ρ',w',D::b.ds⟩;have hs':I1 b' n (lT l) (aK ml3) ρ' a' w':=by
  refine s.aLV (λx hx=>?_) (λk r x q1 q2 q3=>?_) hsub3 h1.at ?_ (λk q hk=>h2.at k q hk)
  ·rcases hx with hx|rfl
   ·exact .inl hx
   ·exact .inr ⟨i,_,hmi',rfl,by rw[hρ];rfl⟩
  ·rintro(q|q)
   ·exact(s.own k r x (hsub3 k r q1) q2 q3).2.1 q
   ·exact hDl k r x q1 q2 q3 q
  ·exact⟨dr,e1,IL hr⟩
 refine hQ .nm e _ _ b' ρ' a' w' ⟨l,ml3,nx,rfl,rfl,hK⟩ ?_ (by simp[sC]) ?_ hs' ?_ d
 ·refine⟨⟨[D],rfl,λx=>by simp[b'],by simp,λx hx=>?_⟩,s.keeps,λx hx=>?_⟩
  ·simp only[aR]at hx;subst hx;refine⟨hDown.1,hDown.2.1,hDown.2.2,?_,by simpa using hw⟩;rintro⟨k,r,q1,q2,q3⟩;exact hDl k r x q1 q2 q3 rfl
  ·obtain⟨k,r,q1,q2,q3⟩:=hx;exact(s.own k r x (hsub3 k r q1) q2 q3).1
 ·rintro x (q|rfl)
  ·exact cG (hlt x q) s.keeps.size
  ·exact hDown.2.2
 ·have ho:=hob.trans o;intro k hk;obtain⟨k1,k2⟩:=ho k hk;have hne:=hb.at k hk;cases hq:aK ml3 k with
  |none=>exact absurd hq hne
  |some r=>
   rw[hsub3 k r hq]at k2;exact⟨by simp,k2⟩
def WkT(T:Nat->A):List (Nat×A)->Prop
 |[]=>True
 |p::r=>T p.1=p.2/\WkT T r
theorem WkT.at{T:Nat->A}:∀{l:List (Nat×A)},WkT T l->∀n,lT l n=.x\/lT l n=T n
 |[],_,n=>.inl rfl
 |p::r,h,n=>by
  simp only[lT];cases hb:Nat.beq p.1 n with
  |true=>have:=bB hb;subst this;exact .inr h.1.symm
  |false=>exact h.2.at n
theorem RU(hm:P.follows .mixedOrders=true){n:Nat}{c:Code}{T:Nat->A}{l:List (Nat×A)}{ml:List (Nat×R)}{nx:Nat}{K:KT}(hc:sC c=true)(hT:∀k,lT l k=.x\/lT l k=T k)(h:vc P ml n c l ml nx K):eU P true n c T (aK ml) [] λex T' m' ds'=>ds'=[]/\PK K ex T' m':=by
 intro ro M0 S0 w0 ρ a w hro hs hlt Q hQ;have hs0:I1 ⟨M0,S0,w0,[]⟩ n (lT l) (aK ml) ρ a w:=
  {keeps:=hs.keeps,size:=hs.size,defers:=hs.defers,res:=hs.res,own:=hs.own,apart:=hs.apart
   tmps:=λk=>by
    rcases hT k with e|e
    · rw[e];simp only[A.Den]
    · rw[e];exact hs.tmps k}
 refine uX hm c l ml nx K h ro (.inr hc) ⟨M0,S0,w0,[]⟩ ρ ρ a w hs0 (cI.refl _ ρ) hlt Q ?_;intro ex e T' m' b' ρ' a' w' hp hE hb hlt' s o d;have:=hb hc;subst this;exact hQ ex e T' m' [] ρ' a' w' ⟨rfl,hp⟩ s o d
theorem aGC(hm:P.follows .mixedOrders=true){o:Oper}{l:List (Nat×A)}{ml:List (Nat×R)}{c:Call}{fo:Operand}{i n:Nat}{ts:List A}{ps:Array Tmp}{asg bod:Code}{u:List (Nat×R)}(l0:List (Nat×A))(nx:Nat)
 (ho:o.op=.call c)(hc:c.callee=.value fo)(hf:dN (lT l) fo=.h i)(hi:aK ml i=some (.lo .ready none ts ps asg bod))(hlen:c.args.size=ps.size)(hps:∀p∈ps.toList,p<n)(hn:ts.length=n)(hn1:sC asg=true)(hn2:sC bod=true)
 (hT:WkT (AX (ps.toList.zip (c.args.toList.map (dN (lT l)))) (uA ts)) l0)
 (hA:vc P ml n asg l0 ml nx λex l1 ml1 nx1=>ex=.nm/\aK ml1 i=some (.lo .ready none ts ps asg bod)/\vc P ((i,.lo .busy none ts ps asg bod)::ml1) n bod l1 ((i,.lo .busy none ts ps asg bod)::ml1) nx1 λex l2 ml2 nx2=>ex=.nm/\aK ml2 i=some (.lo .busy none ts ps asg bod)/\I2 ((i,.lo .ready none ts ps asg bod)::ml2) [] (u.reverse++ml))
 (hcl:H9 (u.reverse++ml) u):o8 P o (lT l) (aK ml) [(.ok (.d (.v (.bool true))),u)]:=by
 subst hn;refine o8.yield (PostA:=λex T' m' ds'=>ds'=[]/\PK (λex l1 ml1 nx1=>ex=.nm/\aK ml1 i=some (.lo .ready none ts ps asg bod)/\vc P ((i,.lo .busy none ts ps asg bod)::ml1) ts.length bod l1 ((i,.lo .busy none ts ps asg bod)::ml1) nx1 λex l2 ml2 nx2=>ex=.nm/\aK ml2 i=some (.lo .busy none ts ps asg bod)/\I2 ((i,.lo .ready none ts ps asg bod)::ml2) [] (u.reverse++ml)) ex T' m')
  (PostB:=λex T' m' ds'=>ds'=[]/\PK (λex l2 ml2 nx2=>ex=.nm/\aK ml2 i=some (.lo .busy none ts ps asg bod)/\I2 ((i,.lo .ready none ts ps asg bod)::ml2) [] (u.reverse++ml)) ex T' m')
  ho hc hf hi hlen hps (RU hm hn1 hT.at hA) ?_ ?_
 ·rintro ex T1 m1 ds1 ⟨rfl,l1,ml1,nx1,rfl,rfl,rfl,e2,hB⟩;refine⟨rfl,rfl,none,ts,ps,asg,bod,e2,?_⟩;rw[<-lR];exact RU hm hn2 (λk=>.inr rfl) hB
 ·rintro ex T2 m2 ds2 ⟨rfl,l2,ml2,nx2,rfl,rfl,rfl,e2,hS⟩;refine⟨true,.ready,none,rfl,.busy,none,ts,ps,asg,bod,e2,_,aR.2 rfl,rfl,λj q hq=>?_,λp hp j hj=>?_⟩
  ·dsimp only at hq;rw[hY]at hq;rw[<-lR];exact hS.at j q rfl hq
  ·dsimp only;rw[hY];have:∀{l:List (Nat×R)},H9 (u.reverse++ml) l->p∈l->∀j∈p.2.hs,aK (u.reverse++ml) j≠none:=by
    intro l;induction l with
    |nil=>intro _ h;simp at h
    |cons q l ih=>
     intro h hp;simp only[aO]at hp;rcases hp with rfl|hp
     ·exact h.1.at
     ·exact ih h.2 hp
   exact this hcl hp j hj
def ZW(ex:Ex)(id:Nat)(X Y Z:Prop):Prop:=match ex with
 |.nm=>X
 |.ext i=>bK (Nat.beq i id) Y Z
 |.ret=>Z
 |.sE _=>Z
theorem wj{id:Nat}{Z:Prop}(h:X):ZW .nm id X Y Z:=h
theorem wk{id:Nat}{Z:Prop}(h:Y):ZW (.ext id) id X Y Z:=by
 have e:Nat.beq id id=true:=by simp
 simp only[ZW,e];exact h
theorem wl{id:Nat}{Z:Prop}(h:Z):ZW .ret id X Y Z:=h
theorem cY(hm:P.follows .mixedOrders=true){mb:List (Nat×R)}{n:Nat}{c:Code}{l:List (Nat×A)}{ml:List (Nat×R)}{K:KT}{α β:Type}(Inv:α->Prop)(I:α->List (Nat×A))(J:α->List (Nat×R))(μ:α->Nat)(nx:Nat)(a0:α)(id:Nat)(Exi:β->Prop)(I':β->List (Nat×A))(J':β->List (Nat×R))(nx2:Nat)(hi:Inv a0)(h0:cN mb n l ml (I a0) (J a0))
 (step:∀a,Inv a->vc P mb n c (I a) (J a) nx (λex l' ml' nx'=>ZW ex id (∃a',μ a'<μ a/\Inv a'/\cN mb n l' ml' (I a') (J a')) (∃b,Exi b/\cN mb n l' ml' (I' b) (J' b)) (K ex l' ml' nx')))
 (cont:∀b,Exi b->K (.ext id) (I' b) (J' b) nx2):XB P mb n c l ml K:=by
 refine⟨λro hro b ρb ρ a w hs hob hlt Q hQ=>?_⟩;obtain⟨ρ1,hs1,ho1⟩:=h0 b ρb ρ a w hs hob;refine sQ (λj a' w'=>∃x ρ' b',μ x=j/\Inv x/\b.Ext b'/\(sC c=true->b'=b)/\(∀x,b'.M x->x<b'.w.heap.size)/\I1 b' n (lT (I x)) (aK (J x)) ρ' a' w'/\cI (aK mb) (aK (J x)) ρb ρ') (μ a0) ⟨a0,ρ1,b,rfl,hi,.refl b,λ_=>rfl,hlt,hs1,ho1⟩ ?_;rintro j a' w' ⟨x,ρ',b1,rfl,hix,hE1,hn1,hlt1,hs',ho'⟩;refine uX hm c _ _ nx _ (step x hix) ro hro b1 ρb ρ' a' w' hs' ho' hlt1 _ ?_;rintro ex e T' m' b2 ρ2 a2 w2 ⟨l',ml',nx',rfl,rfl,h⟩ hE2 hn2 hlt2 hs2 ho2 hd;cases hx:ex.MQ with
 |true=>
  obtain⟨rfl,rfl⟩:=(BX hd).1 hx;obtain⟨x',q1,q2,q3⟩:=h;obtain⟨ρ3,hs3,ho3⟩:=q3 b2 ρb ρ2 a2 w2 hs2 ho2;exact⟨μ x',q1,x',ρ3,b2,rfl,q2,hE1.trans hE2,λq=>(hn2 q).trans (hn1 q),hlt2,hs3,ho3⟩
 |false=>
  have hne:=(BX hd).2 hx;have out:PK K ex (lT l') (aK ml')->Exit.then (λa' w'=>∃i,i<μ x/\∃x ρ' b',μ x=i/\Inv x/\b.Ext b'/\(sC c=true->b'=b)/\(∀x,b'.M x->x<b'.w.heap.size)/\I1 b' n (lT (I x)) (aK (J x)) ρ' a' w'/\cI (aK mb) (aK (J x)) ρb ρ') Q e a2 w2:=λhk=>by
   have:=hQ ex e _ _ b2 ρ2 a2 w2 hk (hE1.trans hE2) (λq=>(hn2 q).trans (hn1 q)) hlt2 hs2 ho2 hd;cases e<;>first|exact this|exact absurd rfl hne
  cases ex with
  |nm=>cases hx
  |ret=>exact out ⟨l',ml',nx',rfl,rfl,h⟩
  |sE v=>exact out ⟨l',ml',nx',rfl,rfl,h⟩
  |ext i=>
   simp only[ZW]at h;cases hb:Nat.beq i id with
   |false=>rw[hb]at h;exact out ⟨l',ml',nx',rfl,rfl,h⟩
   |true=>
    rw[hb]at h;have:=bB hb;subst this;obtain⟨y,q2,q3⟩:=h;obtain⟨ρ3,hs3,ho3⟩:=q3 b2 ρb ρ2 a2 w2 hs2 ho2;have hd':(Ex.ext i).Den w2 (dD b2.M (aK (J' y)) ρ3) (aK (J' y)) ρ3 e:=hd;have:=hQ (.ext i) e _ _ b2 ρ3 a2 w2 ⟨_,_,nx2,rfl,rfl,cont y q2⟩ (hE1.trans hE2) (λq=>(hn2 q).trans (hn1 q)) hlt2 hs3 ho3 hd';cases e<;>first|exact this|exact absurd rfl hne
theorem cN.sub{l':List (Nat×A)}{ml':List (Nat×R)}(hb:IW ml' mb)(hl:WkL l l')(hm:I2 ml [] ml')(h1:ClL ml' l')(h2:H9 ml' ml'):cN mb n l ml l' ml':=by
 intro b ρb ρ a w hs ho;have hs0:bC b.M b.S b.w ⟨n,some b.das⟩ (lT l') (aK ml) ρ a w:=
  {keeps:=hs.keeps,size:=hs.size,defers:=hs.defers,res:=hs.res,own:=hs.own,apart:=hs.apart
   tmps:=λk=>by
    rcases hl.at k with e|e
    · rw[e];simp only[A.Den]
    · rw[e];exact hs.tmps k}
 refine⟨ρ,hs0.drop (λk q hq=>hm.at k q rfl hq) h1.at (λds e d hd i hi=>by simp only[aA]at e;subst e;exact(aEF d hd i hi).elim) (λk q hq=>h2.at k q hq),?_⟩;intro k hk;obtain⟨k1,k2⟩:=ho k hk;have hne:=hb.at k hk;cases hq:aK ml' k with
 |none=>exact absurd hq hne
 |some q=>
  rw[hm.at k q rfl hq]at k2;exact⟨by simp,k2⟩
theorem aAX{g:Nat->Nat}{r:R}(h:aK ml i=some r)(hr:r.eZ g=r):(aK ml i).map (R.eZ g)=some r:=by
 rw[h];show some (r.eZ g)=some r;rw[hr]
theorem wz{nx:Nat}{g:Operand}{ps:Array Tmp}{asg bod:Code}{K:KT}(h:RfK P mb n g ps asg bod l ml K):vc P mb n (.rangeFunc g ps asg bod) l ml nx K:=h
theorem aEW{g:Operand}{ps:Array Tmp}{asg bod:Code}{K:KT}(i j nx:Nat){gf:FuncId}{us vs:List A}(u ml3:List (Nat×R)){v:A}
 (hg:dN (lT l) g=.fn (.func gf) us vs\/∃cu cv,dN (lT l) g=.d (.fn (.func gf) cu cv)/\us=cu.map A.d/\vs=cv.map A.d)(hi:aK ml i=none)(hj:aK ml j=none)(hij:Nat.beq i j=false)
 (hcall:aJ P gf (us++([.h j]++vs)) (aK ((j,.lo .ready none (mY n (lT l)) ps asg bod)::ml)) (.ok v) (aH (aK ((j,.lo .ready none (mY n (lT l)) ps asg bod)::ml)) u))
 (hus:rB ((j,.lo .ready none (mY n (lT l)) ps asg bod)::ml) (A.lQ (us++([.h j]++vs))))(hcl:H9 ((j,.lo .ready none (mY n (lT l)) ps asg bod)::ml) ((j,.lo .ready none (mY n (lT l)) ps asg bod)::ml))(hui:aB3 i u)
 (hj2:aK (u.reverse++(j,.lo .ready none (mY n (lT l)) ps asg bod)::ml) j=some (.lo .ready none (mY n (lT l)) ps asg bod))
 (hl3:RK i j (u.reverse++(j,.lo .ready none (mY n (lT l)) ps asg bod)::ml) ml3)(h1:ClL ml3 l)(h2:H9 ml3 ml3)(hb:IW ml3 mb)(hK:K .nm l ml3 nx):RfK P mb n g ps asg bod l ml K:=aL9 i j nx hg hi hj hij hcall hus hcl hui hj2 hl3 h1 h2 hb hK
theorem GZ(hm:P.follows .mixedOrders=true){o:Oper}{l:List (Nat×A)}{ml:List (Nat×R)}{c:Call}{fo:Operand}{i n:Nat}{ts:List A}{ps:Array Tmp}{asg bod:Code}{u:List (Nat×R)}(l0:List (Nat×A))(nx:Nat)(mlf:R->List (Nat×R))
 (ho:o.op=.call c)(hc:c.callee=.value fo)(hf:dN (lT l) fo=.h i)(hml:ml=mlf (.lo .ready none ts ps asg bod))(hi:∀L,aK (mlf L) i=some L)(hlen:c.args.size=ps.size)(hps:∀p∈ps.toList,p<n)(hn:ts.length=n)(hn1:sC asg=true)(hn2:sC bod=true)
 (hT:WkT (AX (ps.toList.zip (c.args.toList.map (dN (lT l)))) (uA ts)) l0)
 (hA:∀LR LB:R,LR.hs=A.lQ ts->LB.hs=A.lQ ts->vc P (mlf LR) n asg l0 (mlf LR) nx λex l1 ml1 nx1=>ex=.nm/\aK ml1 i=some LR/\vc P ((i,LB)::ml1) n bod l1 ((i,LB)::ml1) nx1 λex l2 ml2 nx2=>ex=.nm/\aK ml2 i=some LB/\I2 ((i,LR)::ml2) [] (u.reverse++mlf LR))
 (hcl:H9 (u.reverse++ml) u):o8 P o (lT l) (aK ml) [(.ok (.d (.v (.bool true))),u)]:=by
 subst hml;exact aGC hm l0 nx ho hc hf (hi _) hlen hps hn hn1 hn2 hT (hA _ _ rfl rfl) hcl
theorem TO{fz:Bool}{kv kv':List (Ky×A)}(h:aK ml i=some (.mp fz kv []))(he:kv=kv'):aK ml i=some (.mp fz kv' []):=by rw[h,he]
structure Hid(Q:Prop):Prop where
 h:Q
theorem bl{P Q:Prop}(q:Q)(h:Hid Q->P:=by
 intro q
 first
 |with_reducible (first|refine w9 ?_|refine nN.mk ?_|refine w1 ?_|refine w4 ?_|refine w2 ?_|refine w5 ?_|refine O8.f rfl ?_|refine wc ?_|refine O8.t rfl ?_|refine w3 ?_|refine wa ?_|refine we ?_|refine wb ?_|refine w8 ?_|refine wd ?_|refine wj ?_|refine wk ?_|refine wl ?_|refine w6 ?_|refine w7 ?_|refine wf rfl ?_|refine wm rfl ?_)
 |((with_reducible (first|refine wr ?_|refine wi ?_|refine wx ?_|refine wh ?_|refine wg ?_|refine wy ?_));(conv=>whnf))
 |((with_reducible refine wu ?_);(conv=>whnf))
 |(with_reducible refine aJH.mk (by kernel_rfl) ?_)
 |(refine fZ.mk _ rfl ?_;(conv=>whnf))
 |((with_reducible refine FC.mk (RG (by(try dsimp only);omega) (by(try dsimp only);omega)) ?_);(conv=>whnf))
 repeat'(first
  |with_reducible (first|refine w9 ?_|refine nN.mk ?_|refine w1 ?_|refine w4 ?_|refine w2 ?_|refine w5 ?_|refine O8.f rfl ?_|refine wc ?_|refine O8.t rfl ?_|refine w3 ?_|refine wa ?_|refine we ?_|refine wb ?_|refine w8 ?_|refine wd ?_|refine wj ?_|refine wk ?_|refine wl ?_|refine w6 ?_|refine w7 ?_|refine wf rfl ?_|refine wm rfl ?_)
  |((with_reducible (first|refine wr ?_|refine wi ?_|refine wx ?_|refine wh ?_|refine wg ?_|refine wy ?_));(conv=>whnf))
  |((with_reducible refine wu ?_);(conv=>whnf))
  |(with_reducible refine aJH.mk (by kernel_rfl) ?_)
  |(refine fZ.mk _ rfl ?_;(conv=>whnf))
  |((with_reducible refine FC.mk (RG (by(try dsimp only);omega) (by(try dsimp only);omega)) ?_);(conv=>whnf)))
 exact q.h):P:=h ⟨q⟩
theorem bS{b:Bool}{X' Y' p q:Prop}(h1:p->X')(h2:q->Y')(e1:b=true->p:=by intro h;conv at h=>{simp};exact h)(e2:b=false->q:=by intro h;conv at h=>{simp};exact h)
 (f1:b=true->X'->X:=by intro h q;(try rw[h]);exact q)(f2:b=false->Y'->Y:=by intro h q;(try rw[h]);exact q):O8 b X Y:=
 nQ (λh=>f1 h (h1 (e1 h))) λh=>f2 h (h2 (e2 h))
theorem mv(i j:Nat){mb:List (Nat×R)}{n:Nat}{l l':List (Nat×A)}{ml ml':List (Nat×R)}
 (h:M3 i j ml' mb/\WkR (swp i j) l l'/\MkR (swp i j) ml ml'/\ClL ml' l'/\H9 ml' ml':=by repeat'(first|exact aW|exact rfl|exact sn|exact aZ|exact wW|exact IK rfl|exact cO rfl rfl|exact aD4 rfl|exact KS rfl rfl|exact dM|exact aAX rfl (by assumption)|exact hlo _ sn sn sn sn sn|exact hlo _ sn sn|(refine qD ?_;simp only[aB,bE];done)|(refine aDO ?_;(try dsimp only);omega)|refine bI ?_ ?_)):cN mb n l ml l' ml':=
 cN.swap i j h.1 h.2.1 h.2.2.1 h.2.2.2.1 h.2.2.2.2
theorem em(h1:v=r:=by exact rfl)(h2:I2 ml [] (u.reverse++mb):=by repeat'(first|exact aW|exact rS rfl|exact eV rfl|refine bI ?_ ?_)):U8 mb r u v ml:=dA h1 h2
theorem bw{P Q:Prop}(q:Q)(h:Hid Q->P:=by intro q;(conv=>whnf);exact q.h):P:=h ⟨q⟩
theorem iC(hm:P.follows .mixedOrders=true){f:FuncId}{fn:Func}{c:Code}{as:List A}{r:A}(hf:P.funcs[f]?=some fn)
 (h:vc P [] fn.ntmps c (C9 0 as) [] 1 (JS P fn λv ml=>A1 (aK ml) v r))
 (hb:fn.body=some c:=by exact rfl)(hcl:kW P f=true:=by kernel_rfl)(hn:as.length<=fn.ntmps:=by exact bD rfl)(has:A.lQ as=[]:=by exact rfl)(m:Mem):aJ P f as m (.ok r) m:=
 CV hm hf hb hcl hn has h m
theorem wE(hm:P.follows .mixedOrders=true){f:FuncId}{fn:Func}{c:Code}{as:List A}{r:A}{mb u:List (Nat×R)}(nx:Nat)(hf:P.funcs[f]?=some fn)
 (hv:rB (u.reverse++mb) r.hs)(hc:H9 (u.reverse++mb) u)(h:vc P mb fn.ntmps c (C9 0 as) mb nx (JS P fn (U8 mb r u)))
 (hb:fn.body=some c:=by exact rfl)(hcl:kW P f=true:=by kernel_rfl)(hn:as.length<=fn.ntmps:=by exact bD rfl):aJ P f as (aK mb) (.ok r) (aH (aK mb) u):=
 V6 hm nx hf hb hcl hn hv hc h
theorem ow{n:Int}{len:Nat}{K:Nat->Prop}(j:Nat)(k:K j)(h:n=j:=by exact rfl)(hlt:j<len:=by simp only[bE,cE,aB,c7];omega):lG n len K:=.mk j h hlt k
theorem ow2{n:Int}{len:Nat}{K:Nat->Prop}(j:Nat)(k:K j)(h:n=j:=by omega)(hlt:j<len:=by simp only[bE,cE,aB,c7];omega):lG n len K:=.mk j h hlt k
theorem mq(i j:Nat){mb:List (Nat×R)}{n:Nat}{l l':List (Nat×A)}{ml ml':List (Nat×R)}{Q:Prop}(q:Q)
 (h:Hid Q->M3 i j ml' mb/\WkR (swp i j) l l'/\MkR (swp i j) ml ml'/\ClL ml' l'/\H9 ml' ml':=by intro q;repeat'(first|exact aW|exact rfl|exact sn|exact aZ|exact wW|exact IK rfl|exact cO rfl rfl|exact aD4 rfl|exact KS rfl rfl|exact dM|exact aAX rfl (by assumption)|exact hlo _ sn sn sn sn sn|exact hlo _ sn sn|exact rS sn|exact eV rfl|(refine qD ?_;simp only[aB,bE];done)|(refine aDO ?_;(try dsimp only);omega)|refine bI ?_ ?_|exact q.h)):cN mb n l ml l' ml':=
 have a:=h ⟨q⟩
 cN.swap i j a.1 a.2.1 a.2.2.1 a.2.2.2.1 a.2.2.2.2
end Go.Pv
