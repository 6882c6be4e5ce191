import Derived.Test.YtpdcbahjjmooiaaGreatH9
/- A program logic over the model, contracts of the functions that the law reaches: part 10. (Names and blanks were shortened by program.) -/
set_option linter.unusedVariables false
set_option linter.unusedSimpArgs false
set_option linter.constructorNameAsVariable false
set_option linter.unusedSectionVars false
set_option linter.deprecated false
set_option maxRecDepth 100000
set_option maxHeartbeats 8000000
open Go
namespace Go.Pv
open Go.RowKit
variable{m:Mem}{g f:Nat->Nat}{o:Oper}{T:Nat->A}
theorem Rt.dC{w w':World}{M M':Nat->Prop}{m m':Mem}{ρ ρ':Nat->Value}(h:dV M w w')(hM:∀b,M' b->b<w.heap.size->M b)(hO:gL m m' ρ ρ'):∀{r:Rt}{e:Ending},r.Den w M m ρ e->r.Den w' M' m' ρ' e
 |.ok _,_,⟨y,e,h1⟩=>⟨y,e,A.dC h hM hO _ _ h1⟩
 |.sE _,_,⟨y,e,h1⟩=>⟨y,e,A.dC h hM hO _ _ h1⟩
theorem aJ.frame{P:Program}{f:FuncId}{as:List A}{m1:Mem}{r:Rt}{ups:List (Nat×R)}(h:aJ P f as m1 r (aH m1 ups))(has:∀i∈A.lQ as,m1 i≠none)
 (hm:∀i r,m1 i=some r->m i=some r)(n0:∀i r,m1 i=some r->∀j∈r.hs,m1 j≠none)(aXW:∀p∈ups,m1 p.1=none->m p.1=none):aJ P f as m r (aH m ups):=by
 refine⟨h.1,?_⟩;intro N T M0 S0 w0 ρ a w hs cX vs P2;let M1:Nat->Prop:=λb=>M0 b\/∃i r,m i=some r/\m1 i=none/\r.live=true/\jK (ρ i)=some b;let S1:Nat->Prop:=λb=>∃i r,m1 i=some r/\r.live=true/\jK (ρ i)=some b;have aXP:∀b,dD M1 m1 ρ b↔dD M0 m ρ b:=by
  intro b;constructor
  ·rintro((e|⟨i,r,e1,_,e2,e3⟩)|⟨i,r,e1,e2,e3⟩)
   ·exact .inl e
   ·exact .inr ⟨i,r,e1,e2,e3⟩
   ·exact .inr ⟨i,r,hm i r e1,e2,e3⟩
  ·rintro(e|⟨i,r,e1,e2,e3⟩)
   ·exact .inl (.inl e)
   ·cases hi:m1 i with
    |none=>exact .inl (.inr ⟨i,r,e1,hi,e2,e3⟩)
    |some r'=>
     have:=hm i r' hi;rw[e1]at this;simp at this;subst this;exact .inr ⟨i,r,hi,e2,e3⟩
 have aYN:dD M1 m1 ρ=dD M0 m ρ:=funext λb=>propext (aXP b);have h0:bC M1 S1 w ⟨N.n,none⟩ (λ_=>.x) m1 ρ a w:=
  {keeps:=iF.refl _ _,size:=hs.size,defers:=λds e=>by cases e
   tmps:=λn=>by simp only[A.Den]
   res:=λi r hi=>by rw[aYN];exact R.rY hm (n0 i r hi) (hs.res i r (hm i r hi))
   own:=λi r b hi hl hb=>by
    obtain⟨x,y,z⟩:=hs.own i r b (hm i r hi) hl hb;refine⟨.inr ⟨i,r,hi,hl,hb⟩,?_,z⟩;rintro(e|⟨j,s,e1,e2,e3,e4⟩)
    · exact y e
    · have:=hs.apart i j r s b (hm i r hi) hl e1 e3 hb e4
      subst this;rw[hi]at e2;cases e2
   apart:=λi j r s b hi l1 hj l2 b1 b2=>hs.apart i j r s b (hm i r hi) l1 (hm j s hj) l2 b1 b2}
 have aYE:∀b,M1 b->b<w.heap.size:=λb hb=>V8 hs cX b ((aXP b).1 (.inl hb));refine(h.2 ⟨N.n,none⟩ (λ_=>.x) M1 S1 w ρ a w h0 aYE vs (by rw[aYN];exact A.fG hm _ _ has P2)).mono ?_;rintro e w' ⟨ρ',h1,hO,hv⟩;let ρ2:Nat->Value:=λi=>if(aH m1 ups i).isSome then ρ' i else ρ i
 have hA:∀{i:Nat}{r:R},aH m1 ups i=some r->aH m ups i=some r/\ρ2 i=ρ' i:=λ{i r}e=>⟨pN ups hm i r e,by simp[ρ2,e]⟩;have hB:∀{i:Nat},aH m1 ups i=none->m1 i=none/\aH m ups i=m i/\ρ2 i=ρ i:=λ{i}e=>⟨(nP ups e).1,(nP ups e).2 m,by simp[ρ2,e]⟩;have kk:=h1.keeps;have hS1:∀b,S1 b->dD M0 m ρ b:=λb⟨i,r,e1,e2,e3⟩=>.inr ⟨i,r,hm i r e1,e2,e3⟩;have eB:dV (dD M0 m ρ) w w':=kk.stays λb _ e=>hS1 b e;have hon:gL m (aH m ups) ρ ρ2:=by
  intro i hi;cases h':aH m1 ups i with
  |none=>
   obtain⟨e1,e2,e3⟩:=hB h';rw[e2];exact⟨hi,λhd=>⟨hd,e3,λfz t es l e=>⟨fz,t,l,e,rfl⟩⟩⟩
  |some r=>
   obtain⟨e1,e2⟩:=hA h';rw[e1];refine⟨sM,λhd=>?_⟩;cases PE:m1 i with
   |none=>
    obtain⟨p,hp,rfl⟩:=xS ups PE (by rw[h'];simp);exact absurd (aXW p hp PE) hi
   |some r0=>
    have aYF:=hm i r0 PE;obtain⟨_,q⟩:=hO i (by rw[PE];simp);rw[h']at q;obtain⟨q1,q2,q3⟩:=q hd;rw[aYF];rw[PE]at q1 q3;exact⟨q1,by rw[e2];exact q2,q3⟩
 have aVM:∀b,dD M0 (aH m ups) ρ2 b->b<w.heap.size->dD M0 m ρ b:=by
  rintro b (e|⟨i,r,hi,hl,hb⟩) hbl
  ·exact .inl e
  ·cases h':aH m1 ups i with
   |none=>
    obtain⟨e1,e2,e3⟩:=hB h';rw[e2]at hi;rw[e3]at hb;exact .inr ⟨i,r,hi,hl,hb⟩
   |some r'=>
    obtain⟨e1,e2⟩:=hA h';rw[e1]at hi;simp at hi;subst hi;rw[e2]at hb;rcases(h1.own i r' b h' hl hb).1 with q|q
    ·omega
    ·exact hS1 b q
 have aYY:∀b,dD M0 (aH m ups) ρ2 b->dD M1 (aH m1 ups) ρ' b:=by
  rintro b (e|⟨i,r,hi,hl,hb⟩)
  ·exact .inl (.inl e)
  ·cases h':aH m1 ups i with
   |none=>
    obtain⟨e1,e2,e3⟩:=hB h';rw[e2]at hi;rw[e3]at hb;exact .inl (.inr ⟨i,r,hi,e1,hl,hb⟩)
   |some r'=>
    obtain⟨e1,e2⟩:=hA h';rw[e1]at hi;simp at hi;subst hi;rw[e2]at hb;exact .inr ⟨i,r',h',hl,hb⟩
 have aY6:gL (aH m1 ups) (aH m ups) ρ' ρ2:=by
  intro i hi;cases h':aH m1 ups i with
  |none=>exact absurd h' hi
  |some r=>
   obtain⟨e1,e2⟩:=hA h';rw[e1];exact⟨sM,λhd=>⟨hd,e2,λfz t es l e=>⟨fz,t,l,e,rfl⟩⟩⟩
 refine⟨ρ2,?_,hon,Rt.dC (dV.refl _ w') (λb hb _=>aYY b hb) aY6 hv⟩
 refine{keeps:=hs.keeps.trans kk λb hb⟨i,r,e1,e2,e3⟩=>?_,size:=h1.size,defers:=λds e=>eJ eB aVM hon _ _ (hs.defers ds e)
        tmps:=λn=>A.dC eB aVM hon _ _ (hs.tmps n)
        res:=λi r hi=>?_,own:=λi r b hi hl hb=>?_,apart:=λi j r s b hi l1 hj l2 b1 b2=>?_}
 ·rcases(hs.own i r b (hm i r e1) e2 e3).1 with q|q
  ·omega
  ·exact q
 ·cases h':aH m1 ups i with
  |some r'=>
   obtain⟨e1,e2⟩:=hA h';rw[e1]at hi;simp at hi;subst hi;rw[e2];exact R.hU (dV.refl _ w') (λb hb _=>aYY b hb) aY6 (λ_ _ _=>rfl) (h1.res i r' h')
  |none=>
   obtain⟨e1,e2,e3⟩:=hB h';rw[e2]at hi;rw[e3];by_cases hd:r=.dead
   ·subst hd;trivial
   ·refine R.hU eB aVM hon (λb hb aVU=>?_) (hs.res i r hi);refine kk.block b aVU ?_;rintro⟨j,s,q1,q2,q3⟩;have hij:i≠j:=by rintro rfl;rw[e1]at q1;cases q1
    exact hs.other (hm j s q1) q2 q3 hi hd hij hb
 ·cases h':aH m1 ups i with
  |some r'=>
   obtain⟨e1,e2⟩:=hA h';rw[e1]at hi;simp at hi;subst hi;rw[e2]at hb;obtain⟨x,y,z⟩:=h1.own i r' b h' hl hb;refine⟨?_,λe=>y (.inl e),z⟩;rcases x with q|⟨j,s,q1,q2,q3⟩
   ·exact .inl (cL hs.keeps.size q)
   ·exact(hs.own j s b (hm j s q1) q2 q3).1
  |none=>
   obtain⟨e1,e2,e3⟩:=hB h';rw[e2]at hi;rw[e3]at hb;obtain⟨x,y,z⟩:=hs.own i r b hi hl hb;exact⟨x,y,cG z kk.size⟩
 ·cases h':aH m1 ups i with
  |some r'=>
   obtain⟨e1,e2⟩:=hA h';rw[e1]at hi;simp at hi;subst hi;rw[e2]at b1;cases h2:aH m1 ups j with
   |some s'=>
    obtain⟨e3,e4⟩:=hA h2;rw[e3]at hj;simp at hj;subst hj;rw[e4]at b2;exact h1.apart i j r' s' b h' l1 h2 l2 b1 b2
   |none=>
    obtain⟨e3,e4,e5⟩:=hB h2;rw[e4]at hj;rw[e5]at b2;exact absurd (.inr ⟨j,s,hj,e3,l2,b2⟩) (h1.own i r' b h' l1 b1).2.1
  |none=>
   obtain⟨e1,e2,e3⟩:=hB h';rw[e2]at hi;rw[e3]at b1;cases h2:aH m1 ups j with
   |some s'=>
    obtain⟨e4,e5⟩:=hA h2;rw[e4]at hj;simp at hj;subst hj;rw[e5]at b2;exact absurd (.inr ⟨i,r,hi,e1,l1,b1⟩) (h1.own j s' b h2 l2 b2).2.1
   |none=>
    obtain⟨e4,e5,e6⟩:=hB h2;rw[e5]at hj;rw[e6]at b2;exact hs.apart i j r s b hi l1 hj l2 b1 b2
mutual
theorem A.BG{g f:Nat->Nat}(h:∀i,f (g i)=i):∀(a:A),(a.eZ g).eZ f=a
 |.d c=>rfl
 |.lp i o=>by simp only[A.eZ,h]
 |A.h i=>by simp only[A.eZ,h]
 |.ep i e k o=>by simp only[A.eZ,h]
 |.sv i l n=>by simp only[A.eZ,h]
 |.fn k u v=>by simp only[A.eZ];rw[A.oY h u,A.oY h v]
 |.agg l=>by simp only[A.eZ];rw[A.oY h l]
 |.eL l=>by simp only[A.eZ];rw[A.oY h l]
 |.AE t a=>by simp only[A.eZ];rw[A.BG h a]
 |.x=>rfl
theorem A.oY{g f:Nat->Nat}(h:∀i,f (g i)=i):∀(l:List A),A.iV f (A.iV g l)=l
 |[]=>rfl
 |c::r=>by simp only[A.iV];rw[A.BG h c,A.oY h r]
end
theorem yM{g f:Nat->Nat}(h:∀i,f (g i)=i):∀(l:List (List A)),(l.map (A.iV g)).map (A.iV f)=l
 |[]=>rfl
 |e::r=>by simp only[aG];rw[A.oY h,yM h r]
theorem YM{g f:Nat->Nat}(h:∀i,f (g i)=i):∀(l:List Nat),(l.map g).map f=l
 |[]=>rfl
 |e::r=>by simp only[aG,h];rw[YM h r]
theorem R.BG{g f:Nat->Nat}(h:∀i,f (g i)=i)(r:R):(r.eZ g).eZ f=r:=by
 cases r with
 |cells fz l=>simp only[R.eZ,A.oY h]
 |fW fz t es l=>simp only[R.eZ,yM h]
 |mp fz kv st=>
  simp only[R.eZ,bH];congr 1
  ·conv=>rhs;rw[<-List.map_id kv]
   exact cQ λp _=>by simp[A.BG h]
  ·conv=>rhs;rw[<-List.map_id st]
   exact cQ λp _=>by simp[h]
 |fr l=>simp only[R.eZ,A.oY h]
 |it i sc a b=>simp only[R.eZ,h,YM h]
 |lo st pend ts ps asg bod=>simp only[R.eZ,A.oY h]
 |cu src es l=>simp only[R.eZ,A.BG h,yM h]
 |_=>rfl
theorem aBB{gi:Nat->Nat}(h1:∀i,gi (g i)=i)(m:Mem):nK gi g (nK g gi m)=m:=by
 funext i;unfold nK;rw[h1];cases m i with
 |none=>rfl
 |some r=>simp only[dF];rw[R.BG h1]
theorem A.RH{w:World}{M M':Nat->Prop}{m m':Mem}{ρ ρ':Nat->Value}{g:Nat->Nat}(h:∀(v:A)(y:Value),v.Den w M m ρ y->(v.eZ g).Den w M' m' ρ' y):∀{l:List A}{ys:List Value},A.bR w M m ρ l ys->A.bR w M' m' ρ' (A.iV g l) ys
 |[],ys,hd=>by simpa only[A.bR,A.iV]using hd
 |c::r,ys,hd=>by
  simp only[A.bR,A.iV]at hd⊢;obtain⟨y,yr,e,h1,h2⟩:=hd;exact⟨y,yr,e,h c y h1,A.RH h h2⟩
theorem aJ.eZ{P:Program}{f:FuncId}{as:List A}{m1 m2:Mem}{r:Rt}(h:aJ P f as m1 r m2){g gi:Nat->Nat}(h1:∀i,gi (g i)=i)(h2:∀i,g (gi i)=i):
 aJ P f (A.iV g as) (nK g gi m1) (r.eZ g) (nK g gi m2):=by
 refine⟨h.1,?_⟩;intro N T M0 S0 w0 ρ a w hs cX vs P2;have aVU:∀b,M0 b->b<w.heap.size:=λb hb=>cG (cX b hb) hs.keeps.size;obtain⟨s1,aWJ⟩:=hs.now.eZ (g:=gi) (gi:=g) h2 h1;rw[aBB h1]at s1 aWJ;have hv1:=A.RH aWJ P2;rw[A.oY h1]at hv1;refine(h.2 _ _ M0 _ w _ a w s1 aVU vs hv1).mono ?_;rintro e w' ⟨ρ2,s2,hO,hr⟩;obtain⟨s3,aZA⟩:=s2.eZ h1 h2;have hO':gL (nK g gi m1) (nK g gi m2) ρ (λi=>ρ2 (gi i)):=by
  intro i hi;cases hm:m1 (gi i)with
  |none=>exact absurd (by unfold nK;rw[hm];rfl) hi
  |some q=>
   obtain⟨k1,k2⟩:=hO (gi i) (by rw[hm];simp);cases hm2:m2 (gi i)with
   |none=>exact absurd hm2 k1
   |some q2=>
    have er:nK g gi m2 i=some (q2.eZ g):=by unfold nK;rw[hm2];rfl
    have er1:nK g gi m1 i=some (q.eZ g):=by unfold nK;rw[hm];rfl
    refine⟨by rw[er];simp,λhd=>?_⟩;have y4:m2 (gi i)≠some .dead:=by
     rw[hm2];rintro e3;simp only[aA]at e3;subst e3;exact hd (by rw[er];rfl)
    obtain⟨k3,k4,k5⟩:=k2 y4;refine⟨?_,by simp only[k4,h2],λfz t es l e3=>?_⟩
    ·rw[er1];rintro e4;apply k3;rw[hm];cases q<;>simp[R.eZ]at e4⊢
    ·rw[er1]at e3;have:∃l0,q=.fW fz t es l0/\l0.length=l.length:=by
      cases q<;>simp[R.eZ]at e3
      obtain⟨rfl,rfl,rfl,rfl⟩:=e3;exact⟨_,rfl,sM⟩
     obtain⟨l0,rfl,hl0⟩:=this;obtain⟨fz',t',l',e4,e5⟩:=k5 fz t es l0 hm;rw[hm2]at e4;simp only[aA]at e4;subst e4;exact⟨fz',t',l'.map (A.iV g),by rw[er];rfl,by simp[e5,hl0]⟩
 refine⟨_,hs.back s3 hO',hO',?_⟩;cases r with
 |ok v=>obtain⟨y,rfl,hy⟩:=hr;exact⟨y,rfl,aZA _ _ hy⟩
 |sE v=>obtain⟨y,rfl,hy⟩:=hr;exact⟨y,rfl,aZA _ _ hy⟩
section
variable{P:Program}
theorem qT.aKX{t:TypeId}{x:Operand}{kt:TypeId×TypeId}{ks:List Ky}{vs:List C}{kv:List (Ky×C)}{d:Nat}(ho:o.op=.range t x)(hx:dN T x=.d (.im ks vs))(hm:CR P t=some kt)(hk:ks=kv.map (·.1))(hv:vs=kv.map (·.2))(hd:m d=none):
 qT P o T m (.h d) (aH m [(d,.di none kv)]):=by
 intro ro N M0 S0 w0 ρ a w h cX next Q hn
 obtain⟨kt,et⟩:=kt;have hu:=vO hm;have v8:=cU h x;rw[hx]at v8;simp only[A.Den,C.Den]at v8;obtain⟨b,es,cl,l,hy,hM,hb,PE,aWJ⟩:=v8;refine qQ (y:=.pointer (some ⟨w.heap.size,0,none⟩)) (w':=w.alloc (.mapIter (some b) cl #[] cl)) (by unfold jO;rw[ho]) (by simp only[execOp,ho,hy,Instr.range,aV,run_underlying hu,aN,jS hb,cB,run_newObj,kN]) (.inl rfl) ?_;refine hn _ _ (dW ρ d (.pointer (some ⟨w.heap.size,0,none⟩))) ?_ (gL.new _ _ hd) ?_
 ·simp only[aH];refine h.rG cX (jF w _) hd rfl (by simp[jK]) ?_;intro hO eB Q2;have aVU:b<w.heap.size:=(aL.1 hb).1;refine⟨w.heap.size,b,es,cl,#[],l,rfl,heap_alloc_new w _,λe=>hM (Q2 b e aVU),(eB.2 b aVU hM).trans hb,?_,?_,?_,?_,?_,λp e=>by cases e⟩
  ·intro e he;exact PE.old e (PE.perm.mem_iff.1 he)
  ·exact((PE.perm.map (·.born)).nodup_iff).2 PE.born
  ·have:es.toList.filter (λe=> !(#[]:Array Nat).contains e.born)=es.toList:=sM;rw[this];exact PE.perm
  ·rw[PE.keys,hk,bH];rfl
  ·rw[<-hv];exact C.dK eB Q2 _ _ aWJ
 ·simp only[aH,A.Den];exact⟨by simp[aX],λ_=>by simp[dW]⟩
def xD(d:Nat)(rest:List (Ky×C)):List Ot:=match rest with
 |[]=>[(.ok (.eL [.d (.v (.bool false))]),[])]
 |p::r=>(List.range (p::r).length).map λi=>(.ok (.eL [.d (.v (.bool true)),ZA ((p::r).getD i p).1,.d ((p::r).getD i p).2]),[(d,.di (some ((p::r).getD i p)) ((p::r).eraseIdx i))])
theorem y0{α:Type}(f:α->Nat):∀(l:List α)(i:Nat)(h:i<l.length),(l.map f).Nodup->l.filter (λe=>f e !=f l[i])=l.eraseIdx i
 |[],i,h,_=>by simp at h
 |a::r,0,h,hn=>by
  simp only[eK,List.eraseIdx_zero,List.tail_cons,lZ,bne_self_eq_false,bY,if_false];rw[aDY];intro e he;simp only[aG,gR]at hn;simp only[bne_iff_ne,ne_eq];intro e';exact hn.1 (aA4.2 ⟨e,he,e'⟩)
 |a::r,i+1,h,hn=>by
  simp only[aG,gR]at hn;have h':i<r.length:=by simpa using h
  simp only[cJ,gK,lZ];have:(f a !=f r[i])=true:=by
   simp only[bne_iff_ne,ne_eq];intro e;exact hn.1 (aA4.2 ⟨_,aY h',e.symm⟩)
  rw[this,aUF rfl,y0 f r i h' hn.2]
theorem C.BS{w:World}{M:Nat->Prop}:∀{l:List C}{ys:List Value}(i:Nat),C.bR w M l ys->C.bR w M (l.eraseIdx i) (ys.eraseIdx i)
 |[],ys,i,h=>by simp only[C.bR]at h;subst h;simp[C.bR]
 |c::r,ys,0,h=>by
  simp only[C.bR]at h;obtain⟨y,yr,rfl,_,h2⟩:=h;simpa using h2
 |c::r,ys,i+1,h=>by
  simp only[C.bR]at h;obtain⟨y,yr,rfl,h1,h2⟩:=h;simp only[gK,C.bR];exact⟨y,yr.eraseIdx i,rfl,h1,C.BS i h2⟩
theorem o8.aL8{x:Operand}{d:Nat}{cur:Option (Ky×C)}{rest:List (Ky×C)}(ho:o.op=.next x false)(hx:dN T x=.h d)(hm:m d=some (.di cur rest)):o8 P o T m (xD d rest):=by
 intro ro N M0 S0 w0 ρ a w h cX next Q hn
 have v8:=cU h x;rw[hx]at v8;simp only[A.Den]at v8;have hy:=eH v8 hm sM;obtain⟨b,mb,es,cl,sa,ll,e1,e2,e3,e4,e5,e6,e7,e8,e9,e10⟩:=h.res d _ hm;rw[e1]at hy;have hlen:ll.length=rest.length:=by simpa using congrArg List.length e8
 have aXT:∀w1:World,w1.heap=w.heap->(getObj b).run P w1=.ok (.mapIter (some mb) cl sa cl) w1:=λw1 e=>by simp[getObj,Sem.run,e,e2]
 have a0J:∀w1:World,w1.heap=w.heap->(getObj mb).run P w1=.ok (.map es cl) w1:=λw1 e=>by simp[getObj,Sem.run,e,e4]
 have aYO:(!sa.isEmpty&& !es.isEmpty&&es.all (λe=>decide (e.born≥cl)))=false:=by
  cases hE:es.isEmpty with
  |true=>simp
  |false=>
   have aWU:0<es.size:=by
    rcases pM es.size with q|q
    ·simp[Array.isEmpty,q]at hE
    ·exact q
   have:es.all (λe=>decide (e.born≥cl))=false:=by
    rw[Array.all_eq_false'];have aWE:es[0]∈es:=Array.getElem_mem aWU;have:=e5 es[0] sM;exact⟨es[0],aWE,zM⟩
   simp[this]
 have hb5:∀e∈es.filter (λe=> !sa.contains e.born),e.born<cl:=λe he=>e5 e (by simpa using(rN.1 he).1);have ho1:(es.filter (λe=> !sa.contains e.born)).filter (λe=>decide (e.born<cl))=es.filter (λe=> !sa.contains e.born):=by
  rw[Array.filter_eq_self];intro e he;simpa using hb5 e he
 have ho2:(es.filter (λe=> !sa.contains e.born)).filter (λe=>decide (e.born≥cl))= #[]:=by
  rw[Array.filter_eq_empty_iff];intro e he;have:=hb5 e he;simp;omega
 have hft:(es.filter (λe=> !sa.contains e.born)).toList=es.toList.filter (λe=> !sa.contains e.born):=Array.toList_filter ..;have hfs:(es.filter (λe=> !sa.contains e.born)).size=rest.length:=by rw[<-hlen,<-e7.length_eq,<-hft,c7]
 have aZB:∀(n:Nat),0<n->∃k w1,(choose (.mapNext n)).run P w=.ok k w1/\k<n/\bC M0 S0 w0 N T m ρ a w1/\w1.heap=w.heap:=by
  intro n hn;by_cases h1:n<=1
  ·exact⟨0,w,by simp[choose,Sem.run,Question.forced,h1],hn,h,rfl⟩
  ·refine⟨(Question.mapNext n).cut (w.tape w.drawn (.mapNext n)),{w with drawn:=w.drawn+1},?_,by simp only[Question.cut];exact u5 _ hn,h.drew _,rfl⟩;simp only[choose,Sem.run,Question.forced,h1,decide_false,bY,if_false]
 generalize hF:es.filter (λe=> !sa.contains e.born)=F at*;cases hr:rest with
 |nil=>
  subst hr;have a0X:F= #[]:=jA (by simpa using hfs);obtain⟨k,w1,hc1,wF,SU,hc4⟩:=aZB 1 oM;have hk:k=0:=oM;subst hk;have aVL:(Instr.next (.pointer (some ⟨b,0,none⟩)) false o.type).run P w=.ok (.tuple #[.bool false]) w1:=by
   simp only[Instr.next,aV,aXT w rfl,aN,a0J w rfl,aYO,bY,if_false,cB,hF,ho1,ho2];simp only[a0X,Array.isEmpty_empty,if_true,Array.append_empty,Array.map_empty,nJ,aQ,cS,fF,aV];simp only[hc1,aN];simp
  refine qQ (y:=.tuple #[.bool false]) (w':=w1) (by unfold jO;rw[ho]) (by simp only[execOp,ho,hy,aV,aVL,aN,cB]) (.inl rfl) ?_;exact(hn (.ok (.eL [.d (.v (.bool false))]),[]) _ _ ρ (by simp[xD]) (by simpa [aH]using SU) (gL.refl m ρ)).1 _ rfl (by simp only[A.Den,A.bR,C.Den];exact⟨_,rfl,_,_,rfl,rfl,rfl⟩)
 |cons p r=>
  have hZ:F.isEmpty=false:=by
   rw[Array.isEmpty_eq_false_iff];intro e;rw[e,hr]at hfs;simp at hfs
  have aWU:0<F.size:=by rw[hfs,hr];simp
  obtain⟨k,w1,hc1,wF,SU,hc4⟩:=aZB F.size aWU;have hkF:k<F.toList.length:=by simpa using wF
  have a1L:F[k]∈ll:=by
   rw[<-e7.mem_iff,<-hft];simp
  obtain⟨i,hi,hie⟩:=List.getElem_of_mem a1L;have hir:i<(p::r).length:=by rw[<-hr,<-hlen];exact hi
  have a1G:(p::r).getD i p=(p::r)[i]:=by simp only[bF,aC hir,gZ]
  have a0B:ll[i].key=((p::r)[i]).1.val:=by
   have:=congrArg (λl=>l[i]?) e8;simp only[cK,aC hi,dF,hr,aC hir,aA]at this;exact this
  have aYK:C.Den w (dD M0 m ρ) ((p::r)[i]).2 ll[i].val:=by
   refine(C.c9.1 e9).2 i _ _ ?_ ?_
   ·rw[hr,cK,aC hir];rfl
   ·simp[aC hi]
  have a17:F[k]∈es.toList:=by
   have:F[k]∈F.toList:=sM;rw[hft]at this;exact(jU.1 this).1
  have a2F:(ll.map (·.born)).Nodup:=by
   refine((e7.map (·.born)).nodup_iff).1 ?_;exact(List.Sublist.map _ List.filter_sublist).nodup e6
  have wM:w1.heap[b]?=some (.mapIter (some mb) cl sa cl):=by rw[hc4];exact e2
  have a2L:(setObj b (.mapIter (some mb) cl (sa.push F[k].born) cl)).run P w1=.ok () (w1.gW b (.mapIter (some mb) cl (sa.push F[k].born) cl)):=uN wM (by intro c e f h;cases h);have aVL:(Instr.next (.pointer (some ⟨b,0,none⟩)) false o.type).run P w=.ok (.tuple #[.bool true,F[k].key,F[k].val]) (w1.gW b (.mapIter (some mb) cl (sa.push F[k].born) cl)):=by
   simp only[Instr.next,aV,aXT w rfl,aN,a0J w rfl,aYO,bY,if_false,cB,hF,ho1,ho2,hZ];simp only[Array.append_empty,Array.empty_append,Array.size_map,aV];simp only[hc1,aN];simp only[Array.getElem?_map,cF wF,dF,aV,a2L,aN,cB]
  refine qQ (y:=.tuple #[.bool true,F[k].key,F[k].val]) (w':=w1.gW b (.mapIter (some mb) cl (sa.push F[k].born) cl)) (by unfold jO;rw[ho]) (by simp only[execOp,ho,hy,aV,aVL,aN,cB]) (.inl rfl) ?_;have T9:mb≠b:=by
   rintro rfl;exact e3 (.inr ⟨d,_,hm,rfl,by rw[e1];rfl⟩)
  have aXP:∀b',dD M0 (aX m d (.di (some ((p::r)[i])) ((p::r).eraseIdx i))) ρ b'->dD M0 m ρ b':=by
   rintro b' (e|⟨j,q,h1,h2,h3⟩)
   ·exact .inl e
   ·by_cases e:j=d
    ·subst e;exact .inr ⟨j,_,hm,rfl,h3⟩
    ·exact .inr ⟨j,q,by simpa [aX,e]using h1,h2,h3⟩
  have hs2:bC M0 S0 w0 N T (aX m d (.di (some ((p::r)[i])) ((p::r).eraseIdx i))) ρ a (w1.gW b (.mapIter (some mb) cl (sa.push F[k].born) cl)):=by
   refine SU.write hm rfl rfl (λfz t es l e=>by cases e) (mJ w1 b _) (λb' _ e'=>by subst e';rw[e1];rfl) ?_;intro hO eB Q2;have aVU:mb<w1.heap.size:=by rw[hc4];exact(aL.1 e4).1
   have hmb:(w1.gW b (.mapIter (some mb) cl (sa.push F[k].born) cl)).heap[mb]?=some (.map es cl):=by
    show(w1.heap.setIfInBounds b _)[mb]?=_;rw[aB3 (λe=>T9 e.symm),hc4];exact e4
   have aYC:dV (dD M0 m ρ) w (w1.gW b (.mapIter (some mb) cl (sa.push F[k].born) cl)):=by
    refine⟨by rw[<-hc4];exact eB.1,λb' h1 h2=>?_⟩;rw[<-hc4];exact eB.2 b' (by rw[hc4];exact h1) h2
   have aY4:∀b',dD M0 (aX m d (.di (some ((p::r)[i])) ((p::r).eraseIdx i))) ρ b'->b'<w.heap.size->dD M0 m ρ b':=λb' h1 h2=>aXP b' h1;refine⟨b,mb,es,cl,sa.push F[k].born,ll.eraseIdx i,e1,tS wM,λe=>e3 (aXP mb e),hmb,e5,e6,?_,?_,?_,?_⟩
   ·have h1:es.toList.filter (λe=> !(sa.push F[k].born).contains e.born)=(es.toList.filter (λe=> !sa.contains e.born)).filter (λe=>e.born !=F[k].born):=by
     rw[List.filter_filter];refine List.filter_congr λe _=>?_;rw[jT];simp[Array.contains_push,and_comm,not_or]
    rw[h1,<-y0 (·.born) ll i hi a2F,hie];exact e7.filter _
   ·rw[<-rD,e8,hr,rD]
   ·have:=C.BS i (C.dK aYC aY4 _ _ e9);rw[hr]at this;have ea:((p::r).map (·.2)).eraseIdx i=((p::r).eraseIdx i).map (·.2):=rD _ _ _;have eb:(ll.map (·.val)).eraseIdx i=(ll.eraseIdx i).map (·.val):=rD _ _ _;rw[ea,eb]at this;exact this
   ·intro q hq;simp only[aA]at hq;subst hq;exact⟨F[k],a17,sM,by rw[<-hie];exact a0B,C.dC aYC aY4 _ _ (by rw[<-hie];exact aYK)⟩
  have hO:gL m (aX m d (.di (some ((p::r)[i])) ((p::r).eraseIdx i))) ρ ρ:=by
   have:=gL.set (m:=m) (ρ:=ρ) d (.di (some ((p::r)[i])) ((p::r).eraseIdx i)) (ρ d) (λ_ _=>⟨by rw[hm];simp,rfl,λfz t es l e=>by rw[hm]at e;cases e⟩)
   rwa [jP]at this
  refine(hn (.ok (.eL [.d (.v (.bool true)),ZA ((p::r)[i]).1,.d ((p::r)[i]).2]),[(d,.di (some ((p::r)[i])) ((p::r).eraseIdx i))]) _ _ ρ ?_ (by simpa [aH]using hs2) (by simpa [aH]using hO)).1 _ rfl ?_
  ·rw[hr];unfold xD;refine aA4.2 ⟨i,jI.2 hir,?_⟩;rw[a1G]
  ·have aYC:dV (dD M0 m ρ) w (w1.gW b (.mapIter (some mb) cl (sa.push F[k].born) cl)):=by
    refine⟨by simp[World.gW,hc4],λb' h1 h2=>?_⟩;show(w1.heap.setIfInBounds b _)[b']?=_;rw[aB3 (λe=>h2 (by subst e;exact .inr ⟨d,_,hm,rfl,by rw[e1];rfl⟩)),hc4]
   simp only[A.Den,A.bR,C.Den,aH];exact⟨_,rfl,_,_,rfl,rfl,_,_,rfl,by rw[<-hie,a0B];exact IJ _ _,_,_,rfl,C.dC aYC (λb' h1 _=>aXP b' h1) _ _ (by rw[<-hie];exact aYK),rfl⟩
theorem qT.aJY{x:Operand}{d:Nat}{p:Ky×C}{rest:List (Ky×C)}(ho:o.op=.entry x)(hx:dN T x=.h d)(hm:m d=some (.di (some p) rest)):qT P o T m (.eL [ZA p.1,.d p.2]) m:=by
 intro ro N M0 S0 w0 ρ a w h cX next Q hn
 have v8:=cU h x;rw[hx]at v8;simp only[A.Den]at v8;have hy:=eH v8 hm sM;obtain⟨b,mb,es,cl,sa,ll,e1,e2,e3,e4,e5,e6,e7,e8,e9,e10⟩:=h.res d _ hm;rw[e1]at hy;obtain⟨e,h1,h2,h3,h4⟩:=e10 p rfl;have aWM:es.find? (λx=>x.born==e.born)=some e:=by
  rw[<-Array.find?_toList];refine vJ h1 sM λy hy hyb=>?_;obtain⟨j1,q1⟩:=dY.1 hy;obtain⟨j2,q2⟩:=dY.1 h1;have hb:y.born=e.born:=by simpa using hyb
  have:j1=j2:=by
   refine(List.getElem?_inj (l:=es.toList.map (·.born)) ?_ e6).1 ?_
   ·have:=(bA.1 q1).1;simpa using this
   ·simp only[cK,q1,q2,dF,hb]
  subst this;rw[q1]at q2;simpa using q2
 have aVL:(Instr.entry (.pointer (some ⟨b,0,none⟩))).run P w=.ok (.tuple #[e.key,e.val]) w:=by
  simp only[Instr.entry,aV];rw[show(getObj b).run P w=.ok (.mapIter (some mb) cl sa cl) w by simp[getObj,Sem.run,e2]];simp only[aN,h2,aV];rw[show(getObj mb).run P w=.ok (.map es cl) w by simp[getObj,Sem.run,e4]];simp only[aN,aWM];simp
 refine qQ (y:=.tuple #[e.key,e.val]) (w':=w) (by unfold jO;rw[ho]) (by simp only[execOp,ho,hy,aV,aVL,aN,cB]) (.inl rfl) ?_;refine hn _ _ ρ h (gL.refl m ρ) ?_;simp only[A.Den,A.bR];exact⟨_,rfl,_,_,rfl,by rw[h3];exact IJ _ _,_,_,rfl,h4,rfl⟩
def aJZ(P:Program)(T:Nat->A)(o:Oper):Option (List (List C)):=match o.op with
 |.binOp op t x y _=>match op with
  |.eql=>match dN T x with
   |.d c=>match c with
    |.sl _ L=>match dN T y with
     |.d c=>match c with
      |.nl _=>match BR P t with
       |some k=>match Nat.beq k 2 with
        |true=>some L
        |false=>none
       |none=>none
      |_=>none
     |_=>none
    |_=>none
   |_=>none
  |_=>none
 |_=>none
def A7:List (List C)->List Ot
 |[]=>[(.ok (.d (.v (.bool false))),[]),(.ok (.d (.v (.bool true))),[])]
 |_::_=>[(.ok (.d (.v (.bool false))),[])]
theorem o8.aLW{L:List (List C)}(he:aJZ P T o=some L):o8 P o T m (A7 L):=by
 unfold aJZ at he;split at he
 ·rename_i op t x y ty ho;split at he
  ·split at he
   ·rename_i hx;split at he
    ·rename_i es L';split at he
     ·rename_i hy;split at he
      ·split at he
       ·rename_i k ht;split at he
        ·rename_i hk;simp only[aA]at he;subst he;have EN:=bB hk;subst EN;intro ro N M0 S0 w0 ρ a w h cX next Q hn
         have v8:=cU h x;have hyd:=cU h y;rw[hx]at v8;rw[hy]at hyd;simp only[A.Den,C.Den]at v8 hyd;obtain⟨ad,cap,BF,hc,hl⟩:=v8;have n1:xE (a.eval x)=some (2,ad.isNone):=by rw[BF];rfl
         have n2:xE (a.eval y)=some (2,true):=by rw[hyd];rfl
         have hr:=JT (P:=P) ht n1 n2 w (.inr rfl);have hg:eqGuard .eql t x y (a.eval x) (a.eval y)=pure ():=pF (.inl (by rw[n1];simp));have tO:binOp .eql t (a.eval x) (a.eval y)=(do pure (.bool (<-Op.equal t (a.eval x) (a.eval y)))):=by rw[BF,hyd];rfl
         have aVL:(execOp a.eval o).run P w=.ok (.value (.bool ad.isNone)) w:=by
          simp only[execOp,ho,aV,hg,cB,aN,tO,hr,o6]
         refine qQ (y:=.bool ad.isNone) (w':=w) (by unfold jO;rw[ho]) aVL (.inl rfl) ?_;cases ad with
         |some q=>
          exact(hn (.ok (.d (.v (.bool false))),[]) (.bool false) w ρ (by cases L'<;>simp[A7]) (by simpa [aH]using h) (by simpa [aH]using gL.refl m ρ)).1 _ rfl (by simp only[A.Den,C.Den])
         |none=>
          have hL:L'=[]:=by
           rcases hl with e|⟨b,off,e,_⟩
           ·exact e
           ·cases e
          subst hL;exact(hn (.ok (.d (.v (.bool true))),[]) (.bool true) w ρ (by simp[A7]) (by simpa [aH]using h) (by simpa [aH]using gL.refl m ρ)).1 _ rfl (by simp only[A.Den,C.Den])
        ·cases he
       ·cases he
      ·cases he
     ·cases he
    ·cases he
   ·cases he
  ·cases he
 ·cases he
end
structure XA(P:Program)(n:Nat)(ops:Array Oper)(T:Nat->A)(m:Mem)(o:Oper)(D:qC)(BL:Bool):Prop where
 dst:D.r.dst=o.dst
 lt:∀d,o.dst=some d->d<n
 looks:D.looks=o.looksAt ops
 gA:(kO ops T o=some false/\D.r.v=.eL []/\D.r.u=[])\/(kO ops T o=some true/\∀(T':Nat->A)(m':Mem),(∀x∈o.looksAt ops,T' x=T x)->(BL=true->m'=m)->(∀i∈D.F,m' i=m i)->(∀p∈D.r.u,m p.1=none->m' p.1=none)->qT P o T' m' D.r.v (aH m' D.r.u))
structure IY(P:Program)(n:Nat)(ops:Array Oper)(T0:Nat->A)(m0:Mem)(BL:Nat->Bool)(acc:List qC)(T:Nat->A)(m:Mem):Prop where
 T:T=mK T0 (acc.reverse.map (·.r))
 m:m=kZ m0 (acc.reverse.map (·.r))
 gA:∀i o D,ops[i]?=some o->acc.reverse[i]?=some D->XA P n ops (mK T0 ((acc.reverse.map (·.r)).take i)) (kZ m0 ((acc.reverse.map (·.r)).take i)) o D (BL i)
 down:∀i o D,ops[i]?=some o->acc.reverse[i]?=some D->(∀e∈o.after,Region.binds .any e=true->e.on<i)/\∀j,D.anc.testBit j=true↔∃e∈o.after,Region.binds .any e=true/\(e.on=j\/∃D',acc.reverse[e.on]?=some D'/\D'.anc.testBit j=true)
section
variable{P:Program}{n:Nat}{ops:Array Oper}{T0:Nat->A}{m0:Mem}{BL:Nat->Bool}
theorem IY.push{acc:List qC}{T':Nat->A}{m':Mem}(h:IY P n ops T0 m0 BL acc T m){o:Oper}{D:qC}(ho:ops[acc.length]?=some o)(hT:T'=lI T D.r.dst D.r.v)(hm:m'=aH m D.r.u)
 (hg:XA P n ops T m o D (BL acc.length)){an:Nat}(han:kX acc acc.length o.after.toList=some an)(hD:D.anc=an):IY P n ops T0 m0 BL (D::acc) T' m':=by
 have e1:((D::acc).reverse.map (·.r))=acc.reverse.map (·.r)++[D.r]:=sM;have hlen:(acc.reverse.map (·.r)).length=acc.length:=sM;obtain⟨q1,q2⟩:=zU rfl han;have aXT:∀i,(D::acc).reverse[i]?=if i<acc.length then acc.reverse[i]? else if i=acc.length then some D else none:=by
  intro i;rw[fC,iJ];by_cases hi:i<acc.length
  ·simp[hi]
  ·simp only[List.length_reverse,hi,if_false];by_cases e:i=acc.length
   ·subst e;simp
   ·have:1<=i -acc.length:=oM;rw[c8 (by simpa using this)];simp[e]
 refine⟨by rw[hT,e1,GN,h.T],by rw[hm,e1,GM,h.m],?_,?_⟩
 ·intro i o' D' VV hD';rw[aXT]at hD';rw[e1];by_cases hi:i<acc.length
  ·rw[aUF hi]at hD';rw[jJ oM];exact h.gA i o' D' VV hD'
  ·rw[aT7 hi]at hD';by_cases e:i=acc.length
   ·subst e;simp only[if_true,aA]at hD';subst hD';rw[ho]at VV;simp only[aA]at VV;subst VV;rw[jJ oM,aI oM,<-h.T,<-h.m];exact hg
   ·rw[aT7 e]at hD';cases hD'
 ·intro i o' D' VV hD';rw[aXT]at hD';have hup:∀{k:Nat}{D2:qC},acc.reverse[k]?=some D2->(D::acc).reverse[k]?=some D2:=by
   intro k D2 hk;have:=(bA.1 hk).1;rw[aXT,aUF (by simpa using this)];exact hk
  by_cases hi:i<acc.length
  ·rw[aUF hi]at hD';obtain⟨g1,g2⟩:=h.down i o' D' VV hD';refine⟨g1,λj=>?_⟩;rw[g2 j];constructor
   ·rintro⟨e,he,hb,x⟩;exact⟨e,he,hb,x.imp id λ⟨D2,k1,k2⟩=>⟨D2,hup k1,k2⟩⟩
   ·rintro⟨e,he,hb,x⟩;refine⟨e,he,hb,x.imp id λ⟨D2,k1,k2⟩=>⟨D2,?_,k2⟩⟩;have:=g1 e he hb;rw[aXT,aUF oM]at k1;exact k1
  ·rw[aT7 hi]at hD';by_cases e:i=acc.length
   ·subst e;simp only[if_true,aA]at hD';subst hD';rw[ho]at VV;simp only[aA]at VV;subst VV;refine⟨λe he hb=>q1 e (by simpa using he) hb,λj=>?_⟩;rw[hD,q2 j];constructor
    ·rintro⟨e,he,hb,x⟩;exact⟨e,by simpa using he,hb,x.imp id λ⟨D2,k1,k2⟩=>⟨D2,hup k1,k2⟩⟩
    ·rintro⟨e,he,hb,x⟩;refine⟨e,by simpa using he,hb,x.imp id λ⟨D2,k1,k2⟩=>⟨D2,?_,k2⟩⟩;have:=q1 e (by simpa using he) hb;rw[aXT,aUF this]at k1;exact k1
   ·rw[aT7 e]at hD';cases hD'
theorem IY.congr{acc:List qC}{tot':Nat->Bool}(h:IY P n ops T0 m0 BL acc T m)(he:∀i,i<acc.length->tot' i=BL i):IY P n ops T0 m0 tot' acc T m:=
 ⟨h.T,h.m,λi o D ho hD=>by
   have hi:i<acc.length:=by have:=(bA.1 hD).1;simpa using this
   rw[he i hi];exact h.gA i o D ho hD,h.down⟩
theorem VI(hm:P.follows .mixedOrders=true){rd:Bool}{id:Nat}{ds:List DA}{acc:List qC}{T:Nat->A}{m:Mem}(g1:IY P n ops T0 m0 BL acc T m)(hlen:acc.length=ops.size)(hap:nO acc=true)(hin:∀i D,acc.reverse[i]?=some D->BL i=false->∀p∈D.r.u,p.1∈D.F)(ht:∀i j Di Dj,i<j->acc.reverse[i]?=some Di->acc.reverse[j]?=some Dj->(BL i=true\/BL j=true)->Dj.anc.testBit i=true\/(Di.r.u=[]/\Dj.r.u=[])){Post:qU}(aYH:Post .nm T m ds):
 eU P rd n (.region id ops true) T0 m0 ds Post:=by
 let recs:=acc.reverse.map (·.r);let anc:Nat->Nat->Bool:=λi j=>match acc.reverse[i]? with
  |some D=>D.anc.testBit j
  |none=>false
 let F:Nat->Nat->Prop:=λk i=>BL k=true\/∃D,acc.reverse[k]?=some D/\i∈D.F;have aXZ:∀{i:Nat}{r:Rec},recs[i]?=some r->∃D,acc.reverse[i]?=some D/\D.r=r:=by
  intro i r hr;simp only[recs,cK,bU]at hr;exact hr
 have aXQ:∀{i:Nat}{D:qC},acc.reverse[i]?=some D->∀j,anc i j=D.anc.testBit j:=by
  intro i D hD j;simp only[anc,hD]
 have aYL:∀{i:Nat}{o:Oper}{D:qC},ops[i]?=some o->acc.reverse[i]?=some D->∀j,D.anc.testBit j=true->j<i:=by
  intro i;induction i using Nat.strongRecOn with
  |_ i ih=>
   intro o D ho hD j hj;obtain⟨k1,k2⟩:=g1.down i o D ho hD;obtain⟨e,he,hb,x⟩:=(k2 j).1 hj;have cX:=k1 e he hb;rcases x with rfl|⟨D',hD',x⟩
   ·exact cX
   ·have hio:i<ops.size:=(aL.1 ho).1;exact Nat.lt_trans (ih e.on cX (cF oM) hD' j x) cX
 have aYV:∀(i j:Nat)(Di Dj:qC),i≠j->acc.reverse[i]?=some Di->acc.reverse[j]?=some Dj->anc i j=false->anc j i=false->QP Di Dj:=by
  intro i j Di Dj hZ hi hj h1 h2;rw[aXQ hi]at h1;rw[aXQ hj]at h2;rcases u4 hZ with cX|cX
  ·obtain⟨a,b,c,d⟩:=oQ hap i j Di Dj cX hi hj h2;exact⟨b,a,d,c⟩
  ·exact oQ hap j i Dj Di cX hj hi h1
 let Rq:Nat->Mem->Prop:=λk m'=>True;have mS:RL P ops recs anc F Rq n T0 m0:=by
  have aYB:∀k,nM (λi=>decide (i<k)) 0 recs=recs.take k:=by
   have:∀(l:List Rec)(s k:Nat),nM (λi=>decide (i<s+k)) s l=l.take k:=by
    intro l;induction l with
    |nil=>intro s k;simp[nM]
    |cons r l ih=>
     intro s k;cases k with
     |zero=>
      simp only[nM,iE,Nat.lt_irrefl,decide_false,bY,if_false,fD];exact sel_none' l (s+1) (λi=>decide (i<s)) (λi hi=>zM)
     |succ k=>
      simp only[nM,cC];rw[aUF sM];rw[show s+(k+1)=s+1+k by omega,ih (s+1) k]
   intro k;have:=this recs 0 k;simpa using this
  have hTk:∀k o D,ops[k]?=some o->acc.reverse[k]?=some D->(∀x∈o.looksAt ops,mK T0 (recs.take k) x=mK T0 (nM (anc k) 0 recs) x)/\(∀i∈D.F,kZ m0 (recs.take k) i=kZ m0 (nM (anc k) 0 recs) i)/\(BL k=true->kZ m0 (recs.take k)=kZ m0 (nM (anc k) 0 recs)):=by
   intro k o D ho hD;have hg:=g1.gA k o D ho hD;have aYD:∀i q,recs[i]?=some q->(decide (0+i<k))≠anc k (0+i)->∃Di,acc.reverse[i]?=some Di/\Di.r=q/\QP Di D:=by
    intro i q hq hZ;obtain⟨Di,hDi,rfl⟩:=aXZ hq;rw[fF]at hZ;have cX:i<k/\anc k i=false:=by
     cases h2:anc k i with
     |true=>
      rw[h2]at hZ;have:=aYL ho hD i (by rw[<-aXQ hD];exact h2);simp[this]at hZ
     |false=>
      rw[h2]at hZ;simp at hZ;exact⟨hZ,rfl⟩
    refine⟨Di,hDi,rfl,aYV i k Di D oM hDi hD ?_ cX.2⟩;cases h3:anc i k with
    |false=>rfl
    |true=>
     have hio:i<ops.size:=by have:=(bA.1 hDi).1;simp at this;omega
     have:=aYL (cF hio) hDi k (by rw[<-aXQ hDi];exact h3);omega
   refine⟨λx hx=>?_,λi hi=>?_,λhtk=>?_⟩
   ·rw[<-aYB k];refine pI recs 0 _ _ (λi q hq hZ e=>?_) rfl;obtain⟨Di,_,rfl,hA⟩:=aYD i q hq hZ;have:=(rU hA.1 x e).1;rw[hg.looks]at this;exact this hx
   ·rw[<-aYB k];refine nZ recs 0 _ _ (λj q hq hZ p hp e=>?_) rfl;obtain⟨Dj,_,rfl,hA⟩:=aYD j q hq hZ;exact tJ hA.2.2.1 p hp (e▸hi)
   ·funext i;rw[<-aYB k];refine nZ recs 0 _ _ (λj q hq hZ p hp e=>?_) rfl;obtain⟨Dj,hDj,rfl⟩:=aXZ hq;rw[fF]at hZ;have cX:j<k/\anc k j=false:=by
     cases h2:anc k j with
     |true=>
      rw[h2]at hZ;have:=aYL ho hD j (by rw[<-aXQ hD];exact h2);simp[this]at hZ
     |false=>
      rw[h2]at hZ;simp at hZ;exact⟨hZ,rfl⟩
    rcases ht j k Dj D cX.1 hDj hD (.inr htk)with this|⟨this,_⟩
    ·rw[aXQ hD,this]at cX;cases cX.2
    ·rw[this]at hp;cases hp
  refine⟨by simp[recs,hlen],?_,?_,?_,?_,?_,?_,?_,?_⟩
  ·intro k o r ho hr;obtain⟨D,hD,rfl⟩:=aXZ hr;have hg:=g1.gA k o D ho hD;exact⟨hg.dst,hg.lt⟩
  ·intro k o r ho hr;obtain⟨D,hD,rfl⟩:=aXZ hr;have hg:=g1.gA k o D ho hD;obtain⟨q1,q2,q3⟩:=hTk k o D ho hD;have hwc:kO ops (mK T0 ((acc.reverse.map (·.r)).take k)) o=kO ops (mK T0 (nM (anc k) 0 recs)) o:=HX q1;rcases hg.gA with⟨x,y,z⟩|⟨x,y⟩
   ·exact .inl ⟨hwc▸x,y,z⟩
   ·refine .inr ⟨hwc▸x,λT' m' hT' zI hrq hfr=>y T' m' (λt ht=>(hT' t ht).trans (q1 t ht).symm) (λe=>?_) (λi hi=>(zI i (.inr ⟨D,hD,hi⟩)).trans (q2 i hi).symm) (λp hp e=>?_)⟩
    ·rw[show kZ m0 ((acc.reverse.map (·.r)).take k)=kZ m0 (nM (anc k) 0 recs)from q3 e];funext i;exact zI i (.inl e)
    ·refine hfr p hp ?_;cases htk:BL k with
     |true=>
      rw[<-q3 htk];exact e
     |false=>exact(q2 p.1 (hin k D hD htk p hp))▸e
  ·intro k o X ho hXk aYD;trivial
  ·intro k o j b ho hg d hd;unfold Oper.looksAt;rw[hg];simp[hd]
  ·intro k r hr p hp _;obtain⟨D,hD,rfl⟩:=aXZ hr;have hio:k<ops.size:=by have:=(bA.1 hD).1;simp at this;omega
   cases htk:BL k with
   |true=>exact .inl htk
   |false=>exact .inr ⟨D,hD,hin k D hD htk p hp⟩
  ·intro i j p q o hZ hp hq ho h1 h2;obtain⟨Di,hDi,rfl⟩:=aXZ hp;obtain⟨Dj,hDj,rfl⟩:=aXZ hq;have hA:=aYV i j Di Dj hZ hDi hDj h1 h2;have hg:=g1.gA j o Dj ho hDj;have hnt:Di.r.u≠[]->∀l,(l=i\/l=j)->BL l=false:=by
    intro hun l hl;cases htl:BL l with
    |false=>rfl
    |true=>
     exfalso;rcases u4 hZ with cX|cX
     ·rcases ht i j Di Dj cX hDi hDj (by rcases hl with rfl|rfl;exact .inl htl;exact .inr htl)with this|⟨this,_⟩
      ·rw[aXQ hDj,this]at h2;cases h2
      ·exact hun this
     ·rcases ht j i Dj Di cX hDj hDi (by rcases hl with rfl|rfl;exact .inr htl;exact .inl htl)with this|⟨_,this⟩
      ·rw[aXQ hDi,this]at h1;cases h1
      ·exact hun this
   refine⟨λd e=>?_,λx hx=>⟨?_,λy hy e=>?_⟩⟩
   ·have:=rU hA.1 d e;rw[hg.looks]at this;exact this
   ·rintro(hin|⟨D,hD,hin⟩)
    ·rw[hnt (List.ne_nil_of_mem hx) j (.inr rfl)]at hin;cases hin
    rw[hDj]at hD;simp only[aA]at hD;subst hD;exact tJ hA.2.2.1 x hx hin
   ·exact tJ hA.2.2.1 x hx (e▸hin j Dj hDj (hnt (List.ne_nil_of_mem hx) j (.inr rfl)) y hy)
  ·intro k o ho e he hb;have hk:k<acc.reverse.length:=by
    have:=(aL.1 ho).1;simp;omega
   exact(g1.down k o _ ho (aC hk)).1 e he hb
  ·intro k o j ho hj;have hk:k<acc.reverse.length:=by
    have:=(aL.1 ho).1;simp;omega
   have hD:=aC hk;rw[aXQ hD]at hj;obtain⟨e,he,hb,x⟩:=((g1.down k o _ ho hD).2 j).1 hj;refine⟨e,he,hb,x.imp (λq=>q) λ⟨D',hD',y⟩=>?_⟩;rw[aXQ hD'];exact y
 refine eU.draw hm mS ?_;rw[<-g1.T,<-g1.m];exact aYH
where sel_none':∀(l:List Rec)(s:Nat)(X:Nat->Bool),(∀i,s<=i+1->i+1<=i+1->s<=i->X i=false)->nM X s l=[]
 |[],_,_,_=>rfl
 |r::l,s,X,h=>by
  simp only[nM];rw[h s oM (bT _) (bT _)];simp only[bY,if_false];exact sel_none' l (s+1) X λi a b c=>h i oM b oM
end
end Go.Pv
