import Derived.Test.YtpdcbahjjmooiaaGreatQ5
import Derived.RowKit3
/- Contracts of functions that the law reaches, and their logic. No conditions. -/
set_option linter.all false
set_option maxRecDepth 100000
set_option maxHeartbeats 8000000
open Go
namespace Go.Pv
open Go.RowKit
variable{w w':World}{M:Nat->Prop}{m m':Mem}{P:Program}{g f:Nat->Nat}{o:Oper}{T:Nat->A}{t:TypeId}{x:Operand}{d es ce i:Nat}{X:Prop}{k:A->List (Nat×R)->Prop}
open Go.RowKit Go.ChangeShapes Go.WideShapes
def Kept(W w':World):Prop:=W.keptBut w' (λ_=>False)/\(∀a,a.block<W.heap.size->w'.frozen? a=W.frozen? a)/\W.heap.size<=w'.heap.size
def iF.kept(h:iF (λ_=>False) w w'):Kept w w':=by
 refine⟨⟨h.os,h.output,λi hi=>?_⟩,λa ha=>?_,h.size⟩
 ·rw[h.block i hi (λe=>e)];cases w.heap[i]? with
  |none=>rfl
  |some o=>cases o<;>simp
 ·unfold World.frozen?;rw[h.block _ ha (λe=>e)]
def Kept.frame{W:World}(h:Kept W w')(may:MemPlace->Prop):W.keptBut w' may:=World.keptBut_mono (λ_ f=>f.elim) h.1
section
variable{H:Type}{enc:TypeId×Value->H}{P:Program}
def QQ{f:Func}{s:ChangeSpec}{apart fresh handsOn again:Bool}{W W':World}{args:Array Value}{v:Value}{ds gs:List (DataW H)}{before pa pv:List MemPlace}
 (hW:DataW.Whole enc P f.params.toList s.vars apart W args.toList ds gs before)
 (aX0:∀(b:Nat)(sp:Nat->Bool)(hd:Bool),DataW.TrodAll enc P W' b sp hd f.resultTypes.toList (v.resultList f.resultTypes.size) (s.fn H (ds++gs)).results [])
 (aYM:∀sp:Nat->Bool,(∀p∈before,sp p.block=true)->DataW.TrodAll enc P W' 0 sp true f.params.toList args.toList (s.fn H (ds++gs)).args pa)
 (a0Q:∀sp:Nat->Bool,(∀p∈before,sp p.block=true)->DataW.TrodVars enc P W' sp s.vars (s.fn H (ds++gs)).vars pv)
 (hps:before=pa++pv)(hk:W.keptBut W' (· ∈before))(hfz:∀a,a.block<W.heap.size->W'.frozen? a=W.frozen? a)
 (hok:∀(j:Nat)(t:TypeId)(r:Value),f.resultTypes[j]?=some t->(v.resultList f.resultTypes.size)[j]?=some r->Value.okWide P W' .any 0 t r):
 s.post enc P f apart fresh handsOn again W args v W':=by
 have cX:∀p∈before,p.block<W.heap.size:=λp hp=>hW.lt p hp;have hold:∀p∈before,(λb=>decide (b<W.heap.size)) p.block=true:=λp hp=>by simpa using hW.lt p hp
 refine⟨ds,gs,before,[],pa,pv,hW,aX0 _ _ _,aYM _ hold,a0Q _ hold,World.keptBut_mono (λp hp=>⟨hp,?_⟩) hk,λ_=>?_⟩
 ·rw[hps,bN]at hp;exact eV hp
 ·have⟨_,_,_,_,_,hz,hn⟩:=hW;refine⟨hok,_,_,([]++pa)++pv,⟨[]++pa,pv,trodAll_append (aYM _ (λ_ _=>rfl)) (aX0 _ _ _),a0Q _ (λ_ _=>rfl),rfl,?_,?_⟩,?_⟩
  ·intro b off hp;have hp':MemPlace.cell b off∈before:=by rw[hps];simpa using hp
   rw[hfz _ (cX _ hp')];exact hz b off hp'
  ·intro ha;have:=hn ha;rw[hps]at this;simpa using this
  ·intro p hp _;rw[hps];simpa using hp
end
def Rt.dC{w w':World}{M M':Nat->Prop}{m m':Mem}{ρ ρ':Nat->Value}(h:dV M w w')(hM:∀b,M' b->b<w.heap.size->M b)(hO:gL m m' ρ ρ'):∀{r:Rt}{e:Ending},r.Den w M m ρ e->r.Den w' M' m' ρ' e
 |.ok _,_,⟨y,e,h1⟩=>⟨y,e,A.dC h hM hO _ _ h1⟩
 |.sE _,_,⟨y,e,h1⟩=>⟨y,e,A.dC h hM hO _ _ h1⟩
def aJ.frame{f:FuncId}{as:List A}{m1:Mem}{r:Rt}{ups:List (Nat×R)}(h:aJ P f as m1 r (aH m1 ups))(has:∀i∈A.lQ as,m1 i≠none)
 (hm:∀i r,m1 i=some r->m i=some r)(n0:∀i r,m1 i=some r->∀j∈r.hs,m1 j≠none)(aXW:∀p∈ups,m1 p.1=none->m p.1=none):aJ P f as m r (aH m ups):=by
 refine⟨h.1,?_⟩;intro N T M0 S0 w0 ρ a w hs cX vs P2;let M1:Nat->Prop:=λb=>M0 b\/∃i r,m i=some r/\m1 i=none/\r.live=true/\blk (ρ i)=some b;let S1:Nat->Prop:=λb=>∃i r,m1 i=some r/\r.live=true/\blk (ρ i)=some b;have aXP:∀b,dD M1 m1 ρ b↔dD M0 m ρ b:=by
  intro b;constructor
  ·rintro((e|⟨i,r,e1,_,e2,e3⟩)|⟨i,r,e1,e2,e3⟩)
   ·exact .inl e
   ·exact .inr ⟨i,r,e1,e2,e3⟩
   ·exact .inr ⟨i,r,hm i r e1,e2,e3⟩
  ·rintro(e|⟨i,r,e1,e2,e3⟩)
   ·exact .inl (.inl e)
   ·cases hi:m1 i with
    |none=>exact .inl (.inr ⟨i,r,e1,hi,e2,e3⟩)
    |some r'=>
     have:=hm i r' hi;rw[e1]at this;simp at this;subst this;exact .inr ⟨i,r,hi,e2,e3⟩
 have aYN:dD M1 m1 ρ=dD M0 m ρ:=funext λb=>propext (aXP b);have h0:bC M1 S1 w ⟨N.n,none⟩ (λ_=>.x) m1 ρ a w:=
  {keeps:=iF.refl _ _,size:=hs.size,defers:=λds e=>by cases e
   tmps:=λn=>by simp only[A.Den]
   res:=λi r hi=>by rw[aYN];exact R.rY hm (n0 i r hi) (hs.res i r (hm i r hi))
   own:=λi r b hi hl hb=>by
    obtain⟨x,y,z⟩:=hs.own i r b (hm i r hi) hl hb;refine⟨.inr ⟨i,r,hi,hl,hb⟩,?_,z⟩;rintro(e|⟨j,s,e1,e2,e3,e4⟩)
    · exact y e
    · have:=hs.apart i j r s b (hm i r hi) hl e1 e3 hb e4
      subst this;rw[hi]at e2;cases e2
   apart:=λi j r s b hi l1 hj l2 b1 b2=>hs.apart i j r s b (hm i r hi) l1 (hm j s hj) l2 b1 b2}
 have aYE:∀b,M1 b->b<w.heap.size:=λb hb=>V8 hs cX b ((aXP b).1 (.inl hb));refine(h.2 ⟨N.n,none⟩ (λ_=>.x) M1 S1 w ρ a w h0 aYE vs (by rw[aYN];exact A.fG hm _ _ has P2)).mono ?_;rintro e w' ⟨ρ',h1,hO,hv⟩;let ρ2:Nat->Value:=λi=>if(aH m1 ups i).isSome then ρ' i else ρ i
 have hA:∀{i:Nat}{r:R},aH m1 ups i=some r->aH m ups i=some r/\ρ2 i=ρ' i:=λ{i r}e=>⟨pN ups hm i r e,by simp[ρ2,e]⟩;have hB:∀{i:Nat},aH m1 ups i=none->m1 i=none/\aH m ups i=m i/\ρ2 i=ρ i:=λ{i}e=>⟨(nP ups e).1,(nP ups e).2 m,by simp[ρ2,e]⟩;have kk:=h1.keeps;have hS1:∀b,S1 b->dD M0 m ρ b:=λb⟨i,r,e1,e2,e3⟩=>.inr ⟨i,r,hm i r e1,e2,e3⟩;have HG:dV (dD M0 m ρ) w w':=kk.stays λb _ e=>hS1 b e;have hon:gL m (aH m ups) ρ ρ2:=by
  intro i hi;cases h':aH m1 ups i with
  |none=>
   obtain⟨e1,e2,e3⟩:=hB h';rw[e2];exact⟨hi,λhd=>⟨hd,e3,λfz t es l e=>⟨fz,t,l,e,rfl⟩⟩⟩
  |some r=>
   obtain⟨e1,e2⟩:=hA h';rw[e1];refine⟨sM,λhd=>?_⟩;cases PE:m1 i with
   |none=>
    obtain⟨p,hp,rfl⟩:=xS ups PE (by rw[h'];simp);exact absurd (aXW p hp PE) hi
   |some r0=>
    have aYF:=hm i r0 PE;obtain⟨_,q⟩:=hO i (by rw[PE];simp);rw[h']at q;obtain⟨q1,q2,q3⟩:=q hd;rw[aYF];rw[PE]at q1 q3;exact⟨q1,by rw[e2];exact q2,q3⟩
 have aVM:∀b,dD M0 (aH m ups) ρ2 b->b<w.heap.size->dD M0 m ρ b:=by
  rintro b (e|⟨i,r,hi,hl,hb⟩) hbl
  ·exact .inl e
  ·cases h':aH m1 ups i with
   |none=>
    obtain⟨e1,e2,e3⟩:=hB h';rw[e2]at hi;rw[e3]at hb;exact .inr ⟨i,r,hi,hl,hb⟩
   |some r'=>
    obtain⟨e1,e2⟩:=hA h';rw[e1]at hi;simp at hi;subst hi;rw[e2]at hb;rcases(h1.own i r' b h' hl hb).1 with q|q
    ·omega
    ·exact hS1 b q
 have aYY:∀b,dD M0 (aH m ups) ρ2 b->dD M1 (aH m1 ups) ρ' b:=by
  rintro b (e|⟨i,r,hi,hl,hb⟩)
  ·exact .inl (.inl e)
  ·cases h':aH m1 ups i with
   |none=>
    obtain⟨e1,e2,e3⟩:=hB h';rw[e2]at hi;rw[e3]at hb;exact .inl (.inr ⟨i,r,hi,e1,hl,hb⟩)
   |some r'=>
    obtain⟨e1,e2⟩:=hA h';rw[e1]at hi;simp at hi;subst hi;rw[e2]at hb;exact .inr ⟨i,r',h',hl,hb⟩
 have aY6:gL (aH m1 ups) (aH m ups) ρ' ρ2:=by
  intro i hi;cases h':aH m1 ups i with
  |none=>exact absurd h' hi
  |some r=>
   obtain⟨e1,e2⟩:=hA h';rw[e1];exact⟨sM,λhd=>⟨hd,e2,λfz t es l e=>⟨fz,t,l,e,rfl⟩⟩⟩
 refine⟨ρ2,?_,hon,Rt.dC (dV.refl _ w') (λb hb _=>aYY b hb) aY6 hv⟩
 refine{keeps:=hs.keeps.trans kk λb hb⟨i,r,e1,e2,e3⟩=>?_,size:=h1.size,defers:=λds e=>eJ HG aVM hon _ _ (hs.defers ds e)
        tmps:=λn=>A.dC HG aVM hon _ _ (hs.tmps n)
        res:=λi r hi=>?_,own:=λi r b hi hl hb=>?_,apart:=λi j r s b hi l1 hj l2 b1 b2=>?_}
 ·rcases(hs.own i r b (hm i r e1) e2 e3).1 with q|q
  ·omega
  ·exact q
 ·cases h':aH m1 ups i with
  |some r'=>
   obtain⟨e1,e2⟩:=hA h';rw[e1]at hi;simp at hi;subst hi;rw[e2];exact R.hU (dV.refl _ w') (λb hb _=>aYY b hb) aY6 (λ_ _ _=>rfl) (h1.res i r' h')
  |none=>
   obtain⟨e1,e2,e3⟩:=hB h';rw[e2]at hi;rw[e3];by_cases hd:r=.dead
   ·subst hd;trivial
   ·refine R.hU HG aVM hon (λb hb aVU=>?_) (hs.res i r hi);refine kk.block b aVU ?_;rintro⟨j,s,q1,q2,q3⟩;have hij:i≠j:=by rintro rfl;rw[e1]at q1;cases q1
    exact hs.other (hm j s q1) q2 q3 hi hd hij hb
 ·cases h':aH m1 ups i with
  |some r'=>
   obtain⟨e1,e2⟩:=hA h';rw[e1]at hi;simp at hi;subst hi;rw[e2]at hb;obtain⟨x,y,z⟩:=h1.own i r' b h' hl hb;refine⟨?_,λe=>y (.inl e),z⟩;rcases x with q|⟨j,s,q1,q2,q3⟩
   ·exact .inl (cL hs.keeps.size q)
   ·exact(hs.own j s b (hm j s q1) q2 q3).1
  |none=>
   obtain⟨e1,e2,e3⟩:=hB h';rw[e2]at hi;rw[e3]at hb;obtain⟨x,y,z⟩:=hs.own i r b hi hl hb;exact⟨x,y,cG z kk.size⟩
 ·cases h':aH m1 ups i with
  |some r'=>
   obtain⟨e1,e2⟩:=hA h';rw[e1]at hi;simp at hi;subst hi;rw[e2]at b1;cases h2:aH m1 ups j with
   |some s'=>
    obtain⟨e3,e4⟩:=hA h2;rw[e3]at hj;simp at hj;subst hj;rw[e4]at b2;exact h1.apart i j r' s' b h' l1 h2 l2 b1 b2
   |none=>
    obtain⟨e3,e4,e5⟩:=hB h2;rw[e4]at hj;rw[e5]at b2;exact absurd (.inr ⟨j,s,hj,e3,l2,b2⟩) (h1.own i r' b h' l1 b1).2.1
  |none=>
   obtain⟨e1,e2,e3⟩:=hB h';rw[e2]at hi;rw[e3]at b1;cases h2:aH m1 ups j with
   |some s'=>
    obtain⟨e4,e5⟩:=hA h2;rw[e4]at hj;simp at hj;subst hj;rw[e5]at b2;exact absurd (.inr ⟨i,r,hi,e1,l1,b1⟩) (h1.own j s' b h2 l2 b2).2.1
   |none=>
    obtain⟨e4,e5,e6⟩:=hB h2;rw[e5]at hj;rw[e6]at b2;exact hs.apart i j r s b hi l1 hj l2 b1 b2
mutual
def A.BG{g f:Nat->Nat}(h:∀i,f (g i)=i):∀(a:A),(a.eZ g).eZ f=a
 |.d c=>rfl
 |.lp i o=>by simp[A.eZ,h]
 |A.h i=>by simp[A.eZ,h]
 |.ep i e k o=>by simp[A.eZ,h]
 |.sv i l n=>by simp[A.eZ,h]
 |.fn k u v=>by simp only[A.eZ];rw[A.oY h u,A.oY h v]
 |.agg l=>by simp[A.eZ];rw[A.oY h l]
 |.eL l=>by simp[A.eZ];rw[A.oY h l]
 |.AE t a=>by simp[A.eZ];rw[A.BG h a]
 |.x=>rfl
def A.oY{g f:Nat->Nat}(h:∀i,f (g i)=i):∀(l:List A),A.iV f (A.iV g l)=l
 |[]=>rfl
 |c::r=>by simp only[A.iV];rw[A.BG h c,A.oY h r]
end
def yM{g f:Nat->Nat}(h:∀i,f (g i)=i):∀(l:List (List A)),(l.map (A.iV g)).map (A.iV f)=l
 |[]=>rfl
 |e::r=>by simp only[aG];rw[A.oY h,yM h r]
def YM{g f:Nat->Nat}(h:∀i,f (g i)=i):∀(l:List Nat),(l.map g).map f=l
 |[]=>rfl
 |e::r=>by simp only[aG,h];rw[YM h r]
def R.BG{g f:Nat->Nat}(h:∀i,f (g i)=i)(r:R):(r.eZ g).eZ f=r:=by
 cases r with
 |cells fz l=>simp[R.eZ,A.oY h]
 |fW fz t es l=>simp[R.eZ,yM h]
 |mp fz kv st=>
  simp only[R.eZ,bH];congr 1
  ·conv=>rhs;rw[<-List.map_id kv]
   exact cQ λp _=>by simp[A.BG h]
  ·conv=>rhs;rw[<-List.map_id st]
   exact cQ λp _=>by simp[h]
 |fr l=>simp[R.eZ,A.oY h]
 |it i sc a b=>simp[R.eZ,h,YM h]
 |lo st pend ts ps asg bod=>simp[R.eZ,A.oY h]
 |cu src es l=>simp[R.eZ,A.BG h,yM h]
 |_=>rfl
def aBB{gi:Nat->Nat}(h1:∀i,gi (g i)=i)(m:Mem):nK gi g (nK g gi m)=m:=by
 funext i;unfold nK;rw[h1];cases m i with
 |none=>rfl
 |some r=>simp[dF];rw[R.BG h1]
def A.RH{w:World}{M M':Nat->Prop}{m m':Mem}{ρ ρ':Nat->Value}{g:Nat->Nat}(h:∀(v:A)(y:Value),v.Den w M m ρ y->(v.eZ g).Den w M' m' ρ' y):∀{l:List A}{ys:List Value},A.bR w M m ρ l ys->A.bR w M' m' ρ' (A.iV g l) ys
 |[],ys,hd=>by simpa only[A.bR,A.iV]using hd
 |c::r,ys,hd=>by
  simp only[A.bR,A.iV]at hd⊢;obtain⟨y,yr,e,h1,h2⟩:=hd;exact⟨y,yr,e,h c y h1,A.RH h h2⟩
def aJ.eZ{P:Program}{f:FuncId}{as:List A}{m1 m2:Mem}{r:Rt}(h:aJ P f as m1 r m2){g gi:Nat->Nat}(h1:∀i,gi (g i)=i)(h2:∀i,g (gi i)=i):
 aJ P f (A.iV g as) (nK g gi m1) (r.eZ g) (nK g gi m2):=by
 refine⟨h.1,?_⟩;intro N T M0 S0 w0 ρ a w hs cX vs P2;have aVU:∀b,M0 b->b<w.heap.size:=λb hb=>cG (cX b hb) hs.keeps.size;have⟨s1,aWJ⟩:=hs.now.eZ (g:=gi) (gi:=g) h2 h1;rw[aBB h1]at s1 aWJ;have hv1:=A.RH aWJ P2;rw[A.oY h1]at hv1;refine(h.2 _ _ M0 _ w _ a w s1 aVU vs hv1).mono ?_;rintro e w' ⟨ρ2,s2,hO,hr⟩;have⟨s3,aZA⟩:=s2.eZ h1 h2;have hO':gL (nK g gi m1) (nK g gi m2) ρ (λi=>ρ2 (gi i)):=by
  intro i hi;cases hm:m1 (gi i)with
  |none=>exact absurd (by unfold nK;rw[hm];rfl) hi
  |some q=>
   have⟨k1,k2⟩:=hO (gi i) (by rw[hm];simp);cases hm2:m2 (gi i)with
   |none=>exact absurd hm2 k1
   |some q2=>
    have er:nK g gi m2 i=some (q2.eZ g):=by unfold nK;rw[hm2];rfl
    have er1:nK g gi m1 i=some (q.eZ g):=by unfold nK;rw[hm];rfl
    refine⟨by rw[er];simp,λhd=>?_⟩;have y4:m2 (gi i)≠some .dead:=by
     rw[hm2];rintro e3;simp[aA]at e3;subst e3;exact hd (by rw[er];rfl)
    have⟨k3,k4,k5⟩:=k2 y4;refine⟨?_,by simp[k4,h2],λfz t es l e3=>?_⟩
    ·rw[er1];rintro e4;apply k3;rw[hm];cases q<;>simp[R.eZ]at e4⊢
    ·rw[er1]at e3;have:∃l0,q=.fW fz t es l0/\l0.length=l.length:=by
      cases q<;>simp[R.eZ]at e3
      have⟨rfl,rfl,rfl,rfl⟩:=e3;exact⟨_,rfl,sM⟩
     obtain⟨l0,rfl,hl0⟩:=this;have⟨fz',t',l',e4,e5⟩:=k5 fz t es l0 hm;rw[hm2]at e4;simp[aA]at e4;subst e4;exact⟨fz',t',l'.map (A.iV g),by rw[er];rfl,by simp[e5,hl0]⟩
 refine⟨_,hs.back s3 hO',hO',?_⟩;cases r with
 |ok v=>obtain⟨y,rfl,hy⟩:=hr;exact⟨y,rfl,aZA _ _ hy⟩
 |sE v=>obtain⟨y,rfl,hy⟩:=hr;exact⟨y,rfl,aZA _ _ hy⟩
section
variable{P:Program}
def qT.aKX{kt:TypeId×TypeId}{ks:List Ky}{vs:List C}{kv:List (Ky×C)}(ho:o.op=.range t x)(hx:dN T x=.d (.im ks vs))(hm:CR P t=some kt)(hk:ks=kv.map (·.1))(hv:vs=kv.map (·.2))(hd:m d=none):
 qT P o T m (.h d) (aH m [(d,.di none kv)]):=by
 intro ro N M0 S0 w0 ρ a w h cX next Q hn
 obtain⟨kt,et⟩:=kt;have hu:=vO hm;have v8:=cU h x;rw[hx]at v8;simp only[A.Den,C.Den]at v8;obtain⟨b,es,cl,l,hy,hM,hb,PE,aWJ⟩:=v8;refine qQ (y:=.pointer (some ⟨w.heap.size,0,none⟩)) (w':=w.alloc (.mapIter (some b) cl #[] cl)) (by unfold jO;rw[ho]) (by simp only[execOp,ho,hy,Instr.range,aV,run_underlying hu,aN,jS hb,cB,run_newObj,kN]) (.inl rfl) ?_;refine hn _ _ (dW ρ d (.pointer (some ⟨w.heap.size,0,none⟩))) ?_ (gL.new _ _ hd) ?_
 ·simp only[aH];refine h.rG cX (jF w _) hd rfl (by simp[blk]) ?_;intro hO HG Q2;have aVU:b<w.heap.size:=(aL.1 hb).1;refine⟨w.heap.size,b,es,cl,#[],l,rfl,heap_alloc_new w _,λe=>hM (Q2 b e aVU),(HG.2 b aVU hM).trans hb,?_,?_,?_,?_,?_,λp e=>by cases e⟩
  ·intro e he;exact PE.old e (PE.perm.mem_iff.1 he)
  ·exact((PE.perm.map (·.born)).nodup_iff).2 PE.born
  ·have:es.toList.filter (λe=> !(#[]:Array Nat).contains e.born)=es.toList:=sM;rw[this];exact PE.perm
  ·rw[PE.keys,hk,bH];rfl
  ·rw[<-hv];exact C.dK HG Q2 _ _ aWJ
 ·simp only[aH,A.Den];exact⟨by simp[aX],λ_=>by simp[dW]⟩
def xD(d:Nat)(rest:List (Ky×C)):List Ot:=match rest with
 |[]=>[(.ok (.eL [.d (.v (.bool false))]),[])]
 |p::r=>(List.range (p::r).length).map λi=>(.ok (.eL [.d (.v (.bool true)),ZA ((p::r).getD i p).1,.d ((p::r).getD i p).2]),[(d,.di (some ((p::r).getD i p)) ((p::r).eraseIdx i))])
def y0{α:Type}(f:α->Nat):∀(l:List α)(i:Nat)(h:i<l.length),(l.map f).Nodup->l.filter (λe=>f e !=f l[i])=l.eraseIdx i
 |[],i,h,_=>by simp at h
 |a::r,0,h,hn=>by
  simp only[eK,List.eraseIdx_zero,List.tail_cons,lZ,bne_self_eq_false,bY,if_false];rw[aDY];intro e he;simp only[aG,aAD]at hn;simp only[bne_iff_ne,ne_eq];intro e';exact hn.1 (aA4.2 ⟨e,he,e'⟩)
 |a::r,i+1,h,hn=>by
  simp only[aG,aAD]at hn;have h':i<r.length:=by simpa using h
  simp only[cJ,gK,lZ];have:(f a !=f r[i])=true:=by
   simp[bne_iff_ne,ne_eq];intro e;exact hn.1 (aA4.2 ⟨_,aY h',e.symm⟩)
  rw[this,aUF rfl,y0 f r i h' hn.2]
def C.BS{w:World}{M:Nat->Prop}:∀{l:List C}{ys:List Value}(i:Nat),C.bR w M l ys->C.bR w M (l.eraseIdx i) (ys.eraseIdx i)
 |[],ys,i,h=>by simp only[C.bR]at h;subst h;simp[C.bR]
 |c::r,ys,0,h=>by
  simp only[C.bR]at h;obtain⟨y,yr,rfl,_,h2⟩:=h;simpa using h2
 |c::r,ys,i+1,h=>by
  simp[C.bR]at h;obtain⟨y,yr,rfl,h1,h2⟩:=h;simp only[gK,C.bR];exact⟨y,yr.eraseIdx i,rfl,h1,C.BS i h2⟩
def o8.aL8{cur:Option (Ky×C)}{rest:List (Ky×C)}(ho:o.op=.next x false)(hx:dN T x=.h d)(hm:m d=some (.di cur rest)):o8 P o T m (xD d rest):=by
 intro ro N M0 S0 w0 ρ a w h cX next Q hn
 have v8:=cU h x;rw[hx]at v8;simp only[A.Den]at v8;have hy:=eH v8 hm sM;obtain⟨b,mb,es,cl,sa,ll,e1,e2,e3,e4,e5,e6,e7,e8,e9,e10⟩:=h.res d _ hm;rw[e1]at hy;have hlen:ll.length=rest.length:=by simpa using congrArg List.length e8
 have aXT:∀w1:World,w1.heap=w.heap->(getObj b).run P w1=.ok (.mapIter (some mb) cl sa cl) w1:=λw1 e=>by simp[getObj,Sem.run,e,e2]
 have a0J:∀w1:World,w1.heap=w.heap->(getObj mb).run P w1=.ok (.map es cl) w1:=λw1 e=>by simp[getObj,Sem.run,e,e4]
 have aYO:(!sa.isEmpty&& !es.isEmpty&&es.all (λe=>decide (e.born≥cl)))=false:=by
  cases hE:es.isEmpty with
  |true=>simp
  |false=>
   have aWU:0<es.size:=by
    rcases pM es.size with q|q
    ·simp[Array.isEmpty,q]at hE
    ·exact q
   have:es.all (λe=>decide (e.born≥cl))=false:=by
    rw[Array.all_eq_false'];have aWE:es[0]∈es:=Array.getElem_mem aWU;have:=e5 es[0] sM;exact⟨es[0],aWE,zM⟩
   simp[this]
 have hb5:∀e∈es.filter (λe=> !sa.contains e.born),e.born<cl:=λe he=>e5 e (by simpa using(rN.1 he).1);have ho1:(es.filter (λe=> !sa.contains e.born)).filter (λe=>decide (e.born<cl))=es.filter (λe=> !sa.contains e.born):=by
  rw[Array.filter_eq_self];intro e he;simpa using hb5 e he
 have ho2:(es.filter (λe=> !sa.contains e.born)).filter (λe=>decide (e.born≥cl))= #[]:=by
  rw[Array.filter_eq_empty_iff];intro e he;have:=hb5 e he;simp;omega
 have hft:(es.filter (λe=> !sa.contains e.born)).toList=es.toList.filter (λe=> !sa.contains e.born):=Array.toList_filter ..;have hfs:(es.filter (λe=> !sa.contains e.born)).size=rest.length:=by rw[<-hlen,<-e7.length_eq,<-hft,aAH]
 have aZB:∀(n:Nat),0<n->∃k w1,(choose (.mapNext n)).run P w=.ok k w1/\k<n/\bC M0 S0 w0 N T m ρ a w1/\w1.heap=w.heap:=by
  intro n hn;by_cases h1:n<=1
  ·exact⟨0,w,by simp[choose,Sem.run,Question.forced,h1],hn,h,rfl⟩
  ·refine⟨(Question.mapNext n).cut (w.tape w.drawn (.mapNext n)),{w with drawn:=w.drawn+1},?_,by simp only[Question.cut];exact u5 _ hn,h.drew _,rfl⟩;simp only[choose,Sem.run,Question.forced,h1,decide_false,bY,if_false]
 generalize hF:es.filter (λe=> !sa.contains e.born)=F at*;cases hr:rest with
 |nil=>
  subst hr;have a0X:F= #[]:=jA (by simpa using hfs);obtain⟨k,w1,hc1,wF,SU,hc4⟩:=aZB 1 oM;have hk:k=0:=oM;subst hk;have aVL:(Instr.next (.pointer (some ⟨b,0,none⟩)) false o.type).run P w=.ok (.tuple #[.bool false]) w1:=by
   simp only[Instr.next,aV,aXT w rfl,aN,a0J w rfl,aYO,bY,if_false,cB,hF,ho1,ho2];simp only[a0X,Array.isEmpty_empty,if_true,Array.append_empty,Array.map_empty,nJ,aQ,cS,fF,aV];simp only[hc1,aN];simp
  refine qQ (y:=.tuple #[.bool false]) (w':=w1) (by unfold jO;rw[ho]) (by simp only[execOp,ho,hy,aV,aVL,aN,cB]) (.inl rfl) ?_;exact(hn (.ok (.eL [.d (.v (.bool false))]),[]) _ _ ρ (by simp[xD]) (by simpa [aH]using SU) (gL.refl m ρ)).1 _ rfl (by simp only[A.Den,A.bR,C.Den];exact⟨_,rfl,_,_,rfl,rfl,rfl⟩)
 |cons p r=>
  have hZ:F.isEmpty=false:=by
   rw[Array.isEmpty_eq_false_iff];intro e;rw[e,hr]at hfs;simp at hfs
  have aWU:0<F.size:=by rw[hfs,hr];simp
  obtain⟨k,w1,hc1,wF,SU,hc4⟩:=aZB F.size aWU;have hkF:k<F.toList.length:=by simpa using wF
  have a1L:F[k]∈ll:=by
   rw[<-e7.mem_iff,<-hft];simp
  obtain⟨i,hi,hie⟩:=List.getElem_of_mem a1L;have hir:i<(p::r).length:=by rw[<-hr,<-hlen];exact hi
  have a1G:(p::r).getD i p=(p::r)[i]:=by simp only[bF,aC hir,gZ]
  have a0B:ll[i].key=((p::r)[i]).1.val:=by
   have:=congrArg (λl=>l[i]?) e8;simp only[cK,aC hi,dF,hr,aC hir,aA]at this;exact this
  have aYK:C.Den w (dD M0 m ρ) ((p::r)[i]).2 ll[i].val:=by
   refine(C.xJ.1 e9).2 i _ _ ?_ ?_
   ·rw[hr,cK,aC hir];rfl
   ·simp[aC hi]
  have a17:F[k]∈es.toList:=by
   have:F[k]∈F.toList:=sM;rw[hft]at this;exact(a39.1 this).1
  have a2F:(ll.map (·.born)).Nodup:=by
   refine((e7.map (·.born)).nodup_iff).1 ?_;exact(List.Sublist.map _ List.filter_sublist).nodup e6
  have wM:w1.heap[b]?=some (.mapIter (some mb) cl sa cl):=by rw[hc4];exact e2
  have a2L:(setObj b (.mapIter (some mb) cl (sa.push F[k].born) cl)).run P w1=.ok () (w1.gW b (.mapIter (some mb) cl (sa.push F[k].born) cl)):=uN wM (by intro c e f h;cases h);have aVL:(Instr.next (.pointer (some ⟨b,0,none⟩)) false o.type).run P w=.ok (.tuple #[.bool true,F[k].key,F[k].val]) (w1.gW b (.mapIter (some mb) cl (sa.push F[k].born) cl)):=by
   simp only[Instr.next,aV,aXT w rfl,aN,a0J w rfl,aYO,bY,if_false,cB,hF,ho1,ho2,hZ];simp only[Array.append_empty,Array.empty_append,Array.size_map,aV];simp only[hc1,aN];simp only[Array.getElem?_map,cF wF,dF,aV,a2L,aN,cB]
  refine qQ (y:=.tuple #[.bool true,F[k].key,F[k].val]) (w':=w1.gW b (.mapIter (some mb) cl (sa.push F[k].born) cl)) (by unfold jO;rw[ho]) (by simp only[execOp,ho,hy,aV,aVL,aN,cB]) (.inl rfl) ?_;have T9:mb≠b:=by
   rintro rfl;exact e3 (.inr ⟨d,_,hm,rfl,by rw[e1];rfl⟩)
  have aXP:∀b',dD M0 (aX m d (.di (some ((p::r)[i])) ((p::r).eraseIdx i))) ρ b'->dD M0 m ρ b':=by
   rintro b' (e|⟨j,q,h1,h2,h3⟩)
   ·exact .inl e
   ·by_cases e:j=d
    ·subst e;exact .inr ⟨j,_,hm,rfl,h3⟩
    ·exact .inr ⟨j,q,by simpa [aX,e]using h1,h2,h3⟩
  have hs2:bC M0 S0 w0 N T (aX m d (.di (some ((p::r)[i])) ((p::r).eraseIdx i))) ρ a (w1.gW b (.mapIter (some mb) cl (sa.push F[k].born) cl)):=by
   refine SU.write hm rfl rfl (λfz t es l e=>by cases e) (mJ w1 b _) (λb' _ e'=>by subst e';rw[e1];rfl) ?_;intro hO HG Q2;have aVU:mb<w1.heap.size:=by rw[hc4];exact(aL.1 e4).1
   have hmb:(w1.gW b (.mapIter (some mb) cl (sa.push F[k].born) cl)).heap[mb]?=some (.map es cl):=by
    show(w1.heap.setIfInBounds b _)[mb]?=_;rw[aB3 (λe=>T9 e.symm),hc4];exact e4
   have aYC:dV (dD M0 m ρ) w (w1.gW b (.mapIter (some mb) cl (sa.push F[k].born) cl)):=by
    refine⟨by rw[<-hc4];exact HG.1,λb' h1 h2=>?_⟩;rw[<-hc4];exact HG.2 b' (by rw[hc4];exact h1) h2
   have aY4:∀b',dD M0 (aX m d (.di (some ((p::r)[i])) ((p::r).eraseIdx i))) ρ b'->b'<w.heap.size->dD M0 m ρ b':=λb' h1 h2=>aXP b' h1;refine⟨b,mb,es,cl,sa.push F[k].born,ll.eraseIdx i,e1,tS wM,λe=>e3 (aXP mb e),hmb,e5,e6,?_,?_,?_,?_⟩
   ·have h1:es.toList.filter (λe=> !(sa.push F[k].born).contains e.born)=(es.toList.filter (λe=> !sa.contains e.born)).filter (λe=>e.born !=F[k].born):=by
     rw[List.filter_filter];refine List.filter_congr λe _=>?_;rw[K0];simp[Array.contains_push,and_comm,not_or]
    rw[h1,<-y0 (·.born) ll i hi a2F,hie];exact e7.filter _
   ·rw[<-rD,e8,hr,rD]
   ·have:=C.BS i (C.dK aYC aY4 _ _ e9);rw[hr]at this;have ea:((p::r).map (·.2)).eraseIdx i=((p::r).eraseIdx i).map (·.2):=rD _ _ _;have eb:(ll.map (·.val)).eraseIdx i=(ll.eraseIdx i).map (·.val):=rD _ _ _;rw[ea,eb]at this;exact this
   ·intro q hq;simp only[aA]at hq;subst hq;exact⟨F[k],a17,sM,by rw[<-hie];exact a0B,C.dC aYC aY4 _ _ (by rw[<-hie];exact aYK)⟩
  have hO:gL m (aX m d (.di (some ((p::r)[i])) ((p::r).eraseIdx i))) ρ ρ:=by
   have:=gL.set (m:=m) (ρ:=ρ) d (.di (some ((p::r)[i])) ((p::r).eraseIdx i)) (ρ d) (λ_ _=>⟨by rw[hm];simp,rfl,λfz t es l e=>by rw[hm]at e;cases e⟩)
   rwa [jP]at this
  refine(hn (.ok (.eL [.d (.v (.bool true)),ZA ((p::r)[i]).1,.d ((p::r)[i]).2]),[(d,.di (some ((p::r)[i])) ((p::r).eraseIdx i))]) _ _ ρ ?_ (by simpa [aH]using hs2) (by simpa [aH]using hO)).1 _ rfl ?_
  ·rw[hr];unfold xD;refine aA4.2 ⟨i,jI.2 hir,?_⟩;rw[a1G]
  ·have aYC:dV (dD M0 m ρ) w (w1.gW b (.mapIter (some mb) cl (sa.push F[k].born) cl)):=by
    refine⟨by simp[World.gW,hc4],λb' h1 h2=>?_⟩;show(w1.heap.setIfInBounds b _)[b']?=_;rw[aB3 (λe=>h2 (by subst e;exact .inr ⟨d,_,hm,rfl,by rw[e1];rfl⟩)),hc4]
   simp only[A.Den,A.bR,C.Den,aH];exact⟨_,rfl,_,_,rfl,rfl,_,_,rfl,by rw[<-hie,a0B];exact IJ _ _,_,_,rfl,C.dC aYC (λb' h1 _=>aXP b' h1) _ _ (by rw[<-hie];exact aYK),rfl⟩
def qT.aJY{p:Ky×C}{rest:List (Ky×C)}(ho:o.op=.entry x)(hx:dN T x=.h d)(hm:m d=some (.di (some p) rest)):qT P o T m (.eL [ZA p.1,.d p.2]) m:=by
 intro ro N M0 S0 w0 ρ a w h cX next Q hn
 have v8:=cU h x;rw[hx]at v8;simp[A.Den]at v8;have hy:=eH v8 hm sM;have⟨b,mb,es,cl,sa,ll,e1,e2,e3,e4,e5,e6,e7,e8,e9,e10⟩:=h.res d _ hm;rw[e1]at hy;have⟨e,h1,h2,h3,h4⟩:=e10 p rfl;have aWM:es.find? (λx=>x.born==e.born)=some e:=by
  rw[<-Array.find?_toList];refine vJ h1 sM λy hy hyb=>?_;have⟨j1,q1⟩:=dY.1 hy;have⟨j2,q2⟩:=dY.1 h1;have hb:y.born=e.born:=by simpa using hyb
  have:j1=j2:=by
   refine(List.getElem?_inj (l:=es.toList.map (·.born)) ?_ e6).1 ?_
   ·have:=(bA.1 q1).1;simpa using this
   ·simp[cK,q1,q2,dF,hb]
  subst this;rw[q1]at q2;simpa using q2
 have aVL:(Instr.entry (.pointer (some ⟨b,0,none⟩))).run P w=.ok (.tuple #[e.key,e.val]) w:=by
  simp[Instr.entry,aV];rw[show(getObj b).run P w=.ok (.mapIter (some mb) cl sa cl) w by simp[getObj,Sem.run,e2]];simp[aN,h2,aV];rw[show(getObj mb).run P w=.ok (.map es cl) w by simp[getObj,Sem.run,e4]];simp only[aN,aWM];simp
 refine qQ (y:=.tuple #[e.key,e.val]) (w':=w) (by unfold jO;rw[ho]) (by simp[execOp,ho,hy,aV,aVL,aN,cB]) (.inl rfl) ?_;refine hn _ _ ρ h (gL.refl m ρ) ?_;simp only[A.Den,A.bR];exact⟨_,rfl,_,_,rfl,by rw[h3];exact IJ _ _,_,_,rfl,h4,rfl⟩
def aJZ(P:Program)(T:Nat->A)(o:Oper):Option (List (List C)):=match o.op with
 |.binOp op t x y _=>match op with
  |.eql=>match dN T x with
   |.d c=>match c with
    |.sl _ L=>match dN T y with
     |.d c=>match c with
      |.nl _=>match BR P t with
       |some k=>match Nat.beq k 2 with
        |true=>some L
        |false=>none
       |none=>none
      |_=>none
     |_=>none
    |_=>none
   |_=>none
  |_=>none
 |_=>none
def A7:List (List C)->List Ot
 |[]=>[(.ok (.d (.v (.bool false))),[]),(.ok (.d (.v (.bool true))),[])]
 |_::_=>[(.ok (.d (.v (.bool false))),[])]
def o8.aLW{L:List (List C)}(he:aJZ P T o=some L):o8 P o T m (A7 L):=by
 unfold aJZ at he;split at he
 ·rename_i op t x y ty ho;split at he
  ·split at he
   ·rename_i hx;split at he
    ·rename_i es L';split at he
     ·rename_i hy;split at he
      ·split at he
       ·rename_i k ht;split at he
        ·rename_i hk;simp[aA]at he;subst he;have EN:=bB hk;subst EN;intro ro N M0 S0 w0 ρ a w h cX next Q hn
         have v8:=cU h x;have hyd:=cU h y;rw[hx]at v8;rw[hy]at hyd;simp[A.Den,C.Den]at v8 hyd;have⟨ad,cap,BF,hc,hl⟩:=v8;have n1:xE (a.eval x)=some (2,ad.isNone):=by rw[BF];rfl
         have n2:xE (a.eval y)=some (2,true):=by rw[hyd];rfl
         have hr:=JT (P:=P) ht n1 n2 w (.inr rfl);have hg:eqGuard .eql t x y (a.eval x) (a.eval y)=pure ():=pF (.inl (by rw[n1];simp));have tO:binOp .eql t (a.eval x) (a.eval y)=(do pure (.bool (<-Op.equal t (a.eval x) (a.eval y)))):=by rw[BF,hyd];rfl
         have aVL:(execOp a.eval o).run P w=.ok (.value (.bool ad.isNone)) w:=by
          simp[execOp,ho,aV,hg,cB,aN,tO,hr,o6]
         refine qQ (y:=.bool ad.isNone) (w':=w) (by unfold jO;rw[ho]) aVL (.inl rfl) ?_;cases ad with
         |some q=>
          exact(hn (.ok (.d (.v (.bool false))),[]) (.bool false) w ρ (by cases L'<;>simp[A7]) (by simpa [aH]using h) (by simpa [aH]using gL.refl m ρ)).1 _ rfl (by simp[A.Den,C.Den])
         |none=>
          have hL:L'=[]:=by
           rcases hl with e|⟨b,off,e,_⟩
           ·exact e
           ·cases e
          subst hL;exact(hn (.ok (.d (.v (.bool true))),[]) (.bool true) w ρ (by simp[A7]) (by simpa [aH]using h) (by simpa [aH]using gL.refl m ρ)).1 _ rfl (by simp[A.Den,C.Den])
        ·cases he
       ·cases he
      ·cases he
     ·cases he
    ·cases he
   ·cases he
  ·cases he
 ·cases he
end
structure XA(P:Program)(n:Nat)(ops:Array Oper)(T:Nat->A)(m:Mem)(o:Oper)(D:qC)(BL:Bool):Prop where
 dst:D.r.dst=o.dst
 lt:∀d,o.dst=some d->d<n
 looks:D.looks=o.looksAt ops
 gA:(kO ops T o=some false/\D.r.v=.eL []/\D.r.u=[])\/(kO ops T o=some true/\∀(T':Nat->A)(m':Mem),(∀x∈o.looksAt ops,T' x=T x)->(BL=true->m'=m)->(∀i∈D.F,m' i=m i)->(∀p∈D.r.u,m p.1=none->m' p.1=none)->qT P o T' m' D.r.v (aH m' D.r.u))
structure IY(P:Program)(n:Nat)(ops:Array Oper)(T0:Nat->A)(m0:Mem)(BL:Nat->Bool)(acc:List qC)(T:Nat->A)(m:Mem):Prop where
 T:T=mK T0 (acc.reverse.map (·.r))
 m:m=kZ m0 (acc.reverse.map (·.r))
 gA:∀i o D,ops[i]?=some o->acc.reverse[i]?=some D->XA P n ops (mK T0 ((acc.reverse.map (·.r)).take i)) (kZ m0 ((acc.reverse.map (·.r)).take i)) o D (BL i)
 down:∀i o D,ops[i]?=some o->acc.reverse[i]?=some D->(∀e∈o.after,Region.binds .any e=true->e.on<i)/\∀j,D.anc.testBit j=true↔∃e∈o.after,Region.binds .any e=true/\(e.on=j\/∃D',acc.reverse[e.on]?=some D'/\D'.anc.testBit j=true)
section
variable{P:Program}{n:Nat}{ops:Array Oper}{T0:Nat->A}{m0:Mem}{BL:Nat->Bool}
def IY.push{acc:List qC}{T':Nat->A}(h:IY P n ops T0 m0 BL acc T m){o:Oper}{D:qC}(ho:ops[acc.length]?=some o)(hT:T'=lI T D.r.dst D.r.v)(hm:m'=aH m D.r.u)
 (hg:XA P n ops T m o D (BL acc.length)){an:Nat}(han:kX acc acc.length o.after.toList=some an)(hD:D.anc=an):IY P n ops T0 m0 BL (D::acc) T' m':=by
 have e1:((D::acc).reverse.map (·.r))=acc.reverse.map (·.r)++[D.r]:=sM;have hlen:(acc.reverse.map (·.r)).length=acc.length:=sM;have⟨q1,q2⟩:=zU rfl han;have aXT:∀i,(D::acc).reverse[i]?=if i<acc.length then acc.reverse[i]? else if i=acc.length then some D else none:=by
  intro i;rw[fC,iJ];by_cases hi:i<acc.length
  ·simp[hi]
  ·simp[List.length_reverse,hi,if_false];by_cases e:i=acc.length
   ·subst e;simp
   ·have:1<=i -acc.length:=oM;rw[lD (by simpa using this)];simp[e]
 refine⟨by rw[hT,e1,GN,h.T],by rw[hm,e1,GM,h.m],?_,?_⟩
 ·intro i o' D' VV hD';rw[aXT]at hD';rw[e1];by_cases hi:i<acc.length
  ·rw[aUF hi]at hD';rw[jJ oM];exact h.gA i o' D' VV hD'
  ·rw[aT7 hi]at hD';by_cases e:i=acc.length
   ·subst e;simp[if_true,aA]at hD';subst hD';rw[ho]at VV;simp[aA]at VV;subst VV;rw[jJ oM,aI oM,<-h.T,<-h.m];exact hg
   ·rw[aT7 e]at hD';cases hD'
 ·intro i o' D' VV hD';rw[aXT]at hD';have hup:∀{k:Nat}{D2:qC},acc.reverse[k]?=some D2->(D::acc).reverse[k]?=some D2:=by
   intro k D2 hk;have:=(bA.1 hk).1;rw[aXT,aUF (by simpa using this)];exact hk
  by_cases hi:i<acc.length
  ·rw[aUF hi]at hD';have⟨g1,g2⟩:=h.down i o' D' VV hD';refine⟨g1,λj=>?_⟩;rw[g2 j];constructor
   ·rintro⟨e,he,hb,x⟩;exact⟨e,he,hb,x.imp id λ⟨D2,k1,k2⟩=>⟨D2,hup k1,k2⟩⟩
   ·rintro⟨e,he,hb,x⟩;refine⟨e,he,hb,x.imp id λ⟨D2,k1,k2⟩=>⟨D2,?_,k2⟩⟩;have:=g1 e he hb;rw[aXT,aUF oM]at k1;exact k1
  ·rw[aT7 hi]at hD';by_cases e:i=acc.length
   ·subst e;simp[if_true,aA]at hD';subst hD';rw[ho]at VV;simp[aA]at VV;subst VV;refine⟨λe he hb=>q1 e (by simpa using he) hb,λj=>?_⟩;rw[hD,q2 j];constructor
    ·rintro⟨e,he,hb,x⟩;exact⟨e,by simpa using he,hb,x.imp id λ⟨D2,k1,k2⟩=>⟨D2,hup k1,k2⟩⟩
    ·rintro⟨e,he,hb,x⟩;refine⟨e,by simpa using he,hb,x.imp id λ⟨D2,k1,k2⟩=>⟨D2,?_,k2⟩⟩;have:=q1 e (by simpa using he) hb;rw[aXT,aUF this]at k1;exact k1
   ·rw[aT7 e]at hD';cases hD'
def IY.congr{acc:List qC}{tot':Nat->Bool}(h:IY P n ops T0 m0 BL acc T m)(he:∀i,i<acc.length->tot' i=BL i):IY P n ops T0 m0 tot' acc T m:=
 ⟨h.T,h.m,λi o D ho hD=>by
   have hi:i<acc.length:=by have:=(bA.1 hD).1;simpa using this
   rw[he i hi];exact h.gA i o D ho hD,h.down⟩
def VI(hm:P.follows .mixedOrders=true){rd:Bool}{id:Nat}{ds:List DA}{acc:List qC}{T:Nat->A}{m:Mem}(g1:IY P n ops T0 m0 BL acc T m)(hlen:acc.length=ops.size)(hap:nO acc=true)(hin:∀i D,acc.reverse[i]?=some D->BL i=false->∀p∈D.r.u,p.1∈D.F)(ht:∀i j Di Dj,i<j->acc.reverse[i]?=some Di->acc.reverse[j]?=some Dj->(BL i=true\/BL j=true)->Dj.anc.testBit i=true\/(Di.r.u=[]/\Dj.r.u=[])){Post:qU}(aYH:Post .nm T m ds):
 eU P rd n (.region id ops true) T0 m0 ds Post:=by
 let recs:=acc.reverse.map (·.r);let anc:Nat->Nat->Bool:=λi j=>match acc.reverse[i]? with
  |some D=>D.anc.testBit j
  |none=>false
 let F:Nat->Nat->Prop:=λk i=>BL k=true\/∃D,acc.reverse[k]?=some D/\i∈D.F;have aXZ:∀{i:Nat}{r:Rec},recs[i]?=some r->∃D,acc.reverse[i]?=some D/\D.r=r:=by
  intro i r hr;simp only[recs,cK,bU]at hr;exact hr
 have aXQ:∀{i:Nat}{D:qC},acc.reverse[i]?=some D->∀j,anc i j=D.anc.testBit j:=by
  intro i D hD j;simp[anc,hD]
 have aYL:∀{i:Nat}{o:Oper}{D:qC},ops[i]?=some o->acc.reverse[i]?=some D->∀j,D.anc.testBit j=true->j<i:=by
  intro i;induction i using Nat.strongRecOn with
  |_ i ih=>
   intro o D ho hD j hj;have⟨k1,k2⟩:=g1.down i o D ho hD;have⟨e,he,hb,x⟩:=(k2 j).1 hj;have cX:=k1 e he hb;rcases x with rfl|⟨D',hD',x⟩
   ·exact cX
   ·have hio:i<ops.size:=(aL.1 ho).1;exact Nat.lt_trans (ih e.on cX (cF oM) hD' j x) cX
 have aYV:∀(i j:Nat)(Di Dj:qC),i≠j->acc.reverse[i]?=some Di->acc.reverse[j]?=some Dj->anc i j=false->anc j i=false->QP Di Dj:=by
  intro i j Di Dj hZ hi hj h1 h2;rw[aXQ hi]at h1;rw[aXQ hj]at h2;rcases u4 hZ with cX|cX
  ·have⟨a,b,c,d⟩:=oQ hap i j Di Dj cX hi hj h2;exact⟨b,a,d,c⟩
  ·exact oQ hap j i Dj Di cX hj hi h1
 let Rq:Nat->Mem->Prop:=λk m'=>True;have hok:RL P ops recs anc F Rq n T0 m0:=by
  have aYB:∀k,nM (λi=>decide (i<k)) 0 recs=recs.take k:=by
   have:∀(l:List Rec)(s k:Nat),nM (λi=>decide (i<s+k)) s l=l.take k:=by
    intro l;induction l with
    |nil=>intro s k;simp[nM]
    |cons r l ih=>
     intro s k;cases k with
     |zero=>
      simp[nM,iE,Nat.lt_irrefl,decide_false,bY,if_false,fD];exact sel_none' l (s+1) (λi=>decide (i<s)) (λi hi=>zM)
     |succ k=>
      simp only[nM,cC];rw[aUF sM];rw[show s+(k+1)=s+1+k by omega,ih (s+1) k]
   intro k;have:=this recs 0 k;simpa using this
  have hTk:∀k o D,ops[k]?=some o->acc.reverse[k]?=some D->(∀x∈o.looksAt ops,mK T0 (recs.take k) x=mK T0 (nM (anc k) 0 recs) x)/\(∀i∈D.F,kZ m0 (recs.take k) i=kZ m0 (nM (anc k) 0 recs) i)/\(BL k=true->kZ m0 (recs.take k)=kZ m0 (nM (anc k) 0 recs)):=by
   intro k o D ho hD;have hg:=g1.gA k o D ho hD;have aYD:∀i q,recs[i]?=some q->(decide (0+i<k))≠anc k (0+i)->∃Di,acc.reverse[i]?=some Di/\Di.r=q/\QP Di D:=by
    intro i q hq hZ;obtain⟨Di,hDi,rfl⟩:=aXZ hq;rw[fF]at hZ;have cX:i<k/\anc k i=false:=by
     cases h2:anc k i with
     |true=>
      rw[h2]at hZ;have:=aYL ho hD i (by rw[<-aXQ hD];exact h2);simp[this]at hZ
     |false=>
      rw[h2]at hZ;simp at hZ;exact⟨hZ,rfl⟩
    refine⟨Di,hDi,rfl,aYV i k Di D oM hDi hD ?_ cX.2⟩;cases h3:anc i k with
    |false=>rfl
    |true=>
     have hio:i<ops.size:=by have:=(bA.1 hDi).1;simp at this;omega
     have:=aYL (cF hio) hDi k (by rw[<-aXQ hDi];exact h3);omega
   refine⟨λx hx=>?_,λi hi=>?_,λhtk=>?_⟩
   ·rw[<-aYB k];refine pI recs 0 _ _ (λi q hq hZ e=>?_) rfl;obtain⟨Di,_,rfl,hA⟩:=aYD i q hq hZ;have:=(rU hA.1 x e).1;rw[hg.looks]at this;exact this hx
   ·rw[<-aYB k];refine nZ recs 0 _ _ (λj q hq hZ p hp e=>?_) rfl;obtain⟨Dj,_,rfl,hA⟩:=aYD j q hq hZ;exact tJ hA.2.2.1 p hp (e▸hi)
   ·funext i;rw[<-aYB k];refine nZ recs 0 _ _ (λj q hq hZ p hp e=>?_) rfl;obtain⟨Dj,hDj,rfl⟩:=aXZ hq;rw[fF]at hZ;have cX:j<k/\anc k j=false:=by
     cases h2:anc k j with
     |true=>
      rw[h2]at hZ;have:=aYL ho hD j (by rw[<-aXQ hD];exact h2);simp[this]at hZ
     |false=>
      rw[h2]at hZ;simp at hZ;exact⟨hZ,rfl⟩
    rcases ht j k Dj D cX.1 hDj hD (.inr htk)with this|⟨this,_⟩
    ·rw[aXQ hD,this]at cX;cases cX.2
    ·rw[this]at hp;cases hp
  refine⟨by simp[recs,hlen],?_,?_,?_,?_,?_,?_,?_,?_⟩
  ·intro k o r ho hr;obtain⟨D,hD,rfl⟩:=aXZ hr;have hg:=g1.gA k o D ho hD;exact⟨hg.dst,hg.lt⟩
  ·intro k o r ho hr;obtain⟨D,hD,rfl⟩:=aXZ hr;have hg:=g1.gA k o D ho hD;obtain⟨q1,q2,q3⟩:=hTk k o D ho hD;have hwc:kO ops (mK T0 ((acc.reverse.map (·.r)).take k)) o=kO ops (mK T0 (nM (anc k) 0 recs)) o:=HX q1;rcases hg.gA with⟨x,y,z⟩|⟨x,y⟩
   ·exact .inl ⟨hwc▸x,y,z⟩
   ·refine .inr ⟨hwc▸x,λT' m' hT' zI hrq hfr=>y T' m' (λt ht=>(hT' t ht).trans (q1 t ht).symm) (λe=>?_) (λi hi=>(zI i (.inr ⟨D,hD,hi⟩)).trans (q2 i hi).symm) (λp hp e=>?_)⟩
    ·rw[show kZ m0 ((acc.reverse.map (·.r)).take k)=kZ m0 (nM (anc k) 0 recs)from q3 e];funext i;exact zI i (.inl e)
    ·refine hfr p hp ?_;cases htk:BL k with
     |true=>
      rw[<-q3 htk];exact e
     |false=>exact(q2 p.1 (hin k D hD htk p hp))▸e
  ·intro k o X ho hXk aYD;trivial
  ·intro k o j b ho hg d hd;unfold Oper.looksAt;rw[hg];simp[hd]
  ·intro k r hr p hp _;obtain⟨D,hD,rfl⟩:=aXZ hr;have hio:k<ops.size:=by have:=(bA.1 hD).1;simp at this;omega
   cases htk:BL k with
   |true=>exact .inl htk
   |false=>exact .inr ⟨D,hD,hin k D hD htk p hp⟩
  ·intro i j p q o hZ hp hq ho h1 h2;obtain⟨Di,hDi,rfl⟩:=aXZ hp;obtain⟨Dj,hDj,rfl⟩:=aXZ hq;have hA:=aYV i j Di Dj hZ hDi hDj h1 h2;have hg:=g1.gA j o Dj ho hDj;have hnt:Di.r.u≠[]->∀l,(l=i\/l=j)->BL l=false:=by
    intro hun l hl;cases htl:BL l with
    |false=>rfl
    |true=>
     exfalso;rcases u4 hZ with cX|cX
     ·rcases ht i j Di Dj cX hDi hDj (by rcases hl with rfl|rfl;exact .inl htl;exact .inr htl)with this|⟨this,_⟩
      ·rw[aXQ hDj,this]at h2;cases h2
      ·exact hun this
     ·rcases ht j i Dj Di cX hDj hDi (by rcases hl with rfl|rfl;exact .inr htl;exact .inl htl)with this|⟨_,this⟩
      ·rw[aXQ hDi,this]at h1;cases h1
      ·exact hun this
   refine⟨λd e=>?_,λx hx=>⟨?_,λy hy e=>?_⟩⟩
   ·have:=rU hA.1 d e;rw[hg.looks]at this;exact this
   ·rintro(hin|⟨D,hD,hin⟩)
    ·rw[hnt (List.ne_nil_of_mem hx) j (.inr rfl)]at hin;cases hin
    rw[hDj]at hD;simp only[aA]at hD;subst hD;exact tJ hA.2.2.1 x hx hin
   ·exact tJ hA.2.2.1 x hx (e▸hin j Dj hDj (hnt (List.ne_nil_of_mem hx) j (.inr rfl)) y hy)
  ·intro k o ho e he hb;have hk:k<acc.reverse.length:=by
    have:=(aL.1 ho).1;simp;omega
   exact(g1.down k o _ ho (aC hk)).1 e he hb
  ·intro k o j ho hj;have hk:k<acc.reverse.length:=by
    have:=(aL.1 ho).1;simp;omega
   have hD:=aC hk;rw[aXQ hD]at hj;obtain⟨e,he,hb,x⟩:=((g1.down k o _ ho hD).2 j).1 hj;refine⟨e,he,hb,x.imp (λq=>q) λ⟨D',hD',y⟩=>?_⟩;rw[aXQ hD'];exact y
 refine eU.draw hm hok ?_;rw[<-g1.T,<-g1.m];exact aYH
where sel_none':∀(l:List Rec)(s:Nat)(X:Nat->Bool),(∀i,s<=i+1->i+1<=i+1->s<=i->X i=false)->nM X s l=[]
 |[],_,_,_=>rfl
 |r::l,s,X,h=>by
  simp only[nM];rw[h s oM (bT _) (bT _)];simp only[bY,if_false];exact sel_none' l (s+1) X λi a b c=>h i oM b oM
end
def lT:List (Nat×A)->Nat->A
 |[],_=>.x
 |p::r,n=>bif Nat.beq p.1 n then p.2 else lT r n
def aK:List (Nat×R)->Mem
 |[],_=>none
 |p::r,i=>bif Nat.beq p.1 i then some p.2 else aK r i
def aHO(d:Nat)(v:A)(l:List (Nat×A)):lT ((d,v)::l)=lI (lT l) (some d) v:=by
 funext n;simp only[lT,lI,aA];by_cases h:d=n
 ·subst h;simp
 ·have:Nat.beq d n=false:=by
   cases hb:Nat.beq d n with
   |false=>rfl
   |true=>exact absurd (bB hb) h
  simp[h,this]
def lR(i:Nat)(r:R)(l:List (Nat×R)):aK ((i,r)::l)=aX (aK l) i r:=by
 funext n;simp only[aK,aX];by_cases h:n=i
 ·subst h;simp
 ·have:Nat.beq i n=false:=by
   cases hb:Nat.beq i n with
   |false=>rfl
   |true=>exact absurd (bB hb).symm h
  simp[h,this]
def bK(b:Bool)(X Y:Prop):Prop:=match b with
 |true=>X
 |false=>Y
inductive O8(b:Bool)(X Y:Prop):Prop
 |t (h:b=true) (x:X)
 |f (h:b=false) (y:Y)
def nQ{b:Bool}{Y:Prop}(h1:b=true->X)(h2:b=false->Y):O8 b X Y:=by
 cases b with
 |true=>exact .t rfl (h1 rfl)
 |false=>exact .f rfl (h2 rfl)
def O8.bK{b:Bool}{X Y:Prop}(h:O8 b X Y):Go.Pv.bK b X Y:=by
 cases h with
 |t h x=>subst h;exact x
 |f h y=>subst h;exact y
def aJ3(x:Value)(k:Value->Prop):Prop:=match x with
 |.int kd n=>match kd with
  |.i8=>k (.int .i8 n)|.i16=>k (.int .i16 n)|.i32=>k (.int .i32 n)|.i64=>k (.int .i64 n)
  |.u8=>k (.int .u8 n)|.u16=>k (.int .u16 n)|.u32=>k (.int .u32 n)|.u64=>k (.int .u64 n)
 |.bool b=>k (.bool b)
 |.string s=>k (.string s)
 |.pointer none=>k (.pointer none)
 |.map none=>k (.map none)
 |y=>k y
def aLY(c:C)(k:C->Prop):Prop:=match c with
 |.v x=>aJ3 x λx=>k (.v x)
 |.sl es l=>k (.sl es l)
 |.nl es=>k (.nl es)
 |.ip l=>k (.ip l)
 |.im ks vs=>k (.im ks vs)
 |.fn f a b=>k (.fn f a b)
 |.agg l=>k (.agg l)
 |.AE t c=>k (.AE t c)
def J0(a:A)(k:A->Prop):Prop:=match a with
 |.d c=>aLY c λc=>k (.d c)
 |.lp i off=>k (.lp i off)
 |.h i=>k (.h i)
 |.ep i es j off=>k (.ep i es j off)
 |.sv i lo n=>k (.sv i lo n)
 |.fn f a b=>k (.fn f a b)
 |.agg l=>k (.agg l)
 |.eL l=>k (.eL l)
 |.AE t a=>k (.AE t a)
 |.x=>k .x
def aHC{x:Value}{k:Value->Prop}(h:aJ3 x k):k x:=by
 unfold aJ3 at h;split at h
 ·split at h<;>exact h
 all_goals exact h
def aHA{c:C}{k:C->Prop}(h:aLY c k):k c:=by
 cases c<;>first|exact h|exact aHC (k:=λx=>k (.v x)) h
def s6{a:A}{k:A->Prop}(h:J0 a k):k a:=by
 cases a<;>first|exact h|exact aHA (k:=λx=>k (.d x)) h
def aM9(d:Option Nat)(v:A)(l:List (Nat×A))(k:List (Nat×A)->Prop):Prop:=match d with
 |some d=>k ((d,v)::l)
 |none=>k l
def BE{d:Option Nat}{v:A}{l:List (Nat×A)}{k:List (Nat×A)->Prop}(h:aM9 d v l k):∃l',lT l'=lI (lT l) d v/\k l':=by
 cases d with
 |some d=>exact⟨_,aHO d v l,h⟩
 |none=>exact⟨l,by funext n;simp[lI],h⟩
def SR:List A->(List A->Prop)->Prop
 |[],k=>k []
 |a::r,k=>J0 a λa=>SR r λr=>k (a::r)
def SS:∀{l:List A}{k:List A->Prop},SR l k->k l
 |[],k,h=>h
 |a::r,k,h=>SS (k:=λr=>k (a::r)) (s6 (k:=λa=>SR r λr=>k (a::r)) h)
def aLZ(r:R)(k:R->Prop):Prop:=match r with
 |.dead=>k .dead
 |.cells fz l=>match fz with
  |true=>SR l λl=>k (.cells true l)
  |false=>SR l λl=>k (.cells false l)
 |.fW fz t es l=>match fz with
  |true=>k (.fW true t es l)
  |false=>k (.fW false t es l)
 |.mp fz kv st=>match fz with
  |true=>k (.mp true kv st)
  |false=>k (.mp false kv st)
 |r=>k r
def aHB{r:R}{k:R->Prop}(h:aLZ r k):k r:=by
 cases r with
 |cells fz l=>cases fz<;>exact SS (k:=λl=>k (.cells _ l)) h
 |fW fz t es l=>cases fz<;>exact h
 |mp fz kv st=>cases fz<;>exact h
 |_=>exact h
def aF4:List (Nat×R)->List (Nat×R)->(List (Nat×R)->Prop)->Prop
 |[],ml,k=>k ml
 |p::u,ml,k=>match p with
  |(i,r)=>aLZ r λr=>aF4 u ((i,r)::ml) k
def RA:∀{u ml:List (Nat×R)}{k:List (Nat×R)->Prop},aF4 u ml k->∃ml',aK ml'=aH (aK ml) u/\k ml'
 |[],ml,k,h=>⟨ml,rfl,h⟩
 |(i,r)::u,ml,k,h=>by
  obtain⟨ml',e,h'⟩:=RA (u:=u) (aHB (k:=λr=>aF4 u ((i,r)::ml) k) h);exact⟨ml',by rw[e,lR];rfl,h'⟩
inductive dZ(P:Program)(f:FuncId)(as:List A)(ml:List (Nat×R))(k:A->List (Nat×R)->Prop):Prop
 |mk (v:A) (u:List (Nat×R)) (h:aJ P f as (aK ml) (.ok v) (aH (aK ml) u)) (hk:k v u)
inductive XD(P:Program)(f:FuncId)(as:List A)(k:A->Prop):Prop
 |mk (v:A) (h:∀m,aJ P f as m (.ok v) m) (hk:k v)
inductive xR(pre:Bool)(X:Prop):Prop
 |mk (h:pre=true) (hx:X)
def xV{p:Prop}{_:Decidable p}(h:p)(hx:X):xR (decide p) X:=⟨aUZ h,hx⟩
def stOp(o:Oper):Bool:=match o.op with
 |.binOp op _ _ _ _=>match op with
  |.add=>true|.sub=>true|.mul=>true|.quo=>true|.rem=>true|.shl=>true|.shr=>true
  |_=>false
 |.unOp op _ _=>match op with
  |.neg=>true
  |_=>false
 |.convert _ _ _=>true
 |.slice _ _ _ _ _=>true
 |.makeSlice .. =>true
 |.call c=>match c.callee with
  |.builtin b=>match b with
   |.len=>false
   |_=>true
  |_=>false
 |_=>false
def aKV(st:Bool)(pre:Bool)(X:Prop):Prop:=match st with
 |true=>xR pre X
 |false=>bK pre X False
def Y3{st pre:Bool}(h:aKV st pre X):pre=true/\X:=by
 cases st with
 |true=>have⟨h1,h2⟩:=h;exact⟨h1,h2⟩
 |false=>cases pre with
  |true=>exact⟨rfl,h⟩
  |false=>exact h.elim
def oT(st:Bool)(e:Option E)(k:A->List (Nat×R)->Prop):Prop:=match e with
 |some (pre,v,u)=>aKV st pre (J0 v λv=>k v u)
 |none=>False
def zZ(st:Bool)(e:Option E)(k:A->Prop):Prop:=match e with
 |some (pre,v,u)=>match u with
  |[]=>aKV st pre (J0 v k)
  |_=>False
 |none=>False
inductive PA(es ce:Nat)(l:List (List C))(n:Int)(k:List C->Prop):Prop
 |mk (h:es=ce/\0<es/\0<=n/\n<l.length) (hk:k (l.getD n.toNat []))
def cD{α:Type}{L:List α}{f:α->List C}{k:List C->Prop}(h1:es=ce)(h2:0<es)(hi:i<L.length)(hk:k (f L[i])):PA es ce (L.map f) (i:Int) k:=by
 refine⟨⟨h1,h2,oM,by simpa using hi⟩,?_⟩;have:(L.map f).getD (i:Int).toNat []=f L[i]:=by simp[bF,hi]
 rw[this];exact hk
def Y5{l:List (List C)}{k:List C->Prop}{row:List C}(h1:es=ce)(h2:0<es)(hi:i<l.length)(hr:l.getD i []=row)(hk:k row):PA es ce l (i:Int) k:=by
 refine⟨⟨h1,h2,oM,by simpa using hi⟩,?_⟩;rw[hP,hr];exact hk
def eE{α:Type}{L:List α}{f g:α->List C}{k:List C->Prop}(hfg:∀x,f x=g x)(h1:es=ce)(h2:0<es)(hi:i<L.length)(hk:k (g L[i])):PA es ce (L.map f) (i:Int) k:=by
 have:f=g:=funext hfg;subst this;exact cD h1 h2 hi hk
def aDM(P:Program)(T:Nat->A)(o:Oper):Option (Nat×Nat×List (List C)×Int):=match o.op with
 |.indexAddr t x ix=>match dN T x with
  |.d c=>match c with
   |.sl es l=>match dN T ix with
    |.d c=>match c with
     |.v x=>match x with
      |.int _ n=>match P.underlying t with
       |some (.slice e)=>some (es,P.cellsOf e,l,n)
       |_=>none
      |_=>none
     |_=>none
    |_=>none
   |_=>none
  |_=>none
 |_=>none
def J5{l:List (List C)}{n:Int}{k:List C->Prop}(h:aDM P T o=some (es,ce,l,n))(hk:PA es ce l n k):∃row,eM P m T d o=some (true,.d (.ip row),[])/\k row:=by
 have⟨h1,h2⟩:=hk;refine⟨_,?_,h2⟩;unfold aDM at h;split at h
 ·rename_i t x ix ho;split at h
  ·rename_i c hx;split at h
   ·split at h
    ·rename_i hix;split at h
     ·split at h
      ·split at h
       ·rename_i e hu;simp[aA,aD]at h;have⟨rfl,rfl,rfl,rfl⟩:=h;unfold eM gV;simp only[ho];unfold kT kG;simp only[ho];unfold jZ;simp only[ho];unfold j9;simp only[ho,j7,hx,hix,hu];simp[aUZ h1]
       ·cases h
      ·cases h
     ·cases h
    ·cases h
   ·cases h
  ·cases h
 ·cases h
inductive FC(kd:IntKind)(n:Int)(X:Prop):Prop
 |mk (h:MN kd n) (hx:X)
def QJ:IntKind->Nat
 |.i8=>0|.i16=>1|.i32=>2|.i64=>3|.u8=>4|.u16=>5|.u32=>6|.u64=>7
def aHL{a b:IntKind}(h:Nat.beq (QJ a) (QJ b)=true):a=b:=by
 have:=bB h;cases a<;>cases b<;>simp[QJ]at this<;>rfl
def ZP:A->Option (IntKind×Int)
 |.d c=>match c with
  |.v x=>match x with
   |.int k n=>some (k,n)
   |_=>none
  |_=>none
 |_=>none
def I4{a:A}{k:IntKind}{n:Int}(h:ZP a=some (k,n)):a=.d (.v (.int k n)):=by
 cases a with
 |d c=>cases c with
  |v x=>cases x with
   |int k' n'=>simp[ZP,aA,aD]at h;rw[h.1,h.2]
   |_=>cases h
  |_=>cases h
 |_=>cases h
def arT(P:Program)(T:Nat->A)(o:Oper):Option (IntKind×Int):=match o.op with
 |.binOp op t x y _=>match op with
  |.add=>match ZP (dN T x),ZP (dN T y)with
   |some (k,a),some (k',b)=>bif Nat.beq (QJ k) (QJ k')then some (k,a+b)else none
   |_,_=>none
  |.sub=>match ZP (dN T x),ZP (dN T y)with
   |some (k,a),some (k',b)=>bif Nat.beq (QJ k) (QJ k')then some (k,a -b)else none
   |_,_=>none
  |.mul=>match ZP (dN T x),ZP (dN T y)with
   |some (k,a),some (k',b)=>bif Nat.beq (QJ k) (QJ k')then some (k,a*b)else none
   |_,_=>none
  |_=>none
 |.convert s d x=>match ZP (dN T x),P.underlying s,P.underlying d with
  |some (_,n),some _,some (.int k)=>some (k,n)
  |_,_,_=>none
 |_=>none
def aGN{kd:IntKind}{n:Int}(h:arT P T o=some (kd,n))(hr:MN kd n):eM P m T d o=some (true,.d (.v (.int kd n)),[]):=by
 have key:∀e:Option E,j9 P m T d o=e->(∀c,o.op≠.call c)->j9 P m T d o=some (true,.d (.v (.int kd n)),[])->(∃op t x y z,o.op=.binOp op t x y z)\/(∃s t x,o.op=.convert s t x)->eM P m T d o=some (true,.d (.v (.int kd n)),[]):=by
  intro e he hc h1 h2;unfold eM gV;rcases h2 with⟨op,t,x,y,z,ho⟩|⟨s,t,x,ho⟩
  ·simp[ho];unfold kT kG;simp[ho];unfold jZ;simp[ho,h1]
  ·simp[ho];unfold kT kG;simp[ho];unfold jZ;simp[ho,h1]
 unfold arT at h;split at h
 ·rename_i op t x y yt ho;refine key _ rfl (by rw[ho];simp) ?_ (.inl ⟨_,_,_,_,_,ho⟩)
  have fin:∀(f:Int->Int->Int),(∀k a b,JM op k k a b=some (decide (k=k/\MN k (f a b)),.v (.int k (f a b))))->(match ZP (dN T x),ZP (dN T y)with
   |some (k,a),some (k',b)=>bif Nat.beq (QJ k) (QJ k')then some (k,f a b)else none
   |_,_=>none)=some (kd,n)->j9 P m T d o=some (true,.d (.v (.int kd n)),[]):=by
   intro f hf h;split at h
   ·rename_i k a k' b h1 h2;cases hk:Nat.beq (QJ k) (QJ k')with
    |false=>rw[hk]at h;cases h
    |true=>
     rw[hk]at h;simp[cond_true,aA,aD]at h;have⟨rfl,rfl⟩:=h;have:=aHL hk;subst this;unfold j9;simp[ho,xZ,I4 h1,I4 h2,hf,dF];simp[hr]
   ·cases h
  split at h
  ·exact fin (· +·) (λk a b=>rfl) h
  ·exact fin (· -·) (λk a b=>rfl) h
  ·exact fin (· *·) (λk a b=>rfl) h
  ·cases h
 ·rename_i s t x ho;refine key _ rfl (by rw[ho];simp) ?_ (.inr ⟨_,_,_,ho⟩);split at h
  ·rename_i k' a h1 h2 h3;simp[aA,aD]at h;have⟨rfl,rfl⟩:=h;unfold j9;simp[ho,yB,I4 h1,h2,h3];simp[hr]
  ·cases h
 ·cases h
def GH(P:Program)(T:Nat->A)(o:Oper)(k:A->Prop)(X:Prop):Prop:=match arT P T o with
 |some (kd,n)=>FC kd n (k (.d (.v (.int kd n))))
 |none=>X
def FG{k:A->Prop}(h:GH P T o k X):(∃v,eM P m T d o=some (true,v,[])/\k v)\/X:=by
 unfold GH at h;split at h
 ·rename_i kd n hr;have⟨h1,h2⟩:=h;exact .inl ⟨_,aGN hr h1,h2⟩
 ·exact .inr h
inductive n5(fit:Bool)(g:Option A)(k1:A->Prop)(k0:Prop):Prop
 |CL (a:A) (hf:fit=true) (h:g=some a) (hk:k1 a)
 |BP (hf:fit=true) (h:g=none) (hk:k0)
def lkD(P:Program)(m:Mem)(t:TypeId)(x ix:A):Option (TypeId×Ky×List (Ky×A)×A):=match CR P t,keyOf ix with
 |some (kt,et),some k=>match U2 P et with
  |some z=>match x with
   |.h i=>match m i with
    |some (.mp _ kv _)=>some (kt,k,kv,z)
    |_=>none
   |.d c=>match c with
    |.im ks vs=>some (kt,k,ks.zip (vs.map A.d),z)
    |_=>none
   |_=>none
  |none=>none
 |_,_=>none
def aHP{x ix z:A}{kt:TypeId}{k:Ky}{kv:List (Ky×A)}{ok:Bool}(h:lkD P m t x ix=some (kt,k,kv,z)):lO P m t x ix ok=match fL k kv with
 |some a=>some (kH P kt k kv,QK ok a true,[])
 |none=>some (kH P kt k kv,QK ok z false,[]):=by
 unfold lkD at h;unfold lO;split at h
 ·rename_i h1 h2;simp[h1,h2];split at h
  ·rename_i h3;simp[h3];split at h
   ·split at h
    ·rename_i h4;simp[aA,aD]at h;have⟨rfl,rfl,rfl,rfl⟩:=h;simp[h4];cases fL _ _<;>rfl
    ·cases h
   ·split at h
    ·simp[aA,aD]at h;have⟨rfl,rfl,rfl,rfl⟩:=h;dsimp only;rename_i ks vs;cases fL _ (ks.zip (vs.map A.d))<;>rfl
    ·cases h
   ·cases h
  ·cases h
 ·cases h
def lkK(P:Program)(m:Mem)(T:Nat->A)(o:Oper)(k:A->Prop)(X:Prop):Prop:=match o.op with
 |.lookup t x ix ok=>match lkD P m t (dN T x) (dN T ix)with
  |some (kt,key,kv,z)=>n5 (kH P kt key kv) (fL key kv) (λa=>J0 (QK ok a true) k) (J0 (QK ok z false) k)
  |none=>X
 |_=>X
def aD1{k:A->Prop}(h:lkK P m T o k X):(∃v,eM P m T d o=some (true,v,[])/\k v)\/X:=by
 unfold lkK at h;split at h
 ·rename_i t x ix ok ho;split at h
  ·rename_i kt key kv z hl;left;have he:eM P m T d o=lO P m t (dN T x) (dN T ix) ok:=by
    unfold eM gV;simp[ho];unfold kT kG;simp[ho];unfold jZ;simp[ho];cases lO P m t (dN T x) (dN T ix) ok with
    |some e=>rfl
    |none=>unfold qI;simp[ho]
   rw[he,aHP hl];cases h with
   |CL a hf hg hk=>exact⟨QK ok a true,by rw[hg,hf],s6 hk⟩
   |BP hf hg hk=>exact⟨QK ok z false,by rw[hg,hf],s6 hk⟩
  ·exact .inr h
 ·exact .inr h
inductive BN(L:List (List C))(kt kf:Prop):Prop
 |mk (ht:L=[]->kt) (hf:kf)
def BN.outs{L:List (List C)}(h:BN L (k (.d (.v (.bool true))) []) (k (.d (.v (.bool false))) [])):∀q∈A7 L,∃v,q.1=.ok v/\k v q.2:=by
 have⟨h1,h2⟩:=h;intro q hq;cases L with
 |nil=>
  simp[A7,aO,K9,or_false]at hq;rcases hq with rfl|rfl
  ·exact⟨_,rfl,h2⟩
  ·exact⟨_,rfl,h1 rfl⟩
 |cons p r=>
  simp[A7,aR]at hq;subst hq;exact⟨_,rfl,h2⟩
inductive fZ(rows:List (List A))(j:Nat)(K:List A->Prop):Prop
 |mk (row:List A) (h:rows[j]?=some row) (hk:K row)
inductive lG(n:Int)(len:Nat)(K:Nat->Prop):Prop
 |mk (j:Nat) (h:n=j) (cX:j<len) (hk:K j)
def H4(P:Program)(m:Mem)(T:Nat->A)(o:Oper)(k:A->List (Nat×R)->Prop)(X:Prop):Prop:=match o.op with
 |.load t x=>match dN T x with
  |.ep i es j off=>match m i with
   |some r=>match r with
    |.fW _ _ es' rows=>match Nat.beq es' es with
     |true=>match oP P t with
      |some ag=>fZ rows j λrow=>match ag with
       |true=>bK (decide (off+P.cellsOf t<=es)) (k (.agg ((row.drop off).take (P.cellsOf t))) []) False
       |false=>bK (decide (off<es)) (J0 (row.getD off .x) λa=>k a []) False
      |none=>X
     |false=>X
    |_=>X
   |none=>X
  |_=>X
 |.store t ad x=>match dN T ad with
  |.ep i es j off=>match m i with
   |some r=>match r with
    |.fW fz te es' rows=>match fz with
     |false=>match Nat.beq es' es with
      |true=>match(dN T x).cells m with
       |some vs=>fZ rows j λrow=>bK (decide (vs.length=P.cellsOf t/\0<P.cellsOf t/\off+vs.length<=es)) (k .x [(i,.fW false te es (rows.set j (mM row off vs)))]) False
       |none=>X
      |false=>X
     |true=>X
    |_=>X
   |none=>X
  |_=>X
 |.indexAddr t x ix=>match dN T x with
  |.h i=>match m i with
   |some r=>match r with
    |.fW _ _ es rows=>match dN T ix with
     |.d c=>match c with
      |.v y=>match y with
       |.int _ n=>match P.underlying t with
        |some (.slice e)=>bK (decide (es=P.cellsOf e/\0<es)) (lG n rows.length λj=>k (.ep i es j 0) []) False
        |_=>X
       |_=>X
      |_=>X
     |_=>X
    |_=>X
   |none=>X
  |_=>X
 |_=>X
def XM{p:Prop}{h:Decidable p}(hb:bK (decide p) X False):p/\X:=by
 cases hd:decide p with
 |true=>rw[hd]at hb;exact⟨aUL hd,hb⟩
 |false=>rw[hd]at hb;exact hb.elim
def DL{e:E}(h:(∃t x,o.op=.load t x)\/(∃t x y,o.op=.store t x y)\/(∃t x y,o.op=.indexAddr t x y))(he:j9 P m T d o=some e):eM P m T d o=some e:=by
 unfold eM gV;rcases h with⟨t,x,ho⟩|⟨t,x,y,ho⟩|⟨t,x,y,ho⟩
 all_goals
  simp[ho];unfold kT kG;simp[ho];unfold jZ;simp[ho,he]
def ED(h:H4 P m T o k X):(∃v u,eM P m T d o=some (true,v,u)/\k v u)\/X:=by
 unfold H4 at h;split at h
 ·rename_i t x ho;split at h
  ·rename_i i es j off hx;split at h
   ·rename_i r hi;split at h
    ·rename_i rows;split at h
     ·rename_i wP;have wP:=bB wP;subst wP;split at h
      ·rename_i ag hag;have⟨row,hr,h⟩:=h;have cX:=(bA.1 hr).1;have hgd:rows.getD j []=row:=by simp[bF,hr]
       split at h
       ·have⟨h1,h2⟩:=XM h;refine .inl ⟨_,_,DL (.inl ⟨t,x,ho⟩) ?_,h2⟩;unfold j9;simp only[ho,hx,jM,hi,hag,hgd,cX,h1,and_self,decide_true]
       ·have⟨h1,h2⟩:=XM h;refine .inl ⟨_,_,DL (.inl ⟨t,x,ho⟩) ?_,s6 (k:=λa=>k a []) h2⟩;unfold j9;simp only[ho,hx,jM,hi,hag,hgd,cX,h1,and_self,decide_true]
      ·exact .inr h
     ·exact .inr h
    ·exact .inr h
   ·exact .inr h
  ·exact .inr h
 ·rename_i t ad x ho;split at h
  ·rename_i i es j off hx;split at h
   ·rename_i r hi;split at h
    ·rename_i fz te es' rows;split at h
     ·split at h
      ·rename_i wP;have wP:=bB wP;subst wP;split at h
       ·rename_i vs P2;have⟨row,hr,h⟩:=h;have cX:=(bA.1 hr).1;have hgd:rows.getD j []=row:=by simp[bF,hr]
        have⟨h1,h2⟩:=XM h;refine .inl ⟨_,_,DL (.inr (.inl ⟨t,ad,x,ho⟩)) ?_,h2⟩;unfold j9;simp only[ho,j3,hx,hi,P2,hgd,cX,h1.1,h1.2.1,h1.1▸h1.2.2,true_and,decide_true]
       ·exact .inr h
      ·exact .inr h
     ·exact .inr h
    ·exact .inr h
   ·exact .inr h
  ·exact .inr h
 ·rename_i t x ix ho;split at h
  ·rename_i i hx;split at h
   ·rename_i r hi;split at h
    ·rename_i es rows;split at h
     ·split at h
      ·split at h
       ·rename_i y n hix;split at h
        ·rename_i e hu;have⟨⟨h1,h2⟩,j,hn,cX,hk⟩:=XM h;refine .inl ⟨_,_,DL (.inr (.inr ⟨t,x,ix,ho⟩)) ?_,hk⟩;unfold j9;have h3:(0:Int)<=n:=oM;have h4:n<(rows.length:Int):=oM;have h5:n.toNat=j:=oM;subst h1;simp[ho,j7,hx,hix,hu,hi,h3,h4,h5,h2,true_and,and_self,decide_true]
        ·exact .inr h
       ·exact .inr h
      ·exact .inr h
     ·exact .inr h
    ·exact .inr h
   ·exact .inr h
  ·exact .inr h
 ·exact .inr h
def clD(P:Program)(T:Nat->A)(o:Oper):Option (Nat×List (List C)×Int×Int×Bool):=match o.op with
 |.slice t x lo hi mx=>match lo with
  |none=>match hi with
   |some h=>match mx with
    |some c=>match dN T x with
     |.d v=>match v with
      |.sl es L=>match ZP (dN T h),ZP (dN T c),j8 P t with
       |some (_,a),some (_,b),some e=>some (es,L,a,b,decide (es=P.cellsOf e/\0<es))
       |_,_,_=>none
      |_=>none
     |_=>none
    |none=>none
   |none=>none
  |some _=>none
 |_=>none
inductive aIW(L:List (List C))(a b:Int)(ok:Bool)(X:Prop):Prop
 |mk (ha:a=L.length) (hb:b=L.length) (ho:ok=true) (x:X)
def aJR(P:Program)(m:Mem)(T:Nat->A)(nx:Nat)(o:Oper)(k:A->List (Nat×R)->Prop)(X:Prop):Prop:=match clD P T o with
 |some (es,L,a,b,ok)=>aIW L a b (ok&&jN m nx) (k (.h nx) [(nx,.cu (.d (.sl es L)) es (L.map λx=>x.map A.d))])
 |none=>X
def aGT(h:aJR P m T d o k X):(∃v u,eM P m T d o=some (true,v,u)/\k v u)\/X:=by
 unfold aJR at h;split at h
 ·rename_i es L a b ok hd;have⟨ha,hb,ho,hk⟩:=h;refine .inl ⟨_,_,?_,hk⟩;unfold clD at hd;split at hd
  ·rename_i t x lo hi mx I5;split at hd
   ·split at hd
    ·rename_i h';split at hd
     ·rename_i c';split at hd
      ·rename_i v hx;split at hd
       ·split at hd
        ·rename_i kk1 a' kk2 b' e h1 h2 h3;simp[aA,aD]at hd;have⟨rfl,rfl,rfl,rfl,rfl⟩:=hd;simp[aE,aUA]at ho;have⟨⟨g1,g2⟩,g3⟩:=ho;unfold eM gV;simp only[I5,I4 h1,I4 h2,hx,jW,dO,h3,Option.map_none,dF,DJ,Option.orElse_none,zL];subst ha;subst hb;simp[g1,g3];rw[<-g1];exact g2
        ·cases hd
       ·cases hd
      ·cases hd
     ·cases hd
    ·cases hd
   ·cases hd
  ·cases hd
 ·exact .inr h
inductive aB4(fit:Bool)(g:Option A)(k1 k0:Prop):Prop
 |CL (hf:fit=true) (h:g≠none) (hk:k1)
 |BP (hf:fit=true) (h:g=none) (hk:k0)
def msD(P:Program)(m:Mem)(t:TypeId)(x ix:A):Option (TypeId×Ky×Nat×List (Ky×A)×List (Ky×Nat)):=match CR P t,keyOf ix with
 |some (kt,_),some k=>match x with
  |.h i=>match m i with
   |some r=>match r with
    |.mp fz kv st=>match fz with
     |false=>some (kt,k,i,kv,st)
     |true=>none
    |_=>none
   |_=>none
  |_=>none
 |_,_=>none
def YR{x ix a:A}{kt:TypeId}{k:Ky}{kv:List (Ky×A)}{st:List (Ky×Nat)}(h:msD P m t x ix=some (kt,k,i,kv,st)):mW P m t x ix a=match fL k kv with
 |some _=>some (kH P kt k kv,.x,[(i,.mp false (kv.map λp=>if p.1=k then(k,a)else p) st)])
 |none=>some (kH P kt k kv,.x,[(i,.mp false (kv++[(k,a)]) (st.filter λp=>p.1 !=k&&p.1 !=.agg []))]):=by
 unfold msD at h;unfold mW;split at h
 ·rename_i h1 h2;simp[h1,h2];split at h
  ·split at h
   ·rename_i h3;split at h
    ·split at h
     ·simp[aA,aD]at h;have⟨rfl,rfl,rfl,rfl,rfl⟩:=h;simp[h3];cases fL _ _<;>rfl
     ·cases h
    ·cases h
   ·cases h
  ·cases h
 ·cases h
def aBR(P:Program)(m:Mem)(t:TypeId)(x ix a:A)(k:A->List (Nat×R)->Prop)(X:Prop):Prop:=match msD P m t x ix with
 |some (kt,key,i,kv,st)=>aB4 (kH P kt key kv) (fL key kv) (k .x [(i,.mp false (kv.map λp=>if p.1=key then(key,a)else p) st)]) (k .x [(i,.mp false (kv++[(key,a)]) (st.filter λp=>p.1 !=key&&p.1 !=.agg []))])
 |none=>X
def IP{ix a:Operand}(ho:o.op=.mapUpdate t x ix a\/o.op=.insert t x ix a)(h:aBR P m t (dN T x) (dN T ix) (dN T a) k X):(∃v u,eM P m T d o=some (true,v,u)/\k v u)\/X:=by
 unfold aBR at h;split at h
 ·rename_i kt key i kv st hl;left;have he:eM P m T d o=mW P m t (dN T x) (dN T ix) (dN T a):=by
   have hs:=YR (a:=dN T a) hl;rcases ho with ho|ho
   all_goals
    unfold eM gV;simp[ho];unfold kT kG;simp[ho];unfold jZ;simp[ho,hs];cases fL key kv<;>rfl
  rw[he,YR hl];cases h with
  |CL hf hg hk=>
   cases hq:fL key kv with
   |none=>exact absurd hq hg
   |some b=>exact⟨_,_,by rw[hf],hk⟩
  |BP hf hg hk=>exact⟨_,_,by rw[hg,hf],hk⟩
 ·exact .inr h
inductive aLL(ks:List Ky)(vs:List C)(free:Bool)(k:List (Ky×C)->Prop):Prop
 |mk (kv:List (Ky×C)) (h1:ks=kv.map (·.1)) (h2:vs=kv.map (·.2)) (hf:free=true) (hk:k kv)
def xI{α:Type}{L:List α}{f:α->Ky}{g:α->C}{free:Bool}{k:List (Ky×C)->Prop}(hf:free=true)(hk:k (L.map λx=>(f x,g x))):aLL (L.map f) (L.map g) free k:=
 ⟨_,by rw[bH];rfl,by rw[bH];rfl,hf,hk⟩
inductive XC(d:Nat)(rest:List (Ky×C))(k:A->List (Nat×R)->Prop):Prop
 |mk (h0:rest=[]->k (.eL [.d (.v (.bool false))]) []) (h1:∀i(h:i<rest.length),k (.eL [.d (.v (.bool true)),ZA rest[i].1,.d rest[i].2]) [(d,.di (some rest[i]) (rest.eraseIdx i))])
def EI{α:Type}{L:List α}{f:α->Ky×C}(h0:L=[]->k (.eL [.d (.v (.bool false))]) [])(h1:∀i(h:i<L.length),k (.eL [.d (.v (.bool true)),ZA (f L[i]).1,.d (f L[i]).2]) [(d,.di (some (f L[i])) ((L.eraseIdx i).map f))]):XC d (L.map f) k:=by
 refine⟨λh=>h0 (by simpa using h),λi h=>?_⟩;have h':i<L.length:=by simpa using h
 have:=h1 i h';simp[fO,rD];exact this
def XC.outs{rest:List (Ky×C)}(h:XC d rest k):∀q∈xD d rest,∃v,q.1=.ok v/\k v q.2:=by
 have⟨h0,h1⟩:=h;intro q hq;cases rest with
 |nil=>
  simp[xD,aR]at hq;subst hq;exact⟨_,rfl,h0 rfl⟩
 |cons p r=>
  unfold xD at hq;obtain⟨i,hi,rfl⟩:=aA4.1 hq;have hi':=jI.1 hi;have e:(p::r).getD i p=(p::r)[i]:=by simp[bF,aC hi',gZ]
  have:=h1 i hi';rw[e];exact⟨_,rfl,this⟩
inductive TO(n b:Nat)(X:Prop):Prop
 |mk (h:n*b<=140737488355328) (hx:X)
inductive E9(l:List (List A))(X Y:Prop):Prop
 |mk (h1:l=[]->X) (h2:l≠[]->Y)
def aLN(P:Program)(m:Mem)(T:Nat->A)(nx:Nat)(c:Call):Option (TypeId×Option Nat×List (List A)×List (List A)×Bool):=match c.args.toList,c.argTypes.toList with
 |[x,y],[t,t']=>match j8 P t with
  |some e=>match iP m (dN T x),dO m (dN T y),o5 P e with
   |some (k,l),some l2,some z=>some (e,k,l,l2,decide (t=t'/\z.length=P.cellsOf e/\0<P.cellsOf e/\0<P.bytesOf e)&&(zS m e (P.cellsOf e) k&&(qW m (P.cellsOf e) (dN T y)&&jN m nx)))
   |_,_,_=>none
  |none=>none
 |_,_=>none
def aGM(P:Program)(m:Mem)(T:Nat->A)(nx:Nat)(c:Call)(k:A->List (Nat×R)->Prop)(X:Prop):Prop:=match aLN P m T nx c with
 |some (e,i,l,l2,st)=>match i with
  |none=>bK st (TO l2.length (P.bytesOf e) (E9 l2 (k (.d (.nl (P.cellsOf e))) []) (k (.h nx) [(nx,.fW false e (P.cellsOf e) l2)]))) False
  |some i=>bK st (TO (l.length+l2.length) (P.bytesOf e) (k (.h nx) [(i,.dead),(nx,.fW false e (P.cellsOf e) (l++l2))])) False
 |none=>X
def yA{args:Array Operand}{tys:Array TypeId}{y:Operand}{t':TypeId}{kk:Option Nat×List (List A)}{e:E}(ho:o.op=.call ⟨.builtin .append,args,tys⟩)(ha:args.toList=[x,y])(hty:tys.toList=[t,t'])(h1:iP m (dN T x)=some kk)(he:kT P m T d o=some e):eM P m T d o=some e:=by
 have hc:gV P m T d o=none:=by
  unfold gV;simp[ho,ha,hty];unfold iP at h1;split at h1
  ·split at h1
   ·rename_i q1 _ _ _ _ q2;simp[q1,q2]
   ·cases h1
  ·rename_i q1;simp[q1]
  ·cases h1
 unfold eM;rw[hc];exact he
def XI{nx:Nat}{c:Call}(ho:o.op=.call c)(hb:c.callee=.builtin .append)(h:aGM P m T nx c k X):(∃v u,eM P m T nx o=some (true,v,u)/\k v u)\/X:=by
 have⟨callee,args,tys⟩:=c;simp only at hb;subst hb;unfold aGM at h;split at h
 ·rename_i e i l l2 st ht;unfold aLN at ht;simp only at ht;split at ht
  ·rename_i x y t t' ha hty;split at ht
   ·rename_i e' he;split at ht
    ·rename_i kk l' l2' z h1 h2 h3;simp only[aA,aD]at ht;have⟨rfl,rfl,rfl,rfl,rfl⟩:=ht;have app:∀(hg:aI7 kk l2'=true)(HG:(decide (t=t'/\z.length=P.cellsOf e'/\0<P.cellsOf e'/\0<P.bytesOf e')&&(zS m e' (P.cellsOf e') kk&&(qW m (P.cellsOf e') (dN T y)&&jN m nx)))=true)(vZ:(l'.length+l2'.length)*P.bytesOf e'<=140737488355328),
      jZ P m T nx o=some (true,.h nx,uL kk++[(nx,.fW false e' (P.cellsOf e') (l'++l2'))]):=by
      intro hg HG vZ;simp[aE,aUA]at HG;have⟨⟨q1,q2,q3,q4⟩,q5,q6,q7⟩:=HG;unfold jZ;simp[ho];unfold j9;simp[ho,ha,hty,tK,he,h1,h2,h3,dF];simp[q1,q2,q3,q4,q5,q6,q7,hg,vZ]
     split at h
     ·cases HG:(decide (t=t'/\z.length=P.cellsOf e'/\0<P.cellsOf e'/\0<P.bytesOf e')&&(zS m e' (P.cellsOf e') none&&(qW m (P.cellsOf e') (dN T y)&&jN m nx)))with
      |false=>rw[HG]at h;exact h.elim
      |true=>
       rw[HG]at h;have h:TO _ _ _:=h;have⟨vZ,hk⟩:=h;have hx:∃es,dN T x=.d (.nl es)/\l'=[]:=by
        unfold iP at h1;split at h1
        ·split at h1<;>simp at h1
        ·rename_i es wP;simp at h1;exact⟨_,wP,h1⟩
        ·cases h1
       obtain⟨es,hx,rfl⟩:=hx;by_cases hl:l2'=[]
       ·refine .inl ⟨_,_,yA (e:=(true,.d (.nl (P.cellsOf e')),[])) ho ha hty h1 ?_,hk.1 hl⟩;subst hl;have aYC:=HG;simp[aE,aUA]at aYC;have⟨⟨q1,q2,q3,q4⟩,q5,q6,q7⟩:=aYC;unfold kT kG;simp[ho,ha,hty,hx,h2,he,h3];simp[q1,q2,q3,q6]
       ·refine .inl ⟨_,_,yA (e:=(true,.h nx,[(nx,.fW false e' (P.cellsOf e') l2')])) ho ha hty h1 ?_,hk.2 hl⟩;have ha':=app (by cases l2' with|nil=>exact absurd rfl hl|cons=>rfl) HG (by simpa using vZ);unfold kT;have hp:kG P m T o=none:=by
         unfold kG;simp[ho,ha,hty,hx,h2,he]
         try split
         ·rename_i q1 q2 q3;simp[aA]at q2;exact absurd q2 hl
         ·rfl
        rw[hp];simp[ha'];simp[uL]
     ·rename_i i;cases HG:(decide (t=t'/\z.length=P.cellsOf e'/\0<P.cellsOf e'/\0<P.bytesOf e')&&(zS m e' (P.cellsOf e') (some i)&&(qW m (P.cellsOf e') (dN T y)&&jN m nx)))with
      |false=>rw[HG]at h;exact h.elim
      |true=>
       rw[HG]at h;have h:TO _ _ _:=h;have⟨vZ,hk⟩:=h;have ha':=app rfl HG vZ;refine .inl ⟨_,_,yA (e:=(true,.h nx,[(i,.dead),(nx,.fW false e' (P.cellsOf e') (l'++l2'))])) ho ha hty h1 ?_,hk⟩;unfold kT;have hp:kG P m T o=none:=by
        unfold kG;simp[ho,ha,hty,h2,he];split
        ·rename_i q1 q2 q3;have hx:dN T x=.h i:=JI h1;rw[hx]at q1;cases q1
        ·rfl
       rw[hp];simp[ha'];simp[uL]
    ·cases ht
   ·cases ht
  ·cases ht
 ·exact .inr h
inductive aJL(s:ByteArray)(n:Int)(ok:Bool)(k:A->Prop):Prop
 |mk (b:UInt8) (h0:0<=n) (h:s[n.toNat]?=some b) (ho:ok=true) (hk:k (.d (.v (.int .u8 b.toNat))))
def aMJ(P:Program)(T:Nat->A)(o:Oper):Option (ByteArray×Int×Bool):=match o.op with
 |.index t x ix=>match dN T x with
  |.d c=>match c with
   |.v y=>match y with
    |.string s=>match dN T ix with
     |.d c=>match c with
      |.v z=>match z with
       |.int _ n=>some (s,n,yJ P t)
       |_=>none
      |_=>none
     |_=>none
    |_=>none
   |_=>none
  |_=>none
 |_=>none
def aFW(P:Program)(T:Nat->A)(o:Oper)(k:A->Prop)(X:Prop):Prop:=match aMJ P T o with
 |some (s,n,ok)=>aJL s n ok k
 |none=>X
def Q6{k:A->Prop}(h:aFW P T o k X):(∃v,eM P m T d o=some (true,v,[])/\k v)\/X:=by
 unfold aFW at h;split at h
 ·rename_i s n ok hs;have⟨b,h0,h1,ho,hk⟩:=h;left;refine⟨_,?_,hk⟩;unfold aMJ at hs;split at hs
  ·rename_i t x ix I5;split at hs
   ·rename_i c hx;split at hs
    ·split at hs
     ·split at hs
      ·rename_i hix;split at hs
       ·split at hs
        ·simp[aA,aD]at hs;have⟨rfl,rfl,rfl⟩:=hs;unfold eM gV;simp[I5];unfold kT kG;simp[I5];unfold jZ;simp[I5,zY,hx,hix,h1,ho,h0,decide_true,Bool.and_self]
        ·cases hs
       ·cases hs
      ·cases hs
     ·cases hs
    ·cases hs
   ·cases hs
  ·cases hs
 ·exact .inr h
inductive OpK(P:Program)(o:Oper)(l:List (Nat×A))(ml:List (Nat×R))(k:A->List (Nat×R)->Prop):Prop
 |mk (v:A) (u:List (Nat×R)) (h:o8 P o (lT l) (aK ml) [(.ok v,u)]) (hk:k v u)
def aLA(P:Program)(l:List (Nat×A))(ml:List (Nat×R))(nx:Nat)(o:Oper)(k:A->List (Nat×R)->Prop):Prop:=match o.op with
 |.call c=>match c.callee with
  |.builtin b=>match b with
   |.append=>aGM P (aK ml) (lT l) nx c k (oT (stOp o) (eM P (aK ml) (lT l) nx o) k)
   |_=>oT (stOp o) (eM P (aK ml) (lT l) nx o) k
  |_=>match mO (lT l) c with
   |some (f,as)=>dZ P f as ml k
   |none=>OpK P o l ml k
 |.next x b=>match b with
  |false=>match dN (lT l) x with
   |.h d=>match aK ml d with
    |some r=>match r with
     |.di _ rest=>XC d rest k
     |_=>False
    |none=>False
   |_=>False
  |true=>False
 |.entry x=>match dN (lT l) x with
  |.h d=>match aK ml d with
   |some r=>match r with
    |.di cur _=>match cur with
     |some p=>J0 (ZA p.1) λa=>J0 (.d p.2) λc=>k (.eL [a,c]) []
     |none=>False
    |_=>False
   |none=>False
  |_=>False
 |.range t x=>match dN (lT l) x with
  |.d c=>match c with
   |.im ks vs=>match CR P t with
    |some _=>aLL ks vs (jN (aK ml) nx) λkv=>k (.h nx) [(nx,.di none kv)]
    |none=>False
   |_=>oT (stOp o) (eM P (aK ml) (lT l) nx o) k
  |_=>oT (stOp o) (eM P (aK ml) (lT l) nx o) k
 |.mapUpdate t x ix a=>aBR P (aK ml) t (dN (lT l) x) (dN (lT l) ix) (dN (lT l) a) k (oT (stOp o) (eM P (aK ml) (lT l) nx o) k)
 |.insert t x ix a=>aBR P (aK ml) t (dN (lT l) x) (dN (lT l) ix) (dN (lT l) a) k (oT (stOp o) (eM P (aK ml) (lT l) nx o) k)
 |.indexAddr _ _ _=>match aDM P (lT l) o with
  |some (es,ce,l,n)=>PA es ce l n λrow=>k (.d (.ip row)) []
  |none=>H4 P (aK ml) (lT l) o k (oT (stOp o) (eM P (aK ml) (lT l) nx o) k)
 |.load _ _=>H4 P (aK ml) (lT l) o k (oT (stOp o) (eM P (aK ml) (lT l) nx o) k)
 |.slice _ _ _ _ _=>aJR P (aK ml) (lT l) nx o k (oT (stOp o) (eM P (aK ml) (lT l) nx o) k)
 |.store _ _ _=>H4 P (aK ml) (lT l) o k (oT (stOp o) (eM P (aK ml) (lT l) nx o) k)
 |.binOp _ _ _ _ _=>match aJZ P (lT l) o with
  |some L=>BN L (k (.d (.v (.bool true))) []) (k (.d (.v (.bool false))) [])
  |none=>GH P (lT l) o (λv=>k v []) (oT (stOp o) (eM P (aK ml) (lT l) nx o) k)
 |.convert _ _ _=>GH P (lT l) o (λv=>k v []) (oT (stOp o) (eM P (aK ml) (lT l) nx o) k)
 |.lookup _ _ _ _=>lkK P (aK ml) (lT l) o (λv=>k v []) (oT (stOp o) (eM P (aK ml) (lT l) nx o) k)
 |.index _ _ _=>aFW P (lT l) o (λv=>k v []) (oT (stOp o) (eM P (aK ml) (lT l) nx o) k)
 |_=>oT (stOp o) (eM P (aK ml) (lT l) nx o) k
def aKW(k:A->Prop)(v:A)(u:List (Nat×R)):Prop:=match u with
 |[]=>k v
 |_::_=>False
def aJW(P:Program)(l:List (Nat×A))(ml:List (Nat×R))(nx:Nat)(o:Oper)(k:A->Prop):Prop:=match o.op with
 |.call c=>match c.callee with
  |.builtin _=>zZ (stOp o) (eM P (aK ml) (lT l) nx o) k
  |_=>match mO (lT l) c with
   |some (f,as)=>XD P f as k
   |none=>False
 |.next _ _=>False
 |.entry _=>False
 |.range _ _=>False
 |.defer _=>False
 |.indexAddr _ _ _=>match aDM P (lT l) o with
  |some (es,ce,l,n)=>PA es ce l n λrow=>k (.d (.ip row))
  |none=>H4 P (aK ml) (lT l) o (aKW k) (zZ (stOp o) (eM P (aK ml) (lT l) nx o) k)
 |.load _ _=>H4 P (aK ml) (lT l) o (aKW k) (zZ (stOp o) (eM P (aK ml) (lT l) nx o) k)
 |.binOp _ _ _ _ _=>GH P (lT l) o k (zZ (stOp o) (eM P (aK ml) (lT l) nx o) k)
 |.convert _ _ _=>GH P (lT l) o k (zZ (stOp o) (eM P (aK ml) (lT l) nx o) k)
 |.index _ _ _=>aFW P (lT l) o k (zZ (stOp o) (eM P (aK ml) (lT l) nx o) k)
 |_=>zZ (stOp o) (eM P (aK ml) (lT l) nx o) k
inductive xQ(P:Program)(f:FuncId)(as:List A)(ml:List (Nat×R))(nx:Nat)(k:A->List (Nat×R)->Bool->Prop):Prop
 |pure (v:A) (h:∀m,aJ P f as m (.ok v) m) (hk:k v [] false)
 |fresh (F:Nat->A) (r:R) (h:∀(m:Mem)(d:Nat),m d=none->aJ P f as m (.ok (F d)) (aX m d r)) (hf:aK ml nx=none) (hk:k (F nx) [(nx,r)] false)
 |BL (v:A) (u:List (Nat×R)) (h:aJ P f as (aK ml) (.ok v) (aH (aK ml) u)) (hk:k v u true)
def cH{f:FuncId}{as:List A}{ml:List (Nat×R)}{nx:Nat}{k:A->List (Nat×R)->Bool->Prop}{v:A}(h:∀m,aJ P f as m (.ok v) m)(hk:k v [] false):xQ P f as ml nx k:=.pure v h hk
def aJX(P:Program)(l:List (Nat×A))(ml:List (Nat×R))(nx:Nat)(o:Oper)(k:A->List (Nat×R)->Bool->Prop):Prop:=match o.op with
 |.call c=>match c.callee with
  |.builtin b=>match b with
   |.append=>aGM P (aK ml) (lT l) nx c (λv u=>k v u false) (oT (stOp o) (eM P (aK ml) (lT l) nx o) λv u=>k v u false)
   |_=>oT (stOp o) (eM P (aK ml) (lT l) nx o) λv u=>k v u false
  |_=>match mO (lT l) c with
   |some (f,as)=>xQ P f as ml nx k
   |none=>False
 |.next _ _=>False
 |.entry _=>False
 |.range _ _=>False
 |.defer _=>False
 |.mapUpdate t x ix a=>aBR P (aK ml) t (dN (lT l) x) (dN (lT l) ix) (dN (lT l) a) (λv u=>k v u false) (oT (stOp o) (eM P (aK ml) (lT l) nx o) λv u=>k v u false)
 |.insert t x ix a=>aBR P (aK ml) t (dN (lT l) x) (dN (lT l) ix) (dN (lT l) a) (λv u=>k v u false) (oT (stOp o) (eM P (aK ml) (lT l) nx o) λv u=>k v u false)
 |.indexAddr _ _ _=>match aDM P (lT l) o with
  |some (es,ce,l,n)=>PA es ce l n λrow=>k (.d (.ip row)) [] false
  |none=>H4 P (aK ml) (lT l) o (λv u=>k v u false) (oT (stOp o) (eM P (aK ml) (lT l) nx o) λv u=>k v u false)
 |.load _ _=>H4 P (aK ml) (lT l) o (λv u=>k v u false) (oT (stOp o) (eM P (aK ml) (lT l) nx o) λv u=>k v u false)
 |.store _ _ _=>H4 P (aK ml) (lT l) o (λv u=>k v u false) (oT (stOp o) (eM P (aK ml) (lT l) nx o) λv u=>k v u false)
 |.binOp _ _ _ _ _=>GH P (lT l) o (λv=>k v [] false) (oT (stOp o) (eM P (aK ml) (lT l) nx o) λv u=>k v u false)
 |.convert _ _ _=>GH P (lT l) o (λv=>k v [] false) (oT (stOp o) (eM P (aK ml) (lT l) nx o) λv u=>k v u false)
 |.lookup _ _ _ _=>lkK P (aK ml) (lT l) o (λv=>k v [] false) (oT (stOp o) (eM P (aK ml) (lT l) nx o) λv u=>k v u false)
 |.index _ _ _=>aFW P (lT l) o (λv=>k v [] false) (oT (stOp o) (eM P (aK ml) (lT l) nx o) λv u=>k v u false)
 |_=>oT (stOp o) (eM P (aK ml) (lT l) nx o) λv u=>k v u false
def aN7(o:Oper):Bool:=match o.op with
 |.call c=>match c.callee with
  |.builtin b=>match b with
   |.append=>true
   |_=>false
  |_=>false
 |.mapUpdate .. =>true
 |.insert .. =>true
 |.store .. =>true
 |.alloc .. =>true
 |.box .. =>true
 |.buildSlice .. =>true
 |.makeSlice .. =>true
 |.makeMap .. =>true
 |_=>false
def aMU:List Oper->Bool
 |[]=>false
 |o::r=>bif aN7 o then true else aMU r
def OY:List qC->List Bool->Bool
 |[],_=>true
 |_::_,[]=>false
 |p::r,t::ts=>tot1 p t r ts&&OY r ts
where tot1 (p:qC) (t:Bool):List qC->List Bool->Bool
 |[],_=>true
 |_::_,[]=>false
 |q::r,t'::ts=>(cond (t||t') (p.anc.testBit r.length||(q.r.u.isEmpty&&p.r.u.isEmpty)) true)&&tot1 p t r ts
def aHI:List qC->List Bool->Bool
 |[],_=>true
 |_::_,[]=>false
 |p::r,t::ts=>(cond t true (p.r.u.all λq=>s9 q.1 p.F))&&aHI r ts
def aGY(acc:List qC)(ts:List Bool):Bool:=nO acc&&(OY acc ts&&aHI acc ts)
inductive aJH(b:Bool)(X:Prop):Prop
 |mk (h:b=true) (x:X)
def wK(w:Bool)(X Y:Prop):Prop:=match w with
 |true=>X
 |false=>Y
def aMX(a:A)(w:Bool)(X Y:Prop):Prop:=match a with
 |.d c=>match c with
  |.v x=>match x with
   |.bool b=>O8 b (wK w X Y) (wK w Y X)
   |_=>False
  |_=>False
 |.eL _=>Y
 |_=>False
def L6(ops:Array Oper)(l:List (Nat×A))(o:Oper)(X Y:Prop):Prop:=match o.guard with
 |none=>X
 |some (j,w)=>match(ops[j]?).bind (·.dst)with
  |some d=>aMX (lT l d) w X Y
  |none=>False
inductive nN(X:Prop):Prop
 |mk (x:X)
def O1(P:Program)(n:Nat)(ops:Array Oper):List Oper->List (Nat×A)->List (Nat×R)->Nat->(List (Nat×A)->List (Nat×R)->Nat->Prop)->Prop
 |[],l,ml,nx,K=>nN (K l ml nx)
 |o::r,l,ml,nx,K=>bK (vE n o.dst) (L6 ops l o
   (aLA P l ml nx o λv u=>aM9 o.dst v l λl'=>aF4 u ml λml'=>O1 P n ops r l' ml' (nx+8) K)
   (aM9 o.dst (.eL []) l λl'=>O1 P n ops r l' ml nx K)) False
def UX(P:Program)(ops:Array Oper):List Oper->List (Nat×A)->List (Nat×R)->Nat->(List (Nat×A)->Prop)->Prop
 |[],l,ml,nx,K=>nN (K l)
 |o::r,l,ml,nx,K=>L6 ops l o
   (aJW P l ml nx o λv=>aM9 o.dst v l λl'=>UX P ops r l' ml nx K)
   (aM9 o.dst (.eL []) l λl'=>UX P ops r l' ml nx K)
def VZ(o:Oper):Bool:=match o.op with
 |.move _=>true
 |_=>false
def GZ(ops:Array Oper)(o:Oper)(l:List (Nat×A))(nx:Nat):List Nat:=nx::bif VZ o then []else(o.looksAt ops).flatMap λt=>(lT l t).hs
def UY(P:Program)(n:Nat)(ops:Array Oper):List Oper->Nat->List qC->List Bool->List (Nat×A)->List (Nat×R)->Nat->(List (Nat×A)->List (Nat×R)->Nat->Prop)->Prop
 |[],_,acc,ts,l,ml,nx,K=>aJH (aGY acc ts) (K l ml nx)
 |o::r,k,acc,ts,l,ml,nx,K=>match kX acc k o.after.toList with
  |some an=>bK (vE n o.dst) (L6 ops l o
   (aJX P l ml nx o λv u t=>aM9 o.dst v l λl'=>aF4 u ml λml'=>UY P n ops r (k+1) (⟨⟨o.dst,v,u⟩,o.looksAt ops,cond t [] (GZ ops o l nx),an⟩::acc) (t::ts) l' ml' (nx+8) K)
   (aM9 o.dst (.eL []) l λl'=>UY P n ops r (k+1) (⟨⟨o.dst,.eL [],[]⟩,o.looksAt ops,[],an⟩::acc) (false::ts) l' ml nx K)) False
  |none=>False
def LP(n:Nat)(ops:Array Oper):List Oper->Nat->List qC->Option (List qC)
 |[],_,acc=>some acc
 |o::r,k,acc=>match vE n o.dst,kX acc k o.after.toList with
  |true,some an=>LP n ops r (k+1) (⟨⟨o.dst,.x,[]⟩,o.looksAt ops,[],an⟩::acc)
  |_,_=>none
def aEU(n:Nat)(ops:Array Oper):Bool:=match LP n ops ops.toList 0 []with
 |some acc=>nO acc
 |none=>false
abbrev KT:=Ex->List (Nat×A)->List (Nat×R)->Nat->Prop
def sC:Code->Bool
 |.seq a b=>sC a&&sC b
 |.cond _ a b=>sC a&&sC b
 |.block _ a=>sC a
 |.loop a=>sC a
 |.scope a=>sC a
 |.rangeFunc .. =>false
 |_=>true
structure Bs where
 M:Nat->Prop
 S:Nat->Prop
 w:World
 ds:List Nat
def DI(D:Nat):Deferred:={target:=.collected D,args:= #[]}
def Bs.das(b:Bs):List DA:=b.ds.map λD=>.SK (DI D)
structure Bs.Ext(b b':Bs):Prop where
 grown:∃Ds:List Nat,b'.ds=Ds++b.ds/\(∀x,b'.M x↔(b.M x\/x∈Ds))/\Ds.Nodup/\∀D∈Ds,(b.w.heap.size<=D\/b.S D)/\¬b.M D/\D<b'.w.heap.size/\¬b'.S D/\b'.w.heap[D]?=some (.deferred (some []))
 keeps:iF b.S b.w b'.w
 own:∀x,b'.S x->b.w.heap.size<=x\/b.S x
def Bs.Ext.refl(b:Bs):b.Ext b:=⟨⟨[],rfl,sM,List.nodup_nil,sM⟩,iF.refl _ _,λ_ h=>.inr h⟩
def Bs.Ext.trans{a b c:Bs}(h:a.Ext b)(k:b.Ext c):a.Ext c:=by
 have⟨Ds,h1,h2,h3,h4⟩:=h.grown;have⟨Es,k1,k2,k3,k4⟩:=k.grown;refine⟨⟨Es++Ds,by rw[k1,h1,bG],λx=>?_,?_,?_⟩,h.keeps.trans k.keeps λx hx hs=>?_,λx hx=>?_⟩
 ·rw[k2,h2,bN,or_assoc,or_comm (a:=x∈Es)]
 ·refine iS.2 ⟨k3,h3,λx hx y hy e=>?_⟩;subst e;exact(k4 x hx).2.1 ((h2 x).2 (.inr hy))
 ·intro D hD;rcases bN.1 hD with hD|hD
  ·have⟨g1,g2,g3,g4,g5⟩:=k4 D hD;refine⟨?_,λe=>g2 ((h2 D).2 (.inl e)),g3,g4,g5⟩;rcases g1 with g1|g1
   ·exact .inl (cL h.keeps.size g1)
   ·exact h.own D g1
  ·have⟨g1,g2,g3,g4,g5⟩:=h4 D hD;have hn:¬c.S D:=λe=>by
    rcases k.own D e with q|q
    ·omega
    ·exact g4 q
   exact⟨g1,g2,cG g3 k.keeps.size,hn,(k.keeps.block D g3 g4).trans g5⟩
 ·rcases h.own x hs with q|q
  ·omega
  ·exact q
 ·rcases k.own x hx with q|q
  ·exact .inl (cL h.keeps.size q)
  ·exact h.own x q
def I1(b:Bs)(n:Nat)(T:Nat->A)(m:Mem)(ρ:Nat->Value)(a:Act)(w:World):Prop:=bC b.M b.S b.w ⟨n,some b.das⟩ T m ρ a w
def IL{w w':World}{M M':Nat->Prop}{m m':Mem}{ρ ρ':Nat->Value}:∀{ds:List Nat}{l:List Deferred},iM w M m ρ (ds.map λD=>.SK (DI D)) l->iM w' M' m' ρ' (ds.map λD=>.SK (DI D)) l
 |[],l,h=>h
 |D::r,l,⟨rest,e,h⟩=>⟨rest,e,IL h⟩
def aEF{ds:List Nat}:∀d∈(ds.map λD=>DA.SK (DI D)),∀i∈d.hs,False:=by
 intro d hd i hi;obtain⟨D,_,rfl⟩:=aA4.1 hd;simp[DA.hs]at hi
def kD(P:Program)(mb:List (Nat×R))(n:Nat)(c:Code)(T:Nat->A)(m:Mem)(Post:Ex->(Nat->A)->Mem->Prop):Prop:=
 ∀(ro:Option Nat),(ro=none\/sC c=true)->∀(b:Bs)(ρb ρ:Nat->Value)(a:Act)(w:World),I1 b n T m ρ a w->gL (aK mb) m ρb ρ->(∀x,b.M x->x<b.w.heap.size)->
  ∀Q:Exit->Act->World->Prop,(∀ex e T' m' b' ρ' a' w',Post ex T' m'->b.Ext b'->(sC c=true->b'=b)->(∀x,b'.M x->x<b'.w.heap.size)->I1 b' n T' m' ρ' a' w'->gL (aK mb) m' ρb ρ'->ex.Den w' (dD b'.M m' ρ') m' ρ' e->Q e a' w')->c.wpIn (FW ro) 0 P Q a w
def PK(K:KT):Ex->(Nat->A)->Mem->Prop:=λex T m=>∃l ml nx,T=lT l/\m=aK ml/\K ex l ml nx
inductive XB(P:Program)(mb:List (Nat×R))(n:Nat)(c:Code)(l:List (Nat×A))(ml:List (Nat×R))(K:KT):Prop
 |mk (h:kD P mb n (.loop c) (lT l) (aK ml) (PK K))
def aGA(ex:Ex)(X Y:Prop):Prop:=match ex with
 |.nm=>X
 |.ext _=>Y
 |.ret=>Y
 |.sE _=>Y
def MP(id:Nat)(ex:Ex)(k:Ex->Prop):Prop:=match ex with
 |.nm=>k .nm
 |.ext i=>bK (Nat.beq i id) (k .nm) (k (.ext i))
 |.ret=>k .ret
 |.sE a=>k (.sE a)
def aCG(a:A)(X Y:Prop):Prop:=match a with
 |.d c=>match c with
  |.v x=>match x with
   |.bool b=>O8 b X Y
   |_=>False
  |_=>False
 |_=>False
def cN(mb:List (Nat×R))(n:Nat)(l:List (Nat×A))(ml:List (Nat×R))(l':List (Nat×A))(ml':List (Nat×R)):Prop:=
 ∀(b:Bs)(ρb ρ:Nat->Value)(a:Act)(w:World),I1 b n (lT l) (aK ml) ρ a w->gL (aK mb) (aK ml) ρb ρ->∃ρ',I1 b n (lT l') (aK ml') ρ' a w/\gL (aK mb) (aK ml') ρb ρ'
inductive aM0(X Y:Prop):Prop
 |p (x:X)
 |c (y:Y)
inductive RfK(P:Program)(mb:List (Nat×R))(n:Nat)(g:Operand)(ps:Array Tmp)(asg bod:Code)(l:List (Nat×A))(ml:List (Nat×R))(K:KT):Prop
 |mk (h:kD P mb n (.rangeFunc g ps asg bod) (lT l) (aK ml) (PK K))
inductive aLH(X Y:Prop):Prop
 |r (x:X)
 |u (y:Y)
def vc(P:Program)(mb:List (Nat×R))(n:Nat):Code->List (Nat×A)->List (Nat×R)->Nat->KT->Prop
 |.skip,l,ml,nx,K=>K .nm l ml nx
 |.label _,l,ml,nx,K=>K .nm l ml nx
 |.exit i,l,ml,nx,K=>K (.ext i) l ml nx
 |.ret,l,ml,nx,K=>K .ret l ml nx
 |.seq a b,l,ml,nx,K=>aM0 (vc P mb n a l ml nx λex l ml nx=>aGA ex (vc P mb n b l ml nx K) (K ex l ml nx)) (∃(α:Type)(Exi:α->Prop)(I':α->List (Nat×A))(J':α->List (Nat×R))(nx2:Nat),vc P mb n a l ml nx (λex l ml nx=>aGA ex (∃y,Exi y/\cN mb n l ml (I' y) (J' y)) (K ex l ml nx))/\∀y,Exi y->vc P mb n b (I' y) (J' y) nx2 K)
 |.cond c a b,l,ml,nx,K=>aCG (dN (lT l) c) (vc P mb n a l ml nx K) (vc P mb n b l ml nx K)
 |.block id a,l,ml,nx,K=>vc P mb n a l ml nx λex l ml nx=>MP id ex λex=>K ex l ml nx
 |.loop a,l,ml,nx,K=>XB P mb n a l ml K
 |.scope a,l,ml,nx,K=>vc P mb n a l ml nx K
 |.region _ ops draw,l,ml,nx,K=>match draw with
  |false=>O1 P n ops ops.toList l ml nx λl ml nx=>K .nm l ml nx
  |true=>aLH (bK (aEU n ops) (UX P ops ops.toList l ml nx λl=>K .nm l ml nx) False) (UY P n ops ops.toList 0 [] [] l ml nx λl ml nx=>K .nm l ml nx)
 |.rangeFunc g ps asg bod,l,ml,nx,K=>RfK P mb n g ps asg bod l ml K
 |_,_,_,_,_=>False
section
variable{P:Program}
def XX{st:Bool}{e:Option E}(h:oT st e k):∃v u,e=some (true,v,u)/\k v u:=by
 unfold oT at h;split at h
 ·rename_i pre v u;have⟨h1,h2⟩:=Y3 h;subst h1;exact⟨v,u,rfl,s6 (k:=λv=>k v u) h2⟩
 ·exact h.elim
def aCO{st:Bool}{e:Option E}{k:A->Prop}(h:zZ st e k):∃v,e=some (true,v,[])/\k v:=by
 unfold zZ at h;split at h
 ·rename_i pre v u;split at h
  ·have⟨h1,h2⟩:=Y3 h;subst h1;exact⟨v,rfl,s6 h2⟩
  ·exact h.elim
 ·exact h.elim
def aIU{l:List (Nat×A)}{ml:List (Nat×R)}{nx:Nat}(h:aLA P l ml nx o k):∃outs,o8 P o (lT l) (aK ml) outs/\∀q∈outs,∃v,q.1=.ok v/\k v q.2:=by
 have one:∀{v:A}{u:List (Nat×R)},o8 P o (lT l) (aK ml) [(.ok v,u)]->k v u->∃outs,o8 P o (lT l) (aK ml) outs/\∀q∈outs,∃v,q.1=.ok v/\k v q.2:=λh hk=>
  ⟨_,h,λq hq=>by simp[aR]at hq;subst hq;exact⟨_,rfl,hk⟩⟩
 have key:oT (stOp o) (eM P (aK ml) (lT l) nx o) k->∃outs,o8 P o (lT l) (aK ml) outs/\∀q∈outs,∃v,q.1=.ok v/\k v q.2:=by
  intro h;have⟨v,u,e,hk⟩:=XX h;exact one (o8.one (qT.sD e rfl)) hk
 unfold aLA at h;split at h
 ·rename_i c ho;split at h
  ·rename_i b hb;split at h
   ·rcases XI ho hb h with⟨v,u,h1,h2⟩|h
    ·exact one (o8.one (qT.sD h1 rfl)) h2
    ·exact key h
   ·exact key h
  ·split at h
   ·rename_i f as hc;have⟨v,u,aVN,hk⟩:=h;exact one (o8.call ho hc aVN) hk
   ·have⟨v,u,I5,hk⟩:=h;exact one I5 hk
 ·rename_i x b ho;split at h
  ·split at h
   ·rename_i d hx;split at h
    ·rename_i r hm;split at h
     ·exact⟨_,o8.aL8 ho hx hm,h.outs⟩
     ·exact h.elim
    ·exact h.elim
   ·exact h.elim
  ·exact h.elim
 ·rename_i x ho;split at h
  ·rename_i d hx;split at h
   ·rename_i r hm;split at h
    ·split at h
     ·rename_i p;exact one (o8.one (u:=[]) (qT.aJY ho hx hm)) (s6 (k:=λc=>k (.eL [ZA p.1,c]) []) (s6 (k:=λa=>J0 (.d p.2) λc=>k (.eL [a,c]) []) h))
     ·exact h.elim
    ·exact h.elim
   ·exact h.elim
  ·exact h.elim
 ·rename_i t x ho;split at h
  ·rename_i c hx;split at h
   ·split at h
    ·rename_i kt hm;have⟨kv,h1,h2,hf,hk⟩:=h;exact one (o8.one (qT.aKX ho hx hm h1 h2 (hG hf))) hk
    ·exact h.elim
   ·exact key h
  ·exact key h
 ·rename_i t x ix a ho;rcases IP (d:=nx) (.inl ho) h with⟨v,u,e,hk⟩|h
  ·exact one (o8.one (qT.sD e rfl)) hk
  ·exact key h
 ·rename_i t x ix a ho;rcases IP (d:=nx) (.inr ho) h with⟨v,u,e,hk⟩|h
  ·exact one (o8.one (qT.sD e rfl)) hk
  ·exact key h
 ·split at h
  ·rename_i hi;have⟨row,e,hk⟩:=J5 (m:=aK ml) (d:=nx) hi h;exact one (o8.one (qT.sD e rfl)) hk
  ·rcases ED (d:=nx) h with⟨v,u,e,hk⟩|h
   ·exact one (o8.one (qT.sD e rfl)) hk
   ·exact key h
 ·rcases ED (d:=nx) h with⟨v,u,e,hk⟩|h
  ·exact one (o8.one (qT.sD e rfl)) hk
  ·exact key h
 ·rcases aGT (d:=nx) h with⟨v,u,e,hk⟩|h
  ·exact one (o8.one (qT.sD e rfl)) hk
  ·exact key h
 ·rcases ED (d:=nx) h with⟨v,u,e,hk⟩|h
  ·exact one (o8.one (qT.sD e rfl)) hk
  ·exact key h
 ·split at h
  ·rename_i L he;exact⟨_,o8.aLW he,h.outs⟩
  ·rcases FG (m:=aK ml) (d:=nx) h with⟨v,e,hk⟩|h
   ·exact one (u:=[]) (o8.one (qT.sD e rfl)) hk
   ·exact key h
 ·rcases FG (m:=aK ml) (d:=nx) h with⟨v,e,hk⟩|h
  ·exact one (u:=[]) (o8.one (qT.sD e rfl)) hk
  ·exact key h
 ·rcases aD1 (d:=nx) h with⟨v,e,hk⟩|h
  ·exact one (u:=[]) (o8.one (qT.sD e rfl)) hk
  ·exact key h
 ·rcases Q6 (m:=aK ml) (d:=nx) h with⟨v,e,hk⟩|h
  ·exact one (u:=[]) (o8.one (qT.sD e rfl)) hk
  ·exact key h
 ·exact key h
def L7{ops:Array Oper}{l:List (Nat×A)}{Y:Prop}(h:L6 ops l o X Y):(kO ops (lT l) o=some true/\X)\/(kO ops (lT l) o=some false/\Y):=by
 unfold L6 at h;unfold kO;cases hg:o.guard with
 |none=>rw[hg]at h;exact .inl ⟨rfl,h⟩
 |some q=>
  have⟨j,w⟩:=q;rw[hg]at h;cases hd:(ops[j]?).bind (·.dst)with
  |none=>simp[hd]at h
  |some d=>
   simp[hd]at h⊢;generalize lT l d=a at h⊢;cases a with
   |d c=>cases c with
    |v x=>cases x with
     |bool b=>
      have h:bK b (wK w X Y) (wK w Y X):=O8.bK h;cases b<;>cases w
      ·exact .inl ⟨rfl,h⟩
      ·exact .inr ⟨rfl,h⟩
      ·exact .inr ⟨rfl,h⟩
      ·exact .inl ⟨rfl,h⟩
     |_=>exact h.elim
    |_=>exact h.elim
   |eL _=>exact .inr ⟨rfl,h⟩
   |_=>exact h.elim
def L5{n:Nat}{ops:Array Oper}{K:List (Nat×A)->List (Nat×R)->Nat->Prop}{Post:qU}{rd:Bool}{ds:List DA}(hK:∀l ml nx,K l ml nx->Post .nm (lT l) (aK ml) ds):∀(lo:List Oper)(k:Nat)(l:List (Nat×A))(ml:List (Nat×R))(nx:Nat),ops.toList.drop k=lo->O1 P n ops lo l ml nx K->wO P rd n ops Post (List.range' k lo.length) (lT l) (aK ml) ds
 |[],k,l,ml,nx,hk,⟨h⟩=>hK l ml nx h
 |o::r,k,l,ml,nx,hk,h=>by
  have QS:ops[k]?=some o:=by
   have:ops.toList[k]?=some o:=by
    have:=congrArg List.head? hk;simpa [pA]using this
   simpa using this
  have hkr:ops.toList.drop (k+1)=r:=by
   have:(ops.toList.drop k).drop 1=r:=by rw[hk];rfl
   simpa [lY]using this
  simp[O1]at h;cases hd:vE n o.dst with
  |false=>rw[hd]at h;exact h.elim
  |true=>
   rw[hd]at h;have h:L6 _ _ _ _ _:=h;simp only[aQ,List.range'_succ,wO,QS];refine⟨nS hd,?_⟩;rcases L7 h with⟨hw,h⟩|⟨hw,h⟩
   ·simp only[hw];have⟨outs,I5,hk⟩:=aIU h;refine .inl ⟨outs,I5,λq hq=>?_⟩;have⟨v,hqv,h⟩:=hk q hq;have⟨l',qK,h⟩:=BE h;have⟨ml',aZR,h⟩:=RA h;refine⟨λv' e=>?_,λv' e=>by rw[hqv]at e;cases e⟩;rw[hqv]at e;simp[Rt.ok.injEq]at e;subst e;rw[<-qK,<-aZR];exact L5 hK r (k+1) l' ml' _ hkr h
   ·simp[hw];have⟨l',qK,h⟩:=BE h;rw[<-qK];exact L5 hK r (k+1) l' ml _ hkr h
def Alike(D E:qC):Prop:=D.r.dst=E.r.dst/\D.looks=E.looks/\D.anc=E.anc/\D.r.u=[]/\E.r.u=[]
inductive qZ:List qC->List qC->Prop
 |nil:qZ [] []
 |cons {D E l m}:Alike D E->qZ l m->qZ (D::l) (E::m)
def qZ.length{l m:List qC}(h:qZ l m):l.length=m.length:=by induction h<;>simp_all
def qZ.get{l m:List qC}(h:qZ l m)(i:Nat):(l[i]?=none/\m[i]?=none)\/∃D E,l[i]?=some D/\m[i]?=some E/\Alike D E:=by
 induction h generalizing i with
 |nil=>simp
 |cons h1 h2 ih=>
  cases i with
  |zero=>exact .inr ⟨_,_,rfl,rfl,h1⟩
  |succ i=>simpa using ih i
def zR{D E D' E':qC}(h:Alike D E)(h':Alike D' E'):qH D D'=qH E E':=by
 unfold qH;rw[h.1,h'.1,h'.2.1]
def C7{D E:qC}(h:Alike D E):∀{l m:List qC},qZ l m->B9 D l=B9 E m
 |_,_,.nil=>rfl
 |_,_,.cons h1 h2=>by
  unfold B9;rw[C7 h h2,zR h h1,zR h1 h,h.2.2.1,h.2.2.2.1,h.2.2.2.2,h1.2.2.2.1,h1.2.2.2.2,h2.length];rfl
def zJ:∀{l m:List qC},qZ l m->nO l=nO m
 |_,_,.nil=>rfl
 |_,_,.cons h1 h2=>by
  unfold nO;rw[C7 h1 h2,zJ h2]
def zT{l m:List qC}(h:qZ l m)(k:Nat):∀(es:List Edge),kX l k es=kX m k es
 |[]=>rfl
 |e::es=>by
  unfold kX;rw[zT h k es];rcases h.get (k -1 -e.on)with⟨e1,e2⟩|⟨D,E,e1,e2,e3⟩
  ·simp[e1,e2]
  ·simp[e1,e2,e3.2.2.1]
end
end Go.Pv
