import Derived.Test.YtpdcbahjjmooiaaGreatQ3
import Derived.Lib.ConvBytes
import Derived.Laws.BytesString
import Derived.Stop.Asserts
/- Contracts of functions that the law reaches, and their logic. No conditions. -/
set_option linter.all false
set_option maxRecDepth 100000
set_option maxHeartbeats 8000000
open Go
namespace Go.Pv
open Go.RowKit
variable{w w':World}{M:Nat->Prop}{m:Mem}{ρ:Nat->Value}{P:Program}{o:Oper}{T:Nat->A}{v x ix:A}{f g:Nat->Nat}{c asg bod:Code}{l id n k i d:Nat}{a:Act}{t:TypeId}
def oO(m:Mem)(ρ:Nat->Value)(b:Nat):Prop:=∃i r,m i=some r/\r.live=true/\blk (ρ i)=some b
section
variable{M0 S0:Nat->Prop}{w0:World}{N:Fr}{T:Nat->A}{m:Mem}{ρ:Nat->Value}{a:Act}{w:World}{P:Program}
def bC.now(h:bC M0 S0 w0 N T m ρ a w):bC M0 (oO m ρ) w N T m ρ a w:=
 {keeps:=iF.refl _ _,size:=h.size,defers:=h.defers,tmps:=h.tmps,res:=h.res
  own:=λi r b hi hl hb=>⟨.inr ⟨i,r,hi,hl,hb⟩,(h.own i r b hi hl hb).2⟩,apart:=h.apart}
def bC.evo(h:bC M0 S0 w0 N T m ρ a w){N1:Fr}{T1:Nat->A}{m':Mem}{ρ':Nat->Value}{a1:Act}{w':World}(h1:bC M0 (oO m ρ) w N1 T1 m' ρ' a1 w'):
 dV (dD M0 m ρ) w w'/\∀b,dD M0 m' ρ' b->b<w.heap.size->dD M0 m ρ b:=by
 refine⟨h1.keeps.stays λb _ e=>.inr e,?_⟩;rintro b (e|⟨i,r,hi,hl,hb⟩) cX
 ·exact .inl e
 ·rcases(h1.own i r b hi hl hb).1 with q|q
  ·omega
  ·exact .inr q
def bC.back(h:bC M0 S0 w0 N T m ρ a w){N1:Fr}{T1:Nat->A}{m':Mem}{ρ':Nat->Value}{a1:Act}{w':World}(h1:bC M0 (oO m ρ) w N1 T1 m' ρ' a1 w')(hO:gL m m' ρ ρ'):bC M0 S0 w0 N T m' ρ' a w':=by
 have⟨e1,e2⟩:=h.evo h1;have aWZ:∀b,oO m ρ b->w0.heap.size<=b\/S0 b:=λb⟨i,r,hi,hl,hb⟩=>(h.own i r b hi hl hb).1
 exact{keeps:=h.keeps.trans h1.keeps λb hb e=>(aWZ b e).resolve_left oM,size:=h.size
       defers:=λds e=>eJ e1 e2 hO _ _ (h.defers ds e)
       tmps:=λn=>A.dC e1 e2 hO _ _ (h.tmps n)
       res:=h1.res
       own:=λi r b hi hl hb=>by
        have⟨x,y,z⟩:=h1.own i r b hi hl hb;refine⟨?_,y,z⟩;rcases x with x|x
        · exact .inl (cL h.keeps.size x)
        · exact aWZ b x
       apart:=h1.apart}
end
def aBC(P:Program)(m:Mem)(T:Nat->A):ResultVar->Option A
 |.tmp t=>some (T t)
 |.cell ad t=>match jM P m t (T ad)with
  |some (true,v,_)=>some v
  |_=>none
def MS(P:Program)(m:Mem)(T:Nat->A):List ResultVar->Option (List A)
 |[]=>some []
 |r::rs=>match aBC P m T r,MS P m T rs with
  |some v,some vs=>some (v::vs)
  |_,_=>none
def GO(P:Program)(m:Mem)(T:Nat->A)(rs:List ResultVar):Option A:=
 match MS P m T rs with
 |some [v]=>some v
 |some vs=>some (.eL vs)
 |none=>none
section
variable{M0 S0:Nat->Prop}{w0:World}{N:Fr}{T:Nat->A}{m:Mem}{ρ:Nat->Value}{a:Act}{w:World}{P:Program}
def T7(h:bC M0 S0 w0 N T m ρ a w):∀{rs:List ResultVar}{vs:List A},MS P m T rs=some vs->
 ∃ys:List Value,(rs.mapM λr=>(match r with|.tmp t=>pure (a.tmps.getD t undef)|.cell ad t=>(do loadVar t (<-asAddr (a.tmps.getD ad undef))):Sem Value)).run P w=.ok ys w/\A.bR w (dD M0 m ρ) m ρ vs ys
 |[],vs,hr=>by
  simp only[MS,aA]at hr;subst hr;exact⟨[],sM,by simp[A.bR]⟩
 |r::rs,vs,hr=>by
  simp only[MS]at hr;split at hr
  ·rename_i v vs' h1 h2;simp only[aA]at hr;subst hr;obtain⟨ys,k1,k2⟩:=T7 h h2;have key:∃y,((match r with|.tmp t=>pure (a.tmps.getD t undef)|.cell ad t=>(do loadVar t (<-asAddr (a.tmps.getD ad undef))):Sem Value)).run P w=.ok y w/\v.Den w (dD M0 m ρ) m ρ y:=by
    cases r with
    |tmp t=>
     simp[aBC,aA]at h1;subst h1;exact⟨_,sM,h.tmps t⟩
    |cell ad t=>
     simp[aBC]at h1;split at h1
     ·rename_i v' u he;simp[aA]at h1;subst h1;have⟨_,z,q1,q2⟩:=Y7 (P:=P) h (h.tmps ad) he rfl;refine⟨z,?_,q2⟩;simp only[Instr.loadAt]at q1;have hp:∃ad',a.tmps.getD ad undef=.pointer (some ad'):=by
       generalize a.tmps.getD ad undef=y at q1;cases y<;>simp[Instr.sureAddr,asAddr]at q1
       rename_i o;cases o with
       |none=>simp[Instr.sureAddr,asAddr]at q1
       |some d=>exact⟨d,rfl⟩
      have⟨d,hd⟩:=hp;simp[hd]at q1⊢;simpa [Instr.sureAddr,asAddr]using q1
     ·cases h1
   have⟨y,q1,q2⟩:=key;refine⟨y::ys,?_,by simp only[A.bR];exact⟨y,ys,rfl,q2,k2⟩⟩;rw[List.mapM_cons];simp only[aV,q1,aN,k1,cB]
  ·cases hr
end
section
variable{M0 S0:Nat->Prop}{w0:World}{N:Fr}{T:Nat->A}{m:Mem}{ρ:Nat->Value}{a:Act}{w:World}{P:Program}
def HQ(h:bC M0 S0 w0 N T m ρ a w){fn:Func}{v:A}(hr:GO P m T fn.results.toList=some v):∃y,(results fn a.tmps).run P w=.ok y w/\v.Den w (dD M0 m ρ) m ρ y:=by
 unfold GO at hr;have key:∀{vs:List A},MS P m T fn.results.toList=some vs->∃ys:List Value,(results fn a.tmps).run P w=.ok (if h:ys.toArray.size=1 then ys.toArray[0]else .tuple ys.toArray) w/\A.bR w (dD M0 m ρ) m ρ vs ys:=by
  intro vs hl;have⟨ys,k1,k2⟩:=T7 h hl;refine⟨ys,?_,k2⟩;unfold results;have e:fn.results=fn.results.toList.toArray:=sM;rw[aV];conv=>lhs;rw[e,List.mapM_toArray]
  rw[Sem.run_map]
  erw [k1]
  simp
 split at hr
 ·rename_i v' hl;simp[aA]at hr;subst hr;have⟨ys,k1,k2⟩:=key hl;simp only[A.bR]at k2;obtain⟨y,yr,rfl,k3,rfl⟩:=k2;exact⟨y,by simpa using k1,k3⟩
 ·rename_i vs hZ hl;simp[aA]at hr;subst hr;have⟨ys,k1,k2⟩:=key hl;have hlen:=(A.xJ.1 k2).1;have h1:ys.length≠1:=by
   intro e;rw[e]at hlen
   match vs,hlen,hZ with
   |[v],_,hZ=>exact hZ v rfl
  exact⟨.tuple ys.toArray,by rw[k1];simp[h1],by simp only[A.Den];exact⟨_,rfl,by simpa using k2⟩⟩
 ·cases hr
end
mutual
def A.wC{w:World}{M:Nat->Prop}{m:Mem}{ρ:Nat->Value}:∀(a:A)(y:Value),a.Den w M m ρ y->∀i∈a.hs,m i≠none
 |.d c,y,_,i,hi=>by simp[A.hs]at hi
 |.lp j off,y,hd,i,hi=>by simp[A.hs]at hi;subst hi;simp only[A.Den]at hd;exact hd.1
 |.h j,y,hd,i,hi=>by simp[A.hs]at hi;subst hi;simp only[A.Den]at hd;exact hd.1
 |.ep j es k off,y,hd,i,hi=>by simp[A.hs]at hi;subst hi;simp only[A.Den]at hd;exact hd.1
 |.sv j lo n,y,hd,i,hi=>by simp[A.hs]at hi;subst hi;simp only[A.Den]at hd;exact hd.1
 |.fn f u v,y,hd,i,hi=>by
  simp only[A.Den]at hd;obtain⟨us,vs,_,h1,h2⟩:=hd;simp[A.hs,bN]at hi;exact hi.elim (A.nD u _ h1 i) (A.nD v _ h2 i)
 |.agg l,y,hd,i,hi=>by
  simp[A.Den]at hd;have⟨vs,_,_,h1⟩:=hd;simp[A.hs]at hi;exact A.nD l _ h1 i hi
 |.eL l,y,hd,i,hi=>by
  simp[A.Den]at hd;have⟨vs,_,h1⟩:=hd;simp[A.hs]at hi;exact A.nD l _ h1 i hi
 |.AE t a,y,hd,i,hi=>by
  simp[A.Den]at hd;have⟨v,_,h1⟩:=hd;simp[A.hs]at hi;exact A.wC a _ h1 i hi
 |.x,y,_,i,hi=>by simp[A.hs]at hi
def A.nD{w:World}{M:Nat->Prop}{m:Mem}{ρ:Nat->Value}:∀(l:List A)(ys:List Value),A.bR w M m ρ l ys->∀i∈A.lQ l,m i≠none
 |[],ys,_,i,hi=>by simp[A.lQ]at hi
 |c::r,ys,hd,i,hi=>by
  simp only[A.bR]at hd;obtain⟨y,yr,_,h1,h2⟩:=hd;simp[A.lQ,bN]at hi;exact hi.elim (A.wC c _ h1 i) (A.nD r _ h2 i)
end
def R.wC{w:World}{M:Nat->Prop}{m:Mem}{ρ:Nat->Value}{h:Value}{r:R}(hr:r.Ok w M m ρ h):∀i∈r.hs,m i≠none:=by
 intro i hi;cases r with
 |dead=>simp[R.hs]at hi
 |cells fz l=>have⟨_,_,_,_,_,h2,_⟩:=hr;exact A.nD _ _ h2 i (by simpa [R.hs]using hi)
 |fW fz t es l=>have⟨_,_,h2,_⟩:=hr;exact A.nD _ _ h2 i (by simpa [R.hs]using hi)
 |mp fz kv st=>
  have⟨_,_,_,_,_,_,_,h3,_,h5⟩:=hr;simp only[R.hs,bN]at hi;rcases hi with hi|hi
  ·exact A.nD _ _ h3 i hi
  ·obtain⟨p,hp,rfl⟩:=aA4.1 hi;exact(h5 p hp).1
 |fr l=>have⟨_,_,h2⟩:=hr;exact A.nD _ _ h2 i (by simpa [R.hs]using hi)
 |lo _ _ _ _ _ _=>have⟨_,_,_,_,_,_,h2⟩:=hr;exact A.nD _ _ h2 i (by simpa [R.hs]using hi)
 |it j sc start seen=>
  have⟨_,_,_,_,_,_,h1,h2,h3⟩:=hr;simp[R.hs,aO]at hi;rcases hi with rfl|rfl|hi
  ·exact h1.1
  ·exact h2.1
  ·exact h3.2.1 i hi
 |cu src es l=>
  have⟨_,_,h1,_,h3⟩:=hr;simp[R.hs,bN]at hi;rcases hi with hi|hi
  ·exact A.wC _ _ h1 i hi
  ·rcases h3 with rfl|⟨_,_,_,_,_,_,h6,_⟩
   ·simp[A.lQ]at hi
   ·exact A.nD _ _ h6 i hi
 |_=>simp[R.hs]at hi
def DA.hs:DA->List Nat
 |.call _ as cs=>A.lQ as++A.lQ cs
 |.s4 i=>[i]
 |.bi _ _ _ _ as=>A.lQ as
 |.SK _=>[]
section
variable{M0 S0:Nat->Prop}{w0:World}{N:Fr}{T:Nat->A}{m:Mem}{ρ:Nat->Value}{a:Act}{w:World}{P:Program}
def zQ{w:World}{M:Nat->Prop}{m:Mem}{ρ:Nat->Value}:∀{ds:List DA}{l:List Deferred},iM w M m ρ ds l->∀d∈ds,∀i∈d.hs,m i≠none
 |[],l,_,d,hd,i,hi=>by simp at hd
 |.call f as cs::r,l,⟨vs,us,rest,_,h1,h2,h3⟩,d,hd,i,hi=>by
  simp[aO]at hd;rcases hd with rfl|hd
  ·simp[DA.hs,bN]at hi;exact hi.elim (A.nD _ _ h1 i) (A.nD _ _ h2 i)
  ·exact zQ h3 d hd i hi
 |.bi b tys ty cs as::r,l,⟨vs,rest,_,h1,h3⟩,d,hd,i,hi=>by
  simp[aO]at hd;rcases hd with rfl|hd
  ·simp[DA.hs]at hi;exact A.nD _ _ h1 i hi
  ·exact zQ h3 d hd i hi
 |.s4 k::r,l,⟨D,rest,_,h1,h3⟩,d,hd,i,hi=>by
  simp[aO]at hd;rcases hd with rfl|hd
  ·simp[DA.hs,aR]at hi;subst hi;exact h1.1
  ·exact zQ h3 d hd i hi
 |.SK k::r,l,⟨rest,_,h3⟩,d,hd,i,hi=>by
  simp[aO]at hd;rcases hd with rfl|hd
  ·simp[DA.hs]at hi
  ·exact zQ h3 d hd i hi
def lK{w:World}{M:Nat->Prop}{m m1:Mem}{ρ:Nat->Value}(hm:∀i r,m1 i=some r->m i=some r):∀{ds:List DA}{l:List Deferred},(∀d∈ds,∀i∈d.hs,m1 i≠none)->iM w M m ρ ds l->iM w M m1 ρ ds l
 |[],l,_,h=>h
 |.call f as cs::r,l,hi,⟨vs,us,rest,h0,h1,h2,h3⟩=>
  ⟨vs,us,rest,h0,A.fG hm _ _ (λi hii=>hi (.call f as cs) sM i (by simp[DA.hs,hii])) h1,A.fG hm _ _ (λi hii=>hi (.call f as cs) sM i (by simp[DA.hs,hii])) h2,lK hm (λd hd=>hi d (by simp[hd])) h3⟩
 |.bi b tys ty cs as::r,l,hi,⟨vs,rest,h0,h1,h3⟩=>
  ⟨vs,rest,h0,A.fG hm _ _ (λi hii=>hi (.bi b tys ty cs as) sM i (by simp[DA.hs,hii])) h1,lK hm (λd hd=>hi d (by simp[hd])) h3⟩
 |.s4 k::r,l,hi,⟨D,rest,h0,h1,h3⟩=>
  ⟨D,rest,h0,h1.restrict hm (hi (.s4 k) sM k (by simp[DA.hs])) λ_ q=>q,lK hm (λd hd=>hi d (by simp[hd])) h3⟩
 |.SK k::r,l,hi,⟨rest,h0,h3⟩=>⟨rest,h0,lK hm (λd hd=>hi d (by simp[hd])) h3⟩
def bC.drop(h:bC M0 S0 w0 N T m ρ a w){m1:Mem}(hm:∀i r,m1 i=some r->m i=some r)(hT:∀n,∀i∈(T n).hs,m1 i≠none)(hds:∀ds,N.ds=some ds->∀d∈ds,∀i∈d.hs,m1 i≠none)(n0:∀i r,m1 i=some r->∀j∈r.hs,m1 j≠none):bC M0 S0 w0 N T m1 ρ a w:=by
 have Q2:∀b,dD M0 m1 ρ b->b<w.heap.size->dD M0 m ρ b:=by
  rintro b (e|⟨i,r,h1,h2,h3⟩) _
  ·exact .inl e
  ·exact .inr ⟨i,r,hm i r h1,h2,h3⟩
 have aZT:∀{x:A}{y:Value},x.Den w (dD M0 m ρ) m1 ρ y->x.Den w (dD M0 m1 ρ) m1 ρ y:=λ{x y}hd=>A.dC (dV.refl _ w) Q2 (gL.refl m1 ρ) _ _ hd
 exact{keeps:=h.keeps,size:=h.size
       defers:=λds e=>eJ (dV.refl _ w) Q2 (gL.refl m1 ρ) _ _ (lK hm (hds ds e) (h.defers ds e))
       tmps:=λn=>aZT (A.kU hm _ _ (hT n) (h.tmps n))
       res:=λi r hi=>R.hU (dV.refl _ w) Q2 (gL.refl m1 ρ) (λ_ _ _=>rfl) (R.rY hm (n0 i r hi) (h.res i r (hm i r hi)))
       own:=λi r b hi hl hb=>h.own i r b (hm i r hi) hl hb
       apart:=λi j r s b hi l1 hj l2 b1 b2=>h.apart i j r s b (hm i r hi) l1 (hm j s hj) l2 b1 b2}
end
def C8:∀{u:List (Nat×R)}{m:Mem}{i:Nat}{r:R},aH m u i=some r->(i,r)∈u\/m i=some r
 |[],m,i,r,h=>.inr h
 |(j,q)::t,m,i,r,h=>by
  simp[aH]at h;rcases C8 h with h|h
  ·exact .inl (by simp[h])
  ·unfold aX at h;split at h
   ·rename_i e;simp at h;subst h;subst e;exact .inl sM
   ·exact .inr h
def tH:∀{u:List (Nat×R)}{m:Mem}{i:Nat},m i≠none->aH m u i≠none
 |[],m,i,h=>h
 |(j,q)::t,m,i,h=>by
  simp[aH];refine tH ?_;unfold aX;split
  ·simp
  ·exact h
inductive Rt where
 |ok(a:A)
 |sE(a:A)
 deriving Inhabited
def Rt.hs:Rt->List Nat
 |.ok a=>a.hs
 |.sE a=>a.hs
def Rt.Den(w:World)(M:Nat->Prop)(m:Mem)(ρ:Nat->Value):Rt->Ending->Prop
 |.ok a,e=>∃y,e=.returned y/\a.Den w M m ρ y
 |.sE a,e=>∃y,e=.panicked [{v:=y,recovered:=false}]/\a.Den w M m ρ y
def aJ(P:Program)(f:FuncId)(as:List A)(m:Mem)(r:Rt)(m':Mem):Prop:=
 kW P f=true/\∀(N:Fr)(T:Nat->A)(M0 S0:Nat->Prop)(w0:World)(ρ:Nat->Value)(a:Act)(w:World),bC M0 S0 w0 N T m ρ a w->(∀b,M0 b->b<w0.heap.size)->
  ∀vs:List Value,A.bR w (dD M0 m ρ) m ρ as vs->Calls P f vs.toArray w λe w'=>∃ρ',bC M0 S0 w0 N T m' ρ' a w'/\gL m m' ρ ρ'/\r.Den w' (dD M0 m' ρ') m' ρ' e
abbrev Ot:=Rt×List (Nat×R)
def o8(P:Program)(o:Oper)(T:Nat->A)(m:Mem)(outs:List Ot):Prop:=
 ∀(ro:Option Nat)(N:Fr)(M0 S0:Nat->Prop)(w0:World)(ρ:Nat->Value)(a:Act)(w:World),bC M0 S0 w0 N T m ρ a w->(∀b,M0 b->b<w0.heap.size)->
  ∀(next:Act->World->Prop)(Q:Exit->Act->World->Prop),
   (∀(u:Ot)(y:Value)(w':World)(ρ':Nat->Value),u∈outs->bC M0 S0 w0 N T (aH m u.2) ρ' a w'->gL m (aH m u.2) ρ ρ'->
     (∀v,u.1=.ok v->v.Den w' (dD M0 (aH m u.2) ρ') (aH m u.2) ρ' y->next (a.put o.dst y) w')/\
     (∀v,u.1=.sE v->v.Den w' (dD M0 (aH m u.2) ρ') (aH m u.2) ρ' y->Q (.panic [{v:=y,recovered:=false}]) a w'))->o.wpIn (FW ro) 0 P a w next Q
def o8.one{u:List (Nat×R)}(h:qT P o T m v (aH m u)):o8 P o T m [(.ok v,u)]:=by
 intro ro N M0 S0 w0 ρ a w hs cX next Q hn
 exact h ro N M0 S0 w0 ρ a w hs cX next Q λy w' ρ' h1 h2 h3=>(hn (.ok v,u) y w' ρ' sM h1 h2).1 v rfl h3
def o8.next{P:Program}{o:Oper}{T:Nat->A}{m:Mem}{x:Operand}{b:Bool}{outs:List Out}(ho:o.op=.next x b)(he:IE m (dN T x) b=some (true,outs)):o8 P o T m (outs.map λu=>(.ok u.1,u.2)):=by
 intro ro N M0 S0 w0 ρ a w hs cX next Q hn
 have⟨u,hu,y,w',hr,h1,h2,h3⟩:=aIF (P:=P) (ty:=o.type) hs (cU hs x) he rfl;refine qQ (res:=.value y) (w':=w') (by unfold jO;rw[ho]) (by simp[execOp,ho,hr]) (.inl rfl) ?_;exact(hn (.ok u.1,u.2) y w' ρ (aA4.2 ⟨u,hu,rfl⟩) h1 h2).1 u.1 rfl h3
def o8.call{P:Program}{o:Oper}{T:Nat->A}{m:Mem}{u:List (Nat×R)}{c:Call}{f:FuncId}{as:List A}{r:Rt}(ho:o.op=.call c)(hc:mO T c=some (f,as))(hp:aJ P f as m r (aH m u)):o8 P o T m [(r,u)]:=by
 intro ro N M0 S0 w0 ρ a w h cX next Q hn
 have⟨vs,hr,hd⟩:=aCB h ho hc hp.1;refine W7 (by unfold jO;rw[ho]) hr ((hp.2 N T M0 S0 w0 ρ a w h cX vs hd).mono ?_);rintro e w' ⟨ρ',h1,h2,h3⟩;cases r with
 |ok v=>
  obtain⟨y,rfl,h4⟩:=h3;exact .inl ⟨y,rfl,(hn (.ok v,u) y w' ρ' sM h1 h2).1 v rfl h4⟩
 |sE v=>
  obtain⟨y,rfl,h4⟩:=h3;exact .inr ⟨_,rfl,(hn (.sE v,u) y w' ρ' sM h1 h2).2 v rfl h4⟩
def uA(as:List A):Nat->A:=λn=>(as[n]?).getD .x
inductive Ex where
 |nm
 |ext(id:Nat)
 |ret
 |sE(a:A)
 deriving Inhabited
def Ex.Den(w:World)(M:Nat->Prop)(m:Mem)(ρ:Nat->Value):Ex->Exit->Prop
 |.nm,e=>e=.normal
 |.ext id,e=>e=.exit id
 |.ret,e=>e=.ret
 |.sE a,e=>∃y,e=.panic [{v:=y,recovered:=false}]/\a.Den w M m ρ y
def Ex.MQ:Ex->Bool
 |.nm=>true
 |_=>false
abbrev qU:=Ex->(Nat->A)->Mem->List DA->Prop
def eU(P:Program)(rd:Bool)(n:Nat)(c:Code)(T:Nat->A)(m:Mem)(ds:List DA)(Post:qU):Prop:=
 ∀(ro:Option Nat)(M0 S0:Nat->Prop)(w0:World)(ρ:Nat->Value)(a:Act)(w:World),ro.isSome=rd->bC M0 S0 w0 ⟨n,some ds⟩ T m ρ a w->(∀b,M0 b->b<w0.heap.size)->
  ∀Q:Exit->Act->World->Prop,(∀ex e T' m' ds' ρ' a' w',Post ex T' m' ds'->bC M0 S0 w0 ⟨n,some ds'⟩ T' m' ρ' a' w'->gL m m' ρ ρ'->ex.Den w' (dD M0 m' ρ') m' ρ' e->Q e a' w')->c.wpIn (FW ro) 0 P Q a w
section
variable{P:Program}{rd:Bool}{n:Nat}{T:Nat->A}{m:Mem}{ds:List DA}{Post:qU}
def eU.mono{Post1:qU}(h:eU P rd n c T m ds Post1)(hp:∀ex T' m' ds',Post1 ex T' m' ds'->Post ex T' m' ds'):eU P rd n c T m ds Post:=by
 intro ro M0 S0 w0 ρ a w wB hs cX Q hQ;exact h ro M0 S0 w0 ρ a w wB hs cX Q λex e T' m' ds' ρ' a' w' q=>hQ ex e T' m' ds' ρ' a' w' (hp _ _ _ _ q)
def eU.skip(h:Post .nm T m ds):eU P rd n .skip T m ds Post:=by
 intro ro M0 S0 w0 ρ a w wB hs cX Q hQ;exact wpIn_skip (hQ .nm _ T m ds ρ a w h hs (gL.refl m ρ) rfl)
def eU.label{l:Nat}(h:Post .nm T m ds):eU P rd n (.label l) T m ds Post:=by
 intro ro M0 S0 w0 ρ a w wB hs cX Q hQ;exact wpIn_label (hQ .nm _ T m ds ρ a w h hs (gL.refl m ρ) rfl)
def eU.exit{id:Nat}(h:Post (.ext id) T m ds):eU P rd n (.exit id) T m ds Post:=by
 intro ro M0 S0 w0 ρ a w wB hs cX Q hQ;exact wpIn_exit (hQ (.ext id) _ T m ds ρ a w h hs (gL.refl m ρ) rfl)
def eU.ret(h:Post .ret T m ds):eU P rd n .ret T m ds Post:=by
 intro ro M0 S0 w0 ρ a w wB hs cX Q hQ;exact wpIn_ret (hQ .ret _ T m ds ρ a w h hs (gL.refl m ρ) rfl)
def BX{ex:Ex}{e:Exit}(h:ex.Den w M m ρ e):(ex.MQ=true->ex=.nm/\e=.normal)/\(ex.MQ=false->e≠.normal):=by
 cases ex with
 |nm=>exact⟨λ_=>⟨rfl,h⟩,λq=>by cases q⟩
 |ext id=>exact⟨λq=>(by cases q),λ_=>by rw[h];simp⟩
 |ret=>exact⟨λq=>(by cases q),λ_=>by rw[h];simp⟩
 |sE a=>exact⟨λq=>(by cases q),λ_=>by have⟨y,h,_⟩:=h;rw[h];simp⟩
def eU.seq{x y:Code}{Post1:qU}(h:eU P rd n x T m ds Post1)(h1:∀T' m' ds',Post1 .nm T' m' ds'->eU P rd n y T' m' ds' Post)(h2:∀ex T' m' ds',ex.MQ=false->Post1 ex T' m' ds'->Post ex T' m' ds'):eU P rd n (.seq x y) T m ds Post:=by
 intro ro M0 S0 w0 ρ a w wB hs cX Q hQ;refine wpIn_seq (h ro M0 S0 w0 ρ a w wB hs cX _ ?_);intro ex e T' m' ds' ρ' a' w' hp h' hO hd;cases hx:ex.MQ with
 |true=>
  obtain⟨rfl,rfl⟩:=(BX hd).1 hx;exact h1 T' m' ds' hp ro M0 S0 w0 ρ' a' w' wB h' cX Q λex e T2 m2 ds2 ρ2 a2 w2 q s o=>hQ ex e T2 m2 ds2 ρ2 a2 w2 q s (hO.trans o)
 |false=>
  have hZ:=(BX hd).2 hx;have:=hQ ex e T' m' ds' ρ' a' w' (h2 ex T' m' ds' hx hp) h' hO hd;cases e<;>first|exact this|exact absurd rfl hZ
def eU.cond{c:Operand}{x y:Code}{b:Bool}(hc:dN T c=.d (.v (.bool b)))(h:eU P rd n (if b then x else y) T m ds Post):eU P rd n (.cond c x y) T m ds Post:=by
 intro ro M0 S0 w0 ρ a w wB hs cX Q hQ;have hd:=cU hs c;rw[hc]at hd;simp[A.Den,C.Den]at hd;exact wpIn_cond hd (h ro M0 S0 w0 ρ a w wB hs cX Q hQ)
def u6(id:Nat):Ex->Ex
 |.ext i=>if i=id then .nm else .ext i
 |e=>e
def eU.block{id:Nat}{c:Code}{Post1:qU}(h:eU P rd n c T m ds Post1)(h1:∀ex T' m' ds',Post1 ex T' m' ds'->Post (u6 id ex) T' m' ds'):eU P rd n (.block id c) T m ds Post:=by
 intro ro M0 S0 w0 ρ a w wB hs cX Q hQ;refine wpIn_block (h ro M0 S0 w0 ρ a w wB hs cX _ ?_);intro ex e T' m' ds' ρ' a' w' hp h' hO hd;have:=λe=>hQ _ e T' m' ds' ρ' a' w' (h1 ex T' m' ds' hp) h' hO;cases ex with
 |ext id'=>
  simp[Ex.Den]at hd;subst hd;simp[Exit.inBlock,u6]at this⊢;by_cases e:id'=id
  ·simp[e,if_true]at this⊢;exact this _ rfl
  ·simp[e,if_false]at this⊢;exact this _ rfl
 |nm=>simp[Ex.Den]at hd;subst hd;exact this _ rfl
 |ret=>simp[Ex.Den]at hd;subst hd;exact this _ rfl
 |sE v=>obtain⟨y,rfl,hy⟩:=hd;exact this _ ⟨y,rfl,hy⟩
def BT(P:Program)(rd:Bool)(n:Nat)(c:Code)(Post:qU):Nat->(Nat->A)->Mem->List DA->Prop
 |0,_,_,_=>False
 |k+1,T,m,ds=>∃Post1,eU P rd n c T m ds Post1/\(∀T' m' ds',Post1 .nm T' m' ds'->BT P rd n c Post k T' m' ds')/\∀ex T' m' ds',ex.MQ=false->Post1 ex T' m' ds'->Post ex T' m' ds'
def wpIn_loop_ghost{F:Fence}{Q:Exit->Act->World->Prop}(I:Nat->Act->World->Prop)(k:Nat)(h0:I k a w)
 (round:∀j a w,I j a w->c.wpIn F n P (Exit.then (λa' w'=>∃i,i<j/\I i a' w') Q) a w):(Code.loop c).wpIn F n P Q a w:=by
 intro b kk cs wB hb hr;have key:∀j a w,I j a w->
  ∃e a' w',Q e a' w'/\ArrivesIn (Machine.fenced P F) P (lone (b.atR a (.code c::.inLoop c::kk)) cs w) b kk cs e a' w':=by
  intro j;induction j using Nat.strongRecOn with
  |_ j ih=>
   intro a w hI;have⟨e,a₁,w₁,hq,aWS⟩:=round j a w hI b (.inLoop c::kk) cs wB hb hr;cases e with
   |normal=>
    have⟨i,cX,hI₁⟩:=hq;have⟨e₂,a₂,w₂,hq₂,aYT⟩:=ih i cX a₁ w₁ hI₁;exact⟨e₂,a₂,w₂,hq₂,.of_steps (StepsIn.trans aWS (.one (fenced_calm hb hr rfl) stepR_inLoop)) aYT⟩
   |exit id=>exact⟨_,a₁,w₁,hq,.pass (x:=.inLoop c) rfl (λ_ _=>.inl sM) aWS⟩
   |goto l=>exact⟨_,a₁,w₁,hq,.pass (x:=.inLoop c) rfl (λ_ _=>.inl sM) aWS⟩
   |ret=>exact⟨_,a₁,w₁,hq,.pass (x:=.inLoop c) rfl (λ_ _=>.inl sM) aWS⟩
   |panic ch=>exact⟨_,a₁,w₁,hq,.pass (x:=.inLoop c) rfl (λ_ _=>.inl sM) aWS⟩
   |outgrown=>exact⟨_,a₁,w₁,hq,.pass (x:=.inLoop c) rfl (λ_ _=>.inl sM) aWS⟩
 have⟨e,a',w',hq,aWS⟩:=key k a w h0;exact⟨e,a',w',hq,.of_steps (.one (fenced_calm hb hr rfl) stepR_loop) aWS⟩
def eU.loop{c:Code}{k:Nat}(h:BT P rd n c Post k T m ds):eU P rd n (.loop c) T m ds Post:=by
 intro ro M0 S0 w0 ρ a w wB hs cX Q hQ;refine wpIn_loop_ghost (λj a' w'=>∃T' m' ds' ρ',BT P rd n c Post j T' m' ds'/\bC M0 S0 w0 ⟨n,some ds'⟩ T' m' ρ' a' w'/\gL m m' ρ ρ') k ⟨T,m,ds,ρ,h,hs,gL.refl m ρ⟩ ?_;rintro j a' w' ⟨T',m',ds',ρ',hL,hs',hO⟩;cases j with
 |zero=>exact hL.elim
 |succ j=>
  have⟨Post1,h1,h2,h3⟩:=hL;refine h1 ro M0 S0 w0 ρ' a' w' wB hs' cX _ ?_;intro ex e T2 m2 ds2 ρ2 a2 w2 hp h' hO2 hd;cases hx:ex.MQ with
  |true=>
   obtain⟨rfl,rfl⟩:=(BX hd).1 hx;exact⟨j,Nat.lt_succ_self j,T2,m2,ds2,ρ2,h2 T2 m2 ds2 hp,h',hO.trans hO2⟩
  |false=>
   have hZ:=(BX hd).2 hx;have:=hQ ex e T2 m2 ds2 ρ2 a2 w2 (h3 ex T2 m2 ds2 hx hp) h' (hO.trans hO2) hd;cases e<;>first|exact this|exact absurd rfl hZ
def OpD(P:Program)(o:Oper)(T:Nat->A)(m:Mem)(da:DA):Prop:=
 ∀(N:Fr)(M0 S0:Nat->Prop)(w0:World)(ρ:Nat->Value)(a:Act)(w:World),bC M0 S0 w0 N T m ρ a w->∃d,(execOp a.eval o).run P w=.ok (.defer d) w/\iM w (dD M0 m ρ) m ρ [da] [d]
def O9{da:DA}{d:Deferred}{l:List DA}{ds:List Deferred}(h:iM w M m ρ [da] [d])(hl:iM w M m ρ l ds):iM w M m ρ (da::l) (d::ds):=by
 cases da with
 |call f as cs=>
  have⟨vs,us,rest,e,h1,h2,h3⟩:=h;simp[iM]at h3;subst h3;simp[iX,and_true]at e;subst e;exact⟨vs,us,ds,rfl,h1,h2,hl⟩
 |bi b tys ty cs as=>
  have⟨vs,rest,e,h1,h3⟩:=h;simp[iM]at h3;subst h3;simp[iX,and_true]at e;subst e;exact⟨vs,ds,rfl,h1,hl⟩
 |s4 i=>
  have⟨D,rest,e,h1,h3⟩:=h;simp[iM]at h3;subst h3;simp[iX,and_true]at e;subst e;exact⟨D,ds,rfl,h1,hl⟩
 |SK d=>
  have⟨rest,e,h3⟩:=h;simp[iM]at h3;subst h3;simp[iX,and_true]at e;subst e;exact⟨ds,rfl,hl⟩
def wO(P:Program)(rd:Bool)(n:Nat)(ops:Array Oper)(Post:qU):List Nat->(Nat->A)->Mem->List DA->Prop
 |[],T,m,ds=>Post .nm T m ds
 |i::r,T,m,ds=>match ops[i]? with
  |none=>wO P rd n ops Post r T m ds
  |some o=>(∀d,o.dst=some d->d<n)/\match kO ops T o with
   |some true=>(∃outs:List Ot,o8 P o T m outs/\∀u∈outs,(∀v,u.1=.ok v->wO P rd n ops Post r (lI T o.dst v) (aH m u.2) ds)/\∀v,u.1=.sE v->Post (.sE v) T (aH m u.2) ds)\/
    (rd=false/\∃da,OpD P o T m da/\wO P rd n ops Post r (lI T o.dst (.eL [])) m (da::ds))
   |some false=>wO P rd n ops Post r (lI T o.dst (.eL [])) m ds
   |none=>False
def bC.defer{M0 S0:Nat->Prop}{w0:World}(h:bC M0 S0 w0 ⟨n,some ds⟩ T m ρ a w){da:DA}{d:Deferred}(hd:iM w (dD M0 m ρ) m ρ [da] [d]):bC M0 S0 w0 ⟨n,some (da::ds)⟩ T m ρ {a with defers:=d::a.defers} w:=
 {keeps:=h.keeps,size:=h.size,defers:=λds' e=>by simp[aA]at e;subst e;exact O9 hd (h.defers ds rfl),tmps:=h.tmps,res:=h.res,own:=h.own,apart:=h.apart}
def KX{ops:Array Oper}{ro:Option Nat}(wB:ro.isSome=rd){M0 S0:Nat->Prop}{w0:World}(cX:∀b,M0 b->b<w0.heap.size){Q:Exit->Act->World->Prop}{m0:Mem}{ρ0:Nat->Value}
 (hQ:∀ex e T' m' ds' ρ' a' w',Post ex T' m' ds'->bC M0 S0 w0 ⟨n,some ds'⟩ T' m' ρ' a' w'->gL m0 m' ρ0 ρ'->ex.Den w' (dD M0 m' ρ') m' ρ' e->Q e a' w'):
 ∀(l:List Nat)(T:Nat->A)(m:Mem)(ds:List DA)(ρ:Nat->Value)(a:Act)(w:World),wO P rd n ops Post l T m ds->bC M0 S0 w0 ⟨n,some ds⟩ T m ρ a w->gL m0 m ρ0 ρ->wpOpsIn (FW ro) 0 P ops Q l a w
 |[],T,m,ds,ρ,a,w,h,hs,hO=>hQ .nm _ T m ds ρ a w h hs hO rfl
 |i::r,T,m,ds,ρ,a,w,h,hs,hO=>by
  simp only[wO]at h;simp only[wpOpsIn];cases ho:ops[i]? with
  |none=>rw[ho]at h;exact KX wB cX hQ r T m ds ρ a w h hs hO
  |some o=>
   rw[ho]at h;obtain⟨hd,h⟩:=h;cases hw:kO ops T o with
   |none=>rw[hw]at h;exact h.elim
   |some b=>
    rw[hw]at h;simp[L8 hs hw];cases b with
    |true=>
     simp[if_true];rcases h with⟨outs,h1,h2⟩|⟨hrd,da,h1,h2⟩
     ·refine h1 ro ⟨n,some ds⟩ M0 S0 w0 ρ a w hs cX _ Q ?_;intro u y w' ρ' hu hs' hO';refine⟨λv e hv=>?_,λv e hv=>?_⟩
      ·exact KX wB cX hQ r _ _ ds ρ' _ w' ((h2 u hu).1 v e) (hs'.put _ (λd e=>hd d e) hv) (hO.trans hO')
      ·exact hQ (.sE v) _ _ _ ds ρ' _ w' ((h2 u hu).2 v e) hs' (hO.trans hO') ⟨y,rfl,hv⟩
     ·have⟨d,hr,aWJ⟩:=h1 _ M0 S0 w0 ρ a w hs;have a05:ro=none:=by cases ro with
       |none=>rfl
       |some _=>rw[hrd]at wB;cases wB
      subst a05;refine⟨λ_ _=>trivial,?_⟩;rw[show(FW none).round=none from rfl,Oper.semAt_none,hr,Oper.uponIn_defer];exact KX wB cX hQ r _ m _ ρ _ w h2 ((hs.defer aWJ).put _ (λd e=>hd d e) (by simp[A.Den];exact⟨#[],rfl,rfl⟩)) hO
    |false=>
     simp[bY,if_false];exact⟨λ_ _=>trivial,KX wB cX hQ r _ m ds ρ _ w h (hs.put _ (λd e=>hd d e) (by simp[A.Den];exact⟨#[],rfl,rfl⟩)) hO⟩
def eU.region{id:Nat}{ops:Array Oper}(h:wO P rd n ops Post (List.range ops.size) T m ds):eU P rd n (.region id ops false) T m ds Post:=by
 intro ro M0 S0 w0 ρ a w wB hs cX Q hQ;exact wpIn_region (KX wB cX hQ _ T m ds ρ a w h hs (gL.refl m ρ))
def eU.draw{ops:Array Oper}{recs:List Rec}{anc:Nat->Nat->Bool}{F:Nat->Nat->Prop}{Rq:Nat->Mem->Prop}(hm:P.follows .mixedOrders=true)(hok:RL P ops recs anc F Rq n T m)(h:Post .nm (mK T recs) (kZ m recs) ds):eU P rd n (.region id ops true) T m ds Post:=by
 intro ro M0 S0 w0 ρ a w wB hs cX Q hQ;exact T5 (N:=⟨n,some ds⟩) hm hok cX hs λa' w' ρ' h' hO=>hQ .nm _ _ _ ds ρ' a' w' h h' hO rfl
end
def sY(P:Program)(fn:Func)(tmps:Array Value)(R:Ending->World->Prop):List Deferred->FrameMode->World->Prop
 |[],.returning,w=>∃v,(results fn tmps).run P w=.ok v w/\R (.returned v) w
 |[],.panicking chain,w=>R (.panicked chain) w
 |[],.run,_=>False
 |d::ds,u,w=>u≠.run/\
   ((∃r w',d.target=.collected r/\(Instr.takeDeferred r).run P w=.ok [] w'/\sY P fn tmps R ds u w')\/
    (∃fv cap f args,d.target=.fn fv cap/\(invoke d.target d.args).run P w=.ok (.enter f args) w/\
     CallsD P f args u w λ
      |.returned _,u',w'=>sY P fn tmps R ds (settle u') w'
      |.panicked chain,u',w'=>sY P fn tmps R ds (raised u' chain) w'
      |.outgrown,_,w'=>R .outgrown w')\/
    (∃b tys ty cs v w',d.target=.builtin b tys ty cs/\(invoke d.target d.args).run P w=.ok (.value v) w'/\sY P fn tmps R ds u w'))
def aFT{fr:Frame}{cs:List Frame}{d:Deferred}{ds:List Deferred}{b:Builtin}{tys:Array TypeId}{ty:TypeId}{bs:Array Bool}{v:Value}
 (hm:fr.mode≠.run)(hd:fr.defers=d::ds)(ht:d.target=.builtin b tys ty bs)(hk:(invoke d.target d.args).run P w=.ok (.value v) w'):
 step P (lone fr cs w)=.next (lone {fr with defers:=ds} cs w'):=by
 have⟨t,a⟩:=d;simp only at ht hk;subst ht;refine step_lone_go ?_;cases aYG:fr.mode with
 |run=>exact absurd aYG hm
 |returning=>simp[stepG,unwind,callDeferred,aYG,hd,hk]
 |panicking chain=>simp[stepG,unwind,callDeferred,aYG,hd,hk]
def WX{fr:Frame}{cs:List Frame}{d:Deferred}{r:Nat}{ds:List Deferred}
 (hm:fr.mode≠.run)(hd:fr.defers=d::ds)(ht:d.target=.collected r)(hk:(Instr.takeDeferred r).run P w=.ok [] w'):
 step P (lone fr cs w)=.next (lone {fr with defers:=ds} cs w'):=by
 have⟨t,a⟩:=d;simp only at ht;subst ht;refine step_lone_go ?_;cases aYG:fr.mode with
 |run=>exact absurd aYG hm
 |returning=>simp[stepG,unwind,aYG,hd,Sem.runT_eq,hk,rO]
 |panicking chain=>simp[stepG,unwind,aYG,hd,Sem.runT_eq,hk,rO]
def lE{P:Program}{fn:Func}{tmps:Array Value}{R:Ending->World->Prop}:∀(ds:List Deferred)(u:FrameMode)(w:World)(fr:Frame)(cs:List Frame),
 fr.mode=u->fr.defers=ds->fr.tmps=tmps->P.funcs[fr.fn]?=some fn->fr.kind=.normal->sY P fn tmps R ds u w->
 ∃e w' fr',R e w'/\Comes P (lone fr cs w) (lone fr' cs w') e/\fr'.fn=fr.fn/\fr'.leaving P w' e
 |[],u,w,fr,cs,hu,hd,ht,hf,hk,h=>by
  cases u with
  |run=>exact h.elim
  |returning=>
   obtain⟨v,hr,hR⟩:=h;exact⟨.returned v,w,fr,hR,Steps.refl _ _,rfl,hu,hd,hk,fn,hf,ht▸hr⟩
  |panicking chain=>exact⟨.panicked chain,w,fr,h,Steps.refl _ _,rfl,hu,hd,fn,hf⟩
 |d::ds,u,w,fr,cs,hu,hd,ht,hf,hk,h=>by
  have⟨aVL,h⟩:=h;rcases h with⟨r,w',aZ3,aX3,aZZ⟩|⟨fv,cap,f,args,aZ3,hinv,aVN⟩|⟨b,tys,ty,bs,v,w',aZ3,hinv,aZZ⟩
  rotate_left 2
  ·have h1:=aFT (cs:=cs) (hu▸aVL) hd aZ3 hinv;have⟨e',w'',fr',hR',hs',aY1,qK⟩:=lE ds u w' {fr with defers:=ds} cs hu rfl ht hf hk aZZ;exact⟨e',w'',fr',hR',lW (.one h1) hs',aY1,qK⟩
  ·have h1:=WX (cs:=cs) (hu▸aVL) hd aZ3 aX3;have⟨e',w'',fr',hR',hs',aY1,qK⟩:=lE ds u w' {fr with defers:=ds} cs hu rfl ht hf hk aZZ;exact⟨e',w'',fr',hR',lW (.one h1) hs',aY1,qK⟩
  ·have h1:=step_defer (cs:=cs) (hu▸aVL) hd aZ3 hinv;have⟨e,u',w',frX,hR,aX7,hkX,hgo⟩:=aVN {fr with defers:=ds} cs hu;cases e with
   |outgrown=>exact⟨.outgrown,w',fr,hR,Outgrown.of_steps (.one h1) aX7,rfl,tV⟩
   |returned v=>
    have h2:=step_going_returned (c:={{fr with defers:=ds}with mode:=u'}) (cs:=cs) hkX hgo;have⟨e',w'',fr',hR',hs',aY1,qK⟩:=lE ds (settle u') w' {{{fr with defers:=ds}with mode:=u'}with mode:=settle u'} cs rfl rfl ht hf hk hR;exact⟨e',w'',fr',hR',lW (.head h1 (n7 aX7 (.one h2))) hs',aY1,qK⟩
   |panicked chain=>
    have h2:=step_going_panicked (c:={{fr with defers:=ds}with mode:=u'}) (cs:=cs) hgo;have⟨e',w'',fr',hR',hs',aY1,qK⟩:=lE ds (raised u' chain) w' {{{fr with defers:=ds}with mode:=u'}with mode:=raised u' chain} cs rfl rfl ht hf hk hR;exact⟨e',w'',fr',hR',lW (.head h1 (n7 aX7 (.one h2))) hs',aY1,qK⟩
def aLP(P:Program)(fn:Func)(R:Ending->World->Prop):Exit->Act->World->Prop
 |.normal,a,w|.ret,a,w=>sY P fn a.tmps R a.defers .returning w
 |.panic chain,a,w=>sY P fn a.tmps R a.defers (.panicking chain) w
 |_,_,_=>False
def DE{f:FuncId}{fn:Func}{args:Array Value}{R:Ending->World->Prop}(hf:P.funcs[f]?=some fn)(hb:fn.body=some c)
 (h:c.wpIn (FW none) 0 P (aLP P fn R) {tmps:=args++Array.replicate (fn.ntmps -args.size) undef,defers:=[]} w):Calls P f args w R:=by
 have h:=wpIn_wide.1 h;intro cs;let b:Frame:={(default:Frame)with fn:=f,kind:=.normal};have aYP:Frame.enter P f args .normal=b.at {tmps:=args++Array.replicate (fn.ntmps -args.size) undef,defers:=[]} [.code c]:=by
  simp[Frame.enter,Frame.at,hf,hb,b]
 have⟨e,a',w',hq,aWS⟩:=h b [] cs;rw[<-aYP]at aWS;cases e with
 |normal=>
  have⟨e',w'',fr',hR,hs,hfn,hl⟩:=lE a'.defers .returning w' {b.at a' []with mode:=.returning} cs rfl rfl rfl hf rfl hq;exact⟨e',w'',fr',hR,lW (n7 aWS (.one step_end)) hs,hfn,hl⟩
 |ret=>
  have⟨todo,hs₀⟩:=aWS;have⟨e',w'',fr',hR,hs,hfn,hl⟩:=lE a'.defers .returning w' {b.at a' todo with mode:=.returning} cs rfl rfl rfl hf rfl hq;exact⟨e',w'',fr',hR,lW hs₀ hs,hfn,hl⟩
 |panic chain=>
  have⟨todo,hs₀⟩:=aWS;have⟨e',w'',fr',hR,hs,hfn,hl⟩:=lE a'.defers (.panicking chain) w' {b.at a' todo with mode:=.panicking chain} cs rfl rfl rfl hf rfl hq;exact⟨e',w'',fr',hR,lW hs₀ hs,hfn,hl⟩
 |exit id=>exact hq.elim
 |goto l=>exact hq.elim
 |outgrown=>exact hq.elim
def bC.cut{M0 S0:Nat->Prop}{w0:World}{N:Fr}{m3:Mem}{ρ':Nat->Value}(hs:bC M0 S0 w0 N T m ρ a w)(h1:bC M0 S0 w0 N T m3 ρ' a w')(hO:gL m m3 ρ ρ')
 {u:List (Nat×R)}{v:A}{y:Value}(aVM:∀i r,aH m u i=some r->m3 i=some r)(hv:∀i∈v.hs,aH m u i≠none)(hc:∀p∈u,∀j∈p.2.hs,aH m u j≠none)(aWJ:v.Den w' (dD M0 m3 ρ') m3 ρ' y):
 bC M0 S0 w0 N T (aH m u) ρ' a w'/\gL m (aH m u) ρ ρ'/\v.Den w' (dD M0 (aH m u) ρ') (aH m u) ρ' y:=by
 have aZ9:∀i,m i≠none->aH m u i≠none:=λi hi=>tH hi
 have h2:=h1.drop aVM (λn i hi=>aZ9 i (A.wC _ _ (hs.tmps n) i hi)) (λds e d hd i hi=>aZ9 i (zQ (hs.defers ds e) d hd i hi)) (λi r hi j hj=>by
  rcases C8 hi with q|q
  · exact hc _ q j hj
  · exact aZ9 j (R.wC (hs.res i r q) j hj))
 refine⟨h2,?_,?_⟩
 ·intro i hi;have hZ:=aZ9 i hi;cases hq:aH m u i with
  |none=>exact absurd hq hZ
  |some r=>
   have:=hO i hi;rw[aVM i r hq]at this;exact⟨sM,this.2⟩
 ·have Q2:∀b,dD M0 (aH m u) ρ' b->b<w'.heap.size->dD M0 m3 ρ' b:=by
   rintro b (e|⟨i,r,g1,g2,g3⟩) _
   ·exact .inl e
   ·exact .inr ⟨i,r,aVM i r g1,g2,g3⟩
  exact A.dC (dV.refl _ w') Q2 (gL.refl _ ρ') _ _ (A.kU aVM _ _ hv aWJ)
def bC.take{M0 S0:Nat->Prop}{w0:World}{ds:List DA}(h:bC M0 S0 w0 ⟨n,some (.s4 i::ds)⟩ T m ρ a w)(hi:m i=some (.df false)):
 ∃D dr w',a.defers={target:=.collected D,args:= #[]}::dr/\(Instr.takeDeferred D).run P w=.ok [] w'/\bC M0 S0 w0 ⟨n,some ds⟩ T (aX m i (.df true)) ρ {a with defers:=dr} w'/\gL m (aX m i (.df true)) ρ ρ:=by
 have⟨D,dr,e,hh,hr⟩:=h.defers _ rfl;have hρ:=eH hh hi sM;have⟨b,hb,hw⟩:=h.res i _ hi;rw[hρ]at hb;simp[oN,aA,rX,and_true]at hb;subst hb;simp[bY,if_false]at hw;refine⟨D,dr,w.gW D (.deferred none),e,?_,?_,?_⟩
 ·have e1:(getObj D).run P w=.ok (.deferred (some [])) w:=by simp[getObj,hw,Sem.run]
  unfold Instr.takeDeferred;simp[aV,e1,aN];rw[uN hw (by intro c e f h;cases h)];simp[aN]
 ·have h':bC M0 S0 w0 ⟨n,some ds⟩ T m ρ {a with defers:=dr} w:=
   {keeps:=h.keeps,size:=h.size,defers:=λds' e'=>by simp[aA]at e';subst e';exact hr,tmps:=h.tmps,res:=h.res,own:=h.own,apart:=h.apart}
  refine h'.write hi rfl rfl (λfz t es l e=>by cases e) (mJ w D _) (λb _ e=>by subst e;rw[hρ];rfl) ?_;intro _ _ _;exact⟨D,hρ,by simpa using tS hw⟩
 ·exact gL.set (m:=m) (ρ:=ρ) i (.df true) (ρ i) (λ_ _=>⟨by rw[hi];simp,rfl,λfz t es l e=>by rw[hi]at e;cases e⟩)|>λq=>by rwa [jP]at q
mutual
def A.lU{f g:Nat->Nat}:∀(a:A),(∀i∈a.hs,f i=g i)->a.eZ f=a.eZ g
 |.d c,_=>rfl
 |.lp i o,hh=>by simp[A.eZ];rw[hh i (by simp[A.hs])]
 |.h i,hh=>by simp[A.eZ];rw[hh i (by simp[A.hs])]
 |.ep i e k o,hh=>by simp[A.eZ];rw[hh i (by simp[A.hs])]
 |.sv i l n,hh=>by simp[A.eZ];rw[hh i (by simp[A.hs])]
 |.fn f' u v,hh=>by
  simp[A.hs,bN]at hh;simp only[A.eZ];rw[A.mL u λi hi=>hh i (.inl hi),A.mL v λi hi=>hh i (.inr hi)]
 |.agg l,hh=>by simp[A.hs]at hh;simp[A.eZ];rw[A.mL l hh]
 |.eL l,hh=>by simp[A.hs]at hh;simp[A.eZ];rw[A.mL l hh]
 |.AE t a,hh=>by simp[A.hs]at hh;simp[A.eZ];rw[A.lU a hh]
 |.x,_=>rfl
def A.mL{f g:Nat->Nat}:∀(l:List A),(∀i∈A.lQ l,f i=g i)->A.iV f l=A.iV g l
 |[],_=>rfl
 |c::r,hh=>by
  simp[A.lQ,bN]at hh;simp only[A.iV];rw[A.lU c λi hi=>hh i (.inl hi),A.mL r λi hi=>hh i (.inr hi)]
end
mutual
def A.uS:∀(a:A),a.eZ (λi=>i)=a
 |.d c=>rfl
 |.lp i o=>rfl
 |A.h i=>rfl
 |.ep i e k o=>rfl
 |.sv i l n=>rfl
 |.fn f u v=>by simp only[A.eZ];rw[A.tE u,A.tE v]
 |.agg l=>by simp[A.eZ];rw[A.tE l]
 |.eL l=>by simp[A.eZ];rw[A.tE l]
 |.AE t a=>by simp[A.eZ];rw[A.uS a]
 |.x=>rfl
def A.tE:∀(l:List A),A.iV (λi=>i) l=l
 |[]=>rfl
 |c::r=>by simp only[A.iV];rw[A.uS c,A.tE r]
end
mutual
def A.AD(g:Nat->Nat):∀(a:A),(a.eZ g).hs=a.hs.map g
 |.d c=>rfl
 |.lp i o=>rfl
 |.h i=>rfl
 |.ep i e k o=>rfl
 |.sv i l n=>rfl
 |.fn f u v=>by simp[A.eZ,A.hs,A.qL g u,A.qL g v,bP]
 |.agg l=>by simp[A.eZ,A.hs,A.qL g l]
 |.eL l=>by simp[A.eZ,A.hs,A.qL g l]
 |.AE t a=>by simp[A.eZ,A.hs,A.AD g a]
 |.x=>rfl
def A.qL(g:Nat->Nat):∀(l:List A),A.lQ (A.iV g l)=(A.lQ l).map g
 |[]=>rfl
 |c::r=>by simp[A.iV,A.lQ,A.AD g c,A.qL g r,bP]
end
def YD:∀(a b:List A),A.lQ (a++b)=A.lQ a++A.lQ b
 |[],b=>rfl
 |c::r,b=>by simp[A.lQ,YD r b]
def uR{f g:Nat->Nat}:∀(l:List (List A)),(∀i∈A.lQ l.flatten,f i=g i)->l.map (A.iV f)=l.map (A.iV g)
 |[],_=>rfl
 |e::r,h=>by
  simp[dL,YD,bN]at h;simp only[aG];rw[A.mL e λi hi=>h i (.inl hi),uR r λi hi=>h i (.inr hi)]
def D7{f g:Nat->Nat}:∀(l:List (Ky×A)),(∀i∈A.lQ (l.map (·.2)),f i=g i)->(l.map λp=>(p.1,p.2.eZ f))=l.map λp=>(p.1,p.2.eZ g)
 |[],_=>rfl
 |e::r,h=>by
  simp[aG,A.lQ,bN]at h;simp only[aG];rw[A.lU e.2 λi hi=>h i (.inl hi),D7 r λi hi=>h i (.inr hi)]
def R.aKG:R->Bool
 |.it _ _ _ _=>false
 |_=>true
def R.lU{f g:Nat->Nat}(r:R)(hn:r.aKG=true)(h:∀i∈r.hs,f i=g i):r.eZ f=r.eZ g:=by
 cases r with
 |cells fz l=>simp[R.eZ];rw[A.mL l (by simpa only[R.hs]using h)]
 |fW fz t es l=>simp only[R.eZ];rw[uR l (by simpa only[R.hs]using h)]
 |mp fz kv st=>
  simp only[R.hs,bN]at h;simp only[R.eZ];rw[D7 kv λi hi=>h i (.inl hi)];congr 1;exact cQ λp hp=>by rw[h p.2 (.inr (aA4.2 ⟨p,hp,rfl⟩))]
 |fr l=>simp[R.eZ];rw[A.mL l (by simpa only[R.hs]using h)]
 |it i sc a b=>cases hn
 |lo st pend ts ps asg bod=>simp[R.eZ];rw[A.mL ts (by simpa only[R.hs]using h)]
 |cu src es l=>
  simp[R.hs,bN]at h;simp only[R.eZ];rw[A.lU src λi hi=>h i (.inl hi),uR l λi hi=>h i (.inr hi)]
 |_=>rfl
def AO:∀(l:List (List A)),l.map (A.iV λi=>i)=l
 |[]=>rfl
 |e::r=>by simp only[aG];rw[A.tE,AO r]
def R.uS(r:R):r.eZ (λi=>i)=r:=by
 cases r with
 |cells fz l=>simp[R.eZ];rw[A.tE]
 |fW fz t es l=>simp[R.eZ];rw[AO]
 |mp fz kv st=>
  simp only[R.eZ];congr 1
  ·conv=>rhs;rw[<-List.map_id kv]
   exact cQ λp _=>by rw[A.uS];rfl
  ·conv=>rhs;rw[<-List.map_id st]
   exact cQ λp _=>rfl
 |fr l=>simp[R.eZ];rw[A.tE]
 |it i sc a b=>simp[R.eZ,List.map_id']
 |lo st pend ts ps asg bod=>simp[R.eZ];rw[A.tE]
 |cu src es l=>simp only[R.eZ];rw[A.uS,AO]
 |_=>rfl
def R.AD(g:Nat->Nat)(r:R):(r.eZ g).hs=r.hs.map g:=by
 have e1:∀l:List (List A),A.lQ (l.map (A.iV g)).flatten=(A.lQ l.flatten).map g:=λl=>by rw[tD,A.qL]
 cases r with
 |cells fz l=>simp[R.eZ,R.hs,A.qL]
 |fW fz t es l=>simp[R.eZ,R.hs,e1]
 |mp fz kv st=>
  simp only[R.eZ,R.hs,bP];congr 1
  ·rw[<-A.qL,K7,bH,bH];rfl
  ·rw[bH,bH];rfl
 |fr l=>simp[R.eZ,R.hs,A.qL]
 |it i sc a b=>simp[R.eZ,R.hs,aG]
 |lo st pend ts ps asg bod=>simp[R.eZ,R.hs,A.qL]
 |cu src es l=>simp[R.eZ,R.hs,A.AD,e1,bP]
 |_=>rfl
def Rt.eZ(g:Nat->Nat):Rt->Rt
 |.ok a=>.ok (a.eZ g)
 |.sE a=>.sE (a.eZ g)
def Rt.uS(r:Rt):r.eZ (λi=>i)=r:=by cases r<;>simp[Rt.eZ,A.uS]
def Rt.AD(g:Nat->Nat)(r:Rt):(r.eZ g).hs=r.hs.map g:=by cases r<;>simp[Rt.eZ,Rt.hs,A.AD]
def Rt.lU{f g:Nat->Nat}(r:Rt)(h:∀i∈r.hs,f i=g i):r.eZ f=r.eZ g:=by
 cases r<;>simp[Rt.eZ]<;>rw[A.lU _ h]
def nK(g gi:Nat->Nat)(m:Mem):Mem:=λi=>(m (gi i)).map (R.eZ g)
def RM(m mf:Mem)(r0:Rt)(m':Mem)(r:Rt):Prop:=
 ∃g gi:Nat->Nat,(∀i,gi (g i)=i)/\(∀i,g (gi i)=i)/\(∀i,m i≠none->g i=i)/\r=r0.eZ g/\∀i q,m' i=some q->(∃q0,mf (gi i)=some q0/\q=q0.eZ g)\/(m i=some q/\mf i=some q)
def RM.refl{mf m':Mem}{r:Rt}(h:∀i q,m' i=some q->mf i=some q):RM m mf r m' r:=
 ⟨λi=>i,λi=>i,λ_=>rfl,λ_=>rfl,λ_ _=>rfl,(Rt.uS r).symm,λi q hq=>.inl ⟨q,h i q hq,(R.uS q).symm⟩⟩
section
variable{M0 S0:Nat->Prop}{w0:World}{n:Nat}{ds:List DA}{T:Nat->A}{m mf:Mem}{ρ ρ':Nat->Value}{a:Act}{w:World}
def aA2{gi:Nat->Nat}(h1:∀i,gi (g i)=i)(m:Mem)(ρ:Nat->Value):G2 g m (nK g gi m) ρ (λi=>ρ (gi i)):=by
 intro i hi;have e:nK g gi m (g i)=(m i).map (R.eZ g):=by unfold nK;rw[h1]
 cases hm:m i with
 |none=>exact absurd hm hi
 |some r=>
  rw[hm]at e;refine⟨by rw[e];simp,λhd=>⟨?_,by simp[h1],?_⟩⟩
  ·rintro e2;simp[aA]at e2;subst e2;exact hd (by rw[e];rfl)
  ·rintro fz t es l e2;simp[aA]at e2;subst e2;exact⟨fz,t,l.map (A.iV g),by rw[e];rfl,sM⟩
def bC.eZ{N:Fr}(s:bC M0 S0 w0 N T mf ρ a w){g gi:Nat->Nat}(h1:∀i,gi (g i)=i)(h2:∀i,g (gi i)=i):
 bC M0 S0 w0 ⟨N.n,none⟩ (λ_=>.x) (nK g gi mf) (λi=>ρ (gi i)) a w/\∀(v:A)(y:Value),v.Den w (dD M0 mf ρ) mf ρ y->(v.eZ g).Den w (dD M0 (nK g gi mf) (λi=>ρ (gi i))) (nK g gi mf) (λi=>ρ (gi i)) y:=by
 have hO:=aA2 h1 mf ρ;have live:∀i r,nK g gi mf i=some r->∃r0,mf (gi i)=some r0/\r=r0.eZ g/\r.live=r0.live:=by
  intro i r hr;unfold nK at hr;simp[bU]at hr;obtain⟨r0,e,rfl⟩:=hr;exact⟨r0,e,rfl,R.aEV g r0⟩
 have hM:∀b,dD M0 (nK g gi mf) (λi=>ρ (gi i)) b->b<w.heap.size->dD M0 mf ρ b:=by
  rintro b (e|⟨i,r,hi,hl,hb⟩) _
  ·exact .inl e
  ·have⟨r0,e1,e2,e3⟩:=live i r hi;exact .inr ⟨gi i,r0,e1,by rw[<-e3];exact hl,hb⟩
 have hg:∀i j,g i=g j->i=j:=λi j e=>by rw[<-h1 i,e,h1]
 refine⟨?_,λv y hd=>A.C6 (dV.refl _ w) hM hO v y hd⟩
 refine{keeps:=s.keeps,size:=s.size,defers:=(λ_ e=>by cases e),tmps:=λ_=>by simp[A.Den]
        res:=λi r hi=>?_,own:=λi r b hi hl hb=>?_,apart:=λi j r r' b hi hl hj qK hb hb'=>?_}
 ·obtain⟨r0,e1,rfl,_⟩:=live i r hi;exact R.aGI hg (dV.refl _ w) hM hO (λ_ _ _=>rfl) (s.res _ r0 e1)
 ·obtain⟨r0,e1,rfl,e3⟩:=live i r hi;exact s.own (gi i) r0 b e1 (by rw[<-e3];exact hl) hb
 ·obtain⟨r0,e1,rfl,e3⟩:=live i r hi;obtain⟨r1,f1,rfl,f3⟩:=live j r' hj;have:=s.apart (gi i) (gi j) r0 r1 b e1 (by rw[<-e3];exact hl) f1 (by rw[<-f3];exact qK) hb hb';rw[<-h2 i,this,h2]
def TR{gi:Nat->Nat}(h1:∀i,gi (g i)=i)(aYQ:∀i,m i≠none->g i=i)(hO:gL m mf ρ ρ'):gL m (nK g gi mf) ρ (λi=>ρ' (gi i)):=by
 intro i hi;have e:=aYQ i hi;have e2:gi i=i:=by have:=h1 i;rwa [e]at this
 have⟨k1,k2⟩:=hO i hi;cases hm:mf i with
 |none=>exact absurd hm k1
 |some r=>
  have er:nK g gi mf i=some (r.eZ g):=by unfold nK;rw[e2,hm];rfl
  refine⟨by rw[er];simp,λhd=>?_⟩;have y4:mf i≠some .dead:=by
   rw[hm];rintro e3;simp[aA]at e3;subst e3;exact hd (by rw[er];rfl)
  have⟨k3,k4,k5⟩:=k2 y4;refine⟨k3,by simp[e2,k4],λfz t es l e3=>?_⟩;have⟨fz',t',l',e4,e5⟩:=k5 fz t es l e3;rw[hm]at e4;simp[aA]at e4;subst e4;exact⟨fz',t',l'.map (A.iV g),by rw[er];rfl,by simpa using e5⟩
end
def HB:∀(ps:List (Nat×Nat)),(ps.map (·.1)).Nodup->(ps.map (·.2)).Nodup->
 ∃g gi:Nat->Nat,(∀i,gi (g i)=i)/\(∀i,g (gi i)=i)/\(∀p∈ps,g p.1=p.2)/\∀i,i∉ps.map (·.1)->i∉ps.map (·.2)->g i=i
 |[],_,_=>⟨λi=>i,λi=>i,λ_=>rfl,λ_=>rfl,sM,λ_ _ _=>rfl⟩
 |p::r,h1,h2=>by
  simp only[aG,aAD]at h1 h2;obtain⟨g,gi,k1,k2,k3,k4⟩:=HB r h1.2 h2.2;have inj:∀i j,g i=g j->i=j:=λi j e=>by rw[<-k1 i,e,k1]
  let sw:Nat->Nat:=λi=>if i=g p.1 then p.2 else if i=p.2 then g p.1 else i
  have sw2:∀i,sw (sw i)=i:=by
   intro i;simp only[sw];by_cases e1:i=g p.1
   ·subst e1;simp only[if_true];by_cases e2:p.2=g p.1
    ·rw[aUF e2,e2]
    ·rw[aT7 e2]
   ·rw[aT7 e1];by_cases e2:i=p.2
    ·rw[aUF e2,aUF rfl,e2]
    ·rw[aT7 e2,aT7 e1,aT7 e2]
  refine⟨λi=>sw (g i),λi=>gi (sw i),λi=>by simp[sw2,k1],λi=>by simp[k2,sw2],?_,?_⟩
  ·intro q hq;simp[aO]at hq;rcases hq with rfl|hq
   ·simp[sw]
   ·have e1:g q.1≠g p.1:=λe=>h1.1 (by have:=inj _ _ e;rw[<-this];exact aA4.2 ⟨q,hq,rfl⟩);have e2:g q.1≠p.2:=by rw[k3 q hq];exact λe=>h2.1 (by rw[<-e];exact aA4.2 ⟨q,hq,rfl⟩)
    simp[sw,aT7 e1,aT7 e2];exact k3 q hq
  ·intro i hi hj;simp only[aG,aO,not_or]at hi hj;have e:=k4 i hi.2 hj.2;have e1:g i≠g p.1:=λq=>hi.1 (inj _ _ q);simp[sw,aT7 e1];rw[e,aT7 hj.1]
inductive Md where
 |ret
 |sE(v:A)
def Md.Den(w:World)(M:Nat->Prop)(m:Mem)(ρ:Nat->Value):Md->FrameMode->Prop
 |.ret,u=>u=.returning
 |.sE v,u=>∃y,u=.panicking [{v:=y,recovered:=false}]/\v.Den w M m ρ y
def Md.dC{w w':World}{M M':Nat->Prop}{m m':Mem}{ρ ρ':Nat->Value}(h:dV M w w')(hM:∀b,M' b->b<w.heap.size->M b)(hO:gL m m' ρ ρ'):∀{md:Md}{u:FrameMode},md.Den w M m ρ u->md.Den w' M' m' ρ' u
 |.ret,_,h1=>h1
 |.sE v,_,⟨y,e,h1⟩=>⟨y,e,A.dC h hM hO _ _ h1⟩
def pB(P:Program)(fn:Func)(T:Nat->A)(m:Mem)(ds:List DA)(md:Md)(r:Rt)(mf:Mem):Prop:=
 ∀(n:Nat)(M0 S0:Nat->Prop)(w0:World)(ρ:Nat->Value)(a:Act)(w:World)(u:FrameMode),bC M0 S0 w0 ⟨n,some ds⟩ T m ρ a w->(∀b,M0 b->b<w0.heap.size)->md.Den w (dD M0 m ρ) m ρ u->
  ∀R:Ending->World->Prop,(∀e w' ρ',bC M0 S0 w0 ⟨n,some []⟩ T mf ρ' {a with defers:=[]} w'->gL m mf ρ ρ'->r.Den w' (dD M0 mf ρ') mf ρ' e->R e w')->sY P fn a.tmps R a.defers u w
section
variable{P:Program}{fn:Func}{T:Nat->A}{m mf:Mem}{ds:List DA}{md:Md}{r:Rt}
def XG(h:a.defers=[]):{a with defers:=[]}=a:=by cases a;simp at h;subst h;rfl
def pB.ret{v:A}(h:GO P m T fn.results.toList=some v):pB P fn T m [] .ret (.ok v) m:=by
 intro n M0 S0 w0 ρ a w u hs cX hu R hR;have⟨y,k1,k2⟩:=HQ (P:=P) hs h;have hde:a.defers=[]:=hs.defers [] rfl;simp[Md.Den]at hu;subst hu;rw[hde];exact⟨y,k1,hR _ w ρ (by rw[XG hde];exact hs) (gL.refl m ρ) ⟨y,rfl,k2⟩⟩
def pB.sE{v:A}:pB P fn T m [] (.sE v) (.sE v) m:=by
 intro n M0 S0 w0 ρ a w u hs cX hu R hR;have hde:a.defers=[]:=hs.defers [] rfl;obtain⟨y,rfl,hy⟩:=hu;rw[hde];exact hR _ w ρ (by rw[XG hde];exact hs) (gL.refl m ρ) ⟨y,rfl,hy⟩
def pB.s4{i:Nat}(hi:m i=some (.df false))(h:pB P fn T (aX m i (.df true)) ds md r mf):pB P fn T m (.s4 i::ds) md r mf:=by
 intro n M0 S0 w0 ρ a w u hs cX hu R hR;have⟨D,dr,w',e,hk,h1,hO⟩:=hs.take (P:=P) hi;have hu':md.Den w' (dD M0 (aX m i (.df true)) ρ) (aX m i (.df true)) ρ u:=by
  have hsn:bC M0 (oO m ρ) w ⟨n,some (.s4 i::ds)⟩ T m ρ a w:=hs.now;have⟨D2,dr2,w2,e2,EN,h2,_⟩:=hsn.take (P:=P) hi;rw[e]at e2;simp[iX,Deferred.mk.injEq,Target.collected.injEq,and_true]at e2;have⟨rfl,rfl⟩:=e2;rw[hk]at EN;simp[Result.ok.injEq,true_and]at EN;subst EN;have⟨q1,q2⟩:=hs.evo h2;exact Md.dC q1 q2 hO hu
 have aVL:u≠.run:=by
  cases md with
  |ret=>simp[Md.Den]at hu;subst hu;simp
  |sE v=>obtain⟨y,rfl,_⟩:=hu;simp
 rw[e];refine⟨aVL,.inl ⟨D,w',rfl,hk,?_⟩⟩;exact h n M0 S0 w0 ρ {a with defers:=dr} w' u h1 cX hu' R λe w2 ρ2 s o q=>hR e w2 ρ2 s (hO.trans o) q
end
def SI:Ex->Option Md
 |.nm=>some .ret
 |.ret=>some .ret
 |.sE v=>some (.sE v)
 |.ext _=>none
def MF{f:FuncId}{fn:Func}{as:List A}{u:List (Nat×R)}{r:Rt}{Post:qU}(hf:P.funcs[f]?=some fn)(hb:fn.body=some c)(n0:kW P f=true)(hn:as.length<=fn.ntmps)
 (aYU:eU P false fn.ntmps c (uA as) m [] Post)(aYH:∀ex T' m' ds',Post ex T' m' ds'->∃md mf r0,SI ex=some md/\pB P fn T' m' ds' md r0 mf/\RM m mf r0 (aH m u) r)
 (hv:∀i∈r.hs,aH m u i≠none)(hc:∀p∈u,∀j∈p.2.hs,aH m u j≠none):aJ P f as m r (aH m u):=by
 refine⟨n0,?_⟩;intro N T M0 S0 w0 ρ a w h cX vs hd;have hlen:=(A.xJ.1 hd).1;refine DE hf hb ?_;have aVU:∀b,M0 b->b<w.heap.size:=λb hb=>cG (cX b hb) h.keeps.size;have h0:bC M0 (oO m ρ) w ⟨fn.ntmps,some []⟩ (uA as) m ρ {tmps:=vs.toArray++Array.replicate (fn.ntmps -vs.toArray.size) undef,defers:=[]} w:=
  {keeps:=iF.refl _ _,size:=by simp;omega
   defers:=λds e=>by simp at e;subst e;rfl
   tmps:=λn=>by
    unfold uA;rcases eQ n as.length with q|q
    · rw[aC q]
      have hv:n<vs.length:=oM;have e1:(vs.toArray++Array.replicate (fn.ntmps -vs.toArray.size) undef).getD n undef=vs[n]:=by
       rw[cZ,fY (by simpa using hv)];simp[hv]
      rw[e1];exact(A.xJ.1 hd).2 n _ _ (aC q) (aC hv)
    · rw[lD q]
      simp[A.Den]
   res:=h.res,own:=h.now.own,apart:=h.apart}
 refine aYU none M0 (oO m ρ) w ρ _ w rfl h0 aVU _ ?_;intro ex e T' m' ds' ρ' a' w' hp h1 hO hex;have⟨md,mf,r0,T9,hL,g,gi,hg1,hg2,aYQ,hr0,aVM⟩:=aYH ex T' m' ds' hp;subst hr0;have key:∀(e:Ending)(w2:World)(ρ2:Nat->Value),bC M0 (oO m ρ) w ⟨fn.ntmps,some []⟩ T' mf ρ2 {a' with defers:=[]} w2->gL m' mf ρ' ρ2->r0.Den w2 (dD M0 mf ρ2) mf ρ2 e->
  ∃ρ',bC M0 S0 w0 N T (aH m u) ρ' a w2/\gL m (aH m u) ρ ρ'/\(r0.eZ g).Den w2 (dD M0 (aH m u) ρ') (aH m u) ρ' e:=by
  intro e w2 ρ2 s o q;have⟨s',aWJ⟩:=s.eZ hg1 hg2;have hO':=TR hg1 aYQ (hO.trans o);have hb:=h.back s' hO';have a0P:∀i q,aH m u i=some q->nK g gi mf i=some q:=by
   intro i q hq;rcases aVM i q hq with⟨q0,e1,rfl⟩|⟨e1,e2⟩
   ·unfold nK;rw[e1];rfl
   ·have e3:=aYQ i (by rw[e1];simp);have e4:gi i=i:=by have:=hg1 i;rwa [e3]at this
    unfold nK;rw[e4,e2];have hd:=R.wC (h.res i q e1);have CL:q.eZ g=q:=by
     cases q with
     |it i' sc st se=>
      have⟨_,_,_,_,_,_,g1,g2,g3⟩:=h.res i _ e1;simp only[R.eZ];have es:st.map g=st:=by
       conv=>rhs;rw[<-List.map_id st]
       exact cQ λj hj=>aYQ j (g3.2.1 j hj)
      have ee:se.map g=se:=by
       conv=>rhs;rw[<-List.map_id se]
       exact cQ λj hj=>aYQ j (g3.2.1 j (g3.1 j hj))
      rw[es,ee,aYQ i' g1.1,aYQ sc g2.1]
     |_=>exact(R.lU (f:=g) (g:=λi=>i) _ rfl λj hj=>aYQ j (hd j hj)).trans (R.uS _)
    simp[dF,CL]
  cases r0 with
  |ok v=>
   obtain⟨y,rfl,hy⟩:=q;have⟨k1,k2,k3⟩:=h.cut hb hO' a0P hv hc (aWJ _ _ hy);exact⟨_,k1,k2,y,rfl,k3⟩
  |sE v=>
   obtain⟨y,rfl,hy⟩:=q;have⟨k1,k2,k3⟩:=h.cut hb hO' a0P hv hc (aWJ _ _ hy);exact⟨_,k1,k2,y,rfl,k3⟩
 cases ex with
 |nm=>
  simp[Ex.Den]at hex;subst hex;simp[SI,aA]at T9;subst T9;exact hL fn.ntmps M0 (oO m ρ) w ρ' a' w' _ h1 aVU rfl _ key
 |ret=>
  simp[Ex.Den]at hex;subst hex;simp[SI,aA]at T9;subst T9;exact hL fn.ntmps M0 (oO m ρ) w ρ' a' w' _ h1 aVU rfl _ key
 |sE v=>
  obtain⟨y,rfl,hy⟩:=hex;simp[SI,aA]at T9;subst T9;exact hL fn.ntmps M0 (oO m ρ) w ρ' a' w' _ h1 aVU ⟨y,rfl,hy⟩ _ key
 |ext id=>cases T9
def aKY(P:Program)(l:Nat)(R:Ending->World->Prop):Exit->Act->World->Prop
 |.normal,_,w=>∃v w',(Instr.endRound l none).run P w=.ok v w'/\R (.returned v) w'
 |.ret,_,w=>∃v w',(Instr.endRound l (some .ret)).run P w=.ok v w'/\R (.returned v) w'
 |.exit id,_,w=>∃v w',(Instr.endRound l (some (.exit id))).run P w=.ok v w'/\R (.returned v) w'
 |_,_,_=>False
def WS{ro:Option Nat}{f:FuncId}{tmps:Array Value}{R:Ending->World->Prop}
 (h:asg.wpIn (FW (some l)) 0 P (λe a₁ w₁=>e=.normal/\∃w₂,(Instr.beginRound l).run P w₁=.ok () w₂/\bod.wpIn (FW (some l)) 0 P (aKY P l R) a₁ w₂) {tmps:=tmps,defers:=[]} w):
 RoundIn (FW ro) 0 P l f tmps asg bod w R:=by
 refine⟨tV,λc cs _=>?_⟩;have hr':(FW (some l)).room ((c::cs).length+1+0):=λd e=>by cases e
 let b:Frame:={(default:Frame)with fn:=f,kind:=.normal,roundOf:=some l};have hb0:Frame.round l f tmps asg bod .normal=b.atR {tmps:=tmps,defers:=[]} [.code asg,.beginRound,.code bod]:=by
  simp[Frame.round,Frame.atR,b]
 have⟨e,a₁,w₁,⟨he,w₂,hbr,aYU⟩,aWS⟩:=h b [.beginRound,.code bod] (c::cs) rfl tV hr';subst he;rw[<-hb0]at aWS;have s0:Steps P (lone (Frame.round l f tmps asg bod .normal) (c::cs) w) (lone (b.atR a₁ [.beginRound,.code bod]) (c::cs) w₁):=aWS.steps;have s1:Steps P (lone (b.atR a₁ [.beginRound,.code bod]) (c::cs) w₁) (lone (b.atR a₁ [.code bod]) (c::cs) w₂):=.one (stepR_beginRound rfl hbr);have⟨e₂,a₂,w₃,hq₂,aYT⟩:=aYU b [] (c::cs) rfl tV hr';have fin:∀{v:Value}{w4:World},Steps P (lone (b.atR a₁ [.code bod]) (c::cs) w₂) (lone (c.finish v) cs w4)->R (.returned v) w4->∃e w',R e w'/\ComesIn (Machine.fenced P (FW ro)) P (lone (Frame.round l f tmps asg bod .normal) (c::cs) w)
  (match e with
   |.returned v=>lone (c.finish v) cs w'
   |.panicked chain=>lone (c.raise chain) cs w'
   |.outgrown=>lone c cs w') e:=by
  intro v w4 hs hR;exact⟨.returned v,w4,hR,(StepsIn.of_steps ((s0.trans s1).trans hs)).mono λm _=>fenced_wide P m⟩
 cases e₂ with
 |normal=>
  have⟨v,w₄,aXS,hR⟩:=hq₂;exact fin (n7 aYT.steps (.one (stepR_round_end rfl rfl aXS))) hR
 |ret=>
  have⟨v,w₄,aXS,hR⟩:=hq₂;have⟨k₁,hs⟩:=aYT.2 rfl;exact fin (n7 hs.steps (.one (stepR_round_ret rfl rfl aXS))) hR
 |exit id=>
  have⟨v,w₄,aXS,hR⟩:=hq₂;have⟨k₁,hk,hs⟩:=aYT.2 rfl rfl;exact fin (n7 hs.steps (.one (stepR_round_exit rfl rfl hk aXS))) hR
 |_=>exact hq₂.elim
abbrev OG(g:Operand)(l:Nat):Call:={callee:=.value g,args:= #[.const (.func (.yield l) #[] #[])],argTypes:= #[]}
def WY{b:Frame}{k:List Item}{cs:List Frame}{jump:Option Code}(h:(Instr.endLoop l).run P w=.ok jump w'):
 step P (lone (b.at a (.endRangeFunc l::k)) cs w)=.next (lone (b.at a ((jump.map Item.code).toList++k)) cs w'):=
 step_lone_go (by simp[stepG,stepG.exec,Frame.at,Sem.runT_eq,h,rO])
def aIN{b:Frame}{k:List Item}{cs:List Frame}{g:Operand}{ps:Array Tmp}{mark:List Deferred}{w₁ w₁' w₂:World}{d:Deferred}{f:FuncId}{args:Array Value}
 (he:(Instr.enterLoop b.fn a.tmps ps asg bod none).run P w=.ok (l,mark) w₁)
 (aX0:(resolve a.eval (OG g l) 0).run P w₁=.ok d w₁')(hinv:(invoke d.target d.args).run P w₁'=.ok (.enter f args) w₂):
 step P (lone (b.at a (.code (.rangeFunc g ps asg bod)::k)) cs w)=
  .next (lone (Frame.enter P f args .normal) (b.at {a with defers:=mark++a.defers} (.inRangeFunc l::k)::cs) w₂):=
 step_lone_go (by
  have hev:=Frame.eval_at' b {a with defers:=mark++a.defers} (.inRangeFunc l::k);simp[Frame.at]at hev;have a1R:Sem.run P (resolve ({tmps:=a.tmps,defers:=mark++a.defers}:Act).eval {callee:=.value g,args:= #[.const (.func (.yield l) #[] #[])],argTypes:= #[]} 0) w₁=.ok d w₁':=aX0
  simp[stepG,stepG.exec,Frame.at,Sem.runT_eq,he,rO,stepG.apply,hev,aV,a1R,hinv,Result.andThen])
def SN{b:Frame}{k:List Item}(l:Nat)(v:Value):(b.at a (.inRangeFunc l::k)).finish v=b.at a (.endRangeFunc l::k):=by
 simp[Frame.finish,Frame.at]
def RD{g:Operand}{ps:Array Tmp}{Q:Exit->Act->World->Prop}
 (h:∀fn,∃(l:Nat)(mark:List Deferred)(w₁:World)(d:Deferred)(w₁':World)(f:FuncId)(args:Array Value)(w₂:World),
   (Instr.enterLoop fn a.tmps ps asg bod none).run P w=.ok (l,mark) w₁/\(resolve a.eval (OG g l) 0).run P w₁=.ok d w₁'/\(invoke d.target d.args).run P w₁'=.ok (.enter f args) w₂/\
   Calls P f args w₂ λe w3=>(∃v jump w4,e=.returned v/\(Instr.endLoop l).run P w3=.ok jump w4/\(match jump with
    |none=>Q .normal {a with defers:=mark++a.defers} w4
    |some c=>c.wp P Q {a with defers:=mark++a.defers} w4))\/∃ch,e=.panicked ch/\Q (.panic ch) {a with defers:=mark++a.defers} w3):
 (Code.rangeFunc g ps asg bod).wp P Q a w:=by
 intro b k cs;have⟨l,mark,w₁,d,w₁',f,args,w₂,he,aX0,hinv,aVN⟩:=h b.fn;have aYP:=aIN (P:=P) (b:=b) (a:=a) (k:=k) (cs:=cs) (w:=w) he aX0 hinv;have⟨e,w₃,fr,hR,aX7,hfn,aZO⟩:=aVN (b.at {a with defers:=mark++a.defers} (.inRangeFunc l::k)::cs);rcases hR with⟨v,jump,w4,rfl,aXS,hj⟩|⟨ch,rfl,hq⟩
 ·have sback:Steps P (lone (b.at a (.code (.rangeFunc g ps asg bod)::k)) cs w) (lone (b.at {a with defers:=mark++a.defers} ((jump.map Item.code).toList++k)) cs w4):=by
   refine .head aYP (n7 aX7 (.head (step_leave_returned aZO) ?_));rw[SN];exact .one (WY aXS)
  cases jump with
  |none=>exact⟨.normal,_,w4,hj,sback⟩
  |some c=>
   have⟨e',a'',w5,hq,aWS⟩:=hj b k cs;exact⟨e',a'',w5,hq,.of_steps sback aWS⟩
 ·refine⟨.panic ch,_,w₃,hq,.inRangeFunc l::k,.head aYP (n7 aX7 (.one ?_))⟩;rw[<-Frame.raise_at];exact step_leave_panicked aZO
section
variable{M0 S0:Nat->Prop}{w0:World}{N:Fr}{T:Nat->A}{m:Mem}{ρ:Nat->Value}{a:Act}{w:World}{P:Program}
def bC.YJ(h:bC M0 S0 w0 N T m ρ a w){i:Nat}{st:LoopState}{pe:Option Code}{ts:List A}{ps:Array Tmp}{asg bod:Code}(hi:m i=some (.lo st pe ts ps asg bod)):
 ∃l fn vs D,ρ i=.func (.yield l) #[] #[]/\w.heap[l]?=some (.loop {state:=st,pending:=pe,fn:=fn,tmps:=vs,params:=ps,assign:=asg,body:=bod,defers:=D})/\A.bR w (dD M0 m ρ) m ρ ts vs.toList/\
  ∀st' pe',bC M0 S0 w0 N T (aX m i (.lo st' pe' ts ps asg bod)) ρ a (w.gW l (.loop {state:=st',pending:=pe',fn:=fn,tmps:=vs,params:=ps,assign:=asg,body:=bod,defers:=D}))/\gL m (aX m i (.lo st' pe' ts ps asg bod)) ρ ρ:=by
 have⟨l,fn,vs,D,e,hw,hd⟩:=h.res i _ hi;refine⟨l,fn,vs,D,e,hw,hd,λst' pe'=>⟨?_,?_⟩⟩
 ·refine h.write hi rfl rfl (λfz t es l e=>by cases e) (mJ w l _) (λb _ e'=>by subst e';rw[e];rfl) ?_;intro hO HG Q2;exact⟨l,fn,vs,D,e,tS hw,A.dK HG Q2 hO _ _ hd⟩
 ·have:=gL.set (m:=m) (ρ:=ρ) i (.lo st' pe' ts ps asg bod) (ρ i) (λ_ _=>⟨by rw[hi];simp,rfl,λfz t es l e=>by rw[hi]at e;cases e⟩)
  rwa [jP]at this
def N2{r:Loop}(h:w.heap[l]?=some (.loop r)):(Instr.getLoop l).run P w=.ok r w:=by
 unfold Instr.getLoop;have e1:(getObj l).run P w=.ok (.loop r) w:=by simp[getObj,h,Sem.run]
 simp only[aV,e1,aN];simp
def AU{r:Loop}{o:Obj}(h:w.heap[l]?=some (.loop r)):(setObj l o).run P w=.ok () (w.gW l o):=uN h (by intro c e f h;cases h)
def AX:List (Tmp×A)->(Nat->A)->(Nat->A)
 |[],T=>T
 |p::r,T=>AX r (lI T (some p.1) p.2)
def OS{M:Nat->Prop}:∀{ps:List Tmp}{as:List A}{vs:List Value}{T:Nat->A}{tmps:Array Value},A.bR w M m ρ as vs->(∀p∈ps,p<tmps.size)->(∀n,(T n).Den w M m ρ (tmps.getD n undef))->
 ∀n,((AX (ps.zip as) T) n).Den w M m ρ (((ps.zip vs).foldl (λt(p:Tmp×Value)=>t.setIfInBounds p.1 p.2) tmps).getD n undef)/\((ps.zip vs).foldl (λt(p:Tmp×Value)=>t.setIfInBounds p.1 p.2) tmps).size=tmps.size
 |[],as,vs,T,tmps,_,_,h,n=>⟨by simpa [AX]using h n,sM⟩
 |p::ps,[],vs,T,tmps,hd,_,h,n=>by
  simp only[A.bR]at hd;subst hd;exact⟨by simpa [AX]using h n,sM⟩
 |p::ps,c::as,vs,T,tmps,hd,hp,h,n=>by
  simp only[A.bR]at hd;obtain⟨y,yr,rfl,h1,h2⟩:=hd;have cX:=hp p sM
  have:=OS (ps:=ps) (T:=lI T (some p) c) (tmps:=tmps.setIfInBounds p y) h2 (λq hq=>by simpa using hp q (by simp[hq])) (λk=>by
   unfold lI;by_cases e:p=k
   · subst e
     simp only[if_true];rw[cZ,Array.getElem?_setIfInBounds_self_of_lt cX];exact h1
   · rw[aT7 (by simpa using e),cZ,aB3 e,<-Array.getD_eq_getD_getElem?]
     exact h k) n
  simpa [AX]using this
end
def Z3:Ex->Option (Bool×LoopState×Option Code)
 |.nm=>some (true,.ready,none)
 |.ret=>some (false,.done,some .ret)
 |.ext id=>some (false,.done,some (.exit id))
 |.sE _=>none
def o8.yield{P:Program}{o:Oper}{T:Nat->A}{m:Mem}{c:Call}{fo:Operand}{i:Nat}{ts:List A}{ps:Array Tmp}{asg bod:Code}{PostA PostB:qU}{outs:List Ot}
 (ho:o.op=.call c)(hc:c.callee=.value fo)(hf:dN T fo=.h i)(hi:m i=some (.lo .ready none ts ps asg bod))(hlen:c.args.size=ps.size)(hps:∀p∈ps.toList,p<ts.length)
 (hA:eU P true ts.length asg (AX (ps.toList.zip (c.args.toList.map (dN T))) (uA ts)) m [] PostA)
 (hAB:∀ex T1 m1 ds1,PostA ex T1 m1 ds1->ex=.nm/\ds1=[]/\∃pe1 ts1 ps1 asg1 bod1,m1 i=some (.lo .ready pe1 ts1 ps1 asg1 bod1)/\eU P true ts.length bod T1 (aX m1 i (.lo .busy pe1 ts1 ps1 asg1 bod1)) [] PostB)
 (hB:∀ex T2 m2 ds2,PostB ex T2 m2 ds2->∃b st pe,Z3 ex=some (b,st,pe)/\∃oK pe2 ts2 ps2 asg2 bod2,m2 i=some (.lo oK pe2 ts2 ps2 asg2 bod2)/\∃u∈outs,u.1=.ok (.d (.v (.bool b)))/\(∀j q,aH m u.2 j=some q->aX m2 i (.lo st pe ts2 ps2 asg2 bod2) j=some q)/\∀p∈u.2,∀j∈p.2.hs,aH m u.2 j≠none):
 o8 P o T m outs:=by
 intro ro N M0 S0 w0 ρ a w h cX next Q hn
 have⟨l,fn,vs,D,hρ,hw,aWJ,_⟩:=h.YJ hi;have hfo:=cU h fo;rw[hf]at hfo;simp[A.Den]at hfo;have hfv:=eH hfo hi sM;rw[hρ]at hfv;have aXK:=(A.xJ.1 aWJ).1;have aVL:(execOp a.eval o).run P w=.ok (.round l fn ((ps.toList.zip (c.args.toList.map a.eval)).foldl (λt(p:Tmp×Value)=>t.setIfInBounds p.1 p.2) vs) asg bod) w:=by
  have e1:(Instr.yield l (c.args.map a.eval)).run P w=.ok (.round l fn ((ps.toList.zip (c.args.toList.map a.eval)).foldl (λt(p:Tmp×Value)=>t.setIfInBounds p.1 p.2) vs) asg bod) w:=by
   unfold Instr.yield;rw[aV,N2 hw];simp only[aN];rw[aT7 (by simpa using hlen)];have e2:(ps.zip (c.args.map a.eval))=(ps.toList.zip (c.args.toList.map a.eval)).toArray:=by
    apply Array.ext';simp
   simp only[e2,List.foldl_toArray];simp
  simp[execOp,ho,resolve,hc,hfv,Deferred.ofValue,aV,cB,aN,invoke];simpa using e1
 refine L9 (by unfold jO;rw[ho]) ?_;rw[aVL,Oper.uponIn_round];refine⟨λe=>(by cases e),?_⟩;refine WS ?_;have aVU:∀b,M0 b->b<w.heap.size:=λb hb=>cG (cX b hb) h.keeps.size;have aYM:=pP h c.args.toList
 have hT:=λn=>OS (T:=uA ts) (tmps:=vs) aYM (λp hp=>by have:=hps p hp;rw[aXK]at this;simpa using this) (λn=>by
  unfold uA;rcases eQ n ts.length with q|q
  · rw[aC q]
    have hv:n<vs.toList.length:=oM;have e1:vs.getD n undef=vs.toList[n]:=by
     rw[cZ];simp at hv;simp[hv]
    rw[e1];exact(A.xJ.1 aWJ).2 n _ _ (aC q) (aC hv)
  · rw[lD q]
    simp[A.Den]) n
 have h0:bC M0 (oO m ρ) w ⟨ts.length,some []⟩ (AX (ps.toList.zip (c.args.toList.map (dN T))) (uA ts)) m ρ {tmps:=(ps.toList.zip (c.args.toList.map a.eval)).foldl (λt(p:Tmp×Value)=>t.setIfInBounds p.1 p.2) vs,defers:=[]} w:=
  {keeps:=iF.refl _ _,size:=by simp only;rw[(hT 0).2,aXK];simp
   defers:=λds e=>by simp at e;subst e;rfl
   tmps:=λn=>(hT n).1
   res:=h.res,own:=h.now.own,apart:=h.apart}
 refine hA (some l) M0 (oO m ρ) w ρ _ w rfl h0 aVU _ ?_;intro ex e T1 m1 ds1 ρ1 a1 w1 hp h1 hO hex;obtain⟨rfl,rfl,pe1,ts1,ps1,asg1,bod1,hi1,hBody⟩:=hAB ex T1 m1 ds1 hp;simp[Ex.Den]at hex;refine⟨hex,?_⟩;have hρ1:ρ1 i=ρ i:=((hO i (by rw[hi];simp)).2 (by rw[hi1];simp)).2.1;have⟨l1,fn1,vs1,D1,e1,sN,a2S,a1S⟩:=h1.YJ hi1;rw[hρ1,hρ]at e1;simp[Value.func.injEq,Fn.yield.injEq,and_true]at e1;subst e1;refine⟨w1.gW l (.loop {state:=.busy,pending:=pe1,fn:=fn1,tmps:=vs1,params:=ps1,assign:=asg1,body:=bod1,defers:=D1}),?_,?_⟩
 ·unfold Instr.beginRound;rw[aV,N2 sN];simp only[aN];rw[aV,AU sN];simp
 have⟨h2,hO2⟩:=a1S .busy pe1;refine hBody (some l) M0 (oO m ρ) w ρ1 a1 _ rfl h2 aVU _ ?_;intro ex e T3 m3 ds3 ρ3 a3 w3 hp3 h3 hO3 aZE;have⟨b,st,pe,hlo,oK,pe2,ts2,ps2,asg2,bod2,hi3,u,hu,hu1,aVM,n0⟩:=hB ex T3 m3 ds3 hp3;have hρ3:ρ3 i=ρ i:=(((hO3 i (by simp[aX])).2 (by rw[hi3];simp)).2.1).trans hρ1;have⟨l3,fn3,vs3,D3,e3,hw3,aZA,aZ0⟩:=h3.YJ hi3;rw[hρ3,hρ]at e3;simp[Value.func.injEq,Fn.yield.injEq,and_true]at e3;subst e3;have⟨h4,hO4⟩:=aZ0 st pe;have hOall:=((hO.trans hO2).trans hO3).trans hO4;have hb:=h.back h4 hOall;have⟨k1,k2,k3⟩:=h.cut (v:=.d (.v (.bool b))) (y:=.bool b) hb hOall aVM (by simp[A.hs]) n0 (by simp only[A.Den,C.Den]);have aWW:=(hn u (.bool b) _ ρ3 hu k1 k2).1 _ hu1 k3;have aXS:∀(j:Option Code),pe=j->st=(if j.isNone then .ready else .done)->b=j.isNone->(Instr.endRound l j).run P w3=.ok (.bool b) (w3.gW l (.loop {state:=st,pending:=pe,fn:=fn3,tmps:=vs3,params:=ps2,assign:=asg2,body:=bod2,defers:=D3})):=by
  rintro j rfl rfl rfl;unfold Instr.endRound;rw[aV,N2 hw3];simp only[aN];rw[aV,AU hw3];simp
 cases ex with
 |nm=>
  simp only[Ex.Den]at aZE;subst aZE;simp only[Z3,aA,aD]at hlo;obtain⟨rfl,rfl,rfl⟩:=hlo;exact⟨_,_,aXS none rfl rfl rfl,aWW⟩
 |ret=>
  simp only[Ex.Den]at aZE;subst aZE;simp only[Z3,aA,aD]at hlo;obtain⟨rfl,rfl,rfl⟩:=hlo;exact⟨_,_,aXS (some .ret) rfl rfl rfl,aWW⟩
 |ext id=>
  simp only[Ex.Den]at aZE;subst aZE;simp only[Z3,aA,aD]at hlo;obtain⟨rfl,rfl,rfl⟩:=hlo;exact⟨_,_,aXS (some (.exit id)) rfl rfl rfl,aWW⟩
 |sE v=>cases hlo
def mY(n:Nat)(T:Nat->A):List A:=(List.range n).map T
def aB7{tmps:Array Value}(hn:tmps.size=n)(h:∀k,(T k).Den w M m ρ (tmps.getD k undef)):A.bR w M m ρ (mY n T) tmps.toList:=by
 rw[A.xJ];refine⟨by simp[mY,hn],λj c y hc hy=>?_⟩;obtain⟨hj,rfl⟩:=bA.1 hy;have hjn:j<n:=by simpa [hn]using hj
 simp[mY,cK,aAW hjn,dF,aA]at hc;subst hc;have:=h j;have QB:j<tmps.size:=by simpa using hj
 simpa [cZ,QB]using this
def MT(fn:FuncId)(tmps:Array Value)(ps:Array Tmp)(asg bod:Code):
 (Instr.enterLoop fn tmps ps asg bod none).run P w=.ok ((w.alloc (.deferred (some []))).heap.size,[{target:=.collected w.heap.size,args:= #[]}])
   ((w.alloc (.deferred (some []))).alloc (.loop {state:=.ready,pending:=none,fn:=fn,tmps:=tmps,params:=ps,assign:=asg,body:=bod,defers:=w.heap.size})):=by
 have e1:∀(o:Obj)(w:World),(newObj o).run P w=.ok w.heap.size (w.alloc o):=λ_ _=>rfl;simp[Instr.enterLoop,aV,e1,aN,cB]
def aDT(Post:qU)(T:Nat->A)(m:Mem)(ds:List DA):Option Code->Prop
 |none=>Post .nm T m ds
 |some .ret=>Post .ret T m ds
 |some (.exit id)=>Post (.ext id) T m ds
 |_=>False
def eU.rangeFunc{P:Program}{n:Nat}{T:Nat->A}{m m2:Mem}{ds:List DA}{Post:qU}{g:Operand}{ps:Array Tmp}{asg bod:Code}{gf:FuncId}{us vs:List A}{i j:Nat}{r:Rt}
 (hg:dN T g=.fn (.func gf) us vs\/∃cu cv,dN T g=.d (.fn (.func gf) cu cv)/\us=cu.map A.d/\vs=cv.map A.d)(hi:m i=none)(hj:m j=none)(hij:i≠j)
 (aVN:aJ P gf (us++([.h j]++vs)) (aX (aX m i (.df false)) j (.lo .ready none (mY n T) ps asg bod)) r m2)
 (hok:∀v,r=.ok v->∃st pe ts' ps' asg' bod',m2 j=some (.lo st pe ts' ps' asg' bod')/\st≠.busy/\aDT Post T (aX m2 j (.lo .exhausted pe ts' ps' asg' bod')) (.s4 i::ds) pe)
 (a2I:∀v,r=.sE v->Post (.sE v) T m2 (.s4 i::ds)):eU P false n (.rangeFunc g ps asg bod) T m ds Post:=by
 intro ro M0 S0 w0 ρ a w wB hs cX Q hQ;have a05:ro=none:=by cases ro with
  |none=>rfl
  |some _=>cases wB
 subst a05;refine wpIn_wide.2 (RD λfn=>?_);obtain⟨w1,sN⟩:∃w1,w1=w.alloc (.deferred (some [])):=⟨_,rfl⟩;have h1:bC M0 S0 w0 ⟨n,some ds⟩ T (aX m i (.df false)) (dW ρ i (.pointer (some ⟨w.heap.size,0,none⟩))) a w1:=by
  subst sN;exact hs.rG cX (jF w _) hi rfl (by simp[blk]) λ_ _ _=>⟨w.heap.size,rfl,heap_alloc_new w _⟩
 have hO1:gL m (aX m i (.df false)) ρ (dW ρ i (.pointer (some ⟨w.heap.size,0,none⟩))):=gL.new _ _ hi;have hρ1:dW ρ i (.pointer (some ⟨w.heap.size,0,none⟩)) i=.pointer (some ⟨w.heap.size,0,none⟩):=by simp[dW]
 revert h1 hO1 hρ1;generalize dW ρ i (.pointer (some ⟨w.heap.size,0,none⟩))=ρ1;intro h1 hO1 hρ1;have hj1:aX m i (.df false) j=none:=by simp[aX,Ne.symm hij,hj]
 obtain⟨w2,wM⟩:∃w2,w2=w1.alloc (.loop {state:=.ready,pending:=none,fn:=fn,tmps:=a.tmps,params:=ps,assign:=asg,body:=bod,defers:=w.heap.size}):=⟨_,rfl⟩;have aWJ:A.bR w1 (dD M0 (aX m i (.df false)) ρ1) (aX m i (.df false)) ρ1 (mY n T) a.tmps.toList:=aB7 h1.size h1.tmps;have h2:bC M0 S0 w0 ⟨n,some ds⟩ T (aX (aX m i (.df false)) j (.lo .ready none (mY n T) ps asg bod)) (dW ρ1 j (.func (.yield w1.heap.size) #[] #[])) a w2:=by
  subst wM;refine h1.rG cX (jF w1 _) hj1 rfl (by simp[blk]) λhO HG Q2=>?_;exact⟨w1.heap.size,fn,a.tmps,w.heap.size,rfl,heap_alloc_new w1 _,A.dK HG Q2 hO _ _ aWJ⟩
 have hO2:gL (aX m i (.df false)) (aX (aX m i (.df false)) j (.lo .ready none (mY n T) ps asg bod)) ρ1 (dW ρ1 j (.func (.yield w1.heap.size) #[] #[])):=gL.new _ _ hj1;have hρ2:dW ρ1 j (.func (.yield w1.heap.size) #[] #[]) j=.func (.yield w1.heap.size) #[] #[]:=by simp[dW]
 have hρ2i:dW ρ1 j (.func (.yield w1.heap.size) #[] #[]) i=.pointer (some ⟨w.heap.size,0,none⟩):=by simp[dW,hij,hρ1]
 revert h2 hO2 hρ2 hρ2i;generalize dW ρ1 j (.func (.yield w1.heap.size) #[] #[])=ρ2;intro h2 hO2 hρ2 hρ2i;have h3:bC M0 S0 w0 ⟨n,some (.s4 i::ds)⟩ T (aX (aX m i (.df false)) j (.lo .ready none (mY n T) ps asg bod)) ρ2 {a with defers:=[{target:=.collected w.heap.size,args:= #[]}]++a.defers} w2:=
  {keeps:=h2.keeps,size:=h2.size
   defers:=λds' e=>by
    simp only[aA]at e;subst e;exact⟨w.heap.size,a.defers,rfl,⟨by simp[aX,hij],λ_=>hρ2i⟩,h2.defers ds rfl⟩
   tmps:=h2.tmps,res:=h2.res,own:=h2.own,apart:=h2.apart}
 have hO3:=hO1.trans hO2;have hgv:=cU h2 g;have aYM:∃ua va:Array Value,a.eval g=.func (.func gf) ua va/\A.bR w2 (dD M0 (aX (aX m i (.df false)) j (.lo .ready none (mY n T) ps asg bod)) ρ2) (aX (aX m i (.df false)) j (.lo .ready none (mY n T) ps asg bod)) ρ2 us ua.toList/\A.bR w2 (dD M0 (aX (aX m i (.df false)) j (.lo .ready none (mY n T) ps asg bod)) ρ2) (aX (aX m i (.df false)) j (.lo .ready none (mY n T) ps asg bod)) ρ2 vs va.toList:=by
  rcases hg with e|⟨cu,cv,e,rfl,rfl⟩
  ·rw[e]at hgv;simp only[A.Den]at hgv;obtain⟨ua,va,q1,q2,q3⟩:=hgv;exact⟨ua,va,q1,q2,q3⟩
  ·rw[e]at hgv;simp only[A.Den,C.Den]at hgv;obtain⟨ua,va,q1,q2,q3⟩:=hgv;exact⟨ua,va,q1,A.iO.2 q2,A.iO.2 q3⟩
 obtain⟨ua,va,he,hu,hv⟩:=aYM;have hyd:A.bR w2 (dD M0 (aX (aX m i (.df false)) j (.lo .ready none (mY n T) ps asg bod)) ρ2) (aX (aX m i (.df false)) j (.lo .ready none (mY n T) ps asg bod)) ρ2 [.h j] [.func (.yield w1.heap.size) #[] #[]]:=by
  simp only[A.bR,A.Den];exact⟨_,_,rfl,⟨by simp[aX],λ_=>hρ2.symm⟩,rfl⟩
 have aWS:ua++ #[Value.func (.yield w1.heap.size) #[] #[]]++va=(ua.toList++([Value.func (.yield w1.heap.size) #[] #[]]++va.toList)).toArray:=by
  cases ua;cases va;simp
 refine⟨w1.heap.size,[{target:=.collected w.heap.size,args:= #[]}],w2,⟨.fn (.func gf) va,ua++ #[.func (.yield w1.heap.size) #[] #[]]⟩,w2,gf,ua++ #[.func (.yield w1.heap.size) #[] #[]]++va,w2,?_,?_,?_,?_⟩
 ·rw[MT,wM,sN]
 ·have e4:(Array.map a.eval #[Operand.const (.func (.yield w1.heap.size) #[] #[])])= #[.func (.yield w1.heap.size) #[] #[]]:=by simp[Act.eval]
  simp only[resolve,he,Deferred.ofValue,e4,cB]
 ·simp only[invoke];rw[B3 aVN.1]
 rw[aWS];refine(aVN.2 ⟨n,some (.s4 i::ds)⟩ T M0 S0 w0 ρ2 _ w2 h3 cX _ (A.iH hu (A.iH hyd hv))).mono ?_;rintro e w3 ⟨ρ3,h4,hO4,hr⟩;cases r with
 |sE v=>
  obtain⟨y,rfl,hy⟩:=hr;exact .inr ⟨_,rfl,hQ (.sE v) _ T m2 _ ρ3 _ w3 (a2I v rfl) h4 (hO3.trans hO4) ⟨y,rfl,hy⟩⟩
 |ok v=>
  obtain⟨y,rfl,hy⟩:=hr;obtain⟨st,pe,ts',ps',asg',bod',hj3,HG,aZC⟩:=hok v rfl;obtain⟨l3,fn3,vs3,D3,e3,hw3,aZA,aZ0⟩:=h4.YJ hj3;have hρ3:ρ3 j=ρ2 j:=((hO4 j (by simp[aX])).2 (by rw[hj3];simp)).2.1;rw[hρ3,hρ2]at e3;simp only[Value.func.injEq,Fn.yield.injEq,and_true]at e3;subst e3;obtain⟨h5,hO5⟩:=aZ0 .exhausted pe;refine .inl ⟨y,pe,w3.gW w1.heap.size (.loop {state:=.exhausted,pending:=pe,fn:=fn3,tmps:=vs3,params:=ps',assign:=asg',body:=bod',defers:=D3}),rfl,?_,?_⟩
  ·unfold Instr.endLoop;rw[aV,N2 hw3];simp only[aN];have hb:(st==.busy)=false:=by simpa using HG
   simp only[hb,bY,if_false];rw[aV,AU hw3];simp
  ·have hOf:=(hO3.trans hO4).trans hO5;cases pe with
   |none=>exact hQ .nm _ T _ _ ρ3 _ _ aZC h5 hOf rfl
   |some c=>
    cases c with
    |ret=>exact wp_ret (hQ .ret _ T _ _ ρ3 _ _ aZC h5 hOf rfl)
    |exit id=>exact wp_exit (hQ (.ext id) _ T _ _ ρ3 _ _ aZC h5 hOf rfl)
    |_=>exact aZC.elim
def vEq:Value->Value->Bool
 |.bool a,.bool b=>a==b
 |.int k a,.int k' b=>decide (k=k')&&decide (a=b)
 |.string a,.string b=>decide (a=b)
 |.pointer none,.pointer none=>true
 |.map none,.map none=>true
 |.nilFunc,.nilFunc=>true
 |.nilIface,.nilIface=>true
 |_,_=>false
def aK9{a b:Value}(h:vEq a b=true):a=b:=by
 unfold vEq at h;split at h<;>simp_all
mutual
def C.A6:C->C->Bool
 |.v a,.v b=>vEq a b
 |.sl e l,.sl e' l'=>decide (e=e')&&C.vH l l'
 |.nl e,.nl e'=>decide (e=e')
 |.ip l,.ip l'=>C.uG l l'
 |.im ks vs,.im ks' vs'=>decide (ks=ks')&&C.uG vs vs'
 |.fn f x1 y1,.fn f' x2 y2=>decide (f=f')&&(C.uG x1 x2&&C.uG y1 y2)
 |.agg l,.agg l'=>C.uG l l'
 |.AE t c,.AE t' c'=>decide (t=t')&&C.A6 c c'
 |_,_=>false
def C.uG:List C->List C->Bool
 |[],[]=>true
 |a::r,b::s=>C.A6 a b&&C.uG r s
 |_,_=>false
def C.vH:List (List C)->List (List C)->Bool
 |[],[]=>true
 |a::r,b::s=>C.uG a b&&C.vH r s
 |_,_=>false
end
mutual
def C.aD7:∀(a b:C),C.A6 a b=true->a=b
 |.v a,b,h=>by cases b<;>simp[C.A6]at h<;>first|(rw[aK9 h])|cases h
 |.sl e l,b,h=>by
  cases b<;>simp only[C.A6]at h<;>first
   |(rw[aE]at h;rw[aUL h.1,C.wT l _ h.2])
   |cases h
 |.nl e,b,h=>by cases b<;>simp only[C.A6]at h<;>first|(rw[aUL h])|cases h
 |.ip l,b,h=>by cases b<;>simp[C.A6]at h<;>first|(rw[C.mH l _ h])|cases h
 |.im ks vs,b,h=>by
  cases b<;>simp only[C.A6]at h<;>first
   |(rw[aE]at h;rw[aUL h.1,C.mH vs _ h.2])
   |cases h
 |.fn f x1 y1,b,h=>by
  cases b<;>simp only[C.A6]at h<;>first
   |(rw[aE,aE]at h;rw[aUL h.1,C.mH x1 _ h.2.1,C.mH y1 _ h.2.2])
   |cases h
 |.agg l,b,h=>by cases b<;>simp[C.A6]at h<;>first|(rw[C.mH l _ h])|cases h
 |.AE t c,b,h=>by
  cases b<;>simp only[C.A6]at h<;>first
   |(rw[aE]at h;rw[aUL h.1,C.aD7 c _ h.2])
   |cases h
def C.mH:∀(a b:List C),C.uG a b=true->a=b
 |[],b,h=>by cases b<;>simp[C.uG]at h<;>first|rfl|cases h
 |c::r,b,h=>by
  cases b with
  |nil=>simp[C.uG]at h
  |cons d s=>
   simp[C.uG,aE]at h;rw[C.aD7 c d h.1,C.mH r s h.2]
def C.wT:∀(a b:List (List C)),C.vH a b=true->a=b
 |[],b,h=>by cases b<;>simp[C.vH]at h<;>first|rfl|cases h
 |c::r,b,h=>by
  cases b with
  |nil=>simp[C.vH]at h
  |cons d s=>
   simp[C.vH,aE]at h;rw[C.mH c d h.1,C.wT r s h.2]
end
mutual
def A.A6:A->A->Bool
 |.d a,.d b=>C.A6 a b
 |.lp i o,.lp i' o'=>decide (i=i')&&decide (o=o')
 |.h i,.h i'=>decide (i=i')
 |.ep i e k o,.ep i' e' k' o'=>decide (i=i')&&(decide (e=e')&&(decide (k=k')&&decide (o=o')))
 |.sv i l n,.sv i' l' n'=>decide (i=i')&&(decide (l=l')&&decide (n=n'))
 |.fn f x1 y1,.fn f' x2 y2=>decide (f=f')&&(A.uG x1 x2&&A.uG y1 y2)
 |.agg l,.agg l'=>A.uG l l'
 |.eL l,.eL l'=>A.uG l l'
 |.AE t c,.AE t' c'=>decide (t=t')&&A.A6 c c'
 |.x,.x=>true
 |_,_=>false
def A.uG:List A->List A->Bool
 |[],[]=>true
 |a::r,b::s=>A.A6 a b&&A.uG r s
 |_,_=>false
end
mutual
def A.aD7:∀(a b:A),A.A6 a b=true->a=b
 |.d a,b,hh=>by cases b<;>simp[A.A6]at hh<;>first|(rw[C.aD7 _ _ hh])|cases hh
 |.lp i o,b,hh=>by
  cases b<;>simp only[A.A6]at hh<;>first
   |(rw[aE]at hh;rw[aUL hh.1,aUL hh.2])
   |cases hh
 |.h i,b,hh=>by cases b<;>simp only[A.A6]at hh<;>first|(rw[aUL hh])|cases hh
 |.ep i e k o,b,hh=>by
  cases b<;>simp only[A.A6]at hh<;>first
   |(simp only[aE]at hh;rw[aUL hh.1,aUL hh.2.1,aUL hh.2.2.1,aUL hh.2.2.2])
   |cases hh
 |.sv i l n,b,hh=>by
  cases b<;>simp only[A.A6]at hh<;>first
   |(simp only[aE]at hh;rw[aUL hh.1,aUL hh.2.1,aUL hh.2.2])
   |cases hh
 |.fn f x1 y1,b,hh=>by
  cases b<;>simp only[A.A6]at hh<;>first
   |(rw[aE,aE]at hh;rw[aUL hh.1,A.mH x1 _ hh.2.1,A.mH y1 _ hh.2.2])
   |cases hh
 |.agg l,b,hh=>by cases b<;>simp[A.A6]at hh<;>first|(rw[A.mH l _ hh])|cases hh
 |.eL l,b,hh=>by cases b<;>simp[A.A6]at hh<;>first|(rw[A.mH l _ hh])|cases hh
 |.AE t c,b,hh=>by
  cases b<;>simp only[A.A6]at hh<;>first
   |(rw[aE]at hh;rw[aUL hh.1,A.aD7 c _ hh.2])
   |cases hh
 |.x,b,hh=>by cases b<;>simp[A.A6]at hh<;>first|rfl|cases hh
def A.mH:∀(a b:List A),A.uG a b=true->a=b
 |[],b,hh=>by cases b<;>simp[A.uG]at hh<;>first|rfl|cases hh
 |c::r,b,hh=>by
  cases b with
  |nil=>simp[A.uG]at hh
  |cons d s=>
   simp[A.uG,aE]at hh;rw[A.aD7 c d hh.1,A.mH r s hh.2]
end
def A.vH:List (List A)->List (List A)->Bool
 |[],[]=>true
 |a::r,b::s=>A.uG a b&&A.vH r s
 |_,_=>false
def A.wT:∀(a b:List (List A)),A.vH a b=true->a=b
 |[],b,hh=>by cases b<;>simp[A.vH]at hh<;>first|rfl|cases hh
 |c::r,b,hh=>by
  cases b with
  |nil=>simp[A.vH]at hh
  |cons d s=>
   simp[A.vH,aE]at hh;rw[A.mH c d hh.1,A.wT r s hh.2]
def N6:List (Ky×A)->List (Ky×A)->Bool
 |[],[]=>true
 |a::r,b::s=>decide (a.1=b.1)&&(A.A6 a.2 b.2&&N6 r s)
 |_,_=>false
def TG:∀(a b:List (Ky×A)),N6 a b=true->a=b
 |[],b,h=>by cases b<;>simp only[N6]at h<;>first|rfl|cases h
 |(k,x)::r,b,h=>by
  cases b with
  |nil=>simp[N6]at h
  |cons d s=>
   obtain⟨k',x'⟩:=d;simp only[N6,aE]at h;rw[aUL h.1,A.aD7 x x' h.2.1,TG r s h.2.2]
def R.A6:R->R->Bool
 |.dead,.dead=>true
 |.cells f l,.cells f' l'=>(f==f')&&A.uG l l'
 |.fW f t e l,.fW f' t' e' l'=>(f==f')&&(decide (t=t')&&(decide (e=e')&&A.vH l l'))
 |.mp f kv st,.mp f' kv' st'=>(f==f')&&(N6 kv kv'&&decide (st=st'))
 |.wL,.wL=>true
 |.cu s e l,.cu s' e' l'=>A.A6 s s'&&(decide (e=e')&&A.vH l l')
 |_,_=>false
def R.aD7:∀(a b:R),R.A6 a b=true->a=b:=by
 intro a b h;cases a<;>cases b<;>simp only[R.A6]at h<;>(try cases h)<;>(try rfl)
 ·simp[aE,beq_iff_eq]at h;rw[h.1,A.mH _ _ h.2]
 ·simp only[aE,beq_iff_eq]at h;rw[h.1,aUL h.2.1,aUL h.2.2.1,A.wT _ _ h.2.2.2]
 ·simp only[aE,beq_iff_eq]at h;rw[h.1,TG _ _ h.2.1,aUL h.2.2]
 ·simp only[aE]at h;rw[A.aD7 _ _ h.1,aUL h.2.1,A.wT _ _ h.2.2]
def II(P:Program)(t:TypeId):Bool:=match P.underlying t with
 |some (.int .u8)=>true
 |_=>false
def FH(s:ByteArray):List (List C):=s.data.toList.map λb=>[.v (.int .u8 b.toNat)]
def bytesOf:List (List A)->Option (List Int)
 |[]=>some []
 |[.d (.v (.int .u8 n))]::r=>match bytesOf r with
  |some l=>some (n::l)
  |none=>none
 |_::_=>none
def vG(P:Program)(m:Mem)(s t:TypeId)(x:A):Option E:=match dO m x,j8 P s with
 |some rows,some e=>match bytesOf rows with
  |some ns=>some (II P e&&yJ P t,.d (.v (.string (ns.foldl (λr n=>r.push (UInt8.ofNat n.toNat)) ByteArray.empty))),[])
  |none=>none
 |_,_=>none
def qI(P:Program)(m:Mem)(T:Nat->A)(d:Nat)(o:Oper):Option E:=
 match o.op with
 |.convert s t x=>match dN T x,j8 P t with
  |.d (.v (.string b)),some e=>some (II P e&&(match P.underlying s with|some _=>true|none=>false),.d (.sl 1 (FH b)),[])
  |_,_=>vG P m s t (dN T x)
 |_=>none
def kG(P:Program)(m:Mem)(T:Nat->A)(o:Oper):Option E:=
 match o.op with
 |.call c=>match c.callee,c.args.toList,c.argTypes.toList with
  |.builtin .append,[x,y],[t,t']=>match dN T x,dO m (dN T y),j8 P t with
   |.d (.nl _),some [],some e=>match o5 P e with
    |some z=>some (decide (t=t'/\z.length=P.cellsOf e/\0<P.cellsOf e)&&qW m (P.cellsOf e) (dN T y),.d (.nl (P.cellsOf e)),[])
    |none=>none
   |_,_,_=>none
  |_,_,_=>none
 |_=>none
def kT(P:Program)(m:Mem)(T:Nat->A)(d:Nat)(o:Oper):Option E:=
 match kG P m T o with
 |some e=>some e
 |none=>match jZ P m T d o with
  |some e=>some e
  |none=>qI P m T d o
def aEN(P:Program)(T:Nat->A)(o:Oper):Option A:=
 match o.op with
 |.move x=>some (B0 P o.type (dN T x))
 |.assign x=>some (B0 P o.type (dN T x))
 |.pick c a b=>match dN T c with
  |.d (.v (.bool t))=>some (cond t (dN T a) (dN T b))
  |_=>none
 |.binOp op t x y _=>match dN T x,dN T y with
  |.d (.v (.int k a)),.d (.v (.int k' b))=>match JM op k k' a b with
   |some (true,c)=>some (.d c)
   |_=>none
  |_,_=>none
 |.unOp op _ x=>match NF op (dN T x)with
  |some (true,v,_)=>some v
  |_=>none
 |.extract x i=>match dN T x with
  |.eL l=>cond (Nat.blt i l.length) (some (l.getD i .x)) none
  |_=>none
 |.field t x f=>match uF P (λ_=>none) t (dN T x) f with
  |some (true,v,_)=>some v
  |_=>none
 |_=>none
section
variable{P:Program}{m m':Mem}
def pC(h:m i=m' i):qF m i=qF m' i:=by unfold qF;rw[h]
def aAM(h:m i=m' i):HI m i=HI m' i:=by unfold HI;rw[h]
def oA(h:m i=m' i):jN m i=jN m' i:=by unfold jN;rw[h]
def zH(m m':Mem)(x:A):Prop:=∀i∈x.hs,m i=m' i
def zH.lp{i o:Nat}(h:zH m m' (.lp i o)):m i=m' i:=h i (by simp[A.hs])
def zH.h{i:Nat}(h:zH m m' (.h i)):m i=m' i:=h i (by simp[A.hs])
def zH.ep{i e k o:Nat}(h:zH m m' (.ep i e k o)):m i=m' i:=h i (by simp[A.hs])
def zH.sv{i l n:Nat}(h:zH m m' (.sv i l n)):m i=m' i:=h i (by simp[A.hs])
def FL(h:zH m m' x):x.cells m=x.cells m':=by
 cases x with
 |lp i o=>simp[A.cells,pC h.lp]
 |h i=>simp[A.cells,aAM h.h]
 |ep i e k o=>simp[A.cells,pC h.ep]
 |sv i l n=>simp[A.cells,pC h.sv]
 |d c=>cases c<;>first|rfl|(rename_i v;cases v<;>rfl)
 |_=>simp[A.cells]
def pZ(h:zH m m' x):dO m x=dO m' x:=by
 cases x with
 |h i=>simp[dO,h.h]
 |sv i l n=>simp[dO,h.sv]
 |d c=>cases c<;>simp[dO]
 |_=>simp[dO]
def R6(h:zH m m' x):iP m x=iP m' x:=by
 cases x with
 |h i=>simp[iP,h.h]
 |d c=>cases c<;>simp[iP]
 |_=>simp[iP]
def GV{es:Nat}(h:zH m m' x):qW m es x=qW m' es x:=by
 cases x with
 |h i=>simp[qW,h.h]
 |sv i l n=>simp[qW,h.sv]
 |d c=>cases c<;>simp[qW]
 |_=>simp[qW]
def JI{l:List (List A)}(h:iP m x=some (some k,l)):x=.h k:=by
 cases x with
 |h i=>
  simp[iP]at h;split at h
  ·simp at h;rw[h.1]
  ·cases h
 |d c=>cases c<;>simp[iP]at h
 |_=>simp[iP]at h
def R9(h:zH m m' x):jM P m t x=jM P m' t x:=by
 cases x with
 |lp i o=>simp[jM,h.lp]
 |ep i e k o=>simp[jM,h.ep]
 |d c=>cases c<;>simp[jM]
 |_=>simp[jM]
def FZ(h:zH m m' x):isNil m x=isNil m' x:=by
 cases x with
 |lp i o=>simp[isNil,pC h.lp]
 |h i=>simp[isNil,h.h]
 |ep i e k o=>simp[isNil,pC h.ep]
 |sv i l n=>simp[isNil,h.sv]
 |d c=>cases c<;>first|rfl|(rename_i v;cases v<;>first|rfl|(rename_i p;cases p<;>rfl))|(rename_i e l;cases l<;>rfl)
 |_=>simp[isNil]
def ZY{y:A}(hx:zH m m' x)(hy:zH m m' y):JL P m t x y=JL P m' t x y:=by
 have e1:=FZ hx;have e2:=FZ hy;unfold JL;split
 ·rfl
 ·rfl
 ·rw[e1,e2]
def VK{op:BinOp}{y:A}(hx:zH m m' x)(hy:zH m m' y):xZ P m op t x y=xZ P m' op t x y:=by
 have e:=ZY (P:=P) (t:=t) hx hy;unfold xZ;split
 ·rfl
 ·rw[e]
def uT{o:Nat}(h:zH m m' x):qO m o x=qO m' o x:=by
 cases x with
 |lp i o=>simp[qO,pC h.lp]
 |ep i e k o=>simp[qO,pC h.ep]
 |d c=>cases c<;>simp[qO]
 |_=>simp[qO]
def FP{f:Nat}(h:zH m m' x):mG P m t x f=mG P m' t x f:=by
 unfold mG;simp[uT h]
def FQ(h:zH m m' x):j7 P m t x ix=j7 P m' t x ix:=by
 unfold j7;cases x with
 |h i=>simp[uT h,h.h]
 |sv i l n=>simp[uT h,h.sv]
 |d c=>simp[uT h];cases c<;>rfl
 |_=>simp[uT h]
def VM(h:zH m m' x):CE P m t x=CE P m' t x:=by
 have e:=pZ h;cases x with
 |h i=>unfold CE;simp[h.h]
 |sv i l n=>unfold CE;simp[e]
 |d c=>
  cases c with
  |v z=>
   cases z with
   |map r=>cases r<;>rfl
   |_=>rfl
  |_=>rfl
 |_=>rfl
def H3(h:zH m m' x):nT m x=nT m' x:=by
 unfold nT;simp[FZ h]
def EW{e:TypeId}{hi mx:Bool}{l h c:Int}(hh:m i=m' i):uV P m e i hi mx l h c n=uV P m' e i hi mx l h c n:=by
 unfold uV;rw[hh]
def DN{lo hi mx:Option A}(h:zH m m' x):jW P m t x lo hi mx=jW P m' t x lo hi mx:=by
 have e:=pZ h;cases x with
 |h i=>unfold jW;simp[e,EW h.h]
 |sv i l n=>unfold jW;simp[e,EW h.sv]
 |d c=>
  cases c with
  |v z=>cases z<;>rfl
  |_=>rfl
 |_=>rfl
def MK{ok:Bool}(h:zH m m' x):lO P m t x ix ok=lO P m' t x ix ok:=by
 unfold lO;cases x with
 |h i=>simp[h.h]
 |d c=>cases c with
  |v z=>cases z with
   |map r=>cases r<;>rfl
   |_=>rfl
  |_=>rfl
 |_=>rfl
def BW{a:A}(h:zH m m' x):mW P m t x ix a=mW P m' t x ix a:=by
 unfold mW;cases CR P t with
 |none=>rfl
 |some p=>cases keyOf ix with
  |none=>rfl
  |some k=>cases x with
   |h i=>simp[h.h]
   |_=>rfl
def MJ(h:zH m m' x):tL P m t x ix=tL P m' t x ix:=by
 unfold tL;cases CR P t with
 |none=>rfl
 |some p=>cases keyOf ix with
  |none=>rfl
  |some k=>cases x with
   |h i=>simp[h.h]
   |d c=>cases c with
    |v z=>cases z with
     |map r=>cases r<;>rfl
     |_=>rfl
    |_=>rfl
   |_=>rfl
def H2(h:zH m m' x)(hd:m d=m' d):pQ P m d t x ix=pQ P m' d t x ix:=by
 unfold pQ;cases CR P t with
 |none=>rfl
 |some p=>cases keyOf ix with
  |none=>rfl
  |some k=>cases x with
   |h i=>simp[h.h,oA hd]
   |_=>rfl
def DM{s a:A}(h:zH m m' x)(hs:zH m m' s):mV m x s a=mV m' x s a:=by
 unfold mV;cases x with
 |h i=>cases s with
  |h j=>simp[h.h,hs.h]
  |_=>rfl
 |_=>rfl
end
structure MB(o:Oper)(T T':Nat->A)(m m':Mem):Prop where
 ev:∀x∈o.op.operands.toList,dN T x=dN T' x
 ag:∀x∈o.op.operands.toList,zH m m' (dN T x)
section
variable{P:Program}{m m':Mem}{T T':Nat->A}{d:Nat}{o:Oper}
def yQ:∀{ps:List (Nat×Operand)},(∀p∈ps,dN T p.2=dN T' p.2/\zH m m' (dN T p.2))->oX m (ps.map λp=>(p.1,dN T p.2))=oX m' (ps.map λp=>(p.1,dN T' p.2))
 |[],_=>rfl
 |p::r,h=>by
  have h1:=h p sM;simp[aG,oX];rw[<-h1.1,FL h1.2,yQ (λq hq=>h q (by simp[hq]))]
def ZX{e:TypeId}{es:Nat}{k:Option Nat}(h:∀i,k=some i->m i=m' i):zS m e es k=zS m' e es k:=by
 cases k with
 |none=>rfl
 |some i=>simp[zS,h i rfl]
def MI{x y:Operand}(hx:dN T x=dN T' x)(hy:dN T y=dN T' y)(ax:zH m m' (dN T x))(ay:zH m m' (dN T y))(hd:m d=m' d):tK P m T d t x y=tK P m' T' d t x y:=by
 unfold tK;rw[<-hx,<-hy];cases j8 P t with
 |none=>rfl
 |some e=>
  simp only;rw[<-R6 ax,<-pZ ay,<-GV ay,<-oA hd];cases h1:iP m (dN T x)with
  |none=>rfl
  |some p=>
   have⟨k,l⟩:=p
   have:zS m e (P.cellsOf e) k=zS m' e (P.cellsOf e) k:=ZX (λi hi=>by
    subst hi;have:=JI h1;rw[this]at ax
    exact ax.h)
   cases dO m (dN T y)with
   |none=>rfl
   |some l2=>cases o5 P e with
    |none=>rfl
    |some z=>simp[this]
def Z0(h:MB o T T' m m')(hd:m d=m' d):j9 P m T d o=j9 P m' T' d o:=by
 have⟨hT,hm⟩:=h;unfold j9;cases ho:o.op with
 |move x=>simp[hT x (by simp[ho,Op.operands])]
 |assign x=>simp[hT x (by simp[ho,Op.operands])]
 |pick c a b=>simp[hT c (by simp[ho,Op.operands]),hT a (by simp[ho,Op.operands]),hT b (by simp[ho,Op.operands])]
 |alloc t=>simp[oA hd]
 |box t x=>simp[oA hd,hT x (by simp[ho,Op.operands]),FL (hT x (by simp[ho,Op.operands])▸hm x (by simp[ho,Op.operands]))]
 |build t ps=>
  simp[JJ]
  rw[yQ (m:=m) (m':=m') (T:=T) (T':=T') (λp hp=>by
   have:p.2∈o.op.operands.toList:=by rw[ho];simp[Op.operands];exact⟨p.1,by simpa using hp⟩
   exact⟨hT _ this,hm _ this⟩)]
 |buildSlice t n ps=>
  simp[vY,oA hd]
  rw[yQ (m:=m) (m':=m') (T:=T) (T':=T') (λp hp=>by
   have:p.2∈o.op.operands.toList:=by rw[ho];simp[Op.operands];exact⟨p.1,by simpa using hp⟩
   exact⟨hT _ this,hm _ this⟩)]
 |load t x=>simp[hT x (by simp[ho,Op.operands]),R9 (hT x (by simp[ho,Op.operands])▸hm x (by simp[ho,Op.operands]))]
 |store t x y=>
  have hx:=hT x (by simp[ho,Op.operands]);have hy:=hT y (by simp[ho,Op.operands]);have ax:=hm x (by simp[ho,Op.operands]);have ay:=hm y (by simp[ho,Op.operands]);simp[j3];rw[<-hx,<-hy,<-FL ay];cases hx2:dN T x with
  |lp i off=>
   rw[hx2]at ax;cases A.cells m (dN T y)with
   |none=>rfl
   |some vs=>simp[ax.lp]
  |ep i es k off=>
   rw[hx2]at ax;cases A.cells m (dN T y)with
   |none=>rfl
   |some vs=>simp[ax.ep]
  |_=>rfl
 |nilCheck x=>simp[hT x (by simp[ho,Op.operands]),H3 (hT x (by simp[ho,Op.operands])▸hm x (by simp[ho,Op.operands]))]
 |binOp op t x y yt=>
  have hx:=hT x (by simp[ho,Op.operands]);have hy:=hT y (by simp[ho,Op.operands]);simp[<-hx,<-hy,VK (hm x (by simp[ho,Op.operands])) (hm y (by simp[ho,Op.operands]))]
 |unOp op t x=>simp[hT x (by simp[ho,Op.operands])]
 |convert s t x=>simp[hT x (by simp[ho,Op.operands])]
 |makeFunc f a b=>
  have e1:a.toList.map (dN T)=a.toList.map (dN T'):=cQ λx hx=>hT x (by rw[ho];simp[Op.operands];exact .inl (by simpa using hx));have e2:b.toList.map (dN T)=b.toList.map (dN T'):=cQ λx hx=>hT x (by rw[ho];simp[Op.operands];exact .inr (by simpa using hx));simp[e1,e2]
 |makeMap t r=>cases r<;>simp[oA hd]
 |makeSlice t l c=>simp[yC,oA hd,hT l (by simp[ho,Op.operands]),hT c (by simp[ho,Op.operands])]
 |slice t x lo hi mx=>
  have hx:=hT x (by simp[ho,Op.operands]);have e1:∀(q:Option Operand),(∀y,q=some y->y∈o.op.operands.toList)->q.map (dN T)=q.map (dN T'):=by
   intro q hq;cases q with
   |none=>rfl
   |some y=>simp[dF,hT y (hq y rfl)]
  simp[<-hx,DN (hm x (by simp[ho,Op.operands])),e1 lo (by rintro y rfl;simp[ho,Op.operands]),e1 hi (by rintro y rfl;simp[ho,Op.operands]),e1 mx (by rintro y rfl;simp[ho,Op.operands])]
 |fieldAddr t x f=>simp[hT x (by simp[ho,Op.operands]),FP (hT x (by simp[ho,Op.operands])▸hm x (by simp[ho,Op.operands]))]
 |field t x f=>simp[uF,hT x (by simp[ho,Op.operands])]
 |indexAddr t x i=>simp[hT x (by simp[ho,Op.operands]),hT i (by simp[ho,Op.operands]),FQ (hT x (by simp[ho,Op.operands])▸hm x (by simp[ho,Op.operands]))]
 |extract x i=>simp[hT x (by simp[ho,Op.operands])]
 |call c=>
  have⟨callee,args,tys⟩:=c;simp only;cases callee with
  |value f=>rfl
  |invoke r n=>rfl
  |builtin b=>
   have mem:∀x∈args.toList,x∈o.op.operands.toList:=by
    intro x hx;rw[ho];simp[Op.operands,Call.operands];simpa using hx
   cases b with
   |len=>
    cases h1:args.toList with
    |nil=>rfl
    |cons x r=>
     cases r with
     |cons y r=>cases tys.toList<;>rfl
     |nil=>
      cases h2:tys.toList with
      |nil=>rfl
      |cons t r=>
       cases r with
       |cons _ _=>rfl
       |nil=>
        have hx:=mem x (by rw[h1];simp);simp[<-hT x hx,VM (hm x hx)]
   |append=>
    cases h1:args.toList with
    |nil=>rfl
    |cons x r=>
     cases r with
     |nil=>cases tys.toList<;>rfl
     |cons y r=>
      cases r with
      |cons _ _=>cases tys.toList<;>rfl
      |nil=>
       cases h2:tys.toList with
       |nil=>rfl
       |cons t r=>
        cases r with
        |nil=>rfl
        |cons t' r=>
         cases r with
         |cons _ _=>rfl
         |nil=>
          have hx:=mem x (by rw[h1];simp);have hy:=mem y (by rw[h1];simp);have:=MI (P:=P) (d:=d) (t:=t) (hT x hx) (hT y hy) (hm x hx) (hm y hy) hd;simp[this]
   |max=>
    cases h1:args.toList with
    |nil=>rfl
    |cons x r=>
     cases r with
     |nil=>rfl
     |cons y r=>
      cases r with
      |cons _ _=>rfl
      |nil=>
       have e1:=hT x (mem x (by rw[h1];simp));have e2:=hT y (mem y (by rw[h1];simp));simp[e1,e2]
   |min=>
    cases h1:args.toList with
    |nil=>rfl
    |cons x r=>
     cases r with
     |nil=>rfl
     |cons y r=>
      cases r with
      |cons _ _=>rfl
      |nil=>
       have e1:=hT x (mem x (by rw[h1];simp));have e2:=hT y (mem y (by rw[h1];simp));simp[e1,e2]
   |_=>rfl
 |_=>rfl
end
section
variable{M0 S0:Nat->Prop}{w0:World}{N:Fr}{T:Nat->A}{m:Mem}{ρ:Nat->Value}{a:Act}{w:World}{P:Program}
def J6(h:II P t=true):P.underlying t=some (.int .u8):=by
 unfold II at h;split at h
 ·assumption
 ·cases h
def FI(w:World)(e:TypeId)(s:ByteArray):iF (λ_=>False) w (Lib.bytesWorld w e s):=
 ⟨by simp[Lib.bytesWorld,World.freeze,World.alloc,World.drew,-World.alloc_eq,-World.drew_eq],by simp[Lib.bytesWorld,World.freeze,World.alloc,World.drew,-World.alloc_eq,-World.drew_eq],
  by simp[Lib.bytesWorld,World.freeze,World.alloc,World.drew,-World.alloc_eq,-World.drew_eq],by rw[Lib.bytesWorld_size];omega,λb hb _=>Lib.bytesWorld_at_old w e s b hb⟩
def DD:∀{l:List (List A)}{ns:List Int},bytesOf l=some ns->l.length=ns.length/\(∀e∈l,e.length=1)/\l.flatten=ns.map λn=>.d (.v (.int .u8 n))
 |[],ns,h=>by simp only[bytesOf,aA]at h;subst h;simp
 |e::r,ns,h=>by
  unfold bytesOf at h;split at h
  ·rename_i h1;cases h1
  ·rename_i n r' h1;cases h1;split at h
   ·rename_i l hl;simp only[aA]at h;subst h;obtain⟨h1,h2,h3⟩:=DD hl;refine⟨by simp[h1],?_,by simp[h3]⟩;intro e he;simp[aO]at he;rcases he with rfl|he
    ·rfl
    ·exact h2 e he
   ·cases h
  ·cases h
def JH{M:Nat->Prop}:∀(ns:List Int)(news:List Value),A.bR w M m ρ (ns.map λn=>.d (.v (.int .u8 n))) news->news=ns.map (Value.int .u8)
 |[],news,h=>by simpa [A.bR]using h
 |n::r,news,h=>by
  simp only[aG,A.bR,A.Den,C.Den]at h;obtain⟨y,yr,rfl,rfl,h2⟩:=h;rw[JH r yr h2];rfl
def UF(h:bC M0 S0 w0 N T m ρ a w){s t:TypeId}{x v:A}{y:Value}{pre:Bool}{ups:List (Nat×R)}(hx:x.Den w (dD M0 m ρ) m ρ y)(he:vG P m s t x=some (pre,v,ups))(hp:pre=true):
 ups=[]/\∃z,(convert s t y).run P w=.ok z w/\v.Den w (dD M0 m ρ) m ρ z:=by
 unfold vG at he;split at he
 ·rename_i rows e hs O2;split at he
  ·rename_i ns hns;simp[aA,aD]at he;have⟨rfl,rfl,rfl⟩:=he;rw[aE]at hp;have⟨b1,b2,b3⟩:=DD hns;obtain⟨ad,cap,news,rfl,E0,_,y4,aY8⟩:=IT h hx hs b2;rw[b3]at y4;have aZU:=JH ns news y4;refine⟨rfl,.string (ns.foldl (λr n=>r.push (UInt8.ofNat n.toNat)) ByteArray.empty),?_,by simp[A.Den,C.Den]⟩;rw[run_convert_bytes_string w s t e ad rows.length cap (nU O2) (J6 hp.1) (oB hp.2)];rcases aY8 with⟨rfl,rfl⟩|⟨d,rfl,aW7⟩
   ·have:ns=[]:=bL b1.symm;subst this;simp[Conv.bytesToString]
   ·refine run_bytesToString w d rows.length cap ns ?_;have:=run_firstCells_some (P:=P) w 1 rows.length d rows.length cap news (by rw[E0]) aW7;simp[Builtin.firstCells,Nat.mul_one]at this;rw[this,aZU]
  ·cases he
 ·cases he
def aIE(h:bC M0 S0 w0 N T m ρ a w)(cX:∀b,M0 b->b<w0.heap.size){o:Oper}{d:Nat}{pre:Bool}{v:A}{ups:List (Nat×R)}(he:qI P m T d o=some (pre,v,ups))(hp:pre=true):G1 P M0 S0 w0 N T m ρ a w o v (aH m ups):=by
 unfold qI at he;split at he
 ·rename_i s t x ho;split at he
  ·rename_i b e hx O2;simp[aA,aD]at he;obtain⟨rfl,rfl,rfl⟩:=he;simp[aE]at hp;have⟨hp1,hp2⟩:=hp;have v8:=cU h x;rw[hx]at v8;simp[A.Den,C.Den]at v8;have⟨u,hs⟩:∃u,P.underlying s=some u:=by
    cases hq:P.underlying s with
    |none=>rw[hq]at hp2;cases hp2
    |some u=>exact⟨u,rfl⟩
   have aVL:=Lib.run_convert_string_bytes w s t e b hs (nU O2) (J6 hp1);have hk:=FI w e b;have aXP:=V8 h cX;refine⟨_,_,ρ,_,by simp[execOp,ho,v8,aVL];rfl,.inl rfl,(h.world hk (λ_ _ e=>e.elim)).shrink (λb e=>.inl e),gL.refl m ρ,?_⟩;simp[A.Den,C.Den,aH];refine⟨_,grownCap w b.size 0 e,by simp[FH],by simp[FH];exact grownCap_ge w b.size 0 e,.inr ⟨w.heap.size,0,rfl,λhm=>Nat.lt_irrefl _ (aXP _ hm),by rw[Lib.bytesWorld_size];omega,?_⟩⟩;rw[C.tX];intro k r hr;simp only[FH,cK,bU]at hr;obtain⟨q,hq,rfl⟩:=hr;refine⟨rfl,?_⟩;rw[C.rA];intro j c hc;have hj:j=0:=by
    rcases j with _|j
    ·rfl
    ·simp at hc
   subst hj;simp at hc;subst hc;have hks:k<b.size:=by
    have:=(bA.1 hq).1;simpa using this
   refine⟨_,by simpa using Lib.bytesWorld_cell w e b k hks,rfl,?_⟩;simp[C.Den];have hq':b.data[k]?=some q:=by simpa using hq
   rw[hq'];rfl
  ·obtain⟨rfl,z,hr,hv⟩:=UF (P:=P) h (cU h x) he hp;exact eO h (by simp[execOp,ho,hr]) hv
 ·cases he
def aK5(h:bC M0 S0 w0 N T m ρ a w){o:Oper}{pre:Bool}{v:A}{ups:List (Nat×R)}(he:kG P m T o=some (pre,v,ups))(hp:pre=true):G1 P M0 S0 w0 N T m ρ a w o v (aH m ups):=by
 unfold kG at he;split at he
 ·rename_i c ho;have⟨callee,args,tys⟩:=c;simp only at he;split at he
  ·rename_i x y t t' h1 h2;have e1:=ME h1;have e2:=ME h2;subst e1;subst e2;split at he
   ·rename_i es e hx hs O2;split at he
    ·rename_i z hz;simp only[aA,aD]at he;have⟨rfl,rfl,rfl⟩:=he;simp only[aE]at hp;have⟨hp1,hp2⟩:=hp;have⟨rfl,p1,p2⟩:=aUL hp1;have v8:=cU h x;rw[hx]at v8;simp[A.Den,C.Den]at v8;have⟨ad,cap,hy,_⟩:=EZ h (cU h y) hs;have⟨i,hi⟩:=sA p2;have ht:=nU O2;have aVL:(Builtin.append_ #[t,t] o.type #[.slice none 0 0,.slice ad 0 cap]).run P w=.ok (.slice none 0 0) w:=by
      cases ad with
      |none=>simp[Builtin.append_,run_underlying ht,run_sizeOf hi,Builtin.lenOf,Builtin.firstCells,storeCells]
      |some d=>
       have hl:=run_firstCells_some (P:=P) w (P.cellsOf e) 0 d 0 cap [] sM sM;simp[Builtin.append_,run_underlying ht,run_sizeOf hi,Builtin.lenOf,hl,storeCells]
     refine⟨.slice none 0 0,w,ρ,_,by simp[execOp,ho,resolve,invoke,builtin,v8,hy,aVL],.inl rfl,h,gL.refl m ρ,by simp[A.Den,C.Den]⟩
    ·cases he
   ·cases he
  ·cases he
 ·cases he
def aK4(h:bC M0 S0 w0 N T m ρ a w)(cX:∀b,M0 b->b<w0.heap.size){o:Oper}{d:Nat}{pre:Bool}{v:A}{ups:List (Nat×R)}(he:kT P m T d o=some (pre,v,ups))(hp:pre=true):G1 P M0 S0 w0 N T m ρ a w o v (aH m ups):=by
 unfold kT at he;split at he
 ·rename_i e he';simp[aA]at he;subst he;exact aK5 h he' hp
 ·split at he
  ·rename_i e he';simp[aA]at he;subst he;exact aE5 h cX he' hp
  ·exact aIE h cX he hp
def JO{e:E}(h:kT P m T d o=some e):jO o=true:=by
 unfold kT at h;split at h
 ·rename_i e' he';unfold jO;split
  ·rename_i c ho;simp[kG,ho]at he'
  ·rfl
 ·split at h
  ·rename_i e' he';exact zX he'
  ·unfold jO;split
   ·rename_i c ho;simp[qI,ho]at h
   ·rfl
def qT.WC{pre:Bool}{ups:List (Nat×R)}(he:kT P m T d o=some (pre,v,ups))(hp:pre=true):qT P o T m v (aH m ups):=by
 intro ro N M0 S0 w0 ρ a w h cX next Q hn
 have⟨y,w',ρ',res,hr,aX0,hs,hO,hv⟩:=aK4 h cX he hp;exact qQ (JO he) hr aX0 (hn y w' ρ' hs hO hv)
end
def shallow(o:Oper):Bool:=
 match o.op with
 |.call c=>match c.callee with
  |.builtin _=>true
  |_=>false
 |.next _ _=>false
 |.entry _=>false
 |.range _ _=>false
 |.defer _=>false
 |_=>true
section
variable{P:Program}{m m':Mem}{T T':Nat->A}{d:Nat}{o:Oper}
def VJ(h:MB o T T' m m')(hd:m d=m' d)(hs:shallow o=true):jZ P m T d o=jZ P m' T' d o:=by
 have I5:=Z0 (P:=P) h hd;have⟨hT,hm⟩:=h;unfold jZ;cases ho:o.op with
 |lookup t x ix ok=>
  have hx:=hT x (by simp[ho,Op.operands]);have hix:=hT ix (by simp[ho,Op.operands]);simp[<-hx,<-hix,MK (hm x (by simp[ho,Op.operands]))]
 |mapUpdate t x k v=>
  have hx:=hT x (by simp[ho,Op.operands]);have hk:=hT k (by simp[ho,Op.operands]);have hv:=hT v (by simp[ho,Op.operands]);simp[<-hx,<-hk,<-hv,BW (hm x (by simp[ho,Op.operands]))]
 |insert t x k v=>
  have hx:=hT x (by simp[ho,Op.operands]);have hk:=hT k (by simp[ho,Op.operands]);have hv:=hT v (by simp[ho,Op.operands]);simp[<-hx,<-hk,<-hv,BW (hm x (by simp[ho,Op.operands]))]
 |mapEntry t x k=>
  have hx:=hT x (by simp[ho,Op.operands]);have hk:=hT k (by simp[ho,Op.operands]);simp[<-hx,<-hk,H2 (hm x (by simp[ho,Op.operands])) hd]
 |entryStore t x s v=>
  have hx:=hT x (by simp[ho,Op.operands]);have hk:=hT s (by simp[ho,Op.operands]);have hv:=hT v (by simp[ho,Op.operands]);simp[<-hx,<-hk,<-hv,DM (hm x (by simp[ho,Op.operands])) (hm s (by simp[ho,Op.operands]))]
 |range t x=>simp[shallow,ho]at hs
 |entry x=>simp[shallow,ho]at hs
 |index t x ix=>simp[hT x (by simp[ho,Op.operands]),hT ix (by simp[ho,Op.operands])]
 |binOp op t x y yt=>
  have hx:=hT x (by simp[ho,Op.operands]);have hy:=hT y (by simp[ho,Op.operands]);simp[I5,hx,hy]
 |call c=>
  have⟨callee,args,tys⟩:=c;simp[I5];cases callee with
  |value f=>rfl
  |invoke r n=>rfl
  |builtin b=>
   have mem:∀x∈args.toList,x∈o.op.operands.toList:=by
    intro x hx;rw[ho];simp[Op.operands,Call.operands];simpa using hx
   cases b with
   |delete=>
    cases h1:args.toList with
    |nil=>rfl
    |cons x r=>
     cases r with
     |nil=>cases tys.toList<;>rfl
     |cons y r=>
      cases r with
      |cons _ _=>cases tys.toList<;>rfl
      |nil=>
       cases h2:tys.toList with
       |nil=>rfl
       |cons t r=>
        cases r with
        |nil=>rfl
        |cons t' r=>
         cases r with
         |cons _ _=>rfl
         |nil=>
          have hx:=mem x (by rw[h1];simp);have hy:=mem y (by rw[h1];simp);simp[<-hT x hx,<-hT y hy,MJ (hm x hx)]
   |_=>rfl
 |_=>exact I5
def VO(h:MB o T T' m m'):kG P m T o=kG P m' T' o:=by
 have⟨hT,hm⟩:=h;unfold kG;cases ho:o.op with
 |call c=>
  have⟨callee,args,tys⟩:=c;simp only;cases callee with
  |value f=>rfl
  |invoke r n=>rfl
  |builtin b=>
   have mem:∀x∈args.toList,x∈o.op.operands.toList:=by
    intro x hx;rw[ho];simp[Op.operands,Call.operands];simpa using hx
   cases b with
   |append=>
    cases h1:args.toList with
    |nil=>rfl
    |cons x r=>
     cases r with
     |nil=>cases tys.toList<;>rfl
     |cons y r=>
      cases r with
      |cons _ _=>cases tys.toList<;>rfl
      |nil=>
       cases h2:tys.toList with
       |nil=>rfl
       |cons t r=>
        cases r with
        |nil=>rfl
        |cons t' r=>
         cases r with
         |cons _ _=>rfl
         |nil=>
          have hx:=mem x (by rw[h1];simp);have hy:=mem y (by rw[h1];simp);simp[<-hT x hx,<-hT y hy,<-pZ (hm y hy),<-GV (hm y hy)]
   |_=>rfl
 |_=>rfl
def SA(h:MB o T T' m m')(hd:m d=m' d):qI P m T d o=qI P m' T' d o:=by
 have⟨hT,hm⟩:=h;unfold qI;cases ho:o.op with
 |convert s t x=>
  have e1:=hT x (by simp[ho,Op.operands]);have e2:=pZ (hm x (by simp[ho,Op.operands]));simp[<-e1];unfold vG;rw[e2]
 |_=>rfl
def VN(h:MB o T T' m m')(hd:m d=m' d)(hs:shallow o=true):kT P m T d o=kT P m' T' d o:=by
 unfold kT;rw[VO h,VJ h hd hs,SA h hd]
def aEO(h:aEN P T o=some v)(m:Mem):jZ P m T d o=some (true,v,[]):=by
 unfold aEN at h;unfold jZ;cases ho:o.op with
 |move x=>simp[ho,aA]at h;subst h;simp[j9,ho]
 |assign x=>simp[ho,aA]at h;subst h;simp[j9,ho]
 |pick c a b=>
  simp[ho]at h;simp[j9,ho];split at h
  ·rename_i t ht;simp[aA]at h;subst h;rw[ht]
  ·cases h
 |binOp op t x y yt=>
  simp[ho]at h;simp[j9,ho];split at h
  ·rename_i k p k' q h1 h2;split at h
   ·rename_i c hc;simp[aA]at h;subst h;simp[xZ,h1,h2,hc,dF]
   ·cases h
  ·cases h
 |unOp op t x=>
  simp[ho]at h;simp[j9,ho];split at h
  ·rename_i v' u hu;simp[aA]at h;subst h;have:u=[]:=by
    unfold NF at hu;split at hu<;>simp at hu
    ·exact hu.2
    ·exact hu.2.2
   rw[hu,this]
  ·cases h
 |extract x i=>
  simp[ho]at h;simp[j9,ho];split at h
  ·rename_i l hl;cases hb:Nat.blt i l.length with
   |true=>
    rw[hb]at h;simp[cond_true,aA]at h;subst h;rw[hl];have:i<l.length:=by simpa [rR]using hb
    simp[this]
   |false=>rw[hb]at h;cases h
  ·cases h
 |field t x f=>
  simp[ho]at h;simp[j9,ho];split at h
  ·rename_i v' u hu;simp[aA]at h;subst h;have:u=[]:=by
    unfold uF at hu;split at hu
    ·split at hu<;>simp at hu<;>exact hu.2.2
    ·split at hu<;>simp at hu<;>exact hu.2.2
    ·cases hu
   subst this;exact hu
  ·cases h
 |_=>simp[ho]at h
end

inductive Mr where
 |ret
 |sE(v:A)
 |rcv(v:A)
abbrev aLJ:=Ex->(Nat->A)->Mem->List DA->Mr->Prop
section
variable{P:Program}{n:Nat}{T:Nat->A}{m:Mem}{ds:List DA}{md:Mr}{Post:aLJ}
end
section
variable{P:Program}{fn:Func}{T:Nat->A}{m mf:Mem}{ds:List DA}{md:Md}{r:Rt}
end

section
variable{P:Program}{M0 S0:Nat->Prop}{w0:World}{N:Fr}{T:Nat->A}{m m':Mem}{ρ:Nat->Value}{a:Act}{w:World}{o:Oper}{M:Nat->Prop}
end
section
variable{P:Program}{M0 S0:Nat->Prop}{w0:World}{N:Fr}{T:Nat->A}{m m':Mem}{ρ:Nat->Value}{a:Act}{w:World}{o:Oper}{M:Nat->Prop}
end
section
variable{P:Program}{M0 S0:Nat->Prop}{w0:World}{N:Fr}{T:Nat->A}{m m':Mem}{ρ:Nat->Value}{a:Act}{w:World}{o:Oper}{M:Nat->Prop}
end
section
variable{M0 S0:Nat->Prop}{w0:World}{N:Fr}{P:Program}{ops:Array Oper}{TX:(Nat->Bool)->Nat->A}{MX:(Nat->Bool)->Mem}{m:Mem}{ρ:Nat->Value}
def V7{h:Value}{fz:Bool}{kv kv':List (Ky×A)}{st:List (Ky×Nat)}(hp:kv.Perm kv')(hr:R.Ok w M m ρ h (.mp fz kv st)):R.Ok w M m ρ h (.mp fz kv' []):=by
 have⟨b,es,cl,l,e,h1,h2,h3,h4,h5⟩:=hr;have⟨z,hz⟩:=aD5 h2 h3;have hz':MZ w M m ρ es cl kv' z:={hz with perm:=hz.perm.trans hp};have⟨l',k1,k2⟩:=aI9 hz';exact⟨b,es,cl,l',e,h1,k1,k2,h4,λp hp=>by simp at hp⟩
def bC.aH8{m1:Mem}{fz:Bool}{kv kv':List (Ky×A)}{st:List (Ky×Nat)}(h:bC M0 S0 w0 N T (aX m1 d (.mp fz kv st)) ρ a w)(hp:kv.Perm kv'):
 bC M0 S0 w0 N T (aX m1 d (.mp fz kv' [])) ρ a w/\gL (aX m1 d (.mp fz kv st)) (aX m1 d (.mp fz kv' [])) ρ ρ/\∀b,dD M0 (aX m1 d (.mp fz kv' [])) ρ b->dD M0 (aX m1 d (.mp fz kv st)) ρ b:=by
 have hO:gL (aX m1 d (.mp fz kv st)) (aX m1 d (.mp fz kv' [])) ρ ρ:=by
  intro i hi;by_cases e:i=d
  ·subst e;refine⟨by simp[aX],λ_=>⟨by simp[aX],rfl,λfz' t es l q=>by simp[aX]at q⟩⟩
  ·have e1:∀r,aX m1 d r i=m1 i:=λr=>by simp[aX,e]
   rw[e1]at hi;rw[e1,e1];exact⟨hi,λhd=>⟨hd,rfl,λfz t es l q=>⟨fz,t,l,q,rfl⟩⟩⟩
 have Q2:∀b,dD M0 (aX m1 d (.mp fz kv' [])) ρ b->dD M0 (aX m1 d (.mp fz kv st)) ρ b:=by
  rintro b (e|⟨i,r,h1,h2,h3⟩)
  ·exact .inl e
  ·by_cases e:i=d
   ·subst e;simp[aX,if_true,aA]at h1;subst h1;exact .inr ⟨i,.mp fz kv st,by simp[aX],h2,h3⟩
   ·exact .inr ⟨i,r,by simpa [aX,e]using h1,h2,h3⟩
 have aY4:∀b,dD M0 (aX m1 d (.mp fz kv' [])) ρ b->b<w.heap.size->dD M0 (aX m1 d (.mp fz kv st)) ρ b:=λb hb _=>Q2 b hb;have live:∀{i:Nat}{r:R},aX m1 d (.mp fz kv' []) i=some r->r.live=true->∃q,aX m1 d (.mp fz kv st) i=some q/\q.live=true:=by
  intro i r h1 h2;by_cases e:i=d
  ·subst e;simp[aX,if_true,aA]at h1;subst h1;exact⟨.mp fz kv st,by simp[aX],h2⟩
  ·exact⟨r,by simpa [aX,e]using h1,h2⟩
 refine⟨?_,hO,Q2⟩
 exact{keeps:=h.keeps,size:=h.size
       defers:=λds e=>eJ (dV.refl _ w) aY4 hO _ _ (h.defers ds e)
       tmps:=λn=>A.dC (dV.refl _ w) aY4 hO _ _ (h.tmps n)
       res:=λi r hi=>by
        by_cases e:i=d
        · subst e
          simp[aX,if_true,aA]at hi;subst hi;exact V7 hp (R.hU (dV.refl _ w) aY4 hO (λ_ _ _=>rfl) (h.res i (.mp fz kv st) (by simp[aX])))
        · exact R.hU (dV.refl _ w) aY4 hO (λ_ _ _=>rfl) (h.res i r (by simpa [aX,e]using hi))
       own:=λi r b hi hl hb=>by
        have⟨q,hq,qK⟩:=live hi hl;exact h.own i q b hq qK hb
       apart:=λi j r s b hi l1 hj l2 b1 b2=>by
        have⟨q,hq,h1⟩:=live hi l1;have⟨q',hq',h2⟩:=live hj l2
        exact h.apart i j q q' b hq h1 hq' h2 b1 b2}
end
structure Q4(α:Type)where
 a:α
 b:α
 c:α
 d:α
structure wN(S B:Type)where
 get:S->B
 set:B->S->S
def q4(α:Type)(i:Nat):wN (Q4 α) α:=
 Nat.casesOn (motive:=λ_=>wN (Q4 α) α) i ⟨λq=>Q4.casesOn (motive:=λ_=>α) q λa _ _ _=>a,λx q=>Q4.casesOn (motive:=λ_=>Q4 α) q λ_ b c d=>⟨x,b,c,d⟩⟩
  λi=>Nat.casesOn (motive:=λ_=>wN (Q4 α) α) i ⟨λq=>Q4.casesOn (motive:=λ_=>α) q λ_ b _ _=>b,λx q=>Q4.casesOn (motive:=λ_=>Q4 α) q λa _ c d=>⟨a,x,c,d⟩⟩
   λi=>Nat.casesOn (motive:=λ_=>wN (Q4 α) α) i ⟨λq=>Q4.casesOn (motive:=λ_=>α) q λ_ _ c _=>c,λx q=>Q4.casesOn (motive:=λ_=>Q4 α) q λa b _ d=>⟨a,b,x,d⟩⟩
    λ_=>⟨λq=>Q4.casesOn (motive:=λ_=>α) q λ_ _ _ d=>d,λx q=>Q4.casesOn (motive:=λ_=>Q4 α) q λa b c _=>⟨a,b,c,x⟩⟩
def wN.comp{S B C:Type}(l1:wN S B)(l2:wN B C):wN S C:=
 wN.casesOn (motive:=λ_=>wN S C) l1 λg1 s1=>wN.casesOn (motive:=λ_=>wN S C) l2 λg2 s2=>⟨λs=>g2 (g1 s),λx s=>s1 (s2 x (g1 s)) s⟩
def Sep{S B:Type}(k:Nat)(L:Nat->wN S B):Prop:=∀i j x s,i<k->j<k->(L j).get ((L i).set x s)=if j=i then x else(L j).get s
def QZ(α:Type):Sep 4 (q4 α):=by
 intro i j x s hi hj;have⟨a,b,c,d⟩:=s
 match i,j,hi,hj with
 |0,0,_,_=>rfl
 |0,1,_,_=>rfl
 |0,2,_,_=>rfl
 |0,3,_,_=>rfl
 |1,0,_,_=>rfl
 |1,1,_,_=>rfl
 |1,2,_,_=>rfl
 |1,3,_,_=>rfl
 |2,0,_,_=>rfl
 |2,1,_,_=>rfl
 |2,2,_,_=>rfl
 |2,3,_,_=>rfl
 |3,0,_,_=>rfl
 |3,1,_,_=>rfl
 |3,2,_,_=>rfl
 |3,3,_,_=>rfl
 |i+4,_,h,_=>exact absurd h oM
 |_,j+4,_,h=>exact absurd h oM
def LM{S B C:Type}{L:Nat->wN S B}{M:Nat->wN B C}(hk:0<k)(hL:Sep 4 L)(hM:Sep k M):Sep (4*k) (λn=>(L (n/k)).comp (M (n %k))):=by
 intro i j x s hi hj;have h1:i/k<4:=(nA hk).2 hi;have h2:j/k<4:=(nA hk).2 hj;have h3:=u5 i hk;have h4:=u5 j hk;show(M (j %k)).get ((L (j/k)).get ((L (i/k)).set ((M (i %k)).set x ((L (i/k)).get s)) s))=if j=i then x else(M (j %k)).get ((L (j/k)).get s)
 rw[hL _ _ _ _ h1 h2];by_cases e:j/k=i/k
 ·rw[aUF e,hM _ _ _ _ h3 h4,e];by_cases e2:j %k=i %k
  ·have:j=i:=by rw[<-Nat.div_add_mod j k,<-Nat.div_add_mod i k,e,e2]
   rw[aUF e2,aUF this]
  ·have:j≠i:=λq=>e2 (by rw[q]);rw[aT7 e2,aT7 this]
 ·have:j≠i:=λq=>e (by rw[q]);rw[aT7 e,aT7 this]
abbrev WT:=Q4 (Q4 A)
abbrev XJ:=Q4 (Q4 (Q4 A))
abbrev aLK:=Q4 (Q4 (Q4 (Q4 A)))
def l16(n:Nat):wN WT A:=(q4 (Q4 A) (n/4)).comp (q4 A (n %4))
def l64(n:Nat):wN XJ A:=(q4 WT (n/16)).comp (l16 (n %16))
def aDX(n:Nat):wN aLK A:=(q4 XJ (n/64)).comp (l64 (n %64))
def aK6:Sep 256 aDX:=LM (k:=64) eD (QZ _) (LM (k:=16) eD (QZ _) (LM (k:=4) eD (QZ _) (QZ _)))
structure Tb where
 t:aLK
 o:Tr A
def aEA:Q4 A:=⟨.x,.x,.x,.x⟩
def TP:WT:=⟨aEA,aEA,aEA,aEA⟩
def EF:XJ:=⟨TP,TP,TP,TP⟩
def Tb.nil:Tb:=⟨⟨EF,EF,EF,EF⟩,.nil⟩
def Tb.fn(t:Tb)(n:Nat):A:=Bool.casesOn (motive:=λ_=>A) (Nat.blt n 256) (t.o.fn n) (wN.casesOn (motive:=λ_=>A) (aDX n) λg _=>g t.t)
def Tb.set(t:Tb)(n:Nat)(x:A):Tb:=Tb.casesOn (motive:=λ_=>Tb) t λq o=>Bool.casesOn (motive:=λ_=>Tb) (Nat.blt n 256) ⟨q,Tr.set 0 o n x⟩ (wN.casesOn (motive:=λ_=>Tb) (aDX n) λ_ s=>⟨s x q,o⟩)
def Tb.put(t:Tb)(d:Option Nat)(x:A):Tb:=Option.casesOn (motive:=λ_=>Tb) d t λn=>t.set n x
def Tb.SQ(t:Tb){n:Nat}(h:n<256):t.fn n=(aDX n).get t.t:=by
 have e:Nat.blt n 256=true:=by simpa [rR]using h
 unfold Tb.fn;rw[e]
def Tb.SP(t:Tb){n:Nat}(h:¬n<256):t.fn n=t.o.fn n:=by
 have e:Nat.blt n 256=false:=by
  cases q:Nat.blt n 256 with
  |false=>rfl
  |true=>exact absurd (by simpa [rR]using q) h
 unfold Tb.fn;rw[e]
def Tb.FU(t:Tb)(n:Nat)(x:A):(t.set n x).fn=lI t.fn (some n) x:=by
 funext k;obtain⟨q,o⟩:=t;by_cases hn:n<256
 ·have e:Nat.blt n 256=true:=by simpa [rR]using hn
  have hs:(Tb.mk q o).set n x=⟨(aDX n).set x q,o⟩:=by unfold Tb.set;rw[e]
  rw[hs];by_cases hk:k<256
  ·rw[Tb.SQ _ hk];simp only[lI];rw[aK6 n k x q hn hk];by_cases q1:k=n
   ·subst q1;simp
   ·rw[aT7 q1,aT7 (λe=>q1 (by simpa using e.symm)),Tb.SQ _ hk]
  ·rw[Tb.SP _ hk];simp only[lI];rw[aT7 (λe=>hk (by simp only[aA]at e;omega)),Tb.SP _ hk]
 ·have e:Nat.blt n 256=false:=by
   cases q:Nat.blt n 256 with
   |false=>rfl
   |true=>exact absurd (by simpa [rR]using q) hn
  have hs:(Tb.mk q o).set n x=⟨q,Tr.set 0 o n x⟩:=by unfold Tb.set;rw[e]
  rw[hs];by_cases hk:k<256
  ·rw[Tb.SQ _ hk];simp only[lI];rw[aT7 (λe=>hn (by simp only[aA]at e;omega)),Tb.SQ _ hk]
  ·rw[Tb.SP _ hk,Tr.FU];simp only[lI];rw[Tb.SP _ hk]
def Tb.VU(t:Tb)(d:Option Nat)(x:A):(t.put d x).fn=lI t.fn d x:=by
 cases d with
 |none=>funext k;simp[Tb.put,lI]
 |some n=>exact Tb.FU t n x
def IM{α:Type}(x:α):∀i,(q4 α i).get ⟨x,x,x,x⟩=x
 |0=>rfl
 |1=>rfl
 |2=>rfl
 |_+3=>rfl
def Tb.aCX(n:Nat):Tb.nil.fn n=.x:=by
 by_cases hn:n<256
 ·rw[Tb.SQ _ hn];show(q4 A (n %64 %16 %4)).get ((q4 (Q4 A) (n %64 %16/4)).get ((q4 WT (n %64/16)).get ((q4 XJ (n/64)).get ⟨EF,EF,EF,EF⟩)))=.x;rw[IM];unfold EF;rw[IM];unfold TP;rw[IM];unfold aEA;rw[IM]
 ·rw[Tb.SP _ hn];show Tr.fn .nil n=.x;rw[Tr.aCW,Tr.get_nil];rfl
end Go.Pv
