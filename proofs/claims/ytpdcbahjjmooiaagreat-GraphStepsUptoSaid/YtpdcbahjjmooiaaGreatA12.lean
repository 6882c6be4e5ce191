import Derived.Test.YtpdcbahjjmooiaaGreatA11
/- A program logic over the model, contracts of the functions that the law reaches: part 12. (Names and blanks were shortened by program.) -/
set_option linter.unusedVariables false
set_option linter.unusedSimpArgs false
set_option linter.constructorNameAsVariable false
set_option linter.unusedSectionVars false
set_option linter.deprecated false
set_option maxRecDepth 100000
set_option maxHeartbeats 8000000
open Go
namespace Go.Pv
open Go.RowKit
variable{st:St}{o:Oper}{T:Nat->A}{outs:List (Ot×Nat)}{n:Nat}{c:Code}
structure FB(P:Program)(H:Hd):Prop where
 fn:∀f as t nx outs nx',H (.fn f) as t nx=some (outs,nx')->∃r u,outs=[(r,u)]/\aJ P f as t.get r (aH t.get u)
 yl:∀i as t nx outs nx',H (.yl i) as t nx=some (outs,nx')->∀(o:Oper)(T:Nat->A)(c:Call)(fo:Operand),o.op=.call c->c.callee=.value fo->dN T fo=.h i->c.args.toList.map (dN T)=as->o8 P o T t.get outs
theorem AP{i:Nat}:∀{l:List Nat},s9 i l=true↔i∈l
 |[]=>by simp[s9]
 |j::r=>by
  simp only[s9,aO];cases h:Nat.beq i j with
  |true=>simp[bB h]
  |false=>simp only[cond_false];rw[AP (l:=r)];exact⟨.inr,λq=>q.resolve_left (λe=>by subst e;simp at h)⟩
theorem A8(b:Tr R):∀(u:List (Nat×R))(l:List Nat)(i:Nat),i∈l->i∈KF b u l
 |[],l,i,h=>h
 |(j,q)::r,l,i,h=>by
  simp only[KF];refine A8 b r _ i ?_;cases b.get j with
  |none=>exact h
  |some _=>simp only;cases s9 j l with
   |true=>exact h
   |false=>exact List.mem_cons_of_mem _ h
theorem KG(b:Tr R):∀(u:List (Nat×R))(l:List Nat)(p:Nat×R),p∈u->b.get p.1≠none->p.1∈KF b u l
 |[],l,p,h,_=>by simp at h
 |(j,q)::r,l,p,h,hb=>by
  simp only[KF];simp only[aO]at h;rcases h with rfl|h
  ·refine A8 b r _ _ ?_;simp only at hb⊢;cases hq:b.get j with
   |none=>exact absurd hq hb
   |some _=>
    simp only;cases hm:s9 j l with
    |true=>exact AP.1 hm
    |false=>simp
  ·exact KG b r _ p h hb
def Inv(st:St):Prop:=∀i q,st.b.get i=some q->i∉st.log->st.m.get i=some q
theorem Inv.set{b m:Tr R}{log:List Nat}(h:∀i q,b.get i=some q->i∉log->m.get i=some q)(u:List (Nat×R)):∀i q,b.get i=some q->i∉KF b u log->(Tr.MW fM m u).get i=some q:=by
 intro i q hb hl;have h1:∀p∈u,p.1≠i:=by
  rintro p hp rfl;exact hl (KG b u log p hp (by rw[hb];simp))
 rw[Tr.nV,n9 u m.get h1];exact h i q hb λe=>hl (A8 b u log i e)
theorem Inv.O0{st:St}(h:Inv st)(d:Option Nat)(v:A)(u:List (Nat×R)):Inv (st.O0 d v u):=by rw[St.BM];exact Inv.set h u
theorem St.aJD(st:St)(d:Option Nat)(v:A)(u:List (Nat×R)):(st.O0 d v u).b=st.b:=by rw[St.BM]
theorem Inv.u9{st:St}(h:Inv st)(u:List (Nat×R)):Inv (st.u9 u):=Inv.set h u
section
variable{P:Program}{H:Hd}
theorem SG{m:Mem}{d nx:Nat}(h:yY (hJ P m T d o) nx=some outs):o8 P o T m (outs.map (·.1)):=by
 unfold yY at h;split at h
 ·rename_i v u he;simp only[aA]at h;subst h;exact o8.one (qT.WC he rfl)
 ·cases h
theorem HJ{x:Option (List Ot×Nat)}(h:P6 x=some outs):∃l nx,x=some (l,nx)/\outs.map (·.1)=l:=by
 unfold P6 at h;split at h
 ·rename_i l nx;simp only[aA]at h;subst h;exact⟨l,nx,rfl,by rw[bH];exact qB l⟩
 ·cases h
theorem Z1(hH:FB P H){st:St}{nx:Nat}{o:Oper}{c:Call}{outs:List (Ot×Nat)}(ho:o.op=.call c)(h:CF P H st nx c=some outs):o8 P o st.T.fn st.m.get (outs.map (·.1)):=by
 unfold CF at h;split at h
 ·rename_i f as hc;obtain⟨l,nx',h1,e⟩:=HJ h;obtain⟨r,u,e2,hcall⟩:=hH.fn _ _ _ _ _ _ h1;rw[e,e2];exact o8.call ho hc hcall
 ·split at h
  ·rename_i fo hcal;split at h
   ·rename_i i hi;obtain⟨l,nx',h1,rfl⟩:=HJ h;exact hH.yl _ _ _ _ _ _ h1 o _ c fo ho hcal hi rfl
   ·cases h
  ·cases h
theorem JU{nx:Nat}(h:yY (gV P st.m.get st.T.fn nx o) nx=some outs):o8 P o st.T.fn st.m.get (outs.map (·.1)):=by
 unfold yY at h;split at h
 ·rename_i v u he;simp only[aA]at h;subst h;exact o8.one (qT.YZ he rfl)
 ·cases h
theorem DO{nx:Nat}(h:yY (hJ P st.m.get (λt=>yW st.m.get (st.T.fn t)) nx o) nx=some outs):o8 P o st.T.fn st.m.get (outs.map (·.1)):=by
 unfold yY at h;split at h
 ·rename_i v u he;simp only[aA]at h;subst h;exact o8.one (qT.yW (qT.WC he rfl))
 ·cases h
theorem X3(hH:FB P H){st:St}{nx:Nat}{o:Oper}{outs:List (Ot×Nat)}(h:SH P H st nx o=some outs):o8 P o st.T.fn st.m.get (outs.map (·.1)):=by
 unfold SH at h;split at h
 ·rename_i x b ho;split at h
  ·rename_i outs' he;simp only[aA]at h;subst h;have:=o8.next (P:=P) ho he;rw[bH];exact this
  ·cases h
 ·rename_i c ho;split at h
  ·rename_i e he;rw[<-he]at h;exact JU h
  ·split at h
   ·rename_i e he;rw[<-he]at h;exact SG h
   ·split at h
    ·rename_i r hr;simp only[aA]at h;subst h;exact Z1 hH ho hr
    ·split at h
     ·rename_i e he;rw[<-he]at h;exact DO h
     ·cases h
 ·split at h
  ·rename_i e he;rw[<-he]at h;exact JU h
  ·split at h
   ·rename_i e he;rw[<-he]at h;exact SG h
   ·split at h
    ·rename_i e he;rw[<-he]at h;exact DO h
    ·cases h
theorem tI{α β:Type}{f:α->Option (List β)}:∀{l:List α}{out:List β},vC f l=some out->∀x∈l,∃a,f x=some a/\∀y∈a,y∈out
 |[],out,_,x,hx=>by simp at hx
 |[z],out,h,x,hx=>by
  simp only[vC]at h;simp only[aR]at hx;subst hx;exact⟨out,h,λy hy=>hy⟩
 |z::z2::r,out,h,x,hx=>by
  simp only[vC]at h;split at h
  ·rename_i a b h1 h2;simp only[aA]at h;subst h;simp only[aO]at hx;rcases hx with rfl|hx
   ·exact⟨a,h1,λy hy=>by simp[hy]⟩
   ·obtain⟨c,h3,h4⟩:=tI h2 x (by simpa using hx);exact⟨c,h3,λy hy=>by simp[h4 y hy]⟩
  ·cases h
theorem A4{α β:Type}{f:α->Option (List β)}:∀{l:List α}{out:List β},vC f l=some out->∀y∈out,∃x∈l,∃a,f x=some a/\y∈a
 |[],out,h,y,hy=>by simp only[vC,aA]at h;subst h;simp at hy
 |[z],out,h,y,hy=>by
  simp only[vC]at h;exact⟨z,by simp,out,h,hy⟩
 |z::z2::r,out,h,y,hy=>by
  simp only[vC]at h;split at h
  ·rename_i a b h1 h2;simp only[aA]at h;subst h;simp only[bN]at hy;rcases hy with hy|hy
   ·exact⟨z,by simp,a,h1,hy⟩
   ·obtain⟨x,hx,c,h3,h4⟩:=A4 h2 y hy;exact⟨x,by simp at hx⊢;exact .inr hx,c,h3,h4⟩
  ·cases h
theorem nS{d:Option Nat}(h:vE n d=true):∀k,d=some k->k<n:=by
 rintro k rfl;simpa [vE,rR]using h
def vB(outs:List Oc):qU:=λex T m ds=>∃o∈outs,o.1=ex/\T=o.2.1.T.fn/\m=o.2.1.m.get/\ds=o.2.2.1
theorem wO.mono{rd:Bool}{n:Nat}{ops:Array Oper}{Post1 Post:qU}(hp:∀ex T m ds,Post1 ex T m ds->Post ex T m ds):∀(l:List Nat)(T:Nat->A)(m:Mem)(ds:List DA),wO P rd n ops Post1 l T m ds->wO P rd n ops Post l T m ds
 |[],T,m,ds,h=>hp _ _ _ _ h
 |i::r,T,m,ds,h=>by
  simp only[wO]at h⊢;cases ho:ops[i]? with
  |none=>rw[ho]at h;exact wO.mono hp r T m ds h
  |some o=>
   rw[ho]at h;obtain⟨hd,h⟩:=h;refine⟨hd,?_⟩;cases hw:kO ops T o with
   |none=>rw[hw]at h;exact h.elim
   |some b=>
    rw[hw]at h;cases b with
    |true=>
     rcases h with⟨outs,h1,h2⟩|⟨h0,da,h1,h2⟩
     ·exact .inl ⟨outs,h1,λu hu=>⟨λv e=>wO.mono hp r _ _ _ ((h2 u hu).1 v e),λv e=>hp _ _ _ _ ((h2 u hu).2 v e)⟩⟩
     ·exact .inr ⟨h0,da,h1,wO.mono hp r _ _ _ h2⟩
    |false=>exact wO.mono hp r _ _ _ h
theorem DP(hH:FB P H){rd:Bool}{n:Nat}{ops:Array Oper}:∀(l:List Oper)(k:Nat)(ds:List DA)(st:St)(nx:Nat)(outs:List Oc),ops.toList.drop k=l->vI P H rd n ops l ds st nx=some outs->Inv st->
 wO P rd n ops (vB outs) (List.range' k l.length) st.T.fn st.m.get ds/\∀o∈outs,Inv o.2.1/\o.2.1.b=st.b
 |[],k,ds,st,nx,outs,hk,h,hi=>by
  simp only[vI,aA]at h;subst h;exact⟨⟨_,aR.2 rfl,rfl,rfl,rfl,rfl⟩,λo ho=>by simp only[aR]at ho;subst ho;exact⟨hi,rfl⟩⟩
 |o::r,k,ds,st,nx,outs,hk,h,hi=>by
  have hko:ops[k]?=some o:=by
   have:ops.toList[k]?=some o:=by
    have:=congrArg List.head? hk;simpa [pA]using this
   simpa using this
  have hkr:ops.toList.drop (k+1)=r:=by
   have:(ops.toList.drop k).drop 1=r:=by rw[hk];rfl
   simpa [lY]using this
  simp only[VP,z6,JV,St.go_eq]at h;rw[aQ,List.range'_succ];simp only[wO,hko];split at h
  ·rename_i hd;split at h
   ·rename_i hw;rw[hw];split at h
    ·rename_i us he;refine⟨⟨nS hd,.inl ⟨us.map (·.1),X3 hH he,λu0 hu0=>?_⟩⟩,λy hy=>?_⟩
     ·obtain⟨u,hu,rfl⟩:=aM.1 hu0;obtain⟨a,h1,h2⟩:=tI h u hu;refine⟨λv e=>?_,λv e=>?_⟩
      ·rw[e]at h1;have:=(DP hH r (k+1) ds (st.O0 o.dst v u.1.2) u.2 a hkr h1 (hi.O0 _ _ _)).1;simp only[St.BM,Tb.VU,Tr.nV]at this;exact wO.mono (λex T m ds⟨q,hq,z⟩=>⟨q,h2 q hq,z⟩) _ _ _ _ this
      ·rw[e]at h1;simp only[aA]at h1;subst h1;exact⟨(.sE v,st.u9 u.1.2,ds,u.2),h2 _ (by simp),rfl,rfl,by simp only[St.u9,Tr.nV],rfl⟩
     ·obtain⟨u,hu,a,h1,h2⟩:=A4 h y hy;cases hr:u.1.1 with
      |ok v=>
       rw[hr]at h1;have:=(DP hH r (k+1) ds (st.O0 o.dst v u.1.2) u.2 a hkr h1 (hi.O0 _ _ _)).2 y h2;rw[St.aJD]at this;exact this
      |sE v=>
       rw[hr]at h1;simp only[aA]at h1;subst h1;simp only[aR]at h2;subst h2;exact⟨hi.u9 _,rfl⟩
    ·cases h
   ·rename_i hw;rw[hw];have:=DP hH r (k+1) ds _ nx outs hkr h (hi.O0 _ _ _);simp only[St.BM,Tb.VU,Tr.nV,aH]at this;exact⟨⟨nS hd,this.1⟩,this.2⟩
   ·cases h
  ·cases h
end
theorem PI{m:Tr R}:∀(f:Nat)(w:List Nat)(m1:Tr R)(l:List Nat)(m2:Tr R)(l2:List Nat),VC m f w m1 l=some (m2,l2)->(∀i r,m1.get i=some r->m.get i=some r)->(∀i r,m1.get i=some r->∀j∈r.hs,m1.get j≠none\/j∈w)->(∀i,m1.get i≠none->i∈l)->
 (∀i r,m2.get i=some r->m.get i=some r)/\(∀i r,m2.get i=some r->∀j∈r.hs,m2.get j≠none)/\(∀i,m2.get i≠none->i∈l2)/\(∀i,m1.get i≠none\/i∈w->m2.get i≠none)
 |0,w,m1,l,m2,l2,h,_,_,_=>by simp[VC]at h
 |f+1,[],m1,l,m2,l2,h,h1,h2,h3=>by
  simp only[VC,aA,aD]at h;obtain⟨rfl,rfl⟩:=h;exact⟨h1,λi r e j hj=>(h2 i r e j hj).resolve_right (by simp),h3,λi e=>e.resolve_right (by simp)⟩
 |f+1,i::w,m1,l,m2,l2,h,h1,h2,h3=>by
  simp only[VC]at h;split at h
  ·rename_i q hq
   obtain⟨g1,g2,g3,g4⟩:=PI f w m1 l m2 l2 h h1 (λj r e k hk=>by
    rcases h2 j r e k hk with x|x
    · exact .inl x
    · simp only[aO]at x
      rcases x with rfl|x
      · exact .inl (by rw[hq];simp)
      · exact .inr x) h3
   refine⟨g1,g2,g3,λj e=>g4 j ?_⟩;rcases e with e|e
   ·exact .inl e
   ·simp only[aO]at e;rcases e with rfl|e
    ·exact .inl (by rw[hq];simp)
    ·exact .inr e
  ·rename_i hq;split at h
   ·rename_i r hr
    obtain⟨g1,g2,g3,g4⟩:=PI f (r.hs++w) (Tr.set fM m1 i r) (i::l) m2 l2 h (λj s e=>by
     rw[Tr.rV]at e;split at e
     · rename_i e2;subst e2;simp only[aA]at e;subst e;exact hr
     · exact h1 j s e) (λj s e k hk=>by
     rw[Tr.rV]at e⊢;split at e
     · simp only[aA]at e;subst e
       exact .inr (by simp[hk])
     · rcases h2 j s e k hk with x|x
       · split
         · exact .inl (by simp)
         · exact .inl x
       · simp only[aO]at x
         rcases x with rfl|x
         · exact .inl (by simp)
         · exact .inr (by simp[x])) (λj e=>by
     rw[Tr.rV]at e;split at e
     · rename_i e2;subst e2;simp
     · simp[h3 j e])
    refine⟨g1,g2,g3,λj e=>g4 j ?_⟩;rcases e with e|e
    ·exact .inl (by rw[Tr.rV];split<;>simp[e])
    ·simp only[aO]at e;rcases e with rfl|e
     ·exact .inl (by rw[Tr.rV];simp)
     ·exact .inr (by simp[e])
   ·cases h
theorem ON(T:Nat->A):∀(l:List Nat)(t:Tb)(n:Nat),(l.foldl (λt n=>Tb.set t n (T n)) t).fn n=if n∈l then T n else t.fn n
 |[],t,n=>by simp
 |k::l,t,n=>by
  simp only[fX];rw[ON T l,Tb.FU];simp only[lI,aO];by_cases h:n∈l
  ·simp[h]
  ·by_cases e:k=n
   ·subst e;simp
   ·simp[h,e,tG e]
theorem HF{m1 m:Tr R}:∀{u:List (Nat×R)},P5 m1 m u=true->∀p∈u,m1.get p.1=none->m.get p.1=none
 |[],_,p,hp=>by simp at hp
 |(i,r)::u,h,p,hp=>by
  simp only[P5,aE]at h;simp only[aO]at hp;rcases hp with rfl|hp
  ·intro e;simp only at e;rw[e]at h;exact hG h.1
  ·exact HF h.2 p hp
theorem aIA{α:Type}(acc:List α){k i:Nat}(hk:acc.length=k)(hi:i<k):acc[k -1 -i]?=acc.reverse[i]?:=by
 subst hk;rw[List.getElem?_reverse hi]
theorem zU{acc:List qC}{k:Nat}(hk:acc.length=k):∀{es:List Edge}{s:Nat},kX acc k es=some s->
 (∀e∈es,Region.binds .any e=true->e.on<k)/\∀j,s.testBit j=true↔∃e∈es,Region.binds .any e=true/\(e.on=j\/∃D,acc.reverse[e.on]?=some D/\D.anc.testBit j=true)
 |[],s,h=>by
  simp only[kX,aA]at h;subst h;exact⟨λe he=>by simp at he,λj=>by simp⟩
 |e::r,s,h=>by
  simp only[kX]at h;split at h
  ·cases h
  ·rename_i s' hs;obtain⟨h1,h2⟩:=zU hk hs;split at h
   ·rename_i hb;split at h
    ·rename_i hlt;split at h
     ·rename_i D hD;simp only[aA]at h;subst h;rw[aIA acc hk hlt]at hD;refine⟨λq hq hqb=>?_,λj=>?_⟩
      ·simp only[aO]at hq;rcases hq with rfl|hq
       ·exact hlt
       ·exact h1 q hq hqb
      ·rw[Nat.testBit_or,Nat.testBit_or,Nat.testBit_two_pow,gP,gP,h2 j,decide_eq_true_eq];constructor
       ·rintro((⟨q,hq,x⟩|x)|x)
        ·exact⟨q,by simp[hq],x⟩
        ·exact⟨e,by simp,hb,.inl x⟩
        ·exact⟨e,by simp,hb,.inr ⟨D,hD,x⟩⟩
       ·rintro⟨q,hq,hqb,x⟩;simp only[aO]at hq;rcases hq with rfl|hq
        ·rcases x with x|⟨D',hD',x⟩
         ·exact .inl (.inr x)
         ·rw[hD]at hD';simp only[aA]at hD';subst hD';exact .inr x
        ·exact .inl (.inl ⟨q,hq,hqb,x⟩)
     ·cases h
    ·cases h
   ·rename_i hb;simp only[aA]at h;subst h;refine⟨λq hq hqb=>?_,λj=>?_⟩
    ·simp only[aO]at hq;rcases hq with rfl|hq
     ·exact absurd hqb hb
     ·exact h1 q hq hqb
    ·rw[h2 j];constructor
     ·rintro⟨q,hq,x⟩;exact⟨q,by simp[hq],x⟩
     ·rintro⟨q,hq,hqb,x⟩;simp only[aO]at hq;rcases hq with rfl|hq
      ·exact absurd hqb hb
      ·exact⟨q,hq,hqb,x⟩
theorem tJ{u:List (Nat×R)}{F:List Nat}(h:VH u F=true):∀p∈u,p.1∉F:=by
 induction u with
 |nil=>intro p hp;simp at hp
 |cons q u ih=>
  obtain⟨i,r⟩:=q;intro p hp;simp only[VH]at h;cases hm:s9 i F with
  |true=>rw[hm]at h;cases h
  |false=>
   rw[hm]at h;simp only[aO]at hp;rcases hp with rfl|hp
   ·exact λe=>by rw[AP.2 e]at hm;cases hm
   ·exact ih h p hp
theorem rU{p q:qC}(h:qH p q=true):∀d,p.r.dst=some d->d∉q.looks/\q.r.dst≠some d:=by
 intro d e;simp only[qH,e]at h;cases hm:s9 d q.looks with
 |true=>rw[hm]at h;cases h
 |false=>
  rw[hm]at h;refine⟨λe=>(by rw[AP.2 e]at hm;exact Bool.noConfusion hm),λe2=>?_⟩;rw[e2]at h;simp at h
def Apt(p q:qC):Prop:=qH p q=true/\qH q p=true/\VH p.r.u q.F=true/\VH q.r.u p.F=true
theorem G3{p:qC}:∀{l:List qC},B9 p l=true->∀i q,l.reverse[i]?=some q->p.anc.testBit i=false->Apt p q
 |[],_,i,q,hq,_=>by simp at hq
 |q0::r,h,i,q,hq,hb=>by
  simp only[B9,aE]at h;rw[fC,iJ]at hq;split at hq
  ·exact G3 h.2 i q hq hb
  ·rename_i hlt;have hi:i=r.length:=by
    rcases eQ (i -r.reverse.length) 1 with x|x
    ·simp at hlt x;omega
    ·rw[c8 (by simpa using x)]at hq;cases hq
   subst hi;simp at hq;subst hq;have h1:=h.1;rw[hb]at h1;simp only[cond_false,aE]at h1;exact⟨h1.1,h1.2.1,h1.2.2.1,h1.2.2.2⟩
theorem oQ:∀{acc:List qC},nO acc=true->∀i j q p,i<j->acc.reverse[i]?=some q->acc.reverse[j]?=some p->p.anc.testBit i=false->Apt p q
 |[],_,i,j,q,p,_,hq,_,_=>by simp at hq
 |p0::r,h,i,j,q,p,hij,hq,hp,hb=>by
  simp only[nO,aE]at h;rw[fC,iJ]at hp hq;split at hp
  ·rename_i hj;rw[if_pos (by omega)]at hq;exact oQ h.2 i j q p hij hq hp hb
  ·rename_i hlt;have hi:j=r.length:=by
    rcases eQ (j -r.reverse.length) 1 with x|x
    ·simp at hlt x;omega
    ·rw[c8 (by simpa using x)]at hp;cases hp
   subst hi;simp at hp;subst hp;rw[if_pos (by simp;omega)]at hq;exact G3 h.1 i q hq hb
theorem HX{ops:Array Oper}{T':Nat->A}(h:∀x∈o.looksAt ops,T x=T' x):kO ops T o=kO ops T' o:=by
 unfold kO;cases hg:o.guard with
 |none=>rfl
 |some p=>
  obtain⟨j,want⟩:=p;simp only;cases hd:(ops[j]?).bind (·.dst)with
  |none=>rfl
  |some d=>
   simp only;rw[h d (by unfold Oper.looksAt;rw[hg];simp[hd])]
theorem rE{T':Nat->A}{x:Operand}(h:∀n,x=.tmp n->T n=T' n):dN T x=dN T' x:=by
 cases x<;>simp only[dN]
 rename_i t;exact h t rfl
theorem VQ{x:Operand}{i:Nat}(h:i∈(dN T x).hs):∃n,x=.tmp n/\i∈(T n).hs:=by
 cases x with
 |tmp t=>exact⟨t,rfl,h⟩
 |_=>simp[dN,A.hs,A.lQ]at h
theorem mX{ops:Array Oper}{x:Operand}(hx:x∈o.op.operands.toList)(e:x=.tmp n):n∈o.looksAt ops:=by
 unfold Oper.looksAt;rw[bN];left;rw[List.mem_filterMap];exact⟨x,hx,by rw[e]⟩
structure Good(P:Program)(n:Nat)(ops:Array Oper)(T:Nat->A)(m:Mem)(o:Oper)(D:qC):Prop where
 dst:D.r.dst=o.dst
 lt:∀d,o.dst=some d->d<n
 looks:D.looks=o.looksAt ops
 inF:∀p∈D.r.u,p.1∈D.F
 gA:(kO ops T o=some false/\D.r.v=.eL []/\D.r.u=[])\/(kO ops T o=some true/\∀(T':Nat->A)(m':Mem),(∀x∈o.looksAt ops,T' x=T x)->(∀i∈D.F,m' i=m i)->(∀p∈D.r.u,m p.1=none->m' p.1=none)->qT P o T' m' D.r.v (aH m' D.r.u))
theorem GM(m:Mem):∀(l:List Rec)(r:Rec),kZ m (l++[r])=aH (kZ m l) r.u
 |[],r=>rfl
 |q::l,r=>by simp only[bW,kZ];exact GM _ l r
theorem GN(T:Nat->A):∀(l:List Rec)(r:Rec),mK T (l++[r])=lI (mK T l) r.dst r.v
 |[],r=>rfl
 |q::l,r=>by simp only[bW,mK];exact GN _ l r
section
variable{P:Program}{H:Hd}{n:Nat}{ops:Array Oper}{T0:Nat->A}{m0:Mem}
end
structure DrS(P:Program)(n:Nat)(ops:Array Oper)(T0:Nat->A)(m0:Mem)(acc:List qC)(T:Nat->A)(m:Mem):Prop where
 T:T=mK T0 (acc.reverse.map (·.r))
 m:m=kZ m0 (acc.reverse.map (·.r))
 gA:∀i o D,ops[i]?=some o->acc.reverse[i]?=some D->Good P n ops (mK T0 ((acc.reverse.map (·.r)).take i)) (kZ m0 ((acc.reverse.map (·.r)).take i)) o D
 down:∀i o D,ops[i]?=some o->acc.reverse[i]?=some D->(∀e∈o.after,Region.binds .any e=true->e.on<i)/\∀j,D.anc.testBit j=true↔∃e∈o.after,Region.binds .any e=true/\(e.on=j\/∃D',acc.reverse[e.on]?=some D'/\D'.anc.testBit j=true)
section
variable{P:Program}{n:Nat}{ops:Array Oper}{T0:Nat->A}{m0:Mem}
theorem DrS.push{acc:List qC}{T':Nat->A}{m m':Mem}(h:DrS P n ops T0 m0 acc T m){o:Oper}{D:qC}(ho:ops[acc.length]?=some o)(hT:T'=lI T D.r.dst D.r.v)(hm:m'=aH m D.r.u)
 (hg:Good P n ops T m o D){an:Nat}(han:kX acc acc.length o.after.toList=some an)(hD:D.anc=an):DrS P n ops T0 m0 (D::acc) T' m':=by
 have e1:((D::acc).reverse.map (·.r))=acc.reverse.map (·.r)++[D.r]:=by simp
 have hlen:(acc.reverse.map (·.r)).length=acc.length:=by simp
 obtain⟨q1,q2⟩:=zU rfl han;have hget:∀i,(D::acc).reverse[i]?=if i<acc.length then acc.reverse[i]? else if i=acc.length then some D else none:=by
  intro i;rw[fC,iJ];by_cases hi:i<acc.length
  ·simp[hi]
  ·simp only[List.length_reverse,hi,if_false];by_cases e:i=acc.length
   ·subst e;simp
   ·have:1<=i -acc.length:=by omega
    rw[c8 (by simpa using this)];simp[e]
 refine⟨by rw[hT,e1,GN,h.T],by rw[hm,e1,GM,h.m],?_,?_⟩
 ·intro i o' D' ho' hD';rw[hget]at hD';rw[e1];by_cases hi:i<acc.length
  ·rw[if_pos hi]at hD';rw[jJ (by omega)];exact h.gA i o' D' ho' hD'
  ·rw[if_neg hi]at hD';by_cases e:i=acc.length
   ·subst e;simp only[if_true,aA]at hD';subst hD';rw[ho]at ho';simp only[aA]at ho';subst ho';rw[jJ (by omega),aI (by omega),<-h.T,<-h.m];exact hg
   ·rw[if_neg e]at hD';cases hD'
 ·intro i o' D' ho' hD';rw[hget]at hD';have hup:∀{k:Nat}{D2:qC},acc.reverse[k]?=some D2->(D::acc).reverse[k]?=some D2:=by
   intro k D2 hk;have:=(bA.1 hk).1;rw[hget,if_pos (by simpa using this)];exact hk
  by_cases hi:i<acc.length
  ·rw[if_pos hi]at hD';obtain⟨g1,g2⟩:=h.down i o' D' ho' hD';refine⟨g1,λj=>?_⟩;rw[g2 j];constructor
   ·rintro⟨e,he,hb,x⟩;exact⟨e,he,hb,x.imp id λ⟨D2,k1,k2⟩=>⟨D2,hup k1,k2⟩⟩
   ·rintro⟨e,he,hb,x⟩;refine⟨e,he,hb,x.imp id λ⟨D2,k1,k2⟩=>⟨D2,?_,k2⟩⟩;have:=g1 e he hb;rw[hget,if_pos (by omega)]at k1;exact k1
  ·rw[if_neg hi]at hD';by_cases e:i=acc.length
   ·subst e;simp only[if_true,aA]at hD';subst hD';rw[ho]at ho';simp only[aA]at ho';subst ho';refine⟨λe he hb=>q1 e (by simpa using he) hb,λj=>?_⟩;rw[hD,q2 j];constructor
    ·rintro⟨e,he,hb,x⟩;exact⟨e,by simpa using he,hb,x.imp id λ⟨D2,k1,k2⟩=>⟨D2,hup k1,k2⟩⟩
    ·rintro⟨e,he,hb,x⟩;refine⟨e,by simpa using he,hb,x.imp id λ⟨D2,k1,k2⟩=>⟨D2,?_,k2⟩⟩;have:=q1 e (by simpa using he) hb;rw[hget,if_pos this]at k1;exact k1
   ·rw[if_neg e]at hD';cases hD'
theorem NC(hm:P.follows .mixedOrders=true){rd:Bool}{id:Nat}{ds:List DA}{acc:List qC}{T:Nat->A}{m:Mem}(g1:DrS P n ops T0 m0 acc T m)(hlen:acc.length=ops.size)(hap:nO acc=true){Post:qU}(hpost:Post .nm T m ds):
 eU P rd n (.region id ops true) T0 m0 ds Post:=by
 let recs:=acc.reverse.map (·.r);let anc:Nat->Nat->Bool:=λi j=>match acc.reverse[i]? with
  |some D=>D.anc.testBit j
  |none=>false
 let F:Nat->Nat->Prop:=λk i=>∃D,acc.reverse[k]?=some D/\i∈D.F;have hrec:∀{i:Nat}{r:Rec},recs[i]?=some r->∃D,acc.reverse[i]?=some D/\D.r=r:=by
  intro i r hr;simp only[recs,cK,bU]at hr;exact hr
 have hanc:∀{i:Nat}{D:qC},acc.reverse[i]?=some D->∀j,anc i j=D.anc.testBit j:=by
  intro i D hD j;simp only[anc,hD]
 have hancl:∀{i:Nat}{o:Oper}{D:qC},ops[i]?=some o->acc.reverse[i]?=some D->∀j,D.anc.testBit j=true->j<i:=by
  intro i;induction i using Nat.strongRecOn with
  |_ i ih=>
   intro o D ho hD j hj;obtain⟨k1,k2⟩:=g1.down i o D ho hD;obtain⟨e,he,hb,x⟩:=(k2 j).1 hj;have hlt:=k1 e he hb;rcases x with rfl|⟨D',hD',x⟩
   ·exact hlt
   ·have hio:i<ops.size:=(aL.1 ho).1;exact Nat.lt_trans (ih e.on hlt (cF (by omega)) hD' j x) hlt
 have hdisj:∀(i j:Nat)(Di Dj:qC),i≠j->acc.reverse[i]?=some Di->acc.reverse[j]?=some Dj->anc i j=false->anc j i=false->Apt Di Dj:=by
  intro i j Di Dj hne hi hj h1 h2;rw[hanc hi]at h1;rw[hanc hj]at h2;rcases u4 hne with hlt|hlt
  ·obtain⟨a,b,c,d⟩:=oQ hap i j Di Dj hlt hi hj h2;exact⟨b,a,d,c⟩
  ·exact oQ hap j i Dj Di hlt hj hi h1
 let Rq:Nat->Mem->Prop:=λ_ _=>True;have hok:RL P ops recs anc F Rq n T0 m0:=by
  have hsel:∀k,nM (λi=>decide (i<k)) 0 recs=recs.take k:=by
   have:∀(l:List Rec)(s k:Nat),nM (λi=>decide (i<s+k)) s l=l.take k:=by
    intro l;induction l with
    |nil=>intro s k;simp[nM]
    |cons r l ih=>
     intro s k;cases k with
     |zero=>
      simp only[nM,iE,Nat.lt_irrefl,decide_false,bY,if_false,fD];exact sel_none' l (s+1) (λi=>decide (i<s)) (λi hi=>by simp;omega)
     |succ k=>
      simp only[nM,cC];rw[if_pos (by simp)];rw[show s+(k+1)=s+1+k by omega,ih (s+1) k]
   intro k;have:=this recs 0 k;simpa using this
  have hTk:∀k o D,ops[k]?=some o->acc.reverse[k]?=some D->(∀x∈o.looksAt ops,mK T0 (recs.take k) x=mK T0 (nM (anc k) 0 recs) x)/\∀i∈D.F,kZ m0 (recs.take k) i=kZ m0 (nM (anc k) 0 recs) i:=by
   intro k o D ho hD;have hg:=g1.gA k o D ho hD;have hinc:∀i q,recs[i]?=some q->(decide (0+i<k))≠anc k (0+i)->∃Di,acc.reverse[i]?=some Di/\Di.r=q/\Apt Di D:=by
    intro i q hq hne;obtain⟨Di,hDi,rfl⟩:=hrec hq;rw[fF]at hne;have hlt:i<k/\anc k i=false:=by
     cases h2:anc k i with
     |true=>
      rw[h2]at hne;have:=hancl ho hD i (by rw[<-hanc hD];exact h2);simp[this]at hne
     |false=>
      rw[h2]at hne;simp at hne;exact⟨hne,rfl⟩
    refine⟨Di,hDi,rfl,hdisj i k Di D (by omega) hDi hD ?_ hlt.2⟩;cases h3:anc i k with
    |false=>rfl
    |true=>
     have hio:i<ops.size:=by have:=(bA.1 hDi).1;simp at this;omega
     have:=hancl (cF hio) hDi k (by rw[<-hanc hDi];exact h3);omega
   refine⟨λx hx=>?_,λi hi=>?_⟩
   ·rw[<-hsel k];refine pI recs 0 _ _ (λi q hq hne e=>?_) rfl;obtain⟨Di,_,rfl,hA⟩:=hinc i q hq hne;have:=(rU hA.1 x e).1;rw[hg.looks]at this;exact this hx
   ·rw[<-hsel k];refine nZ recs 0 _ _ (λj q hq hne p hp e=>?_) rfl;obtain⟨Dj,_,rfl,hA⟩:=hinc j q hq hne;exact tJ hA.2.2.1 p hp (e▸hi)
  refine⟨by simp[recs,hlen],?_,?_,?_,?_,?_,?_,?_,?_⟩
  ·intro k o r ho hr;obtain⟨D,hD,rfl⟩:=hrec hr;have hg:=g1.gA k o D ho hD;exact⟨hg.dst,hg.lt⟩
  ·intro k o r ho hr;obtain⟨D,hD,rfl⟩:=hrec hr;have hg:=g1.gA k o D ho hD;obtain⟨q1,q2⟩:=hTk k o D ho hD;have hwc:kO ops (mK T0 ((acc.reverse.map (·.r)).take k)) o=kO ops (mK T0 (nM (anc k) 0 recs)) o:=HX q1;rcases hg.gA with⟨x,y,z⟩|⟨x,y⟩
   ·exact .inl ⟨hwc▸x,y,z⟩
   ·refine .inr ⟨hwc▸x,λT' m' hT' hm' hrq hfr=>y T' m' (λt ht=>(hT' t ht).trans (q1 t ht).symm) (λi hi=>(hm' i ⟨D,hD,hi⟩).trans (q2 i hi).symm) (λp hp e=>hfr p hp ((q2 p.1 (hg.inF p hp))▸e))⟩
  ·intro k o X ho hXk hinc;trivial
  ·intro k o j b ho hg d hd;unfold Oper.looksAt;rw[hg];simp[hd]
  ·intro k r hr p hp _;obtain⟨D,hD,rfl⟩:=hrec hr;have hio:k<ops.size:=by have:=(bA.1 hD).1;simp at this;omega
   exact⟨D,hD,(g1.gA k _ D (cF hio) hD).inF p hp⟩
  ·intro i j p q o hne hp hq ho h1 h2;obtain⟨Di,hDi,rfl⟩:=hrec hp;obtain⟨Dj,hDj,rfl⟩:=hrec hq;have hA:=hdisj i j Di Dj hne hDi hDj h1 h2;have hg:=g1.gA j o Dj ho hDj;refine⟨λd e=>?_,λx hx=>⟨?_,λy hy e=>?_⟩⟩
   ·have:=rU hA.1 d e;rw[hg.looks]at this;exact this
   ·rintro⟨D,hD,hin⟩;rw[hDj]at hD;simp only[aA]at hD;subst hD;exact tJ hA.2.2.1 x hx hin
   ·exact tJ hA.2.2.1 x hx (e▸hg.inF y hy)
  ·intro k o ho e he hb;have hk:k<acc.reverse.length:=by
    have:=(aL.1 ho).1;simp;omega
   exact(g1.down k o _ ho (aC hk)).1 e he hb
  ·intro k o j ho hj;have hk:k<acc.reverse.length:=by
    have:=(aL.1 ho).1;simp;omega
   have hD:=aC hk;rw[hanc hD]at hj;obtain⟨e,he,hb,x⟩:=((g1.down k o _ ho hD).2 j).1 hj;refine⟨e,he,hb,x.imp (λq=>q) λ⟨D',hD',y⟩=>?_⟩;rw[hanc hD'];exact y
 refine eU.draw hm hok ?_;rw[<-g1.T,<-g1.m];exact hpost
where sel_none':∀(l:List Rec)(s:Nat)(X:Nat->Bool),(∀i,s<=i+1->i+1<=i+1->s<=i->X i=false)->nM X s l=[]
 |[],_,_,_=>rfl
 |r::l,s,X,h=>by
  simp only[nM];rw[h s (by omega) (bT _) (bT _)];simp only[bY,if_false];exact sel_none' l (s+1) X λi a b c=>h i (by omega) b (by omega)
end
section
variable{P:Program}{H:Hd}{n:Nat}{ops:Array Oper}{T0:Nat->A}{m0:Mem}
theorem X2(hH:FB P H):∀(l:List Oper)(acc:List qC)(st:St)(nx:Nat)(acc':List qC)(st':St)(nx':Nat),ops.toList.drop acc.length=l->ML P H n ops l acc.length acc st nx=some (acc',st',nx')->DrS P n ops T0 m0 acc st.T.fn st.m.get->Inv st->
 DrS P n ops T0 m0 acc' st'.T.fn st'.m.get/\acc'.length=acc.length+l.length/\Inv st'/\st'.b=st.b
 |[],acc,st,nx,acc',st',nx',hk,h,hi,hI=>by
  simp only[ML,aA,aD]at h;obtain⟨rfl,rfl,_⟩:=h;exact⟨hi,by simp,hI,rfl⟩
 |o::r,acc,st,nx,acc',st',nx',hk,h,hi,hI=>by
  have hko:ops[acc.length]?=some o:=by
   have:ops.toList[acc.length]?=some o:=by
    have:=congrArg List.head? hk;simpa [pA]using this
   simpa using this
  have hkr:ops.toList.drop (acc.length+1)=r:=by
   have:(ops.toList.drop acc.length).drop 1=r:=by rw[hk];rfl
   simpa [lY]using this
  have step:∀(D:qC)(an nx1:Nat),kX acc acc.length o.after.toList=some an->D.anc=an->D.r.dst=o.dst->Good P n ops st.T.fn st.m.get o D->ML P H n ops r (acc.length+1) (D::acc) (st.O0 o.dst D.r.v D.r.u) nx1=some (acc',st',nx')->
   DrS P n ops T0 m0 acc' st'.T.fn st'.m.get/\acc'.length=acc.length+(o::r).length/\Inv st'/\st'.b=st.b:=by
   intro D an nx1 han hD hdst hg hev;have hp:=hi.push (T':=(st.O0 o.dst D.r.v D.r.u).T.fn) (m':=(st.O0 o.dst D.r.v D.r.u).m.get) (D:=D) hko (by simp only[St.BM,Tb.VU,hdst]) (by simp only[St.BM,Tr.nV]) hg han hD;obtain⟨g1,g2,g3,g4⟩:=X2 hH r (D::acc) _ nx1 acc' st' nx' hkr hev hp (hI.O0 _ _ _);exact⟨g1,by rw[g2];simp;omega,g3,g4.trans (St.aJD _ _ _ _)⟩
  simp only[ML,St.go_eq]at h;split at h
  ·rename_i hd;have hlt:=nS hd;split at h
   ·cases h
   ·rename_i an han;split at h
    ·rename_i hw;exact step _ an _ han rfl rfl ⟨rfl,hlt,rfl,by simp,.inl ⟨hw,rfl,rfl⟩⟩ h
    ·rename_i hw;split at h
     ·rename_i v hpu;refine step ⟨⟨o.dst,v,[]⟩,o.looksAt ops,[],an⟩ an _ han rfl rfl ⟨rfl,hlt,rfl,by simp,.inr ⟨hw,λT' m' hT' _ _=>?_⟩⟩ h;have hpu':aEN P T' o=some v:=by
       rw[<-hpu];have ev:∀x∈o.op.operands.toList,dN T' x=dN st.T.fn x:=λx hx=>rE λn e=>hT' n (mX hx e);unfold aEN;cases ho:o.op with
       |move x=>simp only[ev x (by simp[ho,Op.operands])]
       |assign x=>simp only[ev x (by simp[ho,Op.operands])]
       |pick c a b=>simp only[ev c (by simp[ho,Op.operands]),ev a (by simp[ho,Op.operands]),ev b (by simp[ho,Op.operands])]
       |binOp op t x y yt=>simp only[ev x (by simp[ho,Op.operands]),ev y (by simp[ho,Op.operands])]
       |unOp op t x=>simp only[ev x (by simp[ho,Op.operands])]
       |extract x i=>simp only[ev x (by simp[ho,Op.operands])]
       |field t x f=>simp only[ev x (by simp[ho,Op.operands])]
       |_=>rfl
      exact qT.aKI (d:=0) (aEO hpu' m') rfl
     ·cases hsh:shallow o with
      |true=>
       rw[hsh]at h;simp only[cond_true]at h;split at h
       ·rename_i v u he;refine step ⟨⟨o.dst,v,u⟩,o.looksAt ops,nx::(u.map (·.1)++(o.looksAt ops).flatMap λt=>(st.T.fn t).hs),an⟩ an _ han rfl rfl ⟨rfl,hlt,rfl,λp hp=>by simp;exact .inr (.inl ⟨p.2,hp⟩),.inr ⟨hw,λT' m' hT' hm' _=>?_⟩⟩ h;have hag:MB o st.T.fn T' st.m.get m':=by
         refine⟨λx hx=>rE λn e=>(hT' n (mX hx e)).symm,λx hx i hi=>?_⟩;obtain⟨t,e,CL⟩:=VQ hi;refine(hm' i ?_).symm;simp only[aO,bN,rP];exact .inr (.inr ⟨t,mX hx e,CL⟩)
        have hloc:=FO (P:=P) (d:=nx) hag (hm' nx (by simp)).symm hsh;rw[he]at hloc;exact qT.sD hloc.symm rfl
       ·cases h
      |false=>
       rw[hsh]at h;simp only[cond_false]at h;split at h
       ·rename_i m1 l hcl;obtain⟨c1,c2,c3,c4⟩:=PI _ _ _ _ _ _ hcl (by intro i r e;simp[Tr.get_nil]at e) (by intro i r e;simp[Tr.get_nil]at e) (by intro i e;simp[Tr.get_nil]at e);split at h
        ·rename_i v u nx1 he;split at h
         ·rename_i hfr;refine step ⟨⟨o.dst,v,u⟩,o.looksAt ops,u.map (·.1)++l,an⟩ an _ han rfl rfl ⟨rfl,hlt,rfl,λp hp=>by simp;exact .inl ⟨p.2,hp⟩,.inr ⟨hw,λT' m' hT' hm' hfresh=>?_⟩⟩ h;have hop:=X3 hH he;have hOT:qT P o (WN st.T.fn (o.looksAt ops)).fn m1.get v (aH m1.get u):=by
           intro ro N M0 S0 w0 ρ a w h hlt next Q hn
           refine hop ro N M0 S0 w0 ρ a w h hlt next Q ?_
           intro u' y w' ρ' hu' h1 h2;have hu':u'=(.ok v,u):=by simpa using hu'
           subst hu';exact⟨λv' e h3=>by simp only[Rt.ok.injEq]at e;subst e;exact hn y w' ρ' h1 h2 h3,λv' e=>by cases e⟩
          have hr:=ON st.T.fn (o.looksAt ops) Tb.nil;refine hOT.frame (λk=>?_) (λi r e=>?_) c2 (λp hp e=>?_)
          ·unfold WN;rw[hr k];by_cases hk:k∈o.looksAt ops
           ·rw[if_pos hk];refine .inr ⟨(hT' k hk).symm,λi hi=>c4 i (.inr ?_)⟩;rw[hT' k hk]at hi;exact rP.2 ⟨k,hk,hi⟩
           ·rw[if_neg hk];exact .inl (Tb.aCX _)
          ·rw[hm' i (by simp only[bN];exact .inr (c3 i (by rw[e];simp)))];exact c1 i r e
          ·exact hfresh p hp (HF hfr p hp e)
         ·cases h
        ·cases h
       ·cases h
    ·cases h
  ·cases h
theorem Z2(hm:P.follows .mixedOrders=true)(hH:FB P H){rd:Bool}{id:Nat}{ds:List DA}{st:St}{nx:Nat}{outs:List Oc}(h:P0 P H n ops ds st nx=some outs)(hI:Inv st):
 eU P rd n (.region id ops true) st.T.fn st.m.get ds (vB outs)/\∀o∈outs,Inv o.2.1/\o.2.1.b=st.b:=by
 unfold P0 at h;split at h
 ·rename_i acc st' nx' he;split at h
  ·rename_i hap;simp only[aA]at h;subst h;have he':ML P H n ops ops.toList ([]:List qC).length [] st nx=some (acc,st',nx'):=he;obtain⟨g1,g2,g3,g4⟩:=X2 (T0:=st.T.fn) (m0:=st.m.get) hH ops.toList [] st nx acc st' nx' (by simp) he' ⟨rfl,rfl,λi o D _ hD=>by simp at hD,λi o D _ hD=>by simp at hD⟩ hI;exact⟨NC hm g1 (by simpa using g2) hap ⟨_,aR.2 rfl,rfl,rfl,rfl,rfl⟩,λo ho=>by simp only[aR]at ho;subst ho;exact⟨g3,g4⟩⟩
  ·cases h
 ·cases h
end
theorem jE{P:Program}{b:Frame}{a:Act}{k:List Item}{cs:List Frame}{w:World}:step P (lone (b.atR a (.code (.scope c)::k)) cs w)=.next (lone (b.atR a (.code c::.inScope c::k)) cs w):=
 step_lone_go (by simp[stepG,stepG.exec,Frame.atR])
theorem AY{P:Program}{b:Frame}{a:Act}{k:List Item}{cs:List Frame}{w:World}:step P (lone (b.atR a (.inScope c::k)) cs w)=.next (lone (b.atR a k) cs w):=
 step_lone_go (by simp[stepG,stepG.exec,Frame.atR])
theorem eU.scope{P:Program}{rd:Bool}{n:Nat}{T:Nat->A}{m:Mem}{ds:List DA}{Post:qU}{c:Code}(h:eU P rd n c T m ds Post):eU P rd n (.scope c) T m ds Post:=by
 intro ro M0 S0 w0 ρ a w hro hs hlt Q hQ;have h1:=h ro M0 S0 w0 ρ a w hro hs hlt (λe a' w'=>(∀l,e≠.goto l)/\e≠.outgrown/\Q e a' w') (λex e T' m' ds' ρ' a' w' hp hs' hO hd=>⟨λl=>by cases ex<;>first|(simp only[Ex.Den]at hd;rw[hd];simp)|(obtain⟨y,hd,_⟩:=hd;rw[hd];simp),by cases ex<;>first|(simp only[Ex.Den]at hd;rw[hd];simp)|(obtain⟨y,hd,_⟩:=hd;rw[hd];simp),hQ ex e T' m' ds' ρ' a' w' hp hs' hO hd⟩);intro b k cs hrb hb hr;have h0:(lone (b.atR a (.code (.scope c)::k)) cs w).fenced P (FW ro):=fenced_calm hb hr rfl;obtain⟨e,a₁,w₁,⟨hg,ho,hq⟩,harr⟩:=h1 b (.inScope c::k) cs hrb hb hr;have hx:∀id,exitTo id (.inScope c::k)=exitTo id k:=λid=>by simp[exitTo]
 cases e with
 |normal=>exact⟨.normal,a₁,w₁,hq,.head h0 jE (StepsIn.trans harr (.one (fenced_calm hb hr rfl) AY))⟩
 |exit id=>exact⟨_,a₁,w₁,hq,λk' hk=>.head h0 jE (harr.1 k' (by rw[hx];exact hk)),λhr' hk=>let⟨k₁,h1,h2⟩:=harr.2 hr' (by rw[hx];exact hk);⟨k₁,h1,.head h0 jE h2⟩⟩
 |goto l=>exact absurd rfl (hg l)
 |ret=>exact⟨_,a₁,w₁,hq,.of_steps (.one h0 jE) harr⟩
 |panic ch=>exact⟨_,a₁,w₁,hq,.of_steps (.one h0 jE) harr⟩
 |outgrown=>exact absurd rfl ho
section
variable{P:Program}{H:Hd}
theorem aAB{a:A}{gf:FuncId}{us vs:List A}(h:aJ2 a=some (gf,us,vs)):a=.fn (.func gf) us vs\/∃cu cv,a=.d (.fn (.func gf) cu cv)/\us=cu.map A.d/\vs=cv.map A.d:=by
 unfold aJ2 at h;split at h
 ·simp only[aA,aD]at h;obtain⟨rfl,rfl,rfl⟩:=h;exact .inl rfl
 ·simp only[aA,aD]at h;obtain⟨rfl,rfl,rfl⟩:=h;exact .inr ⟨_,_,rfl,rfl,rfl⟩
 ·cases h
theorem oU(f:Nat)(t:Tr R)(i:Nat)(r:R):(Tr.set f t i r).get=aX t.get i r:=by
 funext k;rw[Tr.rV];rfl
theorem aG4(hH:FB P H){n:Nat}{g:Operand}{ps:Array Tmp}{asg bod:Code}{st:St}{ds:List DA}{nx:Nat}{outs:List Oc}(h:aG3 H n g ps asg bod st ds nx=some outs)(hI:Inv st):
 eU P false n (.rangeFunc g ps asg bod) st.T.fn st.m.get ds (vB outs)/\∀o∈outs,Inv o.2.1/\o.2.1.b=st.b:=by
 unfold aG3 at h;split at h
 ·rename_i gf us vs hf;split at h
  ·rename_i hfr;simp only[aE]at hfr;have hfi:=hG hfr.1;have hfj:=hG hfr.2;split at h
   ·rename_i v u nx' he;simp only at h;split at h
    ·rename_i ls pe ts' ps' asg' bod' hlo;split at h
     ·cases h
     ·rename_i hb;obtain⟨r,u',e1,hcall⟩:=hH.fn _ _ _ _ _ _ he;simp only[iX,aD,and_true]at e1;obtain⟨rfl,rfl⟩:=e1;have hInv:∀i q,st.b.get i=some q->i∉KF st.b u st.log->(Tr.set fM (Tr.MW fM (Tr.set fM (Tr.set fM st.m nx (.df false)) (nx+1) (.lo .ready none (mY n st.T.fn) ps asg bod)) u) (nx+1) (.lo .exhausted pe ts' ps' asg' bod')).get i=some q:=by
       intro i q hbi hl;have hm:=hI i q hbi λe=>hl (A8 _ _ _ _ e);have h1:i≠nx:=by rintro rfl;rw[hfi]at hm;cases hm
       have h2:i≠nx+1:=by rintro rfl;rw[hfj]at hm;cases hm
       have h3:∀p∈u,p.1≠i:=by rintro p hp rfl;exact hl (KG _ _ _ p hp (by rw[hbi];simp))
       rw[oU,aX,if_neg h2,Tr.nV,n9 u _ h3,oU,aX,if_neg h2,oU,aX,if_neg h1];exact hm
      have houts:∀(o:Oc),o∈outs->Inv o.2.1/\o.2.1.b=st.b:=by
       intro o ho;cases pe with
       |none=>simp only[yL,aA]at h;subst h;simp only[aR]at ho;subst ho;exact⟨hInv,rfl⟩
       |some c=>cases c with
        |ret=>simp only[yL,aA]at h;subst h;simp only[aR]at ho;subst ho;exact⟨hInv,rfl⟩
        |exit id=>simp only[yL,aA]at h;subst h;simp only[aR]at ho;subst ho;exact⟨hInv,rfl⟩
        |_=>simp[yL]at h
      refine⟨?_,houts⟩;refine eU.rangeFunc (i:=nx) (j:=nx+1) (r:=.ok v) (m2:=(Tr.MW fM (Tr.set fM (Tr.set fM st.m nx (.df false)) (nx+1) (.lo .ready none (mY n st.T.fn) ps asg bod)) u).get) (aAB hf) hfi hfj (by omega) ?_ ?_ (λv e=>by cases e)
      ·rw[oU,oU]at hcall;rw[Tr.nV,oU,oU];exact hcall
      ·intro v' _;refine⟨ls,pe,ts',ps',asg',bod',hlo,λe=>by subst e;exact hb rfl,?_⟩;cases pe with
       |none=>
        simp only[yL,aA]at h;subst h;exact⟨_,aR.2 rfl,rfl,rfl,by simp only[oU],rfl⟩
       |some c=>cases c with
        |ret=>
         simp only[yL,aA]at h;subst h;exact⟨_,aR.2 rfl,rfl,rfl,by simp only[oU],rfl⟩
        |exit id=>
         simp only[yL,aA]at h;subst h;exact⟨_,aR.2 rfl,rfl,rfl,by simp only[oU],rfl⟩
        |_=>simp[yL]at h
    ·cases h
   ·cases h
  ·cases h
 ·cases h
theorem vB.sub{outs outs':List Oc}(h:∀o∈outs,o∈outs'):∀ex T m ds,vB outs ex T m ds->vB outs' ex T m ds:=λex T m ds⟨o,ho,z⟩=>⟨o,h o ho,z⟩
theorem BT.mono{rd:Bool}{n:Nat}{c:Code}{Post1 Post:qU}(hp:∀ex T m ds,Post1 ex T m ds->Post ex T m ds):∀(j:Nat)(T:Nat->A)(m:Mem)(ds:List DA),BT P rd n c Post1 j T m ds->BT P rd n c Post j T m ds
 |0,_,_,_,h=>h
 |j+1,T,m,ds,⟨Q1,g1,g2,g3⟩=>⟨Q1,g1,λT' m' ds' q=>BT.mono hp j T' m' ds' (g2 T' m' ds' q),λex T' m' ds' hne q=>hp _ _ _ _ (g3 ex T' m' ds' hne q)⟩
theorem FT(hmix:P.follows .mixedOrders=true)(hH:FB P H){rd:Bool}{n:Nat}:∀(k:Nat)(c:Code)(st:St)(ds:List DA)(nx:Nat)(outs:List Oc),uH P H rd n k c st ds nx=some outs->Inv st->
 (eU P rd n c st.T.fn st.m.get ds (vB outs)/\∀o∈outs,Inv o.2.1/\o.2.1.b=st.b)/\∀c',c=.loop c'->BT P rd n c' (vB outs) k st.T.fn st.m.get ds:=by
 intro k;induction k with
 |zero=>intro c st ds nx outs h;cases h
 |succ k ih=>
  intro c st ds nx outs h hI;have one:∀{ex:Ex},some [(ex,st,ds,nx)]=some outs->vB outs ex st.T.fn st.m.get ds/\∀o∈outs,Inv o.2.1/\o.2.1.b=st.b:=by
   intro ex h;simp only[aA]at h;subst h;exact⟨⟨_,aR.2 rfl,rfl,rfl,rfl,rfl⟩,λo ho=>by simp only[aR]at ho;subst ho;exact⟨hI,rfl⟩⟩
  cases c with
  |skip=>
   have h:some [(Ex.nm,st,ds,nx)]=some outs:=h;exact⟨⟨eU.skip (one h).1,(one h).2⟩,λc' e=>by cases e⟩
  |label l=>
   have h:some [(Ex.nm,st,ds,nx)]=some outs:=h;exact⟨⟨eU.label (one h).1,(one h).2⟩,λc' e=>by cases e⟩
  |exit id=>
   have h:some [(Ex.ext id,st,ds,nx)]=some outs:=h;exact⟨⟨eU.exit (one h).1,(one h).2⟩,λc' e=>by cases e⟩
  |ret=>
   have h:some [(Ex.ret,st,ds,nx)]=some outs:=h;exact⟨⟨eU.ret (one h).1,(one h).2⟩,λc' e=>by cases e⟩
  |seq x y=>
   refine⟨?_,λc' e=>by cases e⟩
   have h:(match uH P H rd n k x st ds nx with
    |some outs=>vC (λ(o:Oc)=>match o.1 with
     |.nm=>uH P H rd n k y o.2.1 o.2.2.1 o.2.2.2
     |_=>some [o]) outs
    |none=>none)=some outs:=h
   split at h
   ·rename_i os ho;obtain⟨⟨g1,g2⟩,_⟩:=ih x st ds nx os ho hI;refine⟨eU.seq g1 ?_ ?_,?_⟩
    ·rintro T' m' ds' ⟨o,hm,he,rfl,rfl,rfl⟩;obtain⟨a,h1,h2⟩:=tI h o hm;rw[he]at h1;exact((ih y _ _ _ a h1 (g2 o hm).1).1.1).mono (vB.sub h2)
    ·rintro ex T' m' ds' hne ⟨o,hm,he,rfl,rfl,rfl⟩;obtain⟨a,h1,h2⟩:=tI h o hm;rw[he]at h1;cases ex with
     |nm=>cases hne
     |_=>simp only[aA]at h1;subst h1;exact⟨o,h2 _ (by simp),he,rfl,rfl,rfl⟩
    ·intro y' hy';obtain⟨o,hm,a,h1,h2⟩:=A4 h y' hy';cases he:o.1 with
     |nm=>
      rw[he]at h1;have:=(ih y _ _ _ a h1 (g2 o hm).1).1.2 y' h2;exact⟨this.1,this.2.trans (g2 o hm).2⟩
     |_=>
      rw[he]at h1;simp only[aA]at h1;subst h1;simp only[aR]at h2;subst h2;exact g2 _ hm
   ·cases h
  |cond cc x y=>
   refine⟨?_,λc' e=>by cases e⟩
   have h:(match dN st.T.fn cc with
    |.d (.v (.bool b))=>uH P H rd n k (cond b x y) st ds nx
    |_=>none)=some outs:=h
   split at h
   ·rename_i b hb;have:=(ih _ st ds nx outs h hI).1;refine⟨eU.cond hb ?_,this.2⟩;cases b<;>exact this.1
   ·cases h
  |block id x=>
   refine⟨?_,λc' e=>by cases e⟩
   have h:(match uH P H rd n k x st ds nx with
    |some outs=>some (outs.map λ(o:Oc)=>(inB id o.1,o.2))
    |none=>none)=some outs:=h
   split at h
   ·rename_i os ho;simp only[aA]at h;subst h;obtain⟨⟨g1,g2⟩,_⟩:=ih x st ds nx os ho hI;refine⟨eU.block g1 ?_,?_⟩
    ·rintro ex T' m' ds' ⟨o,hm,rfl,rfl,rfl,rfl⟩;exact⟨_,aM.2 ⟨o,hm,rfl⟩,rfl,rfl,rfl,rfl⟩
    ·intro o' ho';obtain⟨o,hm,rfl⟩:=aM.1 ho';exact g2 o hm
   ·cases h
  |loop x=>
   have h:(match uH P H rd n k x st ds nx with
    |some outs=>vC (λ(o:Oc)=>match o.1 with
     |.nm=>uH P H rd n k (.loop x) o.2.1 o.2.2.1 o.2.2.2
     |_=>some [o]) outs
    |none=>none)=some outs:=h
   have hL:BT P rd n x (vB outs) (k+1) st.T.fn st.m.get ds/\∀o∈outs,Inv o.2.1/\o.2.1.b=st.b:=by
    split at h
    ·rename_i os ho;obtain⟨⟨g1,g2⟩,_⟩:=ih x st ds nx os ho hI;refine⟨⟨vB os,g1,?_,?_⟩,?_⟩
     ·rintro T' m' ds' ⟨o,hm,he,rfl,rfl,rfl⟩;obtain⟨a,h1,h2⟩:=tI h o hm;rw[he]at h1;exact BT.mono (vB.sub h2) k _ _ _ ((ih (.loop x) _ _ _ a h1 (g2 o hm).1).2 x rfl)
     ·rintro ex T' m' ds' hne ⟨o,hm,he,rfl,rfl,rfl⟩;obtain⟨a,h1,h2⟩:=tI h o hm;rw[he]at h1;cases ex with
      |nm=>cases hne
      |_=>simp only[aA]at h1;subst h1;exact⟨o,h2 _ (by simp),he,rfl,rfl,rfl⟩
     ·intro y' hy';obtain⟨o,hm,a,h1,h2⟩:=A4 h y' hy';cases he:o.1 with
      |nm=>
       rw[he]at h1;have:=(ih (.loop x) _ _ _ a h1 (g2 o hm).1).1.2 y' h2;exact⟨this.1,this.2.trans (g2 o hm).2⟩
      |_=>
       rw[he]at h1;simp only[aA]at h1;subst h1;simp only[aR]at h2;subst h2;exact g2 _ hm
    ·cases h
   exact⟨⟨eU.loop hL.1,hL.2⟩,λc' e=>by cases e;exact hL.1⟩
  |scope x=>
   refine⟨?_,λc' e=>by cases e⟩;have h:uH P H rd n k x st ds nx=some outs:=h;have:=(ih x st ds nx outs h hI).1;exact⟨eU.scope this.1,this.2⟩
  |region id ops draw=>
   refine⟨?_,λc' e=>by cases e⟩;have h:cond draw (P0 P H n ops ds st nx) (vI P H rd n ops ops.toList ds st nx)=some outs:=h;cases draw with
   |true=>exact Z2 hmix hH h hI
   |false=>
    have:=DP (rd:=rd) hH ops.toList 0 ds st nx outs (by simp) h hI;refine⟨eU.region ?_,this.2⟩;rw[List.range_eq_range'];simpa using this.1
  |rangeFunc g ps asg bod=>
   refine⟨?_,λc' e=>by cases e⟩;have h:cond rd none (aG3 H n g ps asg bod st ds nx)=some outs:=h;cases rd with
   |true=>cases h
   |false=>exact aG4 hH h hI
  |goto l=>cases h
  |refuse s=>cases h
end
end Go.Pv
