import Derived.Test.YtpdcbahjjmooiaaGreatH12
/- A program logic over the model, contracts of the functions that the law reaches: part 13. (Names and blanks were shortened by program.) -/
set_option linter.unusedVariables false
set_option linter.unusedSimpArgs false
set_option linter.constructorNameAsVariable false
set_option linter.unusedSectionVars false
set_option linter.deprecated false
set_option maxRecDepth 100000
set_option maxHeartbeats 8000000
open Go
namespace Go.Pv
open Go.RowKit
variable{m m':Mem}{i es:Nat}{w:World}{M M':Nat->Prop}{ρ:Nat->Value}{ml mb u:List (Nat×R)}{t:TypeId}{v r:A}{P:Program}{f:FuncId}{as:List A}{X Y:Prop}
def Sh(m m':Mem)(i:Nat):Prop:=m' i≠none/\(m' i≠some .dead->m i≠some .dead/\∀fz t es l,m i=some (.fW fz t es l)->∃fz' t' l',m' i=some (.fW fz' t' es l')/\l'.length=l.length)
theorem Has.sh{p q:Prop}(h:Has m i p)(hs:Sh m m' i)(hpq:(∀fz t es l,m i=some (.fW fz t es l)->∃fz' t' l',m' i=some (.fW fz' t' es l')/\l'.length=l.length)->p->q):Has m' i q:=
 ⟨hs.1,λhd=>hpq (hs.2 hd).2 (h.2 (hs.2 hd).1)⟩
mutual
theorem A.U7{w:World}{M M':Nat->Prop}{m m':Mem}{ρ:Nat->Value}(hM:∀b,M' b->M b):∀(a:A)(y:Value),(∀i∈a.hs,Sh m m' i)->a.Den w M m ρ y->a.Den w M' m' ρ y
 |.d c,y,_,hd=>by
  simp only[A.Den]at hd⊢;exact C.dC (dV.refl _ w) (λb hb _=>hM b hb) c y hd
 |.lp i off,y,hi,hd=>by
  simp only[A.Den]at hd⊢;exact hd.sh (hi i (by simp[A.hs])) λ_ e=>e
 |.h i,y,hi,hd=>by
  simp only[A.Den]at hd⊢;exact hd.sh (hi i (by simp[A.hs])) λ_ e=>e
 |.ep i es k off,y,hi,hd=>by
  simp only[A.Den]at hd⊢;exact hd.sh (hi i (by simp[A.hs])) λ_ e=>e
 |.sv i lo n,y,hi,hd=>by
  simp only[A.Den]at hd⊢;exact hd.sh (hi i (by simp[A.hs])) λe2⟨a,cap,h1,h2,es,fz,t,l,h5,h6,h3⟩=>by
   obtain⟨fz',t',l',h7,h8⟩:=e2 fz t es l h5;exact⟨a,cap,h1,h2,es,fz',t',l',h7,oM,h3.imp (λ⟨q1,q0,q2⟩=>⟨q1,q0,λq=>by rw[h8];exact q2 q⟩) id⟩
 |.fn f first caps,y,hi,hd=>by
  simp only[A.Den]at hd⊢;obtain⟨us,vs,hy,h1,h2⟩:=hd;exact⟨us,vs,hy,A.A0 hM first _ (λi h=>hi i (by simp[A.hs,h])) h1,A.A0 hM caps _ (λi h=>hi i (by simp[A.hs,h])) h2⟩
 |.agg l,y,hi,hd=>by
  simp only[A.Den]at hd⊢;obtain⟨vs,hy,h0,h1⟩:=hd;exact⟨vs,hy,h0,A.A0 hM l _ (λi h=>hi i (by simpa [A.hs]using h)) h1⟩
 |.eL l,y,hi,hd=>by
  simp only[A.Den]at hd⊢;obtain⟨vs,hy,h1⟩:=hd;exact⟨vs,hy,A.A0 hM l _ (λi h=>hi i (by simpa [A.hs]using h)) h1⟩
 |.AE t a,y,hi,hd=>by
  simp only[A.Den]at hd⊢;obtain⟨v,hy,h1⟩:=hd;exact⟨v,hy,A.U7 hM a _ (λi h=>hi i (by simpa [A.hs]using h)) h1⟩
 |.x,y,_,hd=>by simp only[A.Den]
theorem A.A0{w:World}{M M':Nat->Prop}{m m':Mem}{ρ:Nat->Value}(hM:∀b,M' b->M b):∀(l:List A)(ys:List Value),(∀i∈A.lQ l,Sh m m' i)->A.bR w M m ρ l ys->A.bR w M' m' ρ l ys
 |[],ys,_,hd=>by simpa only[A.bR]using hd
 |c::r,ys,hi,hd=>by
  simp only[A.bR]at hd⊢;obtain⟨y,yr,hy,h1,h2⟩:=hd;exact⟨y,yr,hy,A.U7 hM c y (λi h=>hi i (by simp[A.lQ,h])) h1,A.A0 hM r yr (λi h=>hi i (by simp[A.lQ,h])) h2⟩
end
section
variable{M0 S0:Nat->Prop}{w0:World}{N:Fr}{T:Nat->A}{m mF m':Mem}{ρ:Nat->Value}{a:Act}{w:World}
structure nE(m mF m':Mem):Prop where
 fz:∀i r,mF i=some r->m i=some r/\m' i=none
 lv:∀i r',m' i=some r'->r'.live=true->∃r,m i=some r/\r.live=true
theorem nE.sub(h:nE m mF m'):∀b,dD M0 m' ρ b->dD M0 m ρ b:=by
 rintro b (e|⟨i,r,h1,h2,h3⟩)
 ·exact .inl e
 ·obtain⟨r2,q1,q2⟩:=h.lv i r h1 h2;exact .inr ⟨i,r2,q1,q2,h3⟩
theorem QU(s:bC M0 S0 w0 N T m ρ a w)(hf:nE m mF m'){i b:Nat}{r:R}(hi:mF i=some r)(hb:jK (ρ i)=some b)(hr:r.live=false->¬dD M0 m ρ b):¬dD M0 m' ρ b:=by
 obtain⟨h1,h2⟩:=hf.fz i r hi;cases hl:r.live with
 |true=>
  rintro(e|⟨j,r',q1,q2,q3⟩)
  ·exact(s.own i r b h1 hl hb).2.1 e
  ·obtain⟨rj,k1,k2⟩:=hf.lv j r' q1 q2;have:=s.apart i j r rj b h1 hl k1 k2 hb q3;subst this;rw[h2]at q1;cases q1
 |false=>exact λe=>hr hl (hf.sub b e)
mutual
theorem QT(s:bC M0 S0 w0 N T m ρ a w)(hf:nE m mF m'):∀{v:A}{c:C}{y:Value},Rd mF v c->v.Den w (dD M0 m ρ) m ρ y->C.Den w (dD M0 m' ρ) c y
 |_,_,y,.d c,hy=>by
  simp only[A.Den]at hy;exact C.dC (dV.refl _ w) (λb hb _=>hf.sub b hb) _ _ hy
 |_,_,y,.nl es,hy=>by
  simp only[A.Den,C.Den]at hy⊢;exact⟨none,0,by rw[hy];rfl,bT _,.inl tV⟩
 |_,_,y,.nz es es',hy=>by
  simp only[A.Den,C.Den]at hy⊢;exact⟨none,0,by rw[hy];rfl,bT _,.inl tV⟩
 |_,_,y,.os (i:=i) (fz:=fz) (es:=es) (rows:=rows) (l:=l) hi0 hl,hy=>by
  have hi:=(hf.fz i _ hi0).1;simp only[A.Den]at hy;have hv:=eH hy hi sM;obtain⟨xs,g1,g2,g3,g4,g5⟩:=s.res i _ hi;rw[hv];have hlen:=hl.length;simp only[C.Den];rcases g1 with⟨rfl,hn,ad,e⟩|⟨LR,g,og,cap,cur,e,hp,hg,hnc,hcm,aXM,htk⟩
  ·have:l=[]:=bL oM;subst this;exact⟨some ad,0,by rw[e];rfl,bT _,.inl rfl⟩
  ·refine⟨some ⟨g,og,none⟩,cap,by rw[e,hlen],oM,.inr ⟨g,og,rfl,?_,(aL.1 hg).1,?_⟩⟩
   ·refine QU s hf hi0 (b:=g) (by rw[e];simp[jK];omega) (λhlv=>g4 (by simpa [R.live]using hlv) g (by rw[e];simp[jK];omega))
   ·refine I7 l og xs (hl.lens g3) (OH s hf hl g2) g5 (λj v hj=>?_);exact vV.cells (.inr ⟨LR,g,og,cap,cur,e,hp,hg,hnc,hcm,aXM,htk⟩) e j v hj
 |_,_,y,.lp (i:=i) (fz:=fz) (l:=l) (cs:=cs) hi0 hl,hy=>by
  have hi:=(hf.fz i _ hi0).1;simp only[A.Den]at hy;obtain⟨b,e1,e2⟩:=eH hy hi sM;obtain⟨b',vs,t,g1,g2,g3,g4,g5⟩:=s.res i _ hi;rw[e1]at g1;simp only[oN,aA,rX,and_true]at g1;subst g1;simp only[C.Den];refine⟨b,0,e2,?_,(aL.1 g2).1,?_⟩
  ·exact QU s hf hi0 (b:=b) (by rw[e1];rfl) (λhlv=>g4 (by simpa [R.live]using hlv))
  ·have hd:=C.c9.1 (uO s hf hl g3);rw[C.rA];intro j c hc;have hj:j<vs.toList.length:=by rw[<-hd.1];exact(bA.1 hc).1
   refine⟨vs.toList[j],?_,g5 _ (aY hj),hd.2 j c _ hc (aC hj)⟩;rw[fF,oR g2];simp at hj;simp[hj]
 |_,_,y,.mp (i:=i) (fz:=fz) (kv:=kv) (vs:=vs) hi0 hl,hy=>by
  have hi:=(hf.fz i _ hi0).1;simp only[A.Den]at hy;have hv:=eH hy hi sM;obtain⟨b,es,clock,l,g1,g2,g3,g4,g5,g6⟩:=s.res i _ hi;simp only[C.Den];refine⟨b,es,clock,l,by rw[hv,g1],?_,g2,g3,uO s hf hl g4⟩;exact QU s hf hi0 (b:=b) (by rw[g1];rfl) (λhlv=>g5 (by simpa [R.live]using hlv))
 |_,_,y,.agg hl,hy=>by
  simp only[A.Den,C.Den]at hy⊢;obtain⟨vs,e,h1,h2⟩:=hy;exact⟨vs,e,h1,uO s hf hl h2⟩
 |_,_,y,.AE h,hy=>by
  simp only[A.Den,C.Den]at hy⊢;obtain⟨v,e,h1⟩:=hy;exact⟨v,e,QT s hf h h1⟩
 |_,_,y,.fn hu hv,hy=>by
  simp only[A.Den,C.Den]at hy⊢;obtain⟨us,vs,e,h1,h2⟩:=hy;exact⟨us,vs,e,uO s hf hu h1,uO s hf hv h2⟩
theorem uO(s:bC M0 S0 w0 N T m ρ a w)(hf:nE m mF m'):∀{l:List A}{cs:List C}{ys:List Value},wJ mF l cs->A.bR w (dD M0 m ρ) m ρ l ys->C.bR w (dD M0 m' ρ) cs ys
 |_,_,ys,.nil,hy=>by simpa only[A.bR,C.bR]using hy
 |_,_,ys,.cons h1 h2,hy=>by
  simp only[A.bR,C.bR]at hy⊢;obtain⟨y,yr,e,k1,k2⟩:=hy;exact⟨y,yr,e,QT s hf h1 k1,uO s hf h2 k2⟩
theorem OH(s:bC M0 S0 w0 N T m ρ a w)(hf:nE m mF m'):∀{l:List (List A)}{cs:List (List C)}{ys:List Value},D6 mF l cs->A.bR w (dD M0 m ρ) m ρ l.flatten ys->C.bR w (dD M0 m' ρ) cs.flatten ys
 |_,_,ys,.nil,hy=>by simpa only[A.bR,C.bR,List.flatten_nil]using hy
 |_,_,ys,.cons (a:=e) (c:=c) (l:=l) h1 h2,hy=>by
  rw[dL]at hy⊢;have t1:=A.mT e.length hy;have t2:=A.lL e.length hy;rw[List.take_left]at t1;rw[List.drop_left]at t2;have:=xU (uO s hf h1 t1) (OH s hf h2 t2)
  rwa [gJ]at this
end
end
mutual
inductive Cv(m:Mem):A->A->Prop
 |same (a:A):Cv m a a
 |rd {a:A} {c:C}:Rd m a c->Cv m a (.d c)
 |agg {l l':List A}:IX m l l'->Cv m (.agg l) (.agg l')
inductive IX(m:Mem):List A->List A->Prop
 |same (l:List A):IX m l l
 |cons {a a':A} {l l':List A}:Cv m a a'->IX m l l'->IX m (a::l) (a'::l')
end
theorem IX.length{m:Mem}:∀{l l':List A},IX m l l'->l'.length=l.length
 |_,_,.same l=>rfl
 |_,_,.cons h1 h2=>by simp[h2.length]
inductive MC(m:Mem):List (List A)->List (List A)->Prop
 |same (l:List (List A)):MC m l l
 |cons {a a':List A} {l l':List (List A)}:IX m a a'->MC m l l'->MC m (a::l) (a'::l')
theorem MC.length{m:Mem}:∀{l l':List (List A)},MC m l l'->l'.length=l.length
 |_,_,.same l=>rfl
 |_,_,.cons h1 h2=>by simp[h2.length]
theorem MC.lens{m:Mem}{es:Nat}:∀{l l':List (List A)},MC m l l'->(∀e∈l,e.length=es)->∀e∈l',e.length=es
 |_,_,.same l,h=>h
 |_,_,.cons h1 h2,h=>by
  intro e he;simp only[aO]at he;rcases he with rfl|he
  ·rw[h1.length];exact h _ sM
  ·exact h2.lens (λe he=>h e (by simp[he])) e he
theorem IX.append{m:Mem}:∀{a a' b b':List A},IX m a a'->IX m b b'->IX m (a++b) (a'++b')
 |_,_,_,_,.same [],h2=>h2
 |_,_,_,_,.same (x::l),h2=>.cons (.same x) (IX.append (.same l) h2)
 |_,_,_,_,.cons q1 q2,h2=>.cons q1 (IX.append q2 h2)
theorem MC.flat{m:Mem}:∀{l l':List (List A)},MC m l l'->IX m l.flatten l'.flatten
 |_,_,.same l=>.same _
 |_,_,.cons h1 h2=>by
  simp only[dL];exact h1.append h2.flat
def R.plain:R->Bool
 |.dead=>true
 |.wL=>true
 |.AV=>true
 |.si _ _=>true
 |.df _=>true
 |.di _ _=>true
 |_=>false
inductive ZN(m:Mem):R->R->Prop
 |plain {r:R}:r.plain=true->ZN m r r
 |cells {fz:Bool} {l l':List A}:IX m l l'->ZN m (.cells fz l) (.cells fz l')
 |fW {fz:Bool} {t:TypeId} {es:Nat} {l l':List (List A)}:MC m l l'->ZN m (.fW fz t es l) (.fW fz t es l')
 |mp {fz:Bool} {kv kv':List (Ky×A)} {st:List (Ky×Nat)}:kv'.map (·.1)=kv.map (·.1)->IX m (kv.map (·.2)) (kv'.map (·.2))->ZN m (.mp fz kv st) (.mp fz kv' [])
theorem ZN.live{m:Mem}{r r':R}(h:ZN m r r'):r'.live=r.live:=by cases h<;>rfl
theorem ZN.dead{m:Mem}{r r':R}(h:ZN m r r')(hd:r'≠.dead):r≠.dead:=by
 cases h with
 |plain _=>exact hd
 |_=>simp
section
variable{M0 S0:Nat->Prop}{w0:World}{N:Fr}{T:Nat->A}{m mF m':Mem}{ρ:Nat->Value}{a:Act}{w:World}
mutual
theorem XU(s:bC M0 S0 w0 N T m ρ a w)(hf:nE m mF m'):∀{v v':A}{y:Value},Cv mF v v'->(∀i∈v'.hs,Sh m m' i)->v.Den w (dD M0 m ρ) m ρ y->v'.Den w (dD M0 m' ρ) m' ρ y
 |_,_,y,.same v,hs,hy=>A.U7 hf.sub _ _ hs hy
 |_,_,y,.rd h,hs,hy=>by
  simp only[A.Den];exact QT s hf h hy
 |_,_,y,.agg hl,hs,hy=>by
  simp only[A.Den]at hy⊢;obtain⟨vs,e,h1,h2⟩:=hy;exact⟨vs,e,h1,NZ s hf hl (λi h=>hs i (by simpa [A.hs]using h)) h2⟩
theorem NZ(s:bC M0 S0 w0 N T m ρ a w)(hf:nE m mF m'):∀{l l':List A}{ys:List Value},IX mF l l'->(∀i∈A.lQ l',Sh m m' i)->A.bR w (dD M0 m ρ) m ρ l ys->A.bR w (dD M0 m' ρ) m' ρ l' ys
 |_,_,ys,.same l,hs,hy=>A.A0 hf.sub _ _ hs hy
 |_,_,ys,.cons h1 h2,hs,hy=>by
  simp only[A.bR]at hy⊢;obtain⟨y,yr,e,k1,k2⟩:=hy;exact⟨y,yr,e,XU s hf h1 (λi h=>hs i (by simp[A.lQ,h])) k1,NZ s hf h2 (λi h=>hs i (by simp[A.lQ,h])) k2⟩
end
theorem aJU(s:bC M0 S0 w0 N T m ρ a w)(hf:nE m mF m'){i:Nat}{r r':R}(hi:m i=some r)(hc:ZN mF r r')(hs:∀j∈r'.hs,Sh m m' j):R.Ok w (dD M0 m' ρ) m' ρ (ρ i) r':=by
 have h:=s.res i r hi;have aVM:∀b,dD M0 m' ρ b->dD M0 m ρ b:=hf.sub;cases hc with
 |plain hp=>
  cases r<;>first
   |(cases hp;done)
   |exact h
   |skip
  obtain⟨b,mb,es,cl,sa,ll,e,h1,h2,h3,h4,h5,h6,h7,h8,h9⟩:=h;exact⟨b,mb,es,cl,sa,ll,e,h1,λq=>h2 (aVM mb q),h3,h4,h5,h6,h7,C.dK (dV.refl _ w) (λb hb _=>aVM b hb) _ _ h8,h9.mono (dV.refl _ w) (λb hb _=>aVM b hb)⟩
 |cells hl=>
  obtain⟨b,cs,t,e,h1,h2,h3,h4⟩:=h;exact⟨b,cs,t,e,h1,NZ s hf hl (λj q=>hs j (by simpa [R.hs]using q)) h2,λe q=>h3 e (aVM b q),h4⟩
 |fW hl=>
  obtain⟨xs,h1,h2,h3,h4,h5⟩:=h;exact⟨xs,by rw[hl.length];exact h1,NZ s hf hl.flat (λj q=>hs j (by simpa [R.hs]using q)) h2,hl.lens h3,λe b hb q=>h4 e b hb (aVM b q),h5⟩
 |mp hk hl=>
  obtain⟨b,es,cl,l,e,h1,h2,h3,h4,h5⟩:=h;exact⟨b,es,cl,l,e,h1,by rw[hk];exact h2,NZ s hf hl (λj q=>hs j (by simp[R.hs];simpa using q)) h3,λe q=>h4 e (aVM b q),λp hp=>by simp at hp⟩
theorem bC.aHD{T':Nat->A}(s:bC M0 S0 w0 N T m ρ a w)(hf:∀i r,mF i=some r->m i=some r/\m' i=none)(hds:∀ds,N.ds=some ds->∃L:List Nat,ds=L.map λD=>.SK (DI D))
 (hr:∀i r',m' i=some r'->(∃r,m i=some r/\ZN mF r r')/\∀j∈r'.hs,m' j≠none)(hT:∀n,T' n=.x\/(Cv mF (T n) (T' n)/\∀j∈(T' n).hs,m' j≠none)):bC M0 S0 w0 N T' m' ρ a w:=by
 have hfz:nE m mF m':=⟨hf,λi r' h1 h2=>by
  obtain⟨⟨r,q1,q2⟩,_⟩:=hr i r' h1
  exact⟨r,q1,by rw[<-q2.live];exact h2⟩⟩
 have rQ:∀j,m' j≠none->Sh m m' j:=by
  intro j hj;cases hq:m' j with
  |none=>exact absurd hq hj
  |some r'=>
   obtain⟨⟨r,q1,q2⟩,_⟩:=hr j r' hq;refine⟨hj,λhd=>⟨?_,λfz t es l e=>?_⟩⟩
   ·rw[q1];intro e;simp only[aA]at e;exact q2.dead (by rintro rfl;exact hd hq) e
   ·rw[q1]at e;simp only[aA]at e;subst e;cases q2 with
    |plain hp=>cases hp
    |fW hl=>exact⟨_,_,_,hq,hl.length⟩
 exact{keeps:=s.keeps,size:=s.size
       defers:=λds e=>by
        obtain⟨L,rfl⟩:=hds ds e;exact IL (s.defers _ e)
       tmps:=λn=>by
        rcases hT n with e|⟨h1,h2⟩
        · rw[e];simp only[A.Den]
        · exact XU s hfz h1 (λj hj=>rQ j (h2 j hj)) (s.tmps n)
       res:=λi r' hi=>by
        obtain⟨⟨r,q1,q2⟩,q3⟩:=hr i r' hi;exact aJU s hfz q1 q2 λj hj=>rQ j (q3 j hj)
       own:=λi r' b hi hl hb=>by
        obtain⟨⟨r,q1,q2⟩,q3⟩:=hr i r' hi;exact s.own i r b q1 (by rw[<-q2.live];exact hl) hb|>.imp id λh=>h
       apart:=λi j r s' b hi l1 hj l2 b1 b2=>by
        obtain⟨⟨ri,q1,q2⟩,_⟩:=hr i r hi;obtain⟨⟨rj,q3,q4⟩,_⟩:=hr j s' hj
        exact s.apart i j ri rj b q1 (by rw[<-q2.live];exact l1) q3 (by rw[<-q4.live];exact l2) b1 b2}
end
def EC(F:List Nat)(ml:List (Nat×R)):Mem:=λi=>bif s9 i F then aK ml i else none
theorem eX{F:List Nat}{r:R}(h1:s9 i F=true)(h2:aK ml i=some r):EC F ml i=some r:=by unfold EC;rw[h1];exact h2
def YL(mF:Mem)(l:List (Nat×A)):List (Nat×A)->Prop
 |[]=>True
 |p::r=>Cv mF (lT l p.1) p.2/\YL mF l r
theorem YL.at{mF:Mem}{l:List (Nat×A)}:∀{l':List (Nat×A)},YL mF l l'->∀n,lT l' n=.x\/Cv mF (lT l n) (lT l' n)
 |[],_,n=>.inl rfl
 |p::r,h,n=>by
  simp only[lT];cases hb:Nat.beq p.1 n with
  |true=>have:=bB hb;subst this;exact .inr h.1
  |false=>exact h.2.at n
def WG(F:List Nat)(mF:Mem)(ml:List (Nat×R)):List (Nat×R)->Prop
 |[]=>True
 |p::r=>(s9 p.1 F=false/\∃q,aK ml p.1=some q/\ZN mF q p.2)/\WG F mF ml r
theorem WG.at{F:List Nat}{mF:Mem}{ml:List (Nat×R)}:∀{ml':List (Nat×R)},WG F mF ml ml'->∀i r',aK ml' i=some r'->s9 i F=false/\∃q,aK ml i=some q/\ZN mF q r'
 |[],_,i,r',h=>by simp[aK]at h
 |p::r,h,i,r',hq=>by
  simp only[aK]at hq;cases hb:Nat.beq p.1 i with
  |true=>
   rw[hb]at hq;simp only[cond_true,aA]at hq;have:=bB hb;subst this;subst hq;exact h.1
  |false=>rw[hb]at hq;exact h.2.at i r' hq
def IW(ml':List (Nat×R)):List (Nat×R)->Prop
 |[]=>True
 |p::r=>aK ml' p.1≠none/\IW ml' r
theorem IW.at{ml':List (Nat×R)}:∀{mb:List (Nat×R)},IW ml' mb->∀k,aK mb k≠none->aK ml' k≠none
 |[],_,k,h=>absurd rfl h
 |p::r,h,k,hk=>by
  simp only[aK]at hk;cases hb:Nat.beq p.1 k with
  |true=>have:=bB hb;subst this;exact h.1
  |false=>rw[hb]at hk;exact h.2.at k hk
theorem cN.freeze(F:List Nat){mb:List (Nat×R)}{n:Nat}{l l':List (Nat×A)}{ml ml':List (Nat×R)}(hb:IW ml' mb)(hl:YL (EC F ml) l l')(hm:WG F (EC F ml) ml ml')(h1:GF ml' l')(h2:H9 ml' ml'):cN mb n l ml l' ml':=by
 intro b ρb ρ a w hs ho;have hfz:∀i r,EC F ml i=some r->aK ml i=some r/\aK ml' i=none:=by
  intro i r h;unfold EC at h;cases hq:s9 i F with
  |false=>rw[hq]at h;cases h
  |true=>
   rw[hq]at h;refine⟨h,?_⟩;cases WI:aK ml' i with
   |none=>rfl
   |some r'=>have:=(hm.at i r' WI).1;rw[hq]at this;cases this
 refine⟨ρ,bC.aHD hs hfz (λds e=>⟨b.ds,(eY e).symm⟩) (λi r' hi=>⟨(hm.at i r' hi).2,h2.at i r' hi⟩) (λn=>(hl.at n).imp id λh=>⟨h,h1.at n⟩),?_⟩;intro k hk;obtain⟨k1,k2⟩:=ho k hk;have hZ:=hb.at k hk;refine⟨hZ,λhd=>?_⟩;cases hq:aK ml' k with
 |none=>exact absurd hq hZ
 |some r'=>
  obtain⟨_,q,q1,q2⟩:=hm.at k r' hq;have hqd:aK ml k≠some .dead:=by
   rw[q1];intro e;simp only[aA]at e;exact q2.dead (by rintro rfl;exact hd hq) e
  obtain⟨k3,k4,k5⟩:=k2 hqd;refine⟨k3,k4,λfz t es l e=>?_⟩;obtain⟨fz',t',l2,e1,e2⟩:=k5 fz t es l e;rw[q1]at e1;simp only[aA]at e1;subst e1;cases q2 with
  |plain hp=>cases hp
  |fW hl=>exact⟨_,_,_,rfl,by rw[hl.length];exact e2⟩
theorem aZ{l:List (List C)}:rB ml (dU t es l).hs:=by rw[oJ];trivial
theorem cO{g:Nat->Nat}{rows:List (List A)}{L:List (List C)}(h:aK ml i=some (.fW false t es rows))(hr:rows=bE L):(aK ml i).map (R.eZ g)=some (dU t es L):=by
 rw[h,hr];show some ((dU t es L).eZ g)=_;rw[eT]
inductive Flat:A->Prop
 |v (x:Value):Flat (.d (.v x))
 |eL (l:List Value):Flat (.eL (l.map λx=>.d (.v x)))
theorem Flat.den(h:Flat v){w w':World}{M M':Nat->Prop}{m m':Mem}{ρ ρ':Nat->Value}{y:Value}(hd:v.Den w M m ρ y):v.Den w' M' m' ρ' y:=by
 have key:∀{l:List Value}{ys:List Value},A.bR w M m ρ (l.map λx=>.d (.v x)) ys->A.bR w' M' m' ρ' (l.map λx=>.d (.v x)) ys:=by
  intro l;induction l with
  |nil=>intro ys h;simpa only[bM,A.bR]using h
  |cons x r ih=>
   intro ys h;simp only[aG,A.bR,A.Den,C.Den]at h⊢;obtain⟨y,yr,e,h1,h2⟩:=h;exact⟨y,yr,e,h1,ih h2⟩
 cases h with
 |v x=>simpa only[A.Den,C.Den]using hd
 |eL l=>
  simp only[A.Den]at hd⊢;obtain⟨vs,e,h1⟩:=hd;exact⟨vs,e,key h1⟩
theorem aJ.view{cs:List C}(h:∀m,aJ P f (cs.map A.d) m (.ok v) m)(hv:Flat v)(hr:wJ m as cs):aJ P f as m (.ok v) m:=by
 refine⟨(h m).1,?_⟩;intro N T M0 S0 w0 ρ a w hs cX vs P2;have hM:dD M0 (λ_=>none) ρ=M0:=by
  funext b;refine propext ⟨?_,.inl⟩;rintro(e|⟨i,r,hi,_⟩)
  ·exact e
  ·cases hi
 have h0:bC M0 (λ_=>False) w ⟨N.n,none⟩ (λ_=>.x) (λ_=>none) ρ a w:=
  {keeps:=iF.refl _ _,size:=hs.size,defers:=λds e=>by cases e
   tmps:=λn=>by simp only[A.Den]
   res:=λi r hi=>by cases hi
   own:=λi r b hi=>by cases hi
   apart:=λi j r s b hi=>by cases hi}
 have aYE:∀b,M0 b->b<w.heap.size:=λb hb=>cG (cX b hb) hs.keeps.size;refine((h λ_=>none).2 ⟨N.n,none⟩ (λ_=>.x) M0 (λ_=>False) w ρ a w h0 aYE vs (by rw[hM];exact FN (tC hs hr P2))).mono ?_;rintro e w' ⟨ρ',h1,hO,y,rfl,hy⟩;have hk:=h1.keeps;have eB:dV (dD M0 m ρ) w w':=hk.stays λb _ e=>e.elim;have hid:∀b,dD M0 m ρ b->b<w.heap.size->dD M0 m ρ b:=λb hb _=>hb;refine⟨ρ,?_,gL.refl m ρ,y,rfl,hv.den hy⟩
 exact{keeps:=hs.keeps.trans hk λb _ e=>e.elim,size:=h1.size
       defers:=λds e=>eJ eB hid (gL.refl m ρ) _ _ (hs.defers ds e)
       tmps:=λn=>A.dC eB hid (gL.refl m ρ) _ _ (hs.tmps n)
       res:=λi r hi=>by
        by_cases hd:r=.dead
        · subst hd;trivial
        · refine R.hU eB hid (gL.refl m ρ) (λb hb aVU=>hk.block b aVU (λe=>e)) (hs.res i r hi)
       own:=λi r b hi hl hb=>let⟨x,y,z⟩:=hs.own i r b hi hl hb;⟨x,y,cG z hk.size⟩
       apart:=hs.apart}
theorem fU{cs:List C}{k:A->List (Nat×R)->Prop}(h:∀m,aJ P f (cs.map A.d) m (.ok v) m)(hv:Flat v)(hr:wJ (aK ml) as cs)(hk:k v []):dZ P f as ml k:=⟨v,[],aJ.view h hv hr,hk⟩
theorem HA{cs:List C}{nx:Nat}{k:A->List (Nat×R)->Bool->Prop}(h:∀m,aJ P f (cs.map A.d) m (.ok v) m)(hv:Flat v)(hr:wJ (aK ml) as cs)(hk:k v [] true):xQ P f as ml nx k:=.BL v [] (aJ.view h hv hr) hk
def A.AQ:A->Bool
 |.d c=>match c with
  |.v _=>true
  |.nl _=>true
  |_=>false
 |.lp _ _=>true
 |.h _=>true
 |.x=>true
 |_=>false
def R.IZ:R->Prop
 |.dead=>True
 |.cells fz l=>fz=false/\∀a∈l,a.AQ=true
 |.fW fz _ _ l=>fz=false/\∀a∈l.flatten,a.AQ=true
 |.mp fz kv st=>fz=false/\st=[]/\∀a∈kv.map (·.2),a.AQ=true
 |_=>False
theorem aA8{ρ':Nat->Value}(hO:gL m m' ρ ρ'):∀{a:A}{y:Value},a.AQ=true->a.Den w M m ρ y->a.Den w M' m' ρ' y:=by
 intro a y h hd;cases a with
 |d c=>
  cases c with
  |v x=>simpa only[A.Den,C.Den]using hd
  |nl es=>simpa only[A.Den,C.Den]using hd
  |_=>cases h
 |lp i off=>
  simp only[A.Den]at hd⊢;exact hd.mono hO λe _⟨b,h1,h2⟩=>⟨b,e.trans h1,h2⟩
 |h i=>
  simp only[A.Den]at hd⊢;exact hd.mono hO λe _ h1=>h1.trans e.symm
 |x=>simp only[A.Den]
 |_=>cases h
theorem yS{w:World}{M M':Nat->Prop}{m m':Mem}{ρ ρ':Nat->Value}(hO:gL m m' ρ ρ'):∀{l:List A}{ys:List Value},(∀a∈l,a.AQ=true)->A.bR w M m ρ l ys->A.bR w M' m' ρ' l ys
 |[],ys,_,hd=>by simpa only[A.bR]using hd
 |c::r,ys,h,hd=>by
  simp only[A.bR]at hd⊢;obtain⟨y,yr,hy,h1,h2⟩:=hd;exact⟨y,yr,hy,aA8 hO (h c sM) h1,yS hO (λa ha=>h a (by simp[ha])) h2⟩
theorem aA7{ρ':Nat->Value}{h:Value}(hO:gL m m' ρ ρ'){r:R}(hf:r.IZ)(hr:r.Ok w M m ρ h):r.Ok w M' m' ρ' h:=by
 cases r with
 |dead=>trivial
 |cells fz l=>
  obtain⟨rfl,hl⟩:=hf;obtain⟨b,cs,t,e,h1,h2,h3,h4⟩:=hr;exact⟨b,cs,t,e,h1,yS hO hl h2,(λe=>by cases e),h4⟩
 |fW fz t es l=>
  obtain⟨rfl,hl⟩:=hf;obtain⟨xs,h1,h2,h3,h4,h5⟩:=hr;exact⟨xs,h1,yS hO hl h2,h3,(λe=>by cases e),h5⟩
 |mp fz kv st=>
  obtain⟨rfl,rfl,hl⟩:=hf;obtain⟨b,es,cl,l,e,h1,h2,h3,h4,h5⟩:=hr;exact⟨b,es,cl,l,e,h1,h2,yS hO hl h3,(λe=>by cases e),λp hp=>by simp at hp⟩
 |_=>cases hf
theorem aJ.aC7{as1:List A}{m1 mF:Mem}{ups:List (Nat×R)}(h:aJ P f as1 m1 (.ok v) (aH m1 ups))(hv:Flat v)(hfz:∀i r,mF i=some r->m i=some r/\m1 i=none)(has:IX mF as as1)(hhs:∀i∈A.lQ as1,m1 i≠none)
 (hm:∀i r,m1 i=some r->m i=some r)(n0:∀i r,m1 i=some r->∀j∈r.hs,m1 j≠none)(aXW:∀p∈ups,m1 p.1=none->m p.1=none)(hfl:∀i r,aH m1 ups i=some r->r.IZ):aJ P f as m (.ok v) (aH m ups):=by
 refine⟨h.1,?_⟩;intro N T M0 S0 w0 ρ a w hs cX vs P2;let S1:Nat->Prop:=λb=>∃i r,m1 i=some r/\r.live=true/\jK (ρ i)=some b;have hfr:nE m mF m1:=⟨hfz,λi r h1 h2=>⟨r,hm i r h1,h2⟩⟩;have a1U:∀b,dD M0 m1 ρ b->dD M0 m ρ b:=hfr.sub;have rQ:∀j,m1 j≠none->Sh m m1 j:=by
  intro j hj;cases hq:m1 j with
  |none=>exact absurd hq hj
  |some r=>exact⟨hj,λhd=>⟨by rw[hm j r hq,<-hq];exact hd,λfz t es l e=>⟨fz,t,l,by rw[hq,<-hm j r hq];exact e,rfl⟩⟩⟩
 have h0:bC M0 S1 w ⟨N.n,none⟩ (λ_=>.x) m1 ρ a w:=
  {keeps:=iF.refl _ _,size:=hs.size,defers:=λds e=>by cases e
   tmps:=λn=>by simp only[A.Den]
   res:=λi r hi=>R.hU (dV.refl _ w) (λb hb _=>a1U b hb) (gL.refl m1 ρ) (λ_ _ _=>rfl) (R.rY hm (n0 i r hi) (hs.res i r (hm i r hi)))
   own:=λi r b hi hl hb=>by
    obtain⟨x,y,z⟩:=hs.own i r b (hm i r hi) hl hb;exact⟨.inr ⟨i,r,hi,hl,hb⟩,y,z⟩
   apart:=λi j r s b hi l1 hj l2 b1 b2=>hs.apart i j r s b (hm i r hi) l1 (hm j s hj) l2 b1 b2}
 have aYE:∀b,M0 b->b<w.heap.size:=λb hb=>cG (cX b hb) hs.keeps.size;refine(h.2 ⟨N.n,none⟩ (λ_=>.x) M0 S1 w ρ a w h0 aYE vs (NZ hs hfr has (λi hi=>rQ i (hhs i hi)) P2)).mono ?_;rintro e w' ⟨ρ',h1,hO,hv'⟩;let ρ2:Nat->Value:=λi=>if(aH m1 ups i).isSome then ρ' i else ρ i
 have hA:∀{i:Nat}{r:R},aH m1 ups i=some r->aH m ups i=some r/\ρ2 i=ρ' i:=λ{i r}e=>⟨pN ups hm i r e,by simp[ρ2,e]⟩;have hB:∀{i:Nat},aH m1 ups i=none->m1 i=none/\aH m ups i=m i/\ρ2 i=ρ i:=λ{i}e=>⟨(nP ups e).1,(nP ups e).2 m,by simp[ρ2,e]⟩;have kk:=h1.keeps;have hS1:∀b,S1 b->dD M0 m ρ b:=λb⟨i,r,e1,e2,e3⟩=>.inr ⟨i,r,hm i r e1,e2,e3⟩;have eB:dV (dD M0 m ρ) w w':=kk.stays λb _ e=>hS1 b e;have hon:gL m (aH m ups) ρ ρ2:=by
  intro i hi;cases h':aH m1 ups i with
  |none=>
   obtain⟨e1,e2,e3⟩:=hB h';rw[e2];exact⟨hi,λhd=>⟨hd,e3,λfz t es l e=>⟨fz,t,l,e,rfl⟩⟩⟩
  |some r=>
   obtain⟨e1,e2⟩:=hA h';rw[e1];refine⟨sM,λhd=>?_⟩;cases PE:m1 i with
   |none=>
    obtain⟨p,hp,rfl⟩:=xS ups PE (by rw[h'];simp);exact absurd (aXW p hp PE) hi
   |some r0=>
    have aYF:=hm i r0 PE;obtain⟨_,q⟩:=hO i (by rw[PE];simp);rw[h']at q;obtain⟨q1,q2,q3⟩:=q hd;rw[aYF];rw[PE]at q1 q3;exact⟨q1,by rw[e2];exact q2,q3⟩
 have aVM:∀b,dD M0 (aH m ups) ρ2 b->b<w.heap.size->dD M0 m ρ b:=by
  rintro b (e|⟨i,r,hi,hl,hb⟩) hbl
  ·exact .inl e
  ·cases h':aH m1 ups i with
   |none=>
    obtain⟨e1,e2,e3⟩:=hB h';rw[e2]at hi;rw[e3]at hb;exact .inr ⟨i,r,hi,hl,hb⟩
   |some r'=>
    obtain⟨e1,e2⟩:=hA h';rw[e1]at hi;simp at hi;subst hi;rw[e2]at hb;rcases(h1.own i r' b h' hl hb).1 with q|q
    ·omega
    ·exact hS1 b q
 have aY6:gL (aH m1 ups) (aH m ups) ρ' ρ2:=by
  intro i hi;cases h':aH m1 ups i with
  |none=>exact absurd h' hi
  |some r=>
   obtain⟨e1,e2⟩:=hA h';rw[e1];exact⟨sM,λhd=>⟨hd,e2,λfz t es l e=>⟨fz,t,l,e,rfl⟩⟩⟩
 have aZM:∀(i j:Nat)(r s:R)(b:Nat),aH m1 ups i=some r->r.live=true->jK (ρ' i)=some b->m1 j=none->m j=some s->s.live=true->jK (ρ j)=some b->False:=by
  intro i j r s b hi l1 b1 hj1 hj l2 b2;rcases(h1.own i r b hi l1 b1).1 with q|⟨k,rk,q1,q2,q3⟩
  ·have:=(hs.own j s b hj l2 b2).2.2;omega
  ·have:=hs.apart k j rk s b (hm k rk q1) q2 hj l2 q3 b2;subst this;rw[hj1]at q1;cases q1
 refine⟨ρ2,?_,hon,?_⟩
 ·refine{keeps:=hs.keeps.trans kk λb hb⟨i,r,e1,e2,e3⟩=>?_,size:=h1.size,defers:=λds e=>eJ eB aVM hon _ _ (hs.defers ds e)
         tmps:=λn=>A.dC eB aVM hon _ _ (hs.tmps n)
         res:=λi r hi=>?_,own:=λi r b hi hl hb=>?_,apart:=λi j r s b hi l1 hj l2 b1 b2=>?_}
  ·rcases(hs.own i r b (hm i r e1) e2 e3).1 with q|q
   ·omega
   ·exact q
  ·cases h':aH m1 ups i with
   |some r'=>
    obtain⟨e1,e2⟩:=hA h';rw[e1]at hi;simp at hi;subst hi;rw[e2];exact aA7 aY6 (hfl i r' h') (h1.res i r' h')
   |none=>
    obtain⟨e1,e2,e3⟩:=hB h';rw[e2]at hi;rw[e3];by_cases hd:r=.dead
    ·subst hd;trivial
    ·refine R.hU eB aVM hon (λb hb aVU=>?_) (hs.res i r hi);refine kk.block b aVU ?_;rintro⟨j,s,q1,q2,q3⟩;have hij:i≠j:=by rintro rfl;rw[e1]at q1;cases q1
     exact hs.other (hm j s q1) q2 q3 hi hd hij hb
  ·cases h':aH m1 ups i with
   |some r'=>
    obtain⟨e1,e2⟩:=hA h';rw[e1]at hi;simp at hi;subst hi;rw[e2]at hb;obtain⟨x,y,z⟩:=h1.own i r' b h' hl hb;refine⟨?_,y,z⟩;rcases x with q|⟨j,s,q1,q2,q3⟩
    ·exact .inl (cL hs.keeps.size q)
    ·exact(hs.own j s b (hm j s q1) q2 q3).1
   |none=>
    obtain⟨e1,e2,e3⟩:=hB h';rw[e2]at hi;rw[e3]at hb;obtain⟨x,y,z⟩:=hs.own i r b hi hl hb;exact⟨x,y,cG z kk.size⟩
  ·cases h':aH m1 ups i with
   |some r'=>
    obtain⟨e1,e2⟩:=hA h';rw[e1]at hi;simp at hi;subst hi;rw[e2]at b1;cases h2:aH m1 ups j with
    |some s'=>
     obtain⟨e3,e4⟩:=hA h2;rw[e3]at hj;simp at hj;subst hj;rw[e4]at b2;exact h1.apart i j r' s' b h' l1 h2 l2 b1 b2
    |none=>
     obtain⟨e3,e4,e5⟩:=hB h2;rw[e4]at hj;rw[e5]at b2;exact(aZM i j r' s b h' l1 b1 e3 hj l2 b2).elim
   |none=>
    obtain⟨e1,e2,e3⟩:=hB h';rw[e2]at hi;rw[e3]at b1;cases h2:aH m1 ups j with
    |some s'=>
     obtain⟨e4,e5⟩:=hA h2;rw[e4]at hj;simp at hj;subst hj;rw[e5]at b2;exact(aZM j i s' r b h2 l2 b2 e1 hi l1 b1).elim
    |none=>
     obtain⟨e4,e5,e6⟩:=hB h2;rw[e5]at hj;rw[e6]at b2;exact hs.apart i j r s b hi l1 hj l2 b1 b2
 ·obtain⟨y,rfl,hy⟩:=hv';exact⟨y,rfl,hv.den hy⟩
def lH(g:Nat->Nat)(ml:List (Nat×R)):List (Nat×R):=ml.map λp=>(g p.1,p.2.eZ g)
theorem aCA(a b:Nat):Nat.beq a b=decide (a=b):=by
 cases h:Nat.beq a b with
 |true=>simp[bB h]
 |false=>
  have:a≠b:=λe=>by subst e;simp at h
  simp[this]
theorem rJ{g gi:Nat->Nat}(h1:∀i,gi (g i)=i)(h2:∀i,g (gi i)=i):∀ml:List (Nat×R),nK g gi (aK ml)=aK (lH g ml)
 |[]=>rfl
 |p::r=>by
  funext i;have ih:=congrFun (rJ h1 h2 r) i;simp only[nK,lH,aG,aK]at ih⊢;have e:Nat.beq p.1 (gi i)=Nat.beq (g p.1) i:=by
   rw[aCA,aCA,decide_eq_decide];exact⟨λe=>by rw[e,h2],λe=>by rw[<-e,h1]⟩
  rw[e];cases Nat.beq (g p.1) i with
  |true=>rfl
  |false=>exact ih
theorem hY:∀(u ml:List (Nat×R)),aH (aK ml) u=aK (u.reverse++ml)
 |[],ml=>rfl
 |(i,r)::u,ml=>by
  have:=hY u ((i,r)::ml);rw[fC,bG,qY,<-this,lR];rfl
theorem T6(g:Nat->Nat)(a b:List (Nat×R)):lH g (a++b)=lH g a++lH g b:=bP
theorem tZ{g gi:Nat->Nat}(h1:∀i,gi (g i)=i)(h2:∀i,g (gi i)=i)(u ml:List (Nat×R)):nK g gi (aH (aK ml) u)=aH (aK (lH g ml)) (lH g u):=by
 rw[hY,rJ h1 h2,T6,hY];congr 2;simp[lH]
def RN(ml:List (Nat×R)):List (Nat×R)->Prop
 |[]=>True
 |p::r=>aK ml p.1=some p.2/\RN ml r
theorem RN.at{ml:List (Nat×R)}:∀{l:List (Nat×R)},RN ml l->∀i r,aK l i=some r->aK ml i=some r
 |[],_,i,r,h=>by simp[aK]at h
 |p::l,h,i,r,hr=>by
  simp only[aK]at hr;cases hb:Nat.beq p.1 i with
  |true=>
   rw[hb]at hr;simp only[cond_true,aA]at hr;have:=bB hb;subst this;subst hr;exact h.1
  |false=>rw[hb]at hr;exact h.2.at i r hr
def T8(l:List (Nat×R)):List Nat->Prop
 |[]=>True
 |i::r=>aK l i=none/\T8 l r
theorem T8.at{l:List (Nat×R)}:∀{V:List Nat},T8 l V->∀i,s9 i V=true->aK l i=none
 |[],_,i,h=>by cases h
 |j::r,h,i,hi=>by
  simp only[s9]at hi;cases hb:Nat.beq i j with
  |true=>have:=bB hb;subst this;exact h.1
  |false=>rw[hb]at hi;exact h.2.at i hi
def HH(ml l:List (Nat×R)):List (Nat×R)->Prop
 |[]=>True
 |p::r=>(aK l p.1≠none\/aK ml p.1=none)/\HH ml l r
theorem HH.at{ml l:List (Nat×R)}:∀{u:List (Nat×R)},HH ml l u->∀p∈u,aK l p.1=none->aK ml p.1=none
 |[],_,p,hp,_=>by simp at hp
 |q::r,h,p,hp,h0=>by
  simp only[aO]at hp;rcases hp with rfl|hp
  ·exact h.1.resolve_left (λe=>e h0)
  ·exact h.2.at p hp h0
def sT:List (Nat×R)->Prop
 |[]=>True
 |p::r=>p.2.IZ/\sT r
theorem sT.at:∀{l:List (Nat×R)},sT l->∀i r,aK l i=some r->r.IZ
 |[],_,i,r,h=>by simp[aK]at h
 |p::l,h,i,r,hr=>by
  simp only[aK]at hr;cases hb:Nat.beq p.1 i with
  |true=>
   rw[hb]at hr;simp only[cond_true,aA]at hr;subst hr;exact h.1
  |false=>rw[hb]at hr;exact h.2.at i r hr
theorem sT.append:∀{l l':List (Nat×R)},sT l->sT l'->sT (l++l')
 |[],_,_,h=>h
 |p::l,_,h,h'=>⟨h.1,h.2.append h'⟩
theorem sT.reverse:∀{l:List (Nat×R)},sT l->sT l.reverse
 |[],_=>trivial
 |p::l,h=>by rw[fC];exact h.2.reverse.append ⟨h.1,tV⟩
theorem Flat.eZ{v:A}(h:Flat v)(g:Nat->Nat):v.eZ g=v:=by
 cases h with
 |v x=>rfl
 |eL l=>
  simp only[A.eZ];congr 1;induction l with
  |nil=>rfl
  |cons x r ih=>simp only[aG,A.iV,A.eZ,ih]
theorem aJ.use{as':List A}(h:aJ P f as (aK mb) (.ok v) (aH (aK mb) u))(hv:Flat v){g gi:Nat->Nat}(h1:∀i,gi (g i)=i)(h2:∀i,g (gi i)=i)(V:List Nat)
 (has:IX (EC V ml) as' (A.iV g as))(hhs:rB (lH g mb) (A.lQ (A.iV g as)))(hm:RN ml (lH g mb))(hV:T8 (lH g mb) V)(n0:H9 (lH g mb) (lH g mb))(hfr:HH ml (lH g mb) (lH g u))(hf1:sT (lH g mb))(hf2:sT (lH g u)):
 aJ P f as' (aK ml) (.ok v) (aH (aK ml) (lH g u)):=by
 have k:=h.eZ h1 h2;rw[rJ h1 h2,tZ h1 h2]at k;have e:(Rt.ok v).eZ g=.ok v:=by show Rt.ok (v.eZ g)=_;rw[hv.eZ]
 rw[e]at k;refine aJ.aC7 (mF:=EC V ml) k hv ?_ has hhs.at hm.at (λi r hi=>n0.at i r hi) hfr.at ?_
 ·intro i r hi;unfold EC at hi;cases hq:s9 i V with
  |false=>rw[hq]at hi;cases hi
  |true=>rw[hq]at hi;exact⟨hi,hV.at i hq⟩
 ·intro i r hi;rw[hY]at hi;exact(hf2.reverse.append hf1).at i r hi
theorem aJ.aXE(h:aJ P f as (aK mb) (.ok v) (aH (aK mb) u)){g gi:Nat->Nat}(h1:∀i,gi (g i)=i)(h2:∀i,g (gi i)=i)
 (hhs:rB (lH g mb) (A.lQ (A.iV g as)))(hm:RN ml (lH g mb))(n0:H9 (lH g mb) (lH g mb))(hfr:HH ml (lH g mb) (lH g u)):
 aJ P f (A.iV g as) (aK ml) (.ok (v.eZ g)) (aH (aK ml) (lH g u)):=by
 have k:=h.eZ h1 h2;rw[rJ h1 h2,tZ h1 h2]at k;exact aJ.frame k hhs.at hm.at (λi r hi=>n0.at i r hi) hfr.at
def I2(ml:List (Nat×R)):List Nat->List (Nat×R)->Prop
 |_,[]=>True
 |s,p::r=>(s9 p.1 s=true\/aK ml p.1=some p.2)/\I2 ml (p.1::s) r
theorem I2.at{ml:List (Nat×R)}:∀{l:List (Nat×R)}{s:List Nat},I2 ml s l->∀i r,s9 i s=false->aK l i=some r->aK ml i=some r
 |[],_,_,i,r,_,h=>by simp[aK]at h
 |p::l,s,h,i,r,hs,hr=>by
  simp only[aK]at hr;cases hb:Nat.beq p.1 i with
  |true=>
   rw[hb]at hr;simp only[cond_true,aA]at hr;have:=bB hb;subst this;subst hr;exact h.1.resolve_left (λe=>by rw[hs]at e;cases e)
  |false=>
   rw[hb]at hr;refine h.2.at i r ?_ hr;simp only[s9];have:Nat.beq i p.1=false:=by
    cases hq:Nat.beq i p.1 with
    |false=>rfl
    |true=>have:=bB hq;subst this;simp at hb
   rw[this];exact hs
theorem dA(h1:v=r)(h2:I2 ml [] (u.reverse++mb)):U8 mb r u v ml:=by
 refine⟨h1,λi q hq=>?_⟩;rw[hY]at hq;exact h2.at i q rfl hq
theorem V6(hm:P.follows .mixedOrders=true){f:FuncId}{fn:Func}{c:Code}{as:List A}{r:A}{mb u:List (Nat×R)}(nx:Nat)(hf:P.funcs[f]?=some fn)(hb:fn.body=some c)(n0:kW P f=true)(hn:as.length<=fn.ntmps)
 (hv:rB (u.reverse++mb) r.hs)(hc:H9 (u.reverse++mb) u)
 (h:vc P mb fn.ntmps c (C9 0 as) mb nx (JS P fn (U8 mb r u))):aJ P f as (aK mb) (.ok r) (aH (aK mb) u):=by
 refine OC hm nx hf hb n0 hn (λi hi=>?_) (λp hp j hj=>?_) h
 ·rw[hY];exact hv.at i hi
 ·rw[hY];have:∀{l:List (Nat×R)},H9 (u.reverse++mb) l->p∈l->∀j∈p.2.hs,aK (u.reverse++mb) j≠none:=by
   intro l;induction l with
   |nil=>intro _ h;simp at h
   |cons q l ih=>
    intro h hp;simp only[aO]at hp;rcases hp with rfl|hp
    ·exact h.1.at
    ·exact ih h.2 hp
  exact this hc hp j hj
theorem YQ{rows:List (List A)}{L:List (List C)}(h:aK ml i=some (.fW false t es rows))(hr:rows=bE L):aK ml i=some (dU t es L):=by rw[h,hr];rfl
theorem ER(a b:List (List C)):bE (a++b)=bE a++bE b:=by simp only[bE,bP]
theorem YF(i:Nat):id (id i)=i:=rfl
theorem sT.dU{i:Nat}{t:TypeId}{es:Nat}{L:List (List C)}(h:∀c∈L.flatten,A.AQ (.d c)=true):(Go.Pv.dU t es L).IZ:=by
 refine⟨rfl,λa ha=>?_⟩;rw[yT]at ha;obtain⟨c,hc,rfl⟩:=aA4.1 ha;exact h c hc
theorem cN.trans{n:Nat}{l l' l2:List (Nat×A)}{ml' ml2:List (Nat×R)}(h1:cN mb n l ml l' ml')(h2:cN mb n l' ml' l2 ml2):cN mb n l ml l2 ml2:=by
 intro b ρb ρ a w hs ho;obtain⟨ρ1,s1,o1⟩:=h1 b ρb ρ a w hs ho;exact h2 b ρb ρ1 a w s1 o1
section
variable{M0 S0:Nat->Prop}{w0:World}{N:Fr}{T:Nat->A}{m:Mem}{ρ:Nat->Value}{a:Act}{w:World}
theorem EH:gL m (aX m i .dead) ρ ρ:=by
 intro j hj;by_cases e:j=i
 ·subst e;simp[aX]
 ·simp only[aX,e,if_false];exact⟨hj,λhd=>⟨hd,tV,λfz t es l e=>⟨fz,t,l,e,rfl⟩⟩⟩
theorem YT:∀b,dD M0 (aX m i .dead) ρ b->dD M0 m ρ b:=by
 rintro b (e|⟨j,r,h1,h2,h3⟩)
 ·exact .inl e
 ·by_cases e:j=i
  ·subst e;simp only[aX,if_true,aA]at h1;subst h1;cases h2
  ·simp only[aX,e,if_false]at h1;exact .inr ⟨j,r,h1,h2,h3⟩
theorem bC.die(h:bC M0 S0 w0 N T m ρ a w)(i:Nat):bC M0 S0 w0 N T (aX m i .dead) ρ a w:=by
 have eB:=dV.refl (dD M0 m ρ) w;have Q2:∀b,dD M0 (aX m i .dead) ρ b->b<w.heap.size->dD M0 m ρ b:=λb hb _=>YT b hb
 exact{keeps:=h.keeps,size:=h.size
       defers:=λds e=>eJ eB Q2 EH _ _ (h.defers ds e)
       tmps:=λn=>A.dC eB Q2 EH _ _ (h.tmps n)
       res:=λj r hj=>by
        by_cases e:j=i
        · subst e
          simp only[aX,if_true,aA]at hj;subst hj;trivial
        · simp only[aX,e,if_false]at hj
          exact R.hU eB Q2 EH (λ_ _ _=>rfl) (h.res j r hj)
       own:=λj r b hj hl hb=>by
        by_cases e:j=i
        · subst e
          simp only[aX,if_true,aA]at hj;subst hj;cases hl
        · simp only[aX,e,if_false]at hj
          exact h.own j r b hj hl hb
       apart:=λj k r s b hj l1 hk l2 b1 b2=>by
        by_cases e:j=i
        · subst e
          simp only[aX,if_true,aA]at hj;subst hj;cases l1
        · by_cases e2:k=i
          · subst e2
            simp only[aX,if_true,aA]at hk;subst hk;cases l2
          · simp only[aX,e,e2,if_false]at hj hk
            exact h.apart j k r s b hj l1 hk l2 b1 b2}
end
def J7:List Nat->Mem->Mem
 |[],m=>m
 |i::r,m=>J7 r (aX m i .dead)
section
variable{M0 S0:Nat->Prop}{w0:World}{N:Fr}{T:Nat->A}{ρ:Nat->Value}{a:Act}{w:World}
theorem N5:∀(D:List Nat){m:Mem},bC M0 S0 w0 N T m ρ a w->bC M0 S0 w0 N T (J7 D m) ρ a w/\gL m (J7 D m) ρ ρ/\∀b,dD M0 (J7 D m) ρ b->dD M0 m ρ b
 |[],m,h=>⟨h,gL.refl m ρ,λb hb=>hb⟩
 |i::r,m,h=>by
  obtain⟨k1,k2,k3⟩:=N5 r (h.die i);exact⟨k1,EH.trans k2,λb hb=>YT b (k3 b hb)⟩
end
structure aGG(D:List Nat)(mb:List (Nat×R))(r:A)(u:List (Nat×R))(v:A)(ml:List (Nat×R)):Prop where
 val:v=r
 mem:∀i q,aH (aK mb) u i=some q->J7 D (aK ml) i=some q
theorem aAR{D:List Nat}(h:aGG D mb r u v ml)(hv:∀i∈r.hs,aH (aK mb) u i≠none)(hc:∀p∈u,∀j∈p.2.hs,aH (aK mb) u j≠none):aGH (aK mb) (aK ml) (.ok v) (aH (aK mb) u) (.ok r):=by
 intro N N1 T T1 M0 S0 w0 ρ ρ2 a a1 w w2 e hs s hO aWJ;obtain⟨y,rfl,hy⟩:=aWJ;obtain⟨rfl,aVM⟩:=h;obtain⟨k1,k2,k3⟩:=N5 D s;have hO2:=hO.trans k2;have hb:=hs.back k1 hO2;have hy2:=A.dC (dV.refl _ w2) (λb hb _=>k3 b hb) k2 _ _ hy;obtain⟨q1,q2,q3⟩:=hs.cut hb hO2 aVM hv hc hy2;exact⟨ρ2,q1,q2,y,rfl,q3⟩
theorem J8:∀(D:List Nat)(ml:List (Nat×R)),J7 D (aK ml)=aK ((D.map λi=>(i,.dead)).reverse++ml)
 |[],ml=>rfl
 |i::r,ml=>by
  have:=J8 r ((i,.dead)::ml);rw[lR]at this;simp only[J7,this,aG,fC,bG,qY]
theorem XY{D:List Nat}(h1:v=r)(h2:I2 ((D.map λi=>(i,.dead)).reverse++ml) [] (u.reverse++mb)):aGG D mb r u v ml:=by
 refine⟨h1,λi q hq=>?_⟩;rw[hY]at hq;rw[J8];exact h2.at i q rfl hq
theorem V5(hm:P.follows .mixedOrders=true){f:FuncId}{fn:Func}{c:Code}{as:List A}{r:A}{mb u:List (Nat×R)}(D:List Nat)(nx:Nat)(hf:P.funcs[f]?=some fn)(hb:fn.body=some c)(n0:kW P f=true)(hn:as.length<=fn.ntmps)
 (hv:rB (u.reverse++mb) r.hs)(hc:H9 (u.reverse++mb) u)
 (h:vc P mb fn.ntmps c (C9 0 as) mb nx (JS P fn (aGG D mb r u))):aJ P f as (aK mb) (.ok r) (aH (aK mb) u):=by
 have h1:=uX hm c _ _ _ _ h;rw[IC]at h1;refine qG hf hb n0 hn h1 ?_;rintro ex T' m' ⟨l,ml,nx,rfl,rfl,h⟩;obtain⟨e1,v,e2,h3⟩:=IF h;refine⟨e1,⟨ml,rfl⟩,v,e2,aAR h3 (λi hi=>?_) (λp hp j hj=>?_)⟩
 ·rw[hY];exact hv.at i hi
 ·rw[hY];have:∀{l:List (Nat×R)},H9 (u.reverse++mb) l->p∈l->∀j∈p.2.hs,aK (u.reverse++mb) j≠none:=by
   intro l;induction l with
   |nil=>intro _ h;simp at h
   |cons q l ih=>
    intro h hp;simp only[aO]at hp;rcases hp with rfl|hp
    ·exact h.1.at
    ·exact ih h.2 hp
  exact this hc hp j hj
theorem cN.perm(i:Nat){mb:List (Nat×R)}{n:Nat}{l:List (Nat×A)}{ml:List (Nat×R)}{fz:Bool}{kv kv':List (Ky×A)}(hp:kv.Perm kv'):cN mb n l ((i,.mp fz kv [])::ml) l ((i,.mp fz kv' [])::ml):=by
 intro b ρb ρ a w hs ho;rw[lR]at hs ho;rw[lR];obtain⟨k1,k2,k3⟩:=hs.aH8 hp;exact⟨ρ,k1,ho.trans k2⟩
def ZW(ex:Ex)(id:Nat)(X Y Z:Prop):Prop:=match ex with
 |.nm=>X
 |.ext i=>bK (Nat.beq i id) Y Z
 |.ret=>Z
 |.sE _=>Z
theorem wj{id:Nat}{Z:Prop}(h:X):ZW .nm id X Y Z:=h
theorem wk{id:Nat}{Z:Prop}(h:Y):ZW (.ext id) id X Y Z:=by
 have e:Nat.beq id id=true:=sM;simp only[ZW,e];exact h
theorem wl{id:Nat}{Z:Prop}(h:Z):ZW .ret id X Y Z:=h
theorem cY(hm:P.follows .mixedOrders=true){mb:List (Nat×R)}{n:Nat}{c:Code}{l:List (Nat×A)}{ml:List (Nat×R)}{K:KT}{α β:Type}(Inv:α->Prop)(I:α->List (Nat×A))(J:α->List (Nat×R))(μ:α->Nat)(nx:Nat)(a0:α)(id:Nat)(Exi:β->Prop)(I':β->List (Nat×A))(J':β->List (Nat×R))(nx2:Nat)(hi:Inv a0)(h0:cN mb n l ml (I a0) (J a0))
 (step:∀a,Inv a->vc P mb n c (I a) (J a) nx (λex l' ml' nx'=>ZW ex id (∃a',μ a'<μ a/\Inv a'/\cN mb n l' ml' (I a') (J a')) (∃b,Exi b/\cN mb n l' ml' (I' b) (J' b)) (K ex l' ml' nx')))
 (cont:∀b,Exi b->K (.ext id) (I' b) (J' b) nx2):XB P mb n c l ml K:=by
 refine⟨λro wB b ρb ρ a w hs hob cX Q hQ=>?_⟩;obtain⟨ρ1,hs1,ho1⟩:=h0 b ρb ρ a w hs hob;refine wpIn_loop_ghost (λj a' w'=>∃x ρ' b',μ x=j/\Inv x/\b.Ext b'/\(sC c=true->b'=b)/\(∀x,b'.M x->x<b'.w.heap.size)/\I1 b' n (lT (I x)) (aK (J x)) ρ' a' w'/\gL (aK mb) (aK (J x)) ρb ρ') (μ a0) ⟨a0,ρ1,b,rfl,hi,.refl b,λ_=>rfl,cX,hs1,ho1⟩ ?_;rintro j a' w' ⟨x,ρ',b1,rfl,K0,hE1,P0,aYE,hs',VV⟩;refine uX hm c _ _ nx _ (step x K0) ro wB b1 ρb ρ' a' w' hs' VV aYE _ ?_;rintro ex e T' m' b2 ρ2 a2 w2 ⟨l',ml',nx',rfl,rfl,h⟩ hE2 hn2 aW3 hs2 ho2 hd;cases hx:ex.MQ with
 |true=>
  obtain⟨rfl,rfl⟩:=(BX hd).1 hx;obtain⟨x',q1,q2,q3⟩:=h;obtain⟨ρ3,hs3,ho3⟩:=q3 b2 ρb ρ2 a2 w2 hs2 ho2;exact⟨μ x',q1,x',ρ3,b2,rfl,q2,hE1.trans hE2,λq=>(hn2 q).trans (P0 q),aW3,hs3,ho3⟩
 |false=>
  have hZ:=(BX hd).2 hx;have out:PK K ex (lT l') (aK ml')->Exit.then (λa' w'=>∃i,i<μ x/\∃x ρ' b',μ x=i/\Inv x/\b.Ext b'/\(sC c=true->b'=b)/\(∀x,b'.M x->x<b'.w.heap.size)/\I1 b' n (lT (I x)) (aK (J x)) ρ' a' w'/\gL (aK mb) (aK (J x)) ρb ρ') Q e a2 w2:=λhk=>by
   have:=hQ ex e _ _ b2 ρ2 a2 w2 hk (hE1.trans hE2) (λq=>(hn2 q).trans (P0 q)) aW3 hs2 ho2 hd;cases e<;>first|exact this|exact absurd rfl hZ
  cases ex with
  |nm=>cases hx
  |ret=>exact out ⟨l',ml',nx',rfl,rfl,h⟩
  |sE v=>exact out ⟨l',ml',nx',rfl,rfl,h⟩
  |ext i=>
   simp only[ZW]at h;cases hb:Nat.beq i id with
   |false=>rw[hb]at h;exact out ⟨l',ml',nx',rfl,rfl,h⟩
   |true=>
    rw[hb]at h;have:=bB hb;subst this;obtain⟨y,q2,q3⟩:=h;obtain⟨ρ3,hs3,ho3⟩:=q3 b2 ρb ρ2 a2 w2 hs2 ho2;have hd':(Ex.ext i).Den w2 (dD b2.M (aK (J' y)) ρ3) (aK (J' y)) ρ3 e:=hd;have:=hQ (.ext i) e _ _ b2 ρ3 a2 w2 ⟨_,_,nx2,rfl,rfl,cont y q2⟩ (hE1.trans hE2) (λq=>(hn2 q).trans (P0 q)) aW3 hs3 ho3 hd';cases e<;>first|exact this|exact absurd rfl hZ

structure Hid(Q:Prop):Prop where
 h:Q
theorem bl{P Q:Prop}(q:Q)(h:Hid Q->P:=by
 intro q
 first
 |with_reducible (first|refine w9 ?_|refine nN.mk ?_|refine w1 ?_|refine w4 ?_|refine w2 ?_|refine w5 ?_|refine O8.f rfl ?_|refine wc ?_|refine O8.t rfl ?_|refine w3 ?_|refine wa ?_|refine we ?_|refine wb ?_|refine w8 ?_|refine wd ?_|refine wj ?_|refine wk ?_|refine wl ?_|refine w6 ?_|refine w7 ?_|refine wf rfl ?_|refine wm rfl ?_)
 |((with_reducible (first|refine wr ?_|refine wi ?_|refine wx ?_|refine wh ?_|refine wg ?_|refine wy ?_));(conv=>whnf))
 |((with_reducible refine wu ?_);(conv=>whnf))
 |(with_reducible refine aJH.mk (by kernel_rfl) ?_)
 |(refine fZ.mk _ rfl ?_;(conv=>whnf))
 |((with_reducible refine FC.mk (RG (by(try dsimp only);omega) (by(try dsimp only);omega)) ?_);(conv=>whnf))
 repeat'(first
  |with_reducible (first|refine w9 ?_|refine nN.mk ?_|refine w1 ?_|refine w4 ?_|refine w2 ?_|refine w5 ?_|refine O8.f rfl ?_|refine wc ?_|refine O8.t rfl ?_|refine w3 ?_|refine wa ?_|refine we ?_|refine wb ?_|refine w8 ?_|refine wd ?_|refine wj ?_|refine wk ?_|refine wl ?_|refine w6 ?_|refine w7 ?_|refine wf rfl ?_|refine wm rfl ?_)
  |((with_reducible (first|refine wr ?_|refine wi ?_|refine wx ?_|refine wh ?_|refine wg ?_|refine wy ?_));(conv=>whnf))
  |((with_reducible refine wu ?_);(conv=>whnf))
  |(with_reducible refine aJH.mk (by kernel_rfl) ?_)
  |(refine fZ.mk _ rfl ?_;(conv=>whnf))
  |((with_reducible refine FC.mk (RG (by(try dsimp only);omega) (by(try dsimp only);omega)) ?_);(conv=>whnf)))
 exact q.h):P:=h ⟨q⟩
theorem bS{b:Bool}{X' Y' p q:Prop}(h1:p->X')(h2:q->Y')(e1:b=true->p:=by intro h;conv at h=>{simp};exact h)(e2:b=false->q:=by intro h;conv at h=>{simp};exact h)
 (f1:b=true->X'->X:=by intro h q;(try rw[h]);exact q)(f2:b=false->Y'->Y:=by intro h q;(try rw[h]);exact q):O8 b X Y:=
 nQ (λh=>f1 h (h1 (e1 h))) λh=>f2 h (h2 (e2 h))
theorem mv(i j:Nat){mb:List (Nat×R)}{n:Nat}{l l':List (Nat×A)}{ml ml':List (Nat×R)}
 (h:M3 i j ml' mb/\KP (swp i j) l l'/\I8 (swp i j) ml ml'/\GF ml' l'/\H9 ml' ml':=by repeat'(first|exact aW|exact rfl|exact sn|exact aZ|exact wW|exact IK rfl|exact cO rfl rfl|exact aD4 rfl|exact KS rfl rfl|exact aEP|exact mklo rfl (by assumption)|exact hlo _ sn sn sn sn sn|exact hlo _ sn sn|(refine qD ?_;simp only[aB,bE];done)|(refine aDO ?_;(try dsimp only);omega)|refine bI ?_ ?_)):cN mb n l ml l' ml':=
 cN.swap i j h.1 h.2.1 h.2.2.1 h.2.2.2.1 h.2.2.2.2
theorem em(h1:v=r:=by exact rfl)(h2:I2 ml [] (u.reverse++mb):=by repeat'(first|exact aW|exact rS rfl|exact eV rfl|refine bI ?_ ?_)):U8 mb r u v ml:=dA h1 h2
theorem bw{P Q:Prop}(q:Q)(h:Hid Q->P:=by intro q;(conv=>whnf);exact q.h):P:=h ⟨q⟩
theorem iC(hm:P.follows .mixedOrders=true){f:FuncId}{fn:Func}{c:Code}{as:List A}{r:A}(hf:P.funcs[f]?=some fn)
 (h:vc P [] fn.ntmps c (C9 0 as) [] 1 (JS P fn λv ml=>A1 (aK ml) v r))
 (hb:fn.body=some c:=by exact rfl)(n0:kW P f=true:=by kernel_rfl)(hn:as.length<=fn.ntmps:=by exact bD rfl)(has:A.lQ as=[]:=by exact rfl)(m:Mem):aJ P f as m (.ok r) m:=
 CV hm hf hb n0 hn has h m
theorem wE(hm:P.follows .mixedOrders=true){f:FuncId}{fn:Func}{c:Code}{as:List A}{r:A}{mb u:List (Nat×R)}(nx:Nat)(hf:P.funcs[f]?=some fn)
 (hv:rB (u.reverse++mb) r.hs)(hc:H9 (u.reverse++mb) u)(h:vc P mb fn.ntmps c (C9 0 as) mb nx (JS P fn (U8 mb r u)))
 (hb:fn.body=some c:=by exact rfl)(n0:kW P f=true:=by kernel_rfl)(hn:as.length<=fn.ntmps:=by exact bD rfl):aJ P f as (aK mb) (.ok r) (aH (aK mb) u):=
 V6 hm nx hf hb n0 hn hv hc h
theorem ow{n:Int}{len:Nat}{K:Nat->Prop}(j:Nat)(k:K j)(h:n=j:=by exact rfl)(cX:j<len:=by simp only[bE,cE,aB,c7];omega):lG n len K:=.mk j h cX k
theorem ow2{n:Int}{len:Nat}{K:Nat->Prop}(j:Nat)(k:K j)(h:n=j:=by omega)(cX:j<len:=by simp only[bE,cE,aB,c7];omega):lG n len K:=.mk j h cX k
theorem mq(i j:Nat){mb:List (Nat×R)}{n:Nat}{l l':List (Nat×A)}{ml ml':List (Nat×R)}{Q:Prop}(q:Q)
 (h:Hid Q->M3 i j ml' mb/\KP (swp i j) l l'/\I8 (swp i j) ml ml'/\GF ml' l'/\H9 ml' ml':=by intro q;repeat'(first|exact aW|exact rfl|exact sn|exact aZ|exact wW|exact IK rfl|exact cO rfl rfl|exact aD4 rfl|exact KS rfl rfl|exact aEP|exact mklo rfl (by assumption)|exact hlo _ sn sn sn sn sn|exact hlo _ sn sn|exact rS sn|exact eV rfl|(refine qD ?_;simp only[aB,bE];done)|(refine aDO ?_;(try dsimp only);omega)|refine bI ?_ ?_|exact q.h)):cN mb n l ml l' ml':=
 have a:=h ⟨q⟩
 cN.swap i j a.1 a.2.1 a.2.2.1 a.2.2.2.1 a.2.2.2.2
theorem mZ{n:Nat}{l l':List (Nat×A)}{ml':List (Nat×R)}(h:cN mb n l ml l' ml':=by exact mv 5000 5001):cN mb n l ml l' ml':=h
end Go.Pv
