import Derived.Test.YtpdcbahjjmooiaaGreatA16
/- A program logic over the model, contracts of the functions that the law reaches: part 17. (Names and blanks were shortened by program.) -/
set_option linter.unusedVariables false
set_option linter.unusedSimpArgs false
set_option linter.constructorNameAsVariable false
set_option linter.unusedSectionVars false
set_option linter.deprecated false
set_option maxRecDepth 100000
set_option maxHeartbeats 8000000
open Go
namespace Go.Pv
open Go.RowKit
variable{P:Program}{m m2 m':Mem}{T:Nat->A}{v:A}{w:World}{M:Nat->Prop}{ρ:Nat->Value}{f:FuncId}{as:List A}{es i:Nat}{r' r:R}{ml:List (Nat×R)}{cs:List C}
def aGH(m mf:Mem)(r0:Rt)(m2:Mem)(r:Rt):Prop:=
 ∀(N N1:Fr)(T T1:Nat->A)(M0 S0:Nat->Prop)(w0:World)(ρ ρ2:Nat->Value)(a a1:Act)(w w2:World)(e:Ending),bC M0 S0 w0 N T m ρ a w->bC M0 (oO m ρ) w N1 T1 mf ρ2 a1 w2->cI m mf ρ ρ2->r0.Den w2 (dD M0 mf ρ2) mf ρ2 e->
  ∃ρ',bC M0 S0 w0 N T m2 ρ' a w2/\cI m m2 ρ ρ'/\r.Den w2 (dD M0 m2 ρ') m2 ρ' e
theorem PV(hm:∀i r,m i=some r->m2 i=some r){t:TypeId}{x:A}{e:E}(h:jM P m t x=some e):jM P m2 t x=some e:=by
 unfold jM at h⊢;split at h
 ·split at h
  ·rename_i hi;simp only[hm _ _ hi];exact h
  ·cases h
 ·split at h
  ·rename_i hi;simp only[hm _ _ hi];exact h
  ·cases h
 ·exact h
 ·cases h
theorem aBD(hm:∀i r,m i=some r->m2 i=some r){r:ResultVar}{v:A}(h:aBC P m T r=some v):aBC P m2 T r=some v:=by
 cases r with
 |tmp t=>exact h
 |cell ad t=>
  simp only[aBC]at h⊢;split at h
  ·rename_i hl;rw[PV hm hl];exact h
  ·cases h
theorem OM{P:Program}{m m2:Mem}{T:Nat->A}(hm:∀i r,m i=some r->m2 i=some r):∀{rs:List ResultVar}{vs:List A},MS P m T rs=some vs->MS P m2 T rs=some vs
 |[],vs,h=>h
 |r::rs,vs,h=>by
  simp only[MS]at h⊢;split at h
  ·rename_i v vs' h1 h2;rw[aBD hm h1,OM hm h2];exact h
  ·cases h
theorem aBF(hm:∀i r,m i=some r->m2 i=some r){rs:List ResultVar}{v:A}(h:GO P m T rs=some v):GO P m2 T rs=some v:=by
 unfold GO at h⊢;cases hl:MS P m T rs with
 |none=>rw[hl]at h;cases h
 |some vs=>rw[hl]at h;rw[OM hm hl];exact h
def LZ:List Nat->Mem->Mem
 |[],m=>m
 |i::r,m=>LZ r (aX m i (.df true))
theorem OW:∀{L:List Nat}{m:Mem}{i:Nat},i∉L->LZ L m i=m i
 |[],m,i,_=>rfl
 |j::r,m,i,h=>by
  rw[LZ,OW (λe=>h (List.mem_cons_of_mem _ e))];unfold aX;rw[if_neg (λe=>h (by simp[e]))]
theorem KA{P:Program}{fn:Func}{T:Nat->A}{v:A}:∀(L:List Nat)(m:Mem),L.Nodup->(∀i∈L,m i=some (.df false))->GO P (LZ L m) T fn.results.toList=some v->pB P fn T m (L.map .s4) .ret (.ok v) (LZ L m)
 |[],m,_,_,h=>pB.ret h
 |i::r,m,hn,hi,h=>by
  have hn':=gR.1 hn;refine pB.s4 (hi i (by simp)) (KA r _ hn'.2 (λj hj=>?_) h);unfold aX;rw[if_neg (λ(e:j=i)=>hn'.1 (by rw[<-e];exact hj))];exact hi j (by simp[hj])
def VW(N:Nat)(Ds:List Nat)(m:Mem):Mem:=λi=>if N<=i/\i<N+Ds.length then some (.df false)else m i
def aAO(N:Nat)(Ds:List Nat)(ρ:Nat->Value):Nat->Value:=λi=>if N<=i/\i<N+Ds.length then .pointer (some ⟨Ds.getD (i -N) 0,0,none⟩)else ρ i
theorem R5{w:World}{M:Nat->Prop}{m:Mem}{ρ:Nat->Value}:∀{Ds L:List Nat}{l:List Deferred},Ds.length=L.length->(∀(k:Nat)(h:k<L.length)(h2:k<Ds.length),m L[k]≠none/\ρ L[k]=.pointer (some ⟨Ds[k],0,none⟩))->l=Ds.map DI->iM w M m ρ (L.map .s4) l
 |[],[],l,_,_,e=>e
 |[],_::_,l,h,_,_=>by simp at h
 |_::_,[],l,h,_,_=>by simp at h
 |D::Ds,i::L,l,h,hk,e=>by
  subst e;have h0:=hk 0 (by simp) (by simp);refine⟨D,Ds.map DI,rfl,⟨h0.1,λ_=>h0.2⟩,R5 (by simpa using h) (λk q q2=>?_) rfl⟩;exact hk (k+1) (by simpa using q) (by simpa using q2)
theorem aEG{w:World}{M:Nat->Prop}{m:Mem}{ρ:Nat->Value}:∀{ds:List Nat}{l:List Deferred},iM w M m ρ (ds.map λD=>.opq (DI D)) l->l=ds.map DI
 |[],l,h=>h
 |D::r,l,⟨rest,e,h⟩=>by rw[e,aEG h];rfl
theorem aJ8{fn:Func}{b0 b:Bs}{n:Nat}{l:List (Nat×R)}{a:Act}(hE:b0.Ext b)(hd:b0.ds=[])(hlt:∀x,b0.M x->x<b0.w.heap.size)(hltb:∀x,b.M x->x<b.w.heap.size)(hs:I1 b n T (aK l) ρ a w)(hv:GO P (aK l) T fn.results.toList=some v)
 {Re:Ending->World->Prop}(hR:∀e w' ρ',bC b0.M b0.S b0.w ⟨n,some []⟩ T (aK l) ρ' {a with defers:=[]} w'->cI (aK l) (aK l) ρ ρ'->(Rt.ok v).Den w' (dD b0.M (aK l) ρ') (aK l) ρ' e->Re e w'):sY P fn a.tmps Re a.defers .returning w:=by
 obtain⟨Ds,h1,h2,h3,h4⟩:=hE.grown;rw[hd,dS]at h1;obtain⟨N,hN⟩:∃N,∀i,N<=i->aK l i=none:=by
  clear hs hv hR;induction l with
  |nil=>exact⟨0,λ_ _=>rfl⟩
  |cons p r ih=>
   obtain⟨N,h⟩:=ih;refine⟨max N (p.1+1),λi hi=>?_⟩;rw[lR];unfold aX;rw[if_neg (by omega)];exact h i (by omega)
 let L:=(List.range Ds.length).map (N+·);have hLl:L.length=Ds.length:=by simp[L]
 have hLm:∀i,i∈L↔N<=i/\i<N+Ds.length:=by
  intro i;simp only[L,aM,jI];constructor
  ·rintro⟨k,hk,rfl⟩;omega
  ·rintro⟨q1,q2⟩;exact⟨i -N,by omega,by omega⟩
 have hLn:L.Nodup:=by
  refine List.pairwise_map.2 (List.nodup_range.imp λh e=>h ?_);omega
 let m2:=VW N Ds (aK l);let ρ2:=aAO N Ds ρ;have hout:∀i r,aK l i=some r->m2 i=some r/\ρ2 i=ρ i:=by
  intro i r hi;have:¬(N<=i/\i<N+Ds.length):=λq=>by rw[hN i q.1]at hi;cases hi
  exact⟨by simp only[m2,VW];rw[if_neg this];exact hi,by simp only[ρ2,aAO];rw[if_neg this]⟩
 have hin:∀i r,m2 i=some r->(∃k,∃h:k<Ds.length,i=N+k/\r=.df false/\ρ2 i=.pointer (some ⟨Ds[k],0,none⟩))\/(aK l i=some r/\ρ2 i=ρ i):=by
  intro i r hi;by_cases hq:N<=i/\i<N+Ds.length
  ·left;refine⟨i -N,by omega,by omega,?_,?_⟩
   ·simp only[m2,VW]at hi;rw[if_pos hq]at hi;exact(eY hi).symm
   ·simp only[ρ2,aAO];rw[if_pos hq];have:i -N<Ds.length:=by omega
    simp[bF,this]
  ·right;exact⟨by simp only[m2,VW]at hi;rw[if_neg hq]at hi;exact hi,by simp only[ρ2,aAO];rw[if_neg hq]⟩
 have hon:cI (aK l) m2 ρ ρ2:=by
  intro i hi;cases hq:aK l i with
  |none=>exact absurd hq hi
  |some r=>
   obtain⟨e1,e2⟩:=hout i r hq;rw[e1];exact⟨by simp,λhd=>⟨hd,e2,λfz t es l' e=>⟨fz,t,l',e,rfl⟩⟩⟩
 have hmut:∀x,dD b0.M m2 ρ2 x↔dD b.M (aK l) ρ x:=by
  intro x;constructor
  ·rintro(e|⟨i,r,e1,e2,e3⟩)
   ·exact .inl ((h2 x).2 (.inl e))
   ·rcases hin i r e1 with⟨k,hk,rfl,rfl,e⟩|⟨q1,q2⟩
    ·rw[e]at e3;simp only[jK,aA]at e3;exact .inl ((h2 x).2 (.inr (by rw[<-e3];exact aY hk)))
    ·rw[q2]at e3;exact .inr ⟨i,r,q1,e2,e3⟩
  ·rintro(e|⟨i,r,e1,e2,e3⟩)
   ·rcases(h2 x).1 e with e|e
    ·exact .inl e
    ·obtain⟨k,hk,rfl⟩:=dH.1 e;refine .inr ⟨N+k,.df false,?_,rfl,?_⟩
     ·simp only[m2,VW];rw[if_pos ⟨by omega,by omega⟩]
     ·simp only[ρ2,aAO];rw[if_pos ⟨by omega,by omega⟩];have:N+k -N=k:=by omega
      simp[this,bF,hk,jK]
   ·obtain⟨q1,q2⟩:=hout i r e1;exact .inr ⟨i,r,q1,e2,by rw[q2];exact e3⟩
 have hmutE:dD b0.M m2 ρ2=dD b.M (aK l) ρ:=funext λx=>propext (hmut x);have hst:=dV.refl (dD b.M (aK l) ρ) w;have hmi:∀x,dD b0.M m2 ρ2 x->x<w.heap.size->dD b.M (aK l) ρ x:=λx q _=>(hmut x).1 q;have hDw:∀D∈Ds,w.heap[D]?=some (.deferred (some []))/\D<w.heap.size:=λD hD=>by
  obtain⟨_,_,g3,g4,g5⟩:=h4 D hD;exact⟨(hs.keeps.block D g3 g4).trans g5,cG g3 hs.keeps.size⟩
 have hs2:bC b0.M b0.S b0.w ⟨n,some (L.map .s4)⟩ T m2 ρ2 a w:=
  {keeps:=hE.keeps.trans hs.keeps λx hx q=>(hE.own x q).resolve_left (by omega)
   size:=hs.size
   defers:=λds e=>by
    simp only[aA]at e;subst e
    refine R5 (Ds:=Ds) (by simp[L]) (λk hk hk2=>?_) (by
     have:=aEG (hs.defers _ rfl)
     rw[h1]at this;exact this)
    have e:L[k]=N+k:=by simp[L]
    rw[e];refine⟨by simp only[m2,VW];rw[if_pos ⟨by omega,by omega⟩];simp,?_⟩;simp only[ρ2,aAO];rw[if_pos ⟨by omega,by omega⟩];have:N+k -N=k:=by omega
    simp[this,bF,hk2]
   tmps:=λk=>A.dC hst hmi hon _ _ (hs.tmps k)
   res:=λi r hi=>by
    rcases hin i r hi with⟨k,hk,rfl,rfl,e⟩|⟨q1,q2⟩
    · rw[e]
      exact⟨Ds[k],rfl,by simpa using(hDw _ (aY hk)).1⟩
    · rw[q2]
      exact R.hU hst hmi hon (λ_ _ _=>rfl) (hs.res i r q1)
   own:=λi r x hi hl hb=>by
    rcases hin i r hi with⟨k,hk,rfl,rfl,e⟩|⟨q1,q2⟩
    · rw[e]at hb
      simp only[jK,aA]at hb;subst hb;obtain⟨g1,g2,g3,g4,g5⟩:=h4 _ (aY hk);exact⟨g1,g2,(hDw _ (aY hk)).2⟩
    · rw[q2]at hb
      obtain⟨x1,x2,x3⟩:=hs.own i r x q1 hl hb;refine⟨?_,λe=>x2 ((h2 x).2 (.inl e)),x3⟩;rcases x1 with x1|x1
      · exact .inl (cL hE.keeps.size x1)
      · exact hE.own x x1
   apart:=λi j r s x hi l1 hj l2 c1 c2=>by
    have hbM:∀k(hk:k<Ds.length)i r,aK l i=some r->r.live=true->jK (ρ i)=some Ds[k]->False:=λk hk i r q1 q2 q3=>
     (hs.own i r _ q1 q2 q3).2.1 ((h2 _).2 (.inr (aY hk)))
    rcases hin i r hi with⟨k,hk,rfl,rfl,e⟩|⟨q1,q2⟩
    · rw[e]at c1
      simp only[jK,aA]at c1;rcases hin j s hj with⟨k',hk',rfl,rfl,e'⟩|⟨p1,p2⟩
      · rw[e']at c2
        simp only[jK,aA]at c2;have:k=k':=(jB h3).1 (c1.trans c2.symm);omega
      · rw[p2]at c2
        exact(hbM k hk j s p1 l2 (by rw[c1];exact c2)).elim
    · rw[q2]at c1
      rcases hin j s hj with⟨k',hk',rfl,rfl,e'⟩|⟨p1,p2⟩
      · rw[e']at c2
        simp only[jK,aA]at c2;exact(hbM k' hk' i r q1 l1 (by rw[c2];exact c1)).elim
      · rw[p2]at c2
        exact hs.apart i j r s x q1 l1 p1 l2 c1 c2}
 have hL2:∀i∈L,m2 i=some (.df false):=λi hi=>by
  simp only[m2,VW];rw[if_pos ((hLm i).1 hi)]
 have hmf:∀i r,aK l i=some r->LZ L m2 i=some r:=λi r hi=>by
  rw[OW (λe=>by have:=((hLm i).1 e).1;rw[hN i this]at hi;cases hi)];exact(hout i r hi).1
 have hlv:=KA (P:=P) (fn:=fn) (T:=T) (v:=v) L m2 hLn hL2 (aBF hmf hv);refine hlv n b0.M b0.S b0.w ρ2 a w .returning hs2 hlt rfl Re ?_;intro e w' ρ' s o q;have hvh:∀i∈v.hs,aK l i≠none:=by
  obtain⟨y,_,hy⟩:=HQ (P:=P) hs hv;exact A.wC _ _ hy
 have hd2:=s.drop (m1:=aK l) hmf (λk i hi=>A.wC _ _ (hs.tmps k) i hi) (λds e d hd i hi=>by simp only[aA]at e;subst e;simp at hd) (λi r hi=>R.wC (hs.res i r hi));refine hR e w' ρ' hd2 (λi hi=>?_) ?_
 ·cases hq:aK l i with
  |none=>exact absurd hq hi
  |some r=>
   refine⟨by simp,λhd=>⟨hd,?_,λfz t es l' e=>⟨fz,t,l',e,rfl⟩⟩⟩;obtain⟨g1,g2⟩:=hout i r hq;have:=((o i (by rw[g1];simp)).2 (by rw[hmf i r hq];exact hd)).2.1;rw[this,g2]
 ·obtain⟨y,rfl,hy⟩:=q;refine⟨y,rfl,?_⟩;have hmu:∀x,dD b0.M (aK l) ρ' x->x<w'.heap.size->dD b0.M (LZ L m2) ρ' x:=by
   rintro x (e|⟨i,r,g1,g2,g3⟩) _
   ·exact .inl e
   ·exact .inr ⟨i,r,hmf i r g1,g2,g3⟩
  exact A.dC (dV.refl _ w') hmu (cI.refl _ ρ') _ _ (A.kU hmf _ _ hvh hy)
theorem qG{fn:Func}{c:Code}{mb:List (Nat×R)}{r:Rt}{Post:Ex->(Nat->A)->Mem->Prop}(hf:P.funcs[f]?=some fn)(hb:fn.body=some c)(hcl:kW P f=true)(hn:as.length<=fn.ntmps)
 (hbody:kD P mb fn.ntmps c (uA as) (aK mb) Post)(hpost:∀ex T' m',Post ex T' m'->SI ex=some .ret/\(∃l,m'=aK l)/\∃v,GO P m' T' fn.results.toList=some v/\aGH (aK mb) m' (.ok v) m2 r):aJ P f as (aK mb) r m2:=by
 refine⟨hcl,?_⟩;intro N T M0 S0 w0 ρ a w h hlt vs hd;have hlen:=(A.c9.1 hd).1;refine DE hf hb ?_;have hlt':∀b,M0 b->b<w.heap.size:=λb hb=>cG (hlt b hb) h.keeps.size;let b0:Bs:=⟨M0,oO (aK mb) ρ,w,[]⟩;have h0:I1 b0 fn.ntmps (uA as) (aK mb) ρ {tmps:=vs.toArray++Array.replicate (fn.ntmps -vs.toArray.size) undef,defers:=[]} w:=
  {keeps:=iF.refl _ _,size:=by simp;omega
   defers:=λds e=>by simp[Bs.das,b0]at e;subst e;rfl
   tmps:=λn=>by
    unfold uA;rcases eQ n as.length with q|q
    · rw[aC q]
      have hv:n<vs.length:=by omega
      have e1:(vs.toArray++Array.replicate (fn.ntmps -vs.toArray.size) undef).getD n undef=vs[n]:=by
       rw[cZ,Array.getElem?_append_left (by simpa using hv)];simp[hv]
      rw[e1];exact(A.c9.1 hd).2 n _ _ (aC q) (aC hv)
    · rw[c8 q]
      simp[A.Den]
   res:=h.res,own:=h.now.own,apart:=h.apart}
 refine hbody none (.inl rfl) b0 ρ ρ _ w h0 (cI.refl _ ρ) hlt' _ ?_;intro ex e T' m' b' ρ' a' w' hp hE _ hltb h1 hO hex;obtain⟨hmd,⟨l,rfl⟩,v,hv,hinto⟩:=hpost ex T' m' hp;have key:∀(e:Ending)(w2:World)(ρ2:Nat->Value),bC M0 (oO (aK mb) ρ) w ⟨fn.ntmps,some []⟩ T' (aK l) ρ2 {a' with defers:=[]} w2->cI (aK l) (aK l) ρ' ρ2->(Rt.ok v).Den w2 (dD M0 (aK l) ρ2) (aK l) ρ2 e->
  ∃ρ',bC M0 S0 w0 N T m2 ρ' a w2/\cI (aK mb) m2 ρ ρ'/\r.Den w2 (dD M0 m2 ρ') m2 ρ' e:=by
  intro e w2 ρ2 s o q;exact hinto N _ T _ M0 S0 w0 ρ ρ2 a _ w w2 e h s (hO.trans o) q
 have fin:=aJ8 (P:=P) (fn:=fn) (v:=v) hE rfl hlt' hltb h1 hv key;cases ex with
 |nm=>simp only[Ex.Den]at hex;subst hex;exact fin
 |ret=>simp only[Ex.Den]at hex;subst hex;exact fin
 |sE v=>cases hmd
 |ext id=>cases hmd
mutual
inductive Rd(m:Mem):A->C->Prop
 |d (c:C):Rd m (.d c) c
 |nl (es:Nat):Rd m (.d (.nl es)) (.sl es [])
 |nz (es es':Nat):Rd m (.d (.nl es)) (.sl es' [])
 |os {i:Nat} {fz:Bool} {t:TypeId} {es:Nat} {rows:List (List A)} {l:List (List C)}:m i=some (.fW fz t es rows)->rC m rows l->Rd m (.h i) (.sl es l)
 |lp {i:Nat} {fz:Bool} {l:List A} {cs:List C}:m i=some (.cells fz l)->wJ m l cs->Rd m (.lp i 0) (.ip cs)
 |mp {i:Nat} {fz:Bool} {kv:List (Ky×A)} {st:List (Ky×Nat)} {vs:List C}:m i=some (.mp fz kv st)->wJ m (kv.map (·.2)) vs->Rd m (.h i) (.im (kv.map (·.1)) vs)
 |agg {l:List A} {cs:List C}:wJ m l cs->Rd m (.agg l) (.agg cs)
 |AE {t:TypeId} {a:A} {c:C}:Rd m a c->Rd m (.AE t a) (.AE t c)
 |fn {f:Fn} {u v:List A} {cu cv:List C}:wJ m u cu->wJ m v cv->Rd m (.fn f u v) (.fn f cu cv)
inductive wJ(m:Mem):List A->List C->Prop
 |nil:wJ m [] []
 |cons {a:A} {c:C} {l:List A} {r:List C}:Rd m a c->wJ m l r->wJ m (a::l) (c::r)
inductive rC(m:Mem):List (List A)->List (List C)->Prop
 |nil:rC m [] []
 |cons {a:List A} {c:List C} {l:List (List A)} {r:List (List C)}:wJ m a c->rC m l r->rC m (a::l) (c::r)
end
theorem wJ.data(m:Mem):∀l:List C,wJ m (l.map A.d) l
 |[]=>.nil
 |c::r=>.cons (.d c) (wJ.data m r)
theorem rC.data(m:Mem):∀l:List (List C),rC m (l.map λx=>x.map A.d) l
 |[]=>.nil
 |x::r=>.cons (wJ.data m x) (rC.data m r)
theorem wJ.length{m:Mem}:∀{l:List A}{cs:List C},wJ m l cs->l.length=cs.length
 |_,_,.nil=>rfl
 |_,_,.cons _ h=>by simp[h.length]
theorem rC.length{m:Mem}:∀{l:List (List A)}{cs:List (List C)},rC m l cs->l.length=cs.length
 |_,_,.nil=>rfl
 |_,_,.cons _ h=>by simp[h.length]
theorem rC.lens{m:Mem}{es:Nat}:∀{l:List (List A)}{cs:List (List C)},rC m l cs->(∀e∈l,e.length=es)->∀e∈cs,e.length=es
 |_,_,.nil,_=>by simp
 |_,_,.cons a b,h=>by
  intro e he;simp only[aO]at he;rcases he with rfl|he
  ·rw[<-a.length];exact h _ (by simp)
  ·exact b.lens (λe he=>h e (by simp[he])) e he
section
variable{M0 S0:Nat->Prop}{w0:World}{N:Fr}{T:Nat->A}{m:Mem}{ρ:Nat->Value}{a:Act}{w:World}
theorem WK(s:bC M0 S0 w0 N T m ρ a w){i b:Nat}{r:R}(hi:m i=some r)(hb:jK (ρ i)=some b)(hr:r.live=false->¬dD M0 m ρ b):¬M0 b:=by
 cases hl:r.live with
 |true=>exact(s.own i r b hi hl hb).2.1
 |false=>exact λe=>hr hl (.inl e)
theorem xU{w:World}{M:Nat->Prop}:∀{l r:List C}{ys zs:List Value},C.bR w M l ys->C.bR w M r zs->C.bR w M (l++r) (ys++zs)
 |[],r,ys,zs,h1,h2=>by simp only[C.bR]at h1;subst h1;simpa using h2
 |c::l,r,ys,zs,h1,h2=>by
  simp only[C.bR]at h1;obtain⟨y,yr,rfl,k1,k2⟩:=h1;simp only[bW,C.bR];exact⟨y,yr++zs,rfl,k1,xU k2 h2⟩
mutual
theorem WJ(s:bC M0 S0 w0 N T m ρ a w):∀{v:A}{c:C}{y:Value},Rd m v c->v.Den w (dD M0 m ρ) m ρ y->C.Den w M0 c y
 |_,_,y,.d c,hy=>by
  simp only[A.Den]at hy;exact C.dC (dV.refl _ w) (λb hb _=>.inl hb) _ _ hy
 |_,_,y,.nl es,hy=>by
  simp only[A.Den,C.Den]at hy⊢;exact⟨none,0,by rw[hy];rfl,bT _,.inl trivial⟩
 |_,_,y,.nz es es',hy=>by
  simp only[A.Den,C.Den]at hy⊢;exact⟨none,0,by rw[hy];rfl,bT _,.inl trivial⟩
 |_,_,y,.os (i:=i) (fz:=fz) (es:=es) (rows:=rows) (l:=l) hi hl,hy=>by
  simp only[A.Den]at hy;have hv:=eH hy hi (by simp);obtain⟨xs,g1,g2,g3,g4,g5⟩:=s.res i _ hi;rw[hv];have hlen:=hl.length;simp only[C.Den];rcases g1 with⟨rfl,hn,ad,e⟩|⟨hxl,g,og,cap,cur,e,hp,hg,hnc,hcm,hfit,htk⟩
  ·have:l=[]:=bL (by omega);subst this;exact⟨some ad,0,by rw[e];rfl,bT _,.inl rfl⟩
  ·refine⟨some ⟨g,og,none⟩,cap,by rw[e,hlen],by omega,.inr ⟨g,og,rfl,?_,(aL.1 hg).1,?_⟩⟩
   ·refine WK s hi (b:=g) (by rw[e];simp[jK];omega) (λhlv=>g4 (by simpa [R.live]using hlv) g (by rw[e];simp[jK];omega))
   ·refine I7 l og xs (hl.lens g3) (TZ s hl g2) g5 (λj v hj=>?_);exact vV.cells (.inr ⟨hxl,g,og,cap,cur,e,hp,hg,hnc,hcm,hfit,htk⟩) e j v hj
 |_,_,y,.lp (i:=i) (fz:=fz) (l:=l) (cs:=cs) hi hl,hy=>by
  simp only[A.Den]at hy;obtain⟨b,e1,e2⟩:=eH hy hi (by simp);obtain⟨b',vs,t,g1,g2,g3,g4,g5⟩:=s.res i _ hi;rw[e1]at g1;simp only[oN,aA,rX,and_true]at g1;subst g1;simp only[C.Den];refine⟨b,0,e2,?_,(aL.1 g2).1,?_⟩
  ·exact WK s hi (b:=b) (by rw[e1];rfl) (λhlv=>g4 (by simpa [R.live]using hlv))
  ·have hd:=C.c9.1 (tC s hl g3);rw[C.rA];intro j c hc;have hj:j<vs.toList.length:=by rw[<-hd.1];exact(bA.1 hc).1
   refine⟨vs.toList[j],?_,g5 _ (aY hj),hd.2 j c _ hc (aC hj)⟩;rw[fF,oR g2];simp at hj;simp[hj]
 |_,_,y,.mp (i:=i) (fz:=fz) (kv:=kv) (vs:=vs) hi hl,hy=>by
  simp only[A.Den]at hy;have hv:=eH hy hi (by simp);obtain⟨b,es,clock,l,g1,g2,g3,g4,g5,g6⟩:=s.res i _ hi;simp only[C.Den];refine⟨b,es,clock,l,by rw[hv,g1],?_,g2,g3,tC s hl g4⟩;exact WK s hi (b:=b) (by rw[g1];rfl) (λhlv=>g5 (by simpa [R.live]using hlv))
 |_,_,y,.agg hl,hy=>by
  simp only[A.Den,C.Den]at hy⊢;obtain⟨vs,e,h1,h2⟩:=hy;exact⟨vs,e,h1,tC s hl h2⟩
 |_,_,y,.AE h,hy=>by
  simp only[A.Den,C.Den]at hy⊢;obtain⟨v,e,h1⟩:=hy;exact⟨v,e,WJ s h h1⟩
 |_,_,y,.fn hu hv,hy=>by
  simp only[A.Den,C.Den]at hy⊢;obtain⟨us,vs,e,h1,h2⟩:=hy;exact⟨us,vs,e,tC s hu h1,tC s hv h2⟩
theorem tC(s:bC M0 S0 w0 N T m ρ a w):∀{l:List A}{cs:List C}{ys:List Value},wJ m l cs->A.bR w (dD M0 m ρ) m ρ l ys->C.bR w M0 cs ys
 |_,_,ys,.nil,hy=>by simpa only[A.bR,C.bR]using hy
 |_,_,ys,.cons h1 h2,hy=>by
  simp only[A.bR,C.bR]at hy⊢;obtain⟨y,yr,e,k1,k2⟩:=hy;exact⟨y,yr,e,WJ s h1 k1,tC s h2 k2⟩
theorem TZ(s:bC M0 S0 w0 N T m ρ a w):∀{l:List (List A)}{cs:List (List C)}{ys:List Value},rC m l cs->A.bR w (dD M0 m ρ) m ρ l.flatten ys->C.bR w M0 cs.flatten ys
 |_,_,ys,.nil,hy=>by simpa only[A.bR,C.bR,List.flatten_nil]using hy
 |_,_,ys,.cons (a:=e) (c:=c) (l:=l) h1 h2,hy=>by
  rw[dL]at hy⊢;have t1:=A.mT e.length hy;have t2:=A.lL e.length hy;rw[List.take_left]at t1;rw[List.drop_left]at t2;have:=xU (tC s h1 t1) (TZ s h2 t2)
  rwa [gJ]at this
end
end
inductive A1(m:Mem):A->A->Prop
 |one {a:A} {c:C}:Rd m a c->A1 m a (.d c)
 |eL {l:List A} {cs:List C}:wJ m l cs->A1 m (.eL l) (.eL (cs.map A.d))
theorem FN{w:World}{M:Nat->Prop}{m:Mem}{ρ:Nat->Value}:∀{cs:List C}{ys:List Value},C.bR w M cs ys->A.bR w M m ρ (cs.map A.d) ys
 |[],ys,h=>by simpa only[C.bR,A.bR,bM]using h
 |c::r,ys,h=>by
  simp only[C.bR,A.bR,aG]at h⊢;obtain⟨y,yr,e,h1,h2⟩:=h;exact⟨y,yr,e,by simpa only[A.Den]using h1,FN h2⟩
theorem aAQ{mf:Mem}{r:A}(h:A1 mf v r):aGH (aK []) mf (.ok v) (aK []) (.ok r):=by
 intro N N1 T T1 M0 S0 w0 ρ ρ2 a a1 w w2 e hs s hO hden;obtain⟨y,rfl,hy⟩:=hden;have hb:=hs.back s hO;obtain⟨k1,k2,_⟩:=hs.cut (u:=[]) (v:=.x) (y:=y) hb hO (λi r h=>by simp[aH,aK]at h) (by simp[A.hs]) (by simp) (by simp only[A.Den]);refine⟨ρ2,k1,k2,y,rfl,?_⟩;have hM:dD M0 (aK []) ρ2=M0:=by
  funext b;refine propext ⟨?_,.inl⟩;rintro(e|⟨i,r,hi,_⟩)
  ·exact e
  ·simp[aK]at hi
 rw[hM];cases h with
 |one h=>simpa only[A.Den]using WJ s h hy
 |eL h=>
  simp only[A.Den]at hy⊢;obtain⟨vs,e1,h2⟩:=hy;exact⟨vs,e1,FN (tC s h h2)⟩
theorem CV(hm:P.follows .mixedOrders=true){f:FuncId}{fn:Func}{c:Code}{as:List A}{r:A}(hf:P.funcs[f]?=some fn)(hb:fn.body=some c)(hcl:kW P f=true)(hn:as.length<=fn.ntmps)(has:A.lQ as=[])
 (h:vc P [] fn.ntmps c (C9 0 as) [] 1 (JS P fn λv ml=>A1 (aK ml) v r))(m:Mem):aJ P f as m (.ok r) m:=by
 have h1:=uX hm c _ _ _ _ h;rw[IC]at h1;have h2:aJ P f as (aK []) (.ok r) (aH (aK []) []):=by
  refine qG (mb:=[]) hf hb hcl hn h1 ?_;rintro ex T' m' ⟨l,ml,nx,rfl,rfl,h⟩;obtain⟨e1,v,e2,h3⟩:=IF h;exact⟨e1,⟨ml,rfl⟩,v,e2,aAQ h3⟩
 exact aJ.frame (m:=m) (ups:=[]) h2 (by simp[has]) (by simp[aK]) (by simp[aK]) (by simp)
theorem iW(hm:P.follows .mixedOrders=true){f:FuncId}{fn:Func}{c:Code}{as:List A}{F:Nat->A}{r:R}(hf:P.funcs[f]?=some fn)(hb:fn.body=some c)(hcl:kW P f=true)(hn:as.length<=fn.ntmps)(has:A.lQ as=[])(hr:r.hs=[])
 (hF:∀g i,(F i).eZ g=F (g i))(hFh:∀i,∀j∈(F i).hs,j=i)(hri:∀g,r.eZ g=r)
 (h:vc P [] fn.ntmps c (C9 0 as) [] 1 (JS P fn λv ml=>∃i,v=F i/\aK ml i=some r))(m:Mem)(d:Nat)(hd:m d=none):aJ P f as m (.ok (F d)) (aX m d r):=by
 have h1:=uX hm c _ _ _ _ h;rw[IC]at h1;have h2:aJ P f as (aK []) (.ok (F d)) (aH (aK []) [(d,r)]):=by
  refine qG (mb:=[]) hf hb hcl hn h1 ?_;rintro ex T' m' ⟨l,ml,nx,rfl,rfl,h⟩;obtain⟨e1,v,e2,i,rfl,e3⟩:=IF h;refine⟨e1,⟨ml,rfl⟩,_,e2,?_⟩;intro N N1 T T1 M0 S0 w0 ρ ρ2 a a1 w w2 e hs s hO hden;obtain⟨s',hden2⟩:=s.eZ (fH i d) (fH i d);have hO':cI (aK []) (nK (swp i d) (swp i d) (aK ml)) ρ (λk=>ρ2 (swp i d k)):=λk hk=>absurd rfl hk;have hb:=hs.back s' hO';have ei:swp i d d=i:=by simp only[BJ];by_cases e:d=i<;>simp[e]
  have ed:swp i d i=d:=by simp[BJ]
  obtain⟨y,rfl,hy⟩:=hden;have hv:=hden2 _ _ hy;rw[hF,ed]at hv
  obtain⟨k1,k2,k3⟩:=hs.cut (u:=[(d,r)]) hb hO' (λk q hk=>by
   simp only[aH,aX,aK]at hk;split at hk
   · rename_i e;subst e
     simp only[aA]at hk;subst hk;unfold nK;rw[ei,e3];simp only[dF,hri]
   · cases hk) (λk hk=>by have:=hFh d k hk;subst this;simp[aH,aX]) (by simp[hr]) hv
  exact⟨_,k1,k2,y,rfl,k3⟩
 exact aJ.frame (m:=m) (ups:=[(d,r)]) h2 (by simp[has]) (by simp[aK]) (by simp[aK]) (by simp[hd])
def bE(l:List (List C)):List (List A):=l.map λr=>r.map A.d
def dU(t:TypeId)(es:Nat)(l:List (List C)):R:=.fW false t es (bE l)
theorem OL(g:Nat->Nat):∀l:List C,A.iV g (l.map A.d)=l.map A.d
 |[]=>rfl
 |c::r=>by simp only[aG,A.iV,A.eZ,OL g r]
theorem wX:∀l:List C,A.lQ (l.map A.d)=[]
 |[]=>rfl
 |c::r=>by simp only[aG,A.lQ,A.hs,wX r,dS]
theorem GQ(g:Nat->Nat):∀l:List (List C),(bE l).map (A.iV g)=bE l
 |[]=>rfl
 |c::r=>by
  have:=GQ g r;simp only[bE]at this⊢;simp only[aG,OL,this]
theorem yT:∀l:List (List C),(bE l).flatten=l.flatten.map A.d
 |[]=>rfl
 |c::r=>by
  have:=yT r;simp only[bE]at this⊢;simp only[aG,dL,this,bP]
theorem eT(g:Nat->Nat)(t:TypeId)(es:Nat)(l:List (List C)):(dU t es l).eZ g=dU t es l:=by simp only[dU,R.eZ,GQ]
theorem oJ(t:TypeId)(es:Nat)(l:List (List C)):(dU t es l).hs=[]:=by simp only[dU,R.hs,yT,wX]
theorem Y1(t:TypeId)(es:Nat)(l r:List (List C)):R.fW false t es (bE l++bE r)=dU t es (l++r):=by simp only[dU,bE,bP]
def lv(es id:Nat)(rows:List (List C)):A:=match rows with
 |[]=>.d (.nl es)
 |_::_=>.h id
def lm(id:Nat)(t:TypeId)(es:Nat)(rows:List (List C))(ml:List (Nat×R)):List (Nat×R):=match rows with
 |[]=>ml
 |r::q=>(id,Go.Pv.dU t es (r::q))::ml
theorem Rd.dU{m:Mem}{i:Nat}{t:TypeId}{es:Nat}{l:List (List C)}(h:m i=some (dU t es l)):Rd m (.h i) (.sl es l):=.os h (rC.data m l)
structure U8(mb:List (Nat×R))(r:A)(u:List (Nat×R))(v:A)(ml:List (Nat×R)):Prop where
 val:v=r
 mem:∀i q,aH (aK mb) u i=some q->aK ml i=some q
theorem aCP{x:R}{r:A}(h1:v=r)(h2:aK ml 0=some r'):U8 [(0,x)] r [(0,r')] v ml:=by
 refine⟨h1,λi q hq=>?_⟩;simp only[aH,aX,aK]at hq;by_cases e:i=0
 ·subst e;simp at hq;rw[h2,hq]
 ·have hb:Nat.beq 0 i=false:=by
   cases hb:Nat.beq 0 i with
   |false=>rfl
   |true=>exact absurd (bB hb).symm e
  simp[e,hb]at hq
theorem aDP{mb u:List (Nat×R)}{r:A}(h:U8 mb r u v ml)(hv:∀i∈r.hs,aH (aK mb) u i≠none)(hc:∀p∈u,∀j∈p.2.hs,aH (aK mb) u j≠none):aGH (aK mb) (aK ml) (.ok v) (aH (aK mb) u) (.ok r):=by
 intro N N1 T T1 M0 S0 w0 ρ ρ2 a a1 w w2 e hs s hO hden;obtain⟨y,rfl,hy⟩:=hden;obtain⟨rfl,hsub⟩:=h;have hb:=hs.back s hO;obtain⟨k1,k2,k3⟩:=hs.cut hb hO hsub hv hc hy;exact⟨ρ2,k1,k2,y,rfl,k3⟩
theorem OC(hm:P.follows .mixedOrders=true){f:FuncId}{fn:Func}{c:Code}{as:List A}{r:A}{mb u:List (Nat×R)}(nx:Nat)(hf:P.funcs[f]?=some fn)(hb:fn.body=some c)(hcl:kW P f=true)(hn:as.length<=fn.ntmps)
 (hv:∀i∈r.hs,aH (aK mb) u i≠none)(hc:∀p∈u,∀j∈p.2.hs,aH (aK mb) u j≠none)
 (h:vc P mb fn.ntmps c (C9 0 as) mb nx (JS P fn (U8 mb r u))):aJ P f as (aK mb) (.ok r) (aH (aK mb) u):=by
 have h1:=uX hm c _ _ _ _ h;rw[IC]at h1;refine qG hf hb hcl hn h1 ?_;rintro ex T' m' ⟨l,ml,nx,rfl,rfl,h⟩;obtain⟨e1,v,e2,h3⟩:=IF h;exact⟨e1,⟨ml,rfl⟩,v,e2,aDP h3 hv hc⟩
theorem aJ.AK(h:aJ P f as (aK [(0,r)]) (.ok v) (aH (aK [(0,r)]) [(0,r')]))(hr:r.hs=[])(hrr:∀g,r.eZ g=r)(hrr':∀g,r'.eZ g=r')(hv:v.hs=[])(has:∀j∈A.lQ as,j=0)
 (m:Mem)(i:Nat)(hi:m i=some r):aJ P f (A.iV (swp 0 i) as) m (.ok v) (aX m i r'):=by
 have h1:=h.eZ (fH 0 i) (fH 0 i);have e0:swp 0 i 0=i:=by simp[BJ]
 have ei:swp 0 i i=0:=by simp only[BJ];by_cases e:i=0<;>simp[e]
 have key:∀q:R,(∀g,q.eZ g=q)->nK (swp 0 i) (swp 0 i) (aX (λ_=>none) 0 q)=aX (λ_=>none) i q:=by
  intro q hq;funext k;unfold nK aX;by_cases e:k=i
  ·subst e;simp[ei,hq]
  ·have:swp 0 i k≠0:=by
    intro e2;have:=congrArg (swp 0 i) e2;rw[fH,e0]at this;exact e this
   simp[e,this]
 have m1:aK [(0,r)]=aX (λ_=>none) 0 r:=by rw[lR];rfl
 have m2:aH (aK [(0,r)]) [(0,r')]=aX (λ_=>none) 0 r':=by
  simp only[aH,m1];funext k;simp only[aX];split<;>rfl
 rw[m2,m1,key r hrr,key r' hrr']at h1;have h2:aJ P f (A.iV (swp 0 i) as) (aX (λ_=>none) i r) (.ok v) (aH (aX (λ_=>none) i r) [(i,r')]):=by
  have e1:(Rt.ok v).eZ (swp 0 i)=.ok v:=by
   rw[Rt.lU (g:=λi=>i) _ (by simp[Rt.hs,hv]),Rt.uS]
  rw[e1]at h1;have e2:aH (aX (λ_=>none) i r) [(i,r')]=aX (λ_=>none) i r':=by
   simp only[aH];funext k;simp only[aX];split<;>rfl
  rw[e2];exact h1
 refine aJ.frame (m:=m) h2 ?_ ?_ ?_ ?_
 ·intro j hj;rw[A.qL]at hj;obtain⟨j0,hj0,rfl⟩:=aM.1 hj;have:=has j0 hj0;subst this;rw[e0];simp[aX]
 ·intro j q hq;simp only[aX]at hq;split at hq
  ·rename_i e;subst e;rw[<-hq];exact hi
  ·cases hq
 ·intro j q hq k hk;simp only[aX]at hq;split at hq
  ·simp only[aA]at hq;subst hq;rw[hr]at hk;simp at hk
  ·cases hq
 ·intro p hp e;simp only[aR]at hp;subst hp;simp[aX]at e
theorem lN{k:A->List (Nat×R)->Prop}(i:Nat)(r':R)(h:aJ P f as (aK ml) (.ok v) (aX (aK ml) i r'))(hk:k v [(i,r')]):dZ P f as ml k:=⟨v,[(i,r')],h,hk⟩
theorem aJ.args{xs xs':List A}{r:Rt}(h:aJ P f xs m r m')(hd:∀(w:World)(M:Nat->Prop)(ρ:Nat->Value)(vs:List Value),A.bR w M m ρ xs' vs->A.bR w M m ρ xs vs):aJ P f xs' m r m':=
 ⟨h.1,λN T M0 S0 w0 ρ a w hs hlt vs hvs=>h.2 N T M0 S0 w0 ρ a w hs hlt vs (hd w _ ρ vs hvs)⟩
theorem aCM{w:World}{M:Nat->Prop}{m:Mem}{ρ:Nat->Value}:∀{cs:List C}{ys:List Value},A.bR w M m ρ (cs.map A.d) ys->C.bR w M cs ys
 |[],ys,h=>by simpa only[C.bR,A.bR,bM]using h
 |c::r,ys,h=>by
  simp only[C.bR,A.bR,aG]at h⊢;obtain⟨y,yr,e,h1,h2⟩:=h;exact⟨y,yr,e,by simpa only[A.Den]using h1,aCM h2⟩
theorem I3{y:Value}(h:(A.agg (cs.map A.d)).Den w M m ρ y):(A.d (.agg cs)).Den w M m ρ y:=by
 simp only[A.Den,C.Den]at h⊢;obtain⟨vs,e,h1,h2⟩:=h;exact⟨vs,e,h1,aCM h2⟩
theorem aCL{a b b':A}(hb:∀y,b'.Den w M m ρ y->b.Den w M m ρ y){vs:List Value}(h:A.bR w M m ρ [a,b'] vs):A.bR w M m ρ [a,b] vs:=by
 simp only[A.bR]at h⊢;obtain⟨y,yr,e,h1,z,zr,e2,h2,h3⟩:=h;exact⟨y,yr,e,h1,z,zr,e2,hb z h2,h3⟩
theorem aCK{b b':A}(hb:∀y,b'.Den w M m ρ y->b.Den w M m ρ y){vs:List Value}(h:A.bR w M m ρ [b'] vs):A.bR w M m ρ [b] vs:=by
 simp only[A.bR]at h⊢;obtain⟨z,zr,e2,h2,h3⟩:=h;exact⟨z,zr,e2,hb z h2,h3⟩
theorem fT{k:A->List (Nat×R)->Prop}(h:∀m,aJ P f [.d (.agg cs)] m (.ok v) m)(hk:k v []):dZ P f [.agg (cs.map A.d)] ml k:=
 aF (λm=>(h m).args λw M ρ vs h=>aCK (λy h=>I3 h) h) hk
def Sh(m m':Mem)(i:Nat):Prop:=m' i≠none/\(m' i≠some .dead->m i≠some .dead/\∀fz t es l,m i=some (.fW fz t es l)->∃fz' t' l',m' i=some (.fW fz' t' es l')/\l'.length=l.length)
theorem Has.sh{p q:Prop}(h:Has m i p)(hs:Sh m m' i)(hpq:(∀fz t es l,m i=some (.fW fz t es l)->∃fz' t' l',m' i=some (.fW fz' t' es l')/\l'.length=l.length)->p->q):Has m' i q:=
 ⟨hs.1,λhd=>hpq (hs.2 hd).2 (h.2 (hs.2 hd).1)⟩
mutual
theorem A.U7{w:World}{M M':Nat->Prop}{m m':Mem}{ρ:Nat->Value}(hM:∀b,M' b->M b):∀(a:A)(y:Value),(∀i∈a.hs,Sh m m' i)->a.Den w M m ρ y->a.Den w M' m' ρ y
 |.d c,y,_,hd=>by
  simp only[A.Den]at hd⊢;exact C.dC (dV.refl _ w) (λb hb _=>hM b hb) c y hd
 |.lp i off,y,hi,hd=>by
  simp only[A.Den]at hd⊢;exact hd.sh (hi i (by simp[A.hs])) λ_ e=>e
 |.h i,y,hi,hd=>by
  simp only[A.Den]at hd⊢;exact hd.sh (hi i (by simp[A.hs])) λ_ e=>e
 |.ep i es k off,y,hi,hd=>by
  simp only[A.Den]at hd⊢;exact hd.sh (hi i (by simp[A.hs])) λ_ e=>e
 |.sv i lo n,y,hi,hd=>by
  simp only[A.Den]at hd⊢;exact hd.sh (hi i (by simp[A.hs])) λe2⟨a,cap,h1,h2,es,fz,t,l,h5,h6,h3⟩=>by
   obtain⟨fz',t',l',h7,h8⟩:=e2 fz t es l h5;exact⟨a,cap,h1,h2,es,fz',t',l',h7,by omega,h3.imp (λ⟨q1,q0,q2⟩=>⟨q1,q0,λq=>by rw[h8];exact q2 q⟩) id⟩
 |.fn f first caps,y,hi,hd=>by
  simp only[A.Den]at hd⊢;obtain⟨us,vs,hy,h1,h2⟩:=hd;exact⟨us,vs,hy,A.A0 hM first _ (λi h=>hi i (by simp[A.hs,h])) h1,A.A0 hM caps _ (λi h=>hi i (by simp[A.hs,h])) h2⟩
 |.agg l,y,hi,hd=>by
  simp only[A.Den]at hd⊢;obtain⟨vs,hy,h0,h1⟩:=hd;exact⟨vs,hy,h0,A.A0 hM l _ (λi h=>hi i (by simpa [A.hs]using h)) h1⟩
 |.eL l,y,hi,hd=>by
  simp only[A.Den]at hd⊢;obtain⟨vs,hy,h1⟩:=hd;exact⟨vs,hy,A.A0 hM l _ (λi h=>hi i (by simpa [A.hs]using h)) h1⟩
 |.AE t a,y,hi,hd=>by
  simp only[A.Den]at hd⊢;obtain⟨v,hy,h1⟩:=hd;exact⟨v,hy,A.U7 hM a _ (λi h=>hi i (by simpa [A.hs]using h)) h1⟩
 |.x,y,_,hd=>by simp only[A.Den]
theorem A.A0{w:World}{M M':Nat->Prop}{m m':Mem}{ρ:Nat->Value}(hM:∀b,M' b->M b):∀(l:List A)(ys:List Value),(∀i∈A.lQ l,Sh m m' i)->A.bR w M m ρ l ys->A.bR w M' m' ρ l ys
 |[],ys,_,hd=>by simpa only[A.bR]using hd
 |c::r,ys,hi,hd=>by
  simp only[A.bR]at hd⊢;obtain⟨y,yr,hy,h1,h2⟩:=hd;exact⟨y,yr,hy,A.U7 hM c y (λi h=>hi i (by simp[A.lQ,h])) h1,A.A0 hM r yr (λi h=>hi i (by simp[A.lQ,h])) h2⟩
end
section
variable{M0 S0:Nat->Prop}{w0:World}{N:Fr}{T:Nat->A}{m mF m':Mem}{ρ:Nat->Value}{a:Act}{w:World}
structure Frz(m mF m':Mem):Prop where
 fz:∀i r,mF i=some r->m i=some r/\m' i=none
 lv:∀i r',m' i=some r'->r'.live=true->∃r,m i=some r/\r.live=true
theorem Frz.sub(h:Frz m mF m'):∀b,dD M0 m' ρ b->dD M0 m ρ b:=by
 rintro b (e|⟨i,r,h1,h2,h3⟩)
 ·exact .inl e
 ·obtain⟨r2,q1,q2⟩:=h.lv i r h1 h2;exact .inr ⟨i,r2,q1,q2,h3⟩
theorem QU(s:bC M0 S0 w0 N T m ρ a w)(hf:Frz m mF m'){i b:Nat}{r:R}(hi:mF i=some r)(hb:jK (ρ i)=some b)(hr:r.live=false->¬dD M0 m ρ b):¬dD M0 m' ρ b:=by
 obtain⟨h1,h2⟩:=hf.fz i r hi;cases hl:r.live with
 |true=>
  rintro(e|⟨j,r',q1,q2,q3⟩)
  ·exact(s.own i r b h1 hl hb).2.1 e
  ·obtain⟨rj,k1,k2⟩:=hf.lv j r' q1 q2;have:=s.apart i j r rj b h1 hl k1 k2 hb q3;subst this;rw[h2]at q1;cases q1
 |false=>exact λe=>hr hl (hf.sub b e)
mutual
theorem QT(s:bC M0 S0 w0 N T m ρ a w)(hf:Frz m mF m'):∀{v:A}{c:C}{y:Value},Rd mF v c->v.Den w (dD M0 m ρ) m ρ y->C.Den w (dD M0 m' ρ) c y
 |_,_,y,.d c,hy=>by
  simp only[A.Den]at hy;exact C.dC (dV.refl _ w) (λb hb _=>hf.sub b hb) _ _ hy
 |_,_,y,.nl es,hy=>by
  simp only[A.Den,C.Den]at hy⊢;exact⟨none,0,by rw[hy];rfl,bT _,.inl trivial⟩
 |_,_,y,.nz es es',hy=>by
  simp only[A.Den,C.Den]at hy⊢;exact⟨none,0,by rw[hy];rfl,bT _,.inl trivial⟩
 |_,_,y,.os (i:=i) (fz:=fz) (es:=es) (rows:=rows) (l:=l) hi0 hl,hy=>by
  have hi:=(hf.fz i _ hi0).1;simp only[A.Den]at hy;have hv:=eH hy hi (by simp);obtain⟨xs,g1,g2,g3,g4,g5⟩:=s.res i _ hi;rw[hv];have hlen:=hl.length;simp only[C.Den];rcases g1 with⟨rfl,hn,ad,e⟩|⟨hxl,g,og,cap,cur,e,hp,hg,hnc,hcm,hfit,htk⟩
  ·have:l=[]:=bL (by omega);subst this;exact⟨some ad,0,by rw[e];rfl,bT _,.inl rfl⟩
  ·refine⟨some ⟨g,og,none⟩,cap,by rw[e,hlen],by omega,.inr ⟨g,og,rfl,?_,(aL.1 hg).1,?_⟩⟩
   ·refine QU s hf hi0 (b:=g) (by rw[e];simp[jK];omega) (λhlv=>g4 (by simpa [R.live]using hlv) g (by rw[e];simp[jK];omega))
   ·refine I7 l og xs (hl.lens g3) (OH s hf hl g2) g5 (λj v hj=>?_);exact vV.cells (.inr ⟨hxl,g,og,cap,cur,e,hp,hg,hnc,hcm,hfit,htk⟩) e j v hj
 |_,_,y,.lp (i:=i) (fz:=fz) (l:=l) (cs:=cs) hi0 hl,hy=>by
  have hi:=(hf.fz i _ hi0).1;simp only[A.Den]at hy;obtain⟨b,e1,e2⟩:=eH hy hi (by simp);obtain⟨b',vs,t,g1,g2,g3,g4,g5⟩:=s.res i _ hi;rw[e1]at g1;simp only[oN,aA,rX,and_true]at g1;subst g1;simp only[C.Den];refine⟨b,0,e2,?_,(aL.1 g2).1,?_⟩
  ·exact QU s hf hi0 (b:=b) (by rw[e1];rfl) (λhlv=>g4 (by simpa [R.live]using hlv))
  ·have hd:=C.c9.1 (uO s hf hl g3);rw[C.rA];intro j c hc;have hj:j<vs.toList.length:=by rw[<-hd.1];exact(bA.1 hc).1
   refine⟨vs.toList[j],?_,g5 _ (aY hj),hd.2 j c _ hc (aC hj)⟩;rw[fF,oR g2];simp at hj;simp[hj]
 |_,_,y,.mp (i:=i) (fz:=fz) (kv:=kv) (vs:=vs) hi0 hl,hy=>by
  have hi:=(hf.fz i _ hi0).1;simp only[A.Den]at hy;have hv:=eH hy hi (by simp);obtain⟨b,es,clock,l,g1,g2,g3,g4,g5,g6⟩:=s.res i _ hi;simp only[C.Den];refine⟨b,es,clock,l,by rw[hv,g1],?_,g2,g3,uO s hf hl g4⟩;exact QU s hf hi0 (b:=b) (by rw[g1];rfl) (λhlv=>g5 (by simpa [R.live]using hlv))
 |_,_,y,.agg hl,hy=>by
  simp only[A.Den,C.Den]at hy⊢;obtain⟨vs,e,h1,h2⟩:=hy;exact⟨vs,e,h1,uO s hf hl h2⟩
 |_,_,y,.AE h,hy=>by
  simp only[A.Den,C.Den]at hy⊢;obtain⟨v,e,h1⟩:=hy;exact⟨v,e,QT s hf h h1⟩
 |_,_,y,.fn hu hv,hy=>by
  simp only[A.Den,C.Den]at hy⊢;obtain⟨us,vs,e,h1,h2⟩:=hy;exact⟨us,vs,e,uO s hf hu h1,uO s hf hv h2⟩
theorem uO(s:bC M0 S0 w0 N T m ρ a w)(hf:Frz m mF m'):∀{l:List A}{cs:List C}{ys:List Value},wJ mF l cs->A.bR w (dD M0 m ρ) m ρ l ys->C.bR w (dD M0 m' ρ) cs ys
 |_,_,ys,.nil,hy=>by simpa only[A.bR,C.bR]using hy
 |_,_,ys,.cons h1 h2,hy=>by
  simp only[A.bR,C.bR]at hy⊢;obtain⟨y,yr,e,k1,k2⟩:=hy;exact⟨y,yr,e,QT s hf h1 k1,uO s hf h2 k2⟩
theorem OH(s:bC M0 S0 w0 N T m ρ a w)(hf:Frz m mF m'):∀{l:List (List A)}{cs:List (List C)}{ys:List Value},rC mF l cs->A.bR w (dD M0 m ρ) m ρ l.flatten ys->C.bR w (dD M0 m' ρ) cs.flatten ys
 |_,_,ys,.nil,hy=>by simpa only[A.bR,C.bR,List.flatten_nil]using hy
 |_,_,ys,.cons (a:=e) (c:=c) (l:=l) h1 h2,hy=>by
  rw[dL]at hy⊢;have t1:=A.mT e.length hy;have t2:=A.lL e.length hy;rw[List.take_left]at t1;rw[List.drop_left]at t2;have:=xU (uO s hf h1 t1) (OH s hf h2 t2)
  rwa [gJ]at this
end
end
mutual
inductive Cv(m:Mem):A->A->Prop
 |same (a:A):Cv m a a
 |rd {a:A} {c:C}:Rd m a c->Cv m a (.d c)
 |agg {l l':List A}:IX m l l'->Cv m (.agg l) (.agg l')
inductive IX(m:Mem):List A->List A->Prop
 |same (l:List A):IX m l l
 |cons {a a':A} {l l':List A}:Cv m a a'->IX m l l'->IX m (a::l) (a'::l')
end
theorem IX.length{m:Mem}:∀{l l':List A},IX m l l'->l'.length=l.length
 |_,_,.same l=>rfl
 |_,_,.cons h1 h2=>by simp[h2.length]
inductive MC(m:Mem):List (List A)->List (List A)->Prop
 |same (l:List (List A)):MC m l l
 |cons {a a':List A} {l l':List (List A)}:IX m a a'->MC m l l'->MC m (a::l) (a'::l')
theorem MC.length{m:Mem}:∀{l l':List (List A)},MC m l l'->l'.length=l.length
 |_,_,.same l=>rfl
 |_,_,.cons h1 h2=>by simp[h2.length]
theorem MC.lens{m:Mem}{es:Nat}:∀{l l':List (List A)},MC m l l'->(∀e∈l,e.length=es)->∀e∈l',e.length=es
 |_,_,.same l,h=>h
 |_,_,.cons h1 h2,h=>by
  intro e he;simp only[aO]at he;rcases he with rfl|he
  ·rw[h1.length];exact h _ (by simp)
  ·exact h2.lens (λe he=>h e (by simp[he])) e he
theorem IX.append{m:Mem}:∀{a a' b b':List A},IX m a a'->IX m b b'->IX m (a++b) (a'++b')
 |_,_,_,_,.same [],h2=>h2
 |_,_,_,_,.same (x::l),h2=>.cons (.same x) (IX.append (.same l) h2)
 |_,_,_,_,.cons q1 q2,h2=>.cons q1 (IX.append q2 h2)
theorem MC.flat{m:Mem}:∀{l l':List (List A)},MC m l l'->IX m l.flatten l'.flatten
 |_,_,.same l=>.same _
 |_,_,.cons h1 h2=>by
  simp only[dL];exact h1.append h2.flat
def R.plain:R->Bool
 |.dead=>true
 |.wL=>true
 |.it0=>true
 |.si _ _=>true
 |.df _=>true
 |.di _ _=>true
 |_=>false
inductive ZN(m:Mem):R->R->Prop
 |plain {r:R}:r.plain=true->ZN m r r
 |cells {fz:Bool} {l l':List A}:IX m l l'->ZN m (.cells fz l) (.cells fz l')
 |fW {fz:Bool} {t:TypeId} {es:Nat} {l l':List (List A)}:MC m l l'->ZN m (.fW fz t es l) (.fW fz t es l')
 |mp {fz:Bool} {kv kv':List (Ky×A)} {st:List (Ky×Nat)}:kv'.map (·.1)=kv.map (·.1)->IX m (kv.map (·.2)) (kv'.map (·.2))->ZN m (.mp fz kv st) (.mp fz kv' [])
theorem ZN.live{m:Mem}{r r':R}(h:ZN m r r'):r'.live=r.live:=by cases h<;>rfl
theorem ZN.dead{m:Mem}{r r':R}(h:ZN m r r')(hd:r'≠.dead):r≠.dead:=by
 cases h with
 |plain _=>exact hd
 |_=>simp
section
variable{M0 S0:Nat->Prop}{w0:World}{N:Fr}{T:Nat->A}{m mF m':Mem}{ρ:Nat->Value}{a:Act}{w:World}
mutual
theorem XU(s:bC M0 S0 w0 N T m ρ a w)(hf:Frz m mF m'):∀{v v':A}{y:Value},Cv mF v v'->(∀i∈v'.hs,Sh m m' i)->v.Den w (dD M0 m ρ) m ρ y->v'.Den w (dD M0 m' ρ) m' ρ y
 |_,_,y,.same v,hs,hy=>A.U7 hf.sub _ _ hs hy
 |_,_,y,.rd h,hs,hy=>by
  simp only[A.Den];exact QT s hf h hy
 |_,_,y,.agg hl,hs,hy=>by
  simp only[A.Den]at hy⊢;obtain⟨vs,e,h1,h2⟩:=hy;exact⟨vs,e,h1,wR s hf hl (λi h=>hs i (by simpa [A.hs]using h)) h2⟩
theorem wR(s:bC M0 S0 w0 N T m ρ a w)(hf:Frz m mF m'):∀{l l':List A}{ys:List Value},IX mF l l'->(∀i∈A.lQ l',Sh m m' i)->A.bR w (dD M0 m ρ) m ρ l ys->A.bR w (dD M0 m' ρ) m' ρ l' ys
 |_,_,ys,.same l,hs,hy=>A.A0 hf.sub _ _ hs hy
 |_,_,ys,.cons h1 h2,hs,hy=>by
  simp only[A.bR]at hy⊢;obtain⟨y,yr,e,k1,k2⟩:=hy;exact⟨y,yr,e,XU s hf h1 (λi h=>hs i (by simp[A.lQ,h])) k1,wR s hf h2 (λi h=>hs i (by simp[A.lQ,h])) k2⟩
end
theorem aJU(s:bC M0 S0 w0 N T m ρ a w)(hf:Frz m mF m'){i:Nat}{r r':R}(hi:m i=some r)(hc:ZN mF r r')(hs:∀j∈r'.hs,Sh m m' j):R.Ok w (dD M0 m' ρ) m' ρ (ρ i) r':=by
 have h:=s.res i r hi;have hsub:∀b,dD M0 m' ρ b->dD M0 m ρ b:=hf.sub;cases hc with
 |plain hp=>
  cases r<;>first
   |(cases hp;done)
   |exact h
   |skip
  obtain⟨b,mb,es,cl,sa,ll,e,h1,h2,h3,h4,h5,h6,h7,h8,h9⟩:=h;exact⟨b,mb,es,cl,sa,ll,e,h1,λq=>h2 (hsub mb q),h3,h4,h5,h6,h7,C.dK (dV.refl _ w) (λb hb _=>hsub b hb) _ _ h8,h9.mono (dV.refl _ w) (λb hb _=>hsub b hb)⟩
 |cells hl=>
  obtain⟨b,cs,t,e,h1,h2,h3,h4⟩:=h;exact⟨b,cs,t,e,h1,wR s hf hl (λj q=>hs j (by simpa [R.hs]using q)) h2,λe q=>h3 e (hsub b q),h4⟩
 |fW hl=>
  obtain⟨xs,h1,h2,h3,h4,h5⟩:=h;exact⟨xs,by rw[hl.length];exact h1,wR s hf hl.flat (λj q=>hs j (by simpa [R.hs]using q)) h2,hl.lens h3,λe b hb q=>h4 e b hb (hsub b q),h5⟩
 |mp hk hl=>
  obtain⟨b,es,cl,l,e,h1,h2,h3,h4,h5⟩:=h;exact⟨b,es,cl,l,e,h1,by rw[hk];exact h2,wR s hf hl (λj q=>hs j (by simp[R.hs];simpa using q)) h3,λe q=>h4 e (hsub b q),λp hp=>by simp at hp⟩
theorem bC.aHD{T':Nat->A}(s:bC M0 S0 w0 N T m ρ a w)(hf:∀i r,mF i=some r->m i=some r/\m' i=none)(hds:∀ds,N.ds=some ds->∃L:List Nat,ds=L.map λD=>.opq (DI D))
 (hr:∀i r',m' i=some r'->(∃r,m i=some r/\ZN mF r r')/\∀j∈r'.hs,m' j≠none)(hT:∀n,T' n=.x\/(Cv mF (T n) (T' n)/\∀j∈(T' n).hs,m' j≠none)):bC M0 S0 w0 N T' m' ρ a w:=by
 have hfz:Frz m mF m':=⟨hf,λi r' h1 h2=>by
  obtain⟨⟨r,q1,q2⟩,_⟩:=hr i r' h1
  exact⟨r,q1,by rw[<-q2.live];exact h2⟩⟩
 have hsh:∀j,m' j≠none->Sh m m' j:=by
  intro j hj;cases hq:m' j with
  |none=>exact absurd hq hj
  |some r'=>
   obtain⟨⟨r,q1,q2⟩,_⟩:=hr j r' hq;refine⟨hj,λhd=>⟨?_,λfz t es l e=>?_⟩⟩
   ·rw[q1];intro e;simp only[aA]at e;exact q2.dead (by rintro rfl;exact hd hq) e
   ·rw[q1]at e;simp only[aA]at e;subst e;cases q2 with
    |plain hp=>cases hp
    |fW hl=>exact⟨_,_,_,hq,hl.length⟩
 exact{keeps:=s.keeps,size:=s.size
       defers:=λds e=>by
        obtain⟨L,rfl⟩:=hds ds e;exact IL (s.defers _ e)
       tmps:=λn=>by
        rcases hT n with e|⟨h1,h2⟩
        · rw[e];simp only[A.Den]
        · exact XU s hfz h1 (λj hj=>hsh j (h2 j hj)) (s.tmps n)
       res:=λi r' hi=>by
        obtain⟨⟨r,q1,q2⟩,q3⟩:=hr i r' hi;exact aJU s hfz q1 q2 λj hj=>hsh j (q3 j hj)
       own:=λi r' b hi hl hb=>by
        obtain⟨⟨r,q1,q2⟩,q3⟩:=hr i r' hi;exact s.own i r b q1 (by rw[<-q2.live];exact hl) hb|>.imp id λh=>h
       apart:=λi j r s' b hi l1 hj l2 b1 b2=>by
        obtain⟨⟨ri,q1,q2⟩,_⟩:=hr i r hi;obtain⟨⟨rj,q3,q4⟩,_⟩:=hr j s' hj
        exact s.apart i j ri rj b q1 (by rw[<-q2.live];exact l1) q3 (by rw[<-q4.live];exact l2) b1 b2}
end
def EC(F:List Nat)(ml:List (Nat×R)):Mem:=λi=>bif s9 i F then aK ml i else none
theorem eX{F:List Nat}(h1:s9 i F=true)(h2:aK ml i=some r):EC F ml i=some r:=by unfold EC;rw[h1];exact h2
def WkC(mF:Mem)(l:List (Nat×A)):List (Nat×A)->Prop
 |[]=>True
 |p::r=>Cv mF (lT l p.1) p.2/\WkC mF l r
theorem WkC.at{mF:Mem}{l:List (Nat×A)}:∀{l':List (Nat×A)},WkC mF l l'->∀n,lT l' n=.x\/Cv mF (lT l n) (lT l' n)
 |[],_,n=>.inl rfl
 |p::r,h,n=>by
  simp only[lT];cases hb:Nat.beq p.1 n with
  |true=>have:=bB hb;subst this;exact .inr h.1
  |false=>exact h.2.at n
def MkC(F:List Nat)(mF:Mem)(ml:List (Nat×R)):List (Nat×R)->Prop
 |[]=>True
 |p::r=>(s9 p.1 F=false/\∃q,aK ml p.1=some q/\ZN mF q p.2)/\MkC F mF ml r
theorem MkC.at{F:List Nat}{mF:Mem}{ml:List (Nat×R)}:∀{ml':List (Nat×R)},MkC F mF ml ml'->∀i r',aK ml' i=some r'->s9 i F=false/\∃q,aK ml i=some q/\ZN mF q r'
 |[],_,i,r',h=>by simp[aK]at h
 |p::r,h,i,r',hq=>by
  simp only[aK]at hq;cases hb:Nat.beq p.1 i with
  |true=>
   rw[hb]at hq;simp only[cond_true,aA]at hq;have:=bB hb;subst this;subst hq;exact h.1
  |false=>rw[hb]at hq;exact h.2.at i r' hq
def IW(ml':List (Nat×R)):List (Nat×R)->Prop
 |[]=>True
 |p::r=>aK ml' p.1≠none/\IW ml' r
theorem IW.at{ml':List (Nat×R)}:∀{mb:List (Nat×R)},IW ml' mb->∀k,aK mb k≠none->aK ml' k≠none
 |[],_,k,h=>absurd rfl h
 |p::r,h,k,hk=>by
  simp only[aK]at hk;cases hb:Nat.beq p.1 k with
  |true=>have:=bB hb;subst this;exact h.1
  |false=>rw[hb]at hk;exact h.2.at k hk
theorem cN.freeze(F:List Nat){mb:List (Nat×R)}{n:Nat}{l l':List (Nat×A)}{ml ml':List (Nat×R)}(hb:IW ml' mb)(hl:WkC (EC F ml) l l')(hm:MkC F (EC F ml) ml ml')(h1:ClL ml' l')(h2:H9 ml' ml'):cN mb n l ml l' ml':=by
 intro b ρb ρ a w hs ho;have hfz:∀i r,EC F ml i=some r->aK ml i=some r/\aK ml' i=none:=by
  intro i r h;unfold EC at h;cases hq:s9 i F with
  |false=>rw[hq]at h;cases h
  |true=>
   rw[hq]at h;refine⟨h,?_⟩;cases hq2:aK ml' i with
   |none=>rfl
   |some r'=>have:=(hm.at i r' hq2).1;rw[hq]at this;cases this
 refine⟨ρ,bC.aHD hs hfz (λds e=>⟨b.ds,(eY e).symm⟩) (λi r' hi=>⟨(hm.at i r' hi).2,h2.at i r' hi⟩) (λn=>(hl.at n).imp id λh=>⟨h,h1.at n⟩),?_⟩;intro k hk;obtain⟨k1,k2⟩:=ho k hk;have hne:=hb.at k hk;refine⟨hne,λhd=>?_⟩;cases hq:aK ml' k with
 |none=>exact absurd hq hne
 |some r'=>
  obtain⟨_,q,q1,q2⟩:=hm.at k r' hq;have hqd:aK ml k≠some .dead:=by
   rw[q1];intro e;simp only[aA]at e;exact q2.dead (by rintro rfl;exact hd hq) e
  obtain⟨k3,k4,k5⟩:=k2 hqd;refine⟨k3,k4,λfz t es l e=>?_⟩;obtain⟨fz',t',l2,e1,e2⟩:=k5 fz t es l e;rw[q1]at e1;simp only[aA]at e1;subst e1;cases q2 with
  |plain hp=>cases hp
  |fW hl=>exact⟨_,_,_,rfl,by rw[hl.length];exact e2⟩
theorem aZ{t:TypeId}{l:List (List C)}:rB ml (dU t es l).hs:=by rw[oJ];trivial
theorem cO{g:Nat->Nat}{t:TypeId}{rows:List (List A)}{L:List (List C)}(h:aK ml i=some (.fW false t es rows))(hr:rows=bE L):(aK ml i).map (R.eZ g)=some (dU t es L):=by
 rw[h,hr];show some ((dU t es L).eZ g)=_;rw[eT]
inductive Flat:A->Prop
 |v (x:Value):Flat (.d (.v x))
 |eL (l:List Value):Flat (.eL (l.map λx=>.d (.v x)))
theorem Flat.den(h:Flat v){w w':World}{M M':Nat->Prop}{m m':Mem}{ρ ρ':Nat->Value}{y:Value}(hd:v.Den w M m ρ y):v.Den w' M' m' ρ' y:=by
 have key:∀{l:List Value}{ys:List Value},A.bR w M m ρ (l.map λx=>.d (.v x)) ys->A.bR w' M' m' ρ' (l.map λx=>.d (.v x)) ys:=by
  intro l;induction l with
  |nil=>intro ys h;simpa only[bM,A.bR]using h
  |cons x r ih=>
   intro ys h;simp only[aG,A.bR,A.Den,C.Den]at h⊢;obtain⟨y,yr,e,h1,h2⟩:=h;exact⟨y,yr,e,h1,ih h2⟩
 cases h with
 |v x=>simpa only[A.Den,C.Den]using hd
 |eL l=>
  simp only[A.Den]at hd⊢;obtain⟨vs,e,h1⟩:=hd;exact⟨vs,e,key h1⟩
theorem aJ.view(h:∀m,aJ P f (cs.map A.d) m (.ok v) m)(hv:Flat v)(hr:wJ m as cs):aJ P f as m (.ok v) m:=by
 refine⟨(h m).1,?_⟩;intro N T M0 S0 w0 ρ a w hs hlt vs hvs;have hM:dD M0 (λ_=>none) ρ=M0:=by
  funext b;refine propext ⟨?_,.inl⟩;rintro(e|⟨i,r,hi,_⟩)
  ·exact e
  ·cases hi
 have h0:bC M0 (λ_=>False) w ⟨N.n,none⟩ (λ_=>.x) (λ_=>none) ρ a w:=
  {keeps:=iF.refl _ _,size:=hs.size,defers:=λds e=>by cases e
   tmps:=λn=>by simp only[A.Den]
   res:=λi r hi=>by cases hi
   own:=λi r b hi=>by cases hi
   apart:=λi j r s b hi=>by cases hi}
 have hlt1:∀b,M0 b->b<w.heap.size:=λb hb=>cG (hlt b hb) hs.keeps.size;refine((h λ_=>none).2 ⟨N.n,none⟩ (λ_=>.x) M0 (λ_=>False) w ρ a w h0 hlt1 vs (by rw[hM];exact FN (tC hs hr hvs))).mono ?_;rintro e w' ⟨ρ',h1,hO,y,rfl,hy⟩;have hk:=h1.keeps;have hst:dV (dD M0 m ρ) w w':=hk.stays λb _ e=>e.elim;have hid:∀b,dD M0 m ρ b->b<w.heap.size->dD M0 m ρ b:=λb hb _=>hb;refine⟨ρ,?_,cI.refl m ρ,y,rfl,hv.den hy⟩
 exact{keeps:=hs.keeps.trans hk λb _ e=>e.elim,size:=h1.size
       defers:=λds e=>eJ hst hid (cI.refl m ρ) _ _ (hs.defers ds e)
       tmps:=λn=>A.dC hst hid (cI.refl m ρ) _ _ (hs.tmps n)
       res:=λi r hi=>by
        by_cases hd:r=.dead
        · subst hd;trivial
        · refine R.hU hst hid (cI.refl m ρ) (λb hb hlt'=>hk.block b hlt' (λe=>e)) (hs.res i r hi)
       own:=λi r b hi hl hb=>let⟨x,y,z⟩:=hs.own i r b hi hl hb;⟨x,y,cG z hk.size⟩
       apart:=hs.apart}
theorem fU{k:A->List (Nat×R)->Prop}(h:∀m,aJ P f (cs.map A.d) m (.ok v) m)(hv:Flat v)(hr:wJ (aK ml) as cs)(hk:k v []):dZ P f as ml k:=⟨v,[],aJ.view h hv hr,hk⟩
theorem HA{nx:Nat}{k:A->List (Nat×R)->Bool->Prop}(h:∀m,aJ P f (cs.map A.d) m (.ok v) m)(hv:Flat v)(hr:wJ (aK ml) as cs)(hk:k v [] true):xQ P f as ml nx k:=.BL v [] (aJ.view h hv hr) hk
end Go.Pv
