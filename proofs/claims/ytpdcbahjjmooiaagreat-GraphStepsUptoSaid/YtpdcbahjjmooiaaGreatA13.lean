import Derived.Test.YtpdcbahjjmooiaaGreatA12
import Derived.RowKit3
/- A program logic over the model, contracts of the functions that the law reaches: part 13. (Names and blanks were shortened by program.) -/
set_option linter.unusedVariables false
set_option linter.unusedSimpArgs false
set_option linter.constructorNameAsVariable false
set_option linter.unusedSectionVars false
set_option linter.deprecated false
set_option maxRecDepth 100000
set_option maxHeartbeats 8000000
open Go
namespace Go.Pv
open Go.RowKit
variable{g f:Nat->Nat}{u:List (Nat×R)}{st:St}{r:Rt}
section
variable{P:Program}{H:Hd}
theorem M7:∀(as:List A)(k:Nat)(t:Tb)(n:Nat),(CB as k t).fn n=if k<=n/\n -k<as.length then(as[n -k]?).getD .x else t.fn n
 |[],k,t,n=>by simp[CB]
 |a::r,k,t,n=>by
  simp only[CB];rw[M7 r (k+1),Tb.FU];by_cases h1:k=n
  ·subst h1;rw[if_neg (by omega),if_pos (by simp)];simp[lI]
  ·by_cases h2:k+1<=n/\n -(k+1)<r.length
   ·rw[if_pos h2,if_pos (by simp;omega)];have:n -k=(n -(k+1))+1:=by omega
    rw[this];simp
   ·rw[if_neg h2,if_neg (by simp;omega)];simp[lI,h1]
theorem M6(as:List A):(CB as 0 Tb.nil).fn=uA as:=by
 funext n;rw[M7];unfold uA;by_cases h:n<as.length
 ·rw[if_pos (by simpa using h)];simp
 ·rw[if_neg (by simp;omega),c8 (by omega),Tb.aCX];rfl
theorem LN:∀(ps:List (Tmp×A))(t:Tb),(IQ ps t).fn=AX ps t.fn
 |[],t=>rfl
 |p::r,t=>by simp only[IQ,AX];rw[LN r,Tb.FU]
theorem mU:∀{u:List (Nat×R)}{m:Mem}{i:Nat}{r:R},aH m u i=some r->(i,r)∈u\/(m i=some r/\∀p∈u,p.1≠i)
 |[],m,i,r,h=>.inr ⟨h,by simp⟩
 |(j,q)::t,m,i,r,h=>by
  simp only[aH]at h;rcases mU h with h|⟨h,h2⟩
  ·exact .inl (by simp[h])
  ·unfold aX at h;split at h
   ·rename_i e;simp at h;subst h;subst e;exact .inl (by simp)
   ·rename_i e;refine .inr ⟨h,λp hp=>?_⟩;simp only[aO]at hp;rcases hp with rfl|hp
    ·exact tG e
    ·exact h2 p hp
theorem CA:∀{u:List (Nat×R)}{m:Mem}{p:Nat×R},p∈u->aH m u p.1≠none
 |[],m,p,h=>by simp at h
 |(j,q)::t,m,p,h=>by
  simp only[aH];simp only[aO]at h;rcases h with rfl|h
  ·exact tH (by simp[aX])
  ·exact CA h
theorem QM{g:R->R}{m:Tr R}:∀{l:List Nat}{u:List (Nat×R)},aEC g m l=some u->(∀p∈u,∃r,m.get p.1=some r/\p.2=g r)/\∀i∈l,∃p∈u,p.1=i
 |[],u,h=>by simp only[aEC,aA]at h;subst h;simp
 |i::l,u,h=>by
  simp only[aEC]at h;split at h
  ·rename_i r u' h1 h2;simp only[aA]at h;subst h;obtain⟨g1,g2⟩:=QM h2;refine⟨λp hp=>?_,λj hj=>?_⟩
   ·simp only[aO]at hp;rcases hp with rfl|hp
    ·exact⟨r,h1,rfl⟩
    ·exact g1 p hp
   ·simp only[aO]at hj;rcases hj with rfl|hj
    ·exact⟨(j,g r),by simp,rfl⟩
    ·obtain⟨p,hp,e⟩:=g2 j hj;exact⟨p,by simp[hp],e⟩
  ·cases h
theorem YE{p:Nat×R}(hp:p∈u):∀j∈p.2.hs,j∈hsU u:=by
 induction u with
 |nil=>simp at hp
 |cons q u ih=>
  obtain⟨i,r⟩:=q;intro j hj;simp only[hsU,bN];simp only[aO]at hp;rcases hp with rfl|hp
  ·exact .inl hj
  ·exact .inr (ih hp j hj)
theorem AR{g:R->R}{b m:Tr R}:∀(f:Nat)(w:List Nat)(vis:Tr Unit)(acc acc2:List (Nat×R)),reach g b m f w vis acc=some acc2->(∀p∈acc,∃r,m.get p.1=some r/\p.2=g r)->(∀p∈acc,∀j∈p.2.hs,b.get j≠none\/(∃q∈acc,q.1=j)\/j∈w)->(∀i,vis.get i≠none->∃q∈acc,q.1=i)->
 (∀p∈acc2,∃r,m.get p.1=some r/\p.2=g r)/\(∀p∈acc,p∈acc2)/\(∀p∈acc2,∀j∈p.2.hs,b.get j≠none\/∃q∈acc2,q.1=j)/\∀j∈w,b.get j≠none\/∃q∈acc2,q.1=j
 |0,w,vis,acc,acc2,h,_,_,_=>by simp[reach]at h
 |f+1,[],vis,acc,acc2,h,h1,h2,h3=>by
  simp only[reach,aA]at h;subst h;exact⟨h1,λp hp=>hp,λp hp j hj=>(h2 p hp j hj).imp id λx=>x.resolve_right (by simp),by simp⟩
 |f+1,i::w,vis,acc,acc2,h,h1,h2,h3=>by
  simp only[reach]at h;split at h
  ·rename_i q hq
   obtain⟨g1,g2,g3,g4⟩:=AR f w vis acc acc2 h h1 (λp hp j hj=>by
    rcases h2 p hp j hj with x|x|x
    · exact .inl x
    · exact .inr (.inl x)
    · simp only[aO]at x
      rcases x with rfl|x
      · exact .inl (by rw[hq];simp)
      · exact .inr (.inr x)) h3
   refine⟨g1,g2,g3,λj hj=>?_⟩;simp only[aO]at hj;rcases hj with rfl|hj
   ·exact .inl (by rw[hq];simp)
   ·exact g4 j hj
  ·split at h
   ·rename_i q hq;have hi:=h3 i (by rw[hq];simp)
    obtain⟨g1,g2,g3,g4⟩:=AR f w vis acc acc2 h h1 (λp hp j hj=>by
     rcases h2 p hp j hj with x|x|x
     · exact .inl x
     · exact .inr (.inl x)
     · simp only[aO]at x
       rcases x with rfl|x
       · exact .inr (.inl hi)
       · exact .inr (.inr x)) h3
    refine⟨g1,g2,g3,λj hj=>?_⟩;simp only[aO]at hj;rcases hj with rfl|hj
    ·obtain⟨q,hq,e⟩:=hi;exact .inr ⟨q,g2 q hq,e⟩
    ·exact g4 j hj
   ·split at h
    ·rename_i r hr
     obtain⟨g1,g2,g3,g4⟩:=AR f ((g r).hs++w) (Tr.set fM vis i ()) ((i,g r)::acc) acc2 h (λp hp=>by
      simp only[aO]at hp;rcases hp with rfl|hp
      · exact⟨r,hr,rfl⟩
      · exact h1 p hp) (λp hp j hj=>by
      simp only[aO]at hp;rcases hp with rfl|hp
      · exact .inr (.inr (by simp[hj]))
      · rcases h2 p hp j hj with x|⟨q,hq,e⟩|x
        · exact .inl x
        · exact .inr (.inl ⟨q,by simp[hq],e⟩)
        · simp only[aO]at x
          rcases x with rfl|x
          · exact .inr (.inl ⟨(j,g r),by simp,rfl⟩)
          · exact .inr (.inr (by simp[x]))) (λj e=>by
      rw[Tr.rV]at e;split at e
      · rename_i e2;subst e2;exact⟨(j,g r),by simp,rfl⟩
      · obtain⟨q,hq,e⟩:=h3 j e
        exact⟨q,by simp[hq],e⟩)
     refine⟨g1,λp hp=>g2 p (by simp[hp]),g3,λj hj=>?_⟩;simp only[aO]at hj;rcases hj with rfl|hj
     ·exact .inr ⟨(j,g r),g2 _ (by simp),rfl⟩
     ·exact g4 j (by simp[hj])
    ·cases h
theorem RZ{g:R->R}(h:RY g st r=some u)(hI:Inv st):(∀i q,aH st.b.get u i=some q->(∃r,st.m.get i=some r/\q=g r/\∃p∈u,p.1=i)\/(st.m.get i=some q/\∀p∈u,p.1≠i))/\(∀i∈r.hs,aH st.b.get u i≠none)/\∀p∈u,∀j∈p.2.hs,aH st.b.get u j≠none:=by
 unfold RY at h;split at h
 ·rename_i u0 hu0;obtain⟨k1,k2⟩:=QM hu0;obtain⟨g1,g2,g3,g4⟩:=AR _ _ _ _ _ h k1 (λp hp j hj=>.inr (.inr (by simp only[bN];exact .inr (YE hp j hj)))) (λi e=>by simp[Tr.get_nil]at e);have key:∀j,(st.b.get j≠none\/∃q∈u,q.1=j)->aH st.b.get u j≠none:=by
   rintro j (x|⟨q,hq,rfl⟩)
   ·exact tH x
   ·exact CA hq
  refine⟨λi q hq=>?_,λi hi=>key i (g4 i (by simp[hi])),λp hp j hj=>key j (g3 p hp j hj)⟩;rcases mU hq with x|⟨x,y⟩
  ·obtain⟨r,e1,e2⟩:=g1 (i,q) x;exact .inl ⟨r,e1,e2,(i,q),x,rfl⟩
  ·refine .inr ⟨hI i q x λe=>?_,y⟩;obtain⟨p,hp,e⟩:=k2 i e;exact y p (g2 p hp) e
 ·cases h
theorem XS(h:RY id st r=some u)(hI:Inv st):(∀i q,aH st.b.get u i=some q->st.m.get i=some q)/\(∀i∈r.hs,aH st.b.get u i≠none)/\∀p∈u,∀j∈p.2.hs,aH st.b.get u j≠none:=by
 obtain⟨g1,g2,g3⟩:=RZ h hI;refine⟨λi q hq=>?_,g2,g3⟩;rcases g1 i q hq with⟨r,e,rfl,_⟩|⟨e,_⟩
 ·exact e
 ·exact e
theorem aCJ{g:R->R}(h:RY g st r=some u):∀p∈u,∃q,st.m.get p.1=some q/\p.2=g q:=by
 unfold RY at h;split at h
 ·rename_i u0 hu0;obtain⟨k1,k2⟩:=QM hu0;exact(AR _ _ _ _ _ h k1 (λp hp j hj=>.inr (.inr (by simp only[bN];exact .inr (YE hp j hj)))) (λi e=>by simp[Tr.get_nil]at e)).1
 ·cases h
structure aJJ(b:Tr R)(c:Nat)(t:Tr Nat)(ps:List (Nat×Nat)):Prop where
 get:∀i k,t.get i=some k↔(i,k)∈ps
 fst:(ps.map (·.1)).Nodup
 snd:(ps.map (·.2)).Nodup
 free:∀p∈ps,b.get p.1=none/\b.get p.2=none/\p.2<c
theorem FK{b:Tr R}:∀{u:List (Nat×R)}{c:Nat}{t t':Tr Nat}{ps:List (Nat×Nat)},FJ b u c t=some t'->aJJ b c t ps->
 ∃c' ps',aJJ b c' t' ps'/\(∀p∈ps,p∈ps')/\∀p∈u,p.2.aKG=true/\(b.get p.1≠none\/∃k,(p.1,k)∈ps')
 |[],c,t,t',ps,h,hr=>by
  simp only[FJ,aA]at h;subst h;exact⟨c,ps,hr,λ_ h=>h,by simp⟩
 |(i,r)::u,c,t,t',ps,h,hr=>by
  simp only[FJ]at h;rw[Bool.cond_eq_ite]at h;split at h
  ·rename_i hn;split at h
   ·rename_i q hq;obtain⟨c',ps',h1,h2,h3⟩:=FK h hr;refine⟨c',ps',h1,h2,λp hp=>?_⟩;simp only[aO]at hp;rcases hp with rfl|hp
    ·exact⟨hn,.inl (by rw[hq];simp)⟩
    ·exact h3 p hp
   ·rename_i hbi;split at h
    ·cases h
    ·rename_i hti;split at h
     ·cases h
     ·rename_i hbc;have hr':aJJ b (c+1) (Tr.set fM t i c) ((i,c)::ps):=by
       refine⟨λj k=>?_,?_,?_,?_⟩
       ·rw[Tr.rV];by_cases e:j=i
        ·subst e;simp only[if_true,aA,aO,aD,true_and];constructor
         ·intro e;exact .inl e.symm
         ·rintro(e|e)
          ·exact e.symm
          ·have:=(hr.get j k).2 e;rw[hti]at this;cases this
        ·simp only[if_neg e,aO,aD,e,false_and,false_or];exact hr.get j k
       ·simp only[aG,gR];refine⟨λe=>?_,hr.fst⟩;obtain⟨p,hp,e⟩:=aM.1 e;have:=(hr.get p.1 p.2).2 hp;rw[e,hti]at this;cases this
       ·simp only[aG,gR];refine⟨λe=>?_,hr.snd⟩;obtain⟨p,hp,e⟩:=aM.1 e;have:=(hr.free p hp).2.2;omega
       ·intro p hp;simp only[aO]at hp;rcases hp with rfl|hp
        ·exact⟨hbi,hbc,by omega⟩
        ·have:=hr.free p hp;exact⟨this.1,this.2.1,by omega⟩
      obtain⟨c',ps',h1,h2,h3⟩:=FK h hr';refine⟨c',ps',h1,λp hp=>h2 p (by simp[hp]),λp hp=>?_⟩;simp only[aO]at hp;rcases hp with rfl|hp
      ·exact⟨hn,.inr ⟨c,h2 _ (by simp)⟩⟩
      ·exact h3 p hp
  ·cases h
theorem NH{cb:Option Nat}{r0:Rt}(h:PX cb st r0=some (r,u))(hI:Inv st):
 RM st.b.get st.m.get r0 (aH st.b.get u) r/\(∀i∈r.hs,aH st.b.get u i≠none)/\∀p∈u,∀j∈p.2.hs,aH st.b.get u j≠none:=by
 unfold PX at h;split at h
 ·cases h
 ·rename_i u1 hu1;obtain⟨k1,k2,k3⟩:=XS hu1 hI;split at h
  ·simp only[aA,aD]at h;obtain⟨rfl,rfl⟩:=h;exact⟨RM.refl k1,k2,k3⟩
  ·rename_i base;unfold canon at h;split at h
   ·rename_i t ht;simp only[aA,aD]at h;obtain⟨rfl,rfl⟩:=h;obtain⟨c',ps,hps,_,hcov⟩:=FK ht (ps:=[]) ⟨λi k=>by simp[Tr.get_nil],by simp,by simp,by simp⟩;obtain⟨g,gi,g1,g2,g3,g4⟩:=HB ps hps.fst hps.snd;have hall:=aCJ hu1;have hgen:=(RZ hu1 hI).1;have fix:∀i,st.b.get i≠none->g i=i/\H7 t i=i:=by
     intro i hi;have n1:i∉ps.map (·.1):=λe=>by
      obtain⟨p,hp,rfl⟩:=aM.1 e;exact hi (hps.free p hp).1
     have n2:i∉ps.map (·.2):=λe=>by
      obtain⟨p,hp,rfl⟩:=aM.1 e;exact hi (hps.free p hp).2.1
     refine⟨g4 i n1 n2,?_⟩;unfold H7;cases e:t.get i with
     |none=>rfl
     |some k=>exact absurd (aM.2 ⟨_,(hps.get i k).1 e,rfl⟩) n1
    have agree:∀i,(st.b.get i≠none\/∃k,(i,k)∈ps)->H7 t i=g i:=by
     rintro i (hi|⟨k,hk⟩)
     ·rw[(fix i hi).1,(fix i hi).2]
     ·have e:=(hps.get i k).2 hk;unfold H7;rw[e];exact(g3 _ hk).symm
    have dom:∀i,aH st.b.get u1 i≠none->st.b.get i≠none\/∃k,(i,k)∈ps:=by
     intro i hi;cases hq:aH st.b.get u1 i with
     |none=>exact absurd hq hi
     |some q=>
      rcases mU hq with e|⟨e,_⟩
      ·exact(hcov _ e).2
      ·exact .inl (by rw[e];simp)
    have into:∀i,aH st.b.get u1 i≠none->aH st.b.get (u1.map λp=>(H7 t p.1,p.2.eZ (H7 t))) (H7 t i)≠none:=by
     intro i hi;cases hq:aH st.b.get u1 i with
     |none=>exact absurd hq hi
     |some q=>
      rcases mU hq with e|⟨e,_⟩
      ·exact CA (p:=(H7 t i,q.eZ (H7 t))) (aM.2 ⟨_,e,rfl⟩)
      ·have:st.b.get i≠none:=by rw[e];simp
       rw[(fix i this).2];exact tH this
    refine⟨⟨g,gi,g1,g2,λi hi=>(fix i hi).1,Rt.lU r0 λi hi=>agree i (dom i (k2 i hi)),?_⟩,?_,?_⟩
    ·intro i q hq;rcases mU hq with e|⟨e,hne⟩
     ·obtain⟨p,hp,e2⟩:=aM.1 e;simp only[aD]at e2;obtain⟨rfl,rfl⟩:=e2;obtain⟨q0,m1,m2⟩:=hall p hp;left;refine⟨p.2,?_,R.lU _ (hcov p hp).1 λj hj=>agree j (dom j (k3 p hp j hj))⟩;rw[agree p.1 (hcov p hp).2,g1];rw[m1,m2];rfl
     ·right;refine⟨e,?_⟩;have hbi:st.b.get i≠none:=by rw[e];simp
      have hno:∀p∈u1,p.1≠i:=by
       rintro p hp rfl;exact hne _ (aM.2 ⟨p,hp,rfl⟩) (fix p.1 hbi).2
      have hq1:aH st.b.get u1 i=some q:=by
       cases hq2:aH st.b.get u1 i with
       |none=>exact absurd hq2 (tH hbi)
       |some q'=>
        rcases mU hq2 with e'|⟨e',_⟩
        ·exact absurd rfl (hno _ e')
        ·rw[e]at e';exact e'.symm
      rcases hgen i q hq1 with⟨_,_,_,p,hp,e2⟩|⟨e2,_⟩
      ·exact absurd e2 (hno p hp)
      ·exact e2
    ·intro i hi;rw[Rt.AD]at hi;obtain⟨j,hj,rfl⟩:=aM.1 hi;exact into j (k2 j hj)
    ·intro p hp j hj;obtain⟨p0,hp0,rfl⟩:=aM.1 hp;simp only[R.AD]at hj;obtain⟨j0,hj0,rfl⟩:=aM.1 hj;exact into j0 (k3 p0 hp0 j0 hj0)
   ·cases h
theorem UA{a b:Rt}(h:Y6 a b=true):a=b:=by
 cases a<;>cases b<;>simp only[Y6]at h
 ·rw[A.sM _ _ h]
 ·cases h
 ·cases h
 ·rw[A.sM _ _ h]
theorem ZI:∀{a b:List (Nat×R)},aIR a b=true->a=b
 |[],[],_=>rfl
 |[],_::_,h=>by cases h
 |(i,r)::u,[],h=>by cases h
 |(i,r)::u,(j,s)::v,h=>by
  simp only[aIR,aE]at h;rw[bB h.1,R.sM _ _ h.2.1,ZI h.2.2]
theorem NY(T:Tb)(t:Tr R):Inv ⟨T,t,t,[]⟩:=λi q h _=>h
theorem CG(hmix:P.follows .mixedOrders=true)(hH:FB P H){fn:Func}:∀(ds:List DA)(md:Md)(st st':St)(nx nx':Nat)(r:Rt),yE P H fn.results.toList ds md st nx=some (r,st',nx')->Inv st->pB P fn st.T.fn st.m.get ds md r st'.m.get/\Inv st'/\st'.b=st.b
 |[],.ret,st,st',nx,nx',r,h,hI=>by
  simp only[yE]at h;split at h
  ·rename_i v hv;simp only[aA,aD]at h;obtain⟨rfl,rfl,_⟩:=h;exact⟨pB.ret hv,hI,rfl⟩
  ·cases h
 |[],.sE v,st,st',nx,nx',r,h,hI=>by
  simp only[yE,aA,aD]at h;obtain⟨rfl,rfl,_⟩:=h;exact⟨pB.sE,hI,rfl⟩
 |.opq d::ds,md,st,st',nx,nx',r,h,hI=>by cases md<;>cases h
 |.s4 i::ds,md,st,st',nx,nx',r,h,hI=>by
  have h:(match st.m.get i with
   |some (.df false)=>yE P H fn.results.toList ds md (st.u9 [(i,.df true)]) nx
   |_=>none)=some (r,st',nx'):=by cases md<;>exact h
  split at h
  ·rename_i hi;obtain⟨g1,g2,g3⟩:=CG hmix hH ds md _ st' nx nx' r h (hI.u9 _);refine⟨pB.s4 hi ?_,g2,g3⟩;have:(st.u9 [(i,.df true)]).m.get=aX st.m.get i (.df true):=by simp only[St.u9,Tr.nV,aH]
   rw[this]at g1;exact g1
  ·cases h
 |.call g as cs::ds,md,st,st',nx,nx',r,h,hI=>by cases md<;>cases h
 |.bi b tys ty bs as::ds,md,st,st',nx,nx',r,h,hI=>by cases md<;>cases h
theorem NG{rs:List ResultVar}{cb:Option Nat}:∀{outs:List Oc}{r:Rt}{u:List (Nat×R)}{nx:Nat},PW P H rs cb outs=some (r,u,nx)->
 ∀o∈outs,∃md st' nx1 r0,SI o.1=some md/\yE P H rs o.2.2.1 md o.2.1 o.2.2.2=some (r0,st',nx1)/\PX cb st' r0=some (r,u)
 |[],r,u,nx,h=>by cases h
 |(ex,st,ds,nx0)::os,r,u,nx,h=>by
  simp only[PW]at h;split at h
  ·cases h
  ·rename_i md hmd;split at h
   ·cases h
   ·rename_i rt st' nx1 hl;split at h
    ·cases h
    ·rename_i rt1 u1 hu1;intro o ho;split at h
     ·rename_i os';simp only[aA,aD]at h;obtain⟨rfl,rfl,_⟩:=h;simp only[aR]at ho;subst ho;exact⟨md,st',nx1,rt,hmd,hl,hu1⟩
     ·split at h
      ·rename_i rt2 u2 nx2 he;split at h
       ·rename_i hq;simp only[aE]at hq;simp only[aA,aD]at h;obtain⟨rfl,rfl,_⟩:=h;simp only[aO]at ho;rcases ho with rfl|ho
        ·exact⟨md,st',nx1,rt,hmd,hl,hu1⟩
        ·have:=NG he o ho;rw[UA hq.1,ZI hq.2];exact this
       ·cases h
      ·cases h
theorem aG2(hmix:P.follows .mixedOrders=true)(hH:FB P H){f:FuncId}{as:List A}{t:Tr R}{nx nx':Nat}{outs:List Ot}(h:aG1 P H f as t nx=some (outs,nx')):∃r u,outs=[(r,u)]/\aJ P f as t.get r (aH t.get u):=by
 unfold aG1 at h;split at h
 ·rename_i fn hf;split at h
  ·rename_i c hb;split at h
   ·rename_i hcn;simp only[aE]at hcn;split at h
    ·rename_i os hos;split at h
     ·rename_i rt u nx1 he;simp only[aA,aD]at h;obtain⟨rfl,_⟩:=h;obtain⟨⟨g1,g2⟩,_⟩:=FT hmix hH fK c _ [] nx os hos (NY _ t);rw[M6]at g1;have hcut:=NG he;have hne:∃o,o∈os:=by
       cases os with
       |nil=>cases he
       |cons o r=>exact⟨o,by simp⟩
      obtain⟨o0,ho0⟩:=hne;obtain⟨md0,st0,_,r00,_,hl0,hc0⟩:=hcut o0 ho0;have hI0:=CG hmix hH _ _ _ _ _ _ _ hl0 (g2 o0 ho0).1;have hb0:st0.b=t:=hI0.2.2.trans (g2 o0 ho0).2;have k0:=NH hc0 hI0.2.1;rw[hb0]at k0;refine⟨rt,u,rfl,MF hf hb hcn.1 (by simpa using bD hcn.2) g1 ?_ k0.2.1 k0.2.2⟩;rintro ex T' m' ds' ⟨o,ho,rfl,rfl,rfl,rfl⟩;obtain⟨md,st',_,r0,hm,hl,hc⟩:=hcut o ho;have hI':=CG hmix hH _ _ _ _ _ _ _ hl (g2 o ho).1;have k:=NH hc hI'.2.1;rw[hI'.2.2.trans (g2 o ho).2]at k;exact⟨md,st'.m.get,r0,hm,hI'.1,k.1⟩
     ·cases h
    ·cases h
   ·cases h
  ·cases h
 ·cases h
theorem KI{n:Nat}:∀{l:List Tmp},YK n l=true->∀p∈l,p<n
 |[],_,p,hp=>by simp at hp
 |q::r,h,p,hp=>by
  simp only[YK,aE]at h;simp only[aO]at hp;rcases hp with rfl|hp
  ·simpa [rR]using h.1
  ·exact KI h.2 p hp
theorem SF{i:Nat}:∀{outs:List Oc}{os:List Ot}{nx:Nat},XZ i outs=some (os,nx)->∀o∈outs,∃b ls pe st2 pe2 ts ps asg bod u,Z3 o.1=some (b,ls,pe)/\o.2.1.m.get i=some (.lo st2 pe2 ts ps asg bod)/\RY id (o.2.1.u9 [(i,.lo ls pe ts ps asg bod)]) (.ok (.d (.v (.bool b))))=some u/\(.ok (.d (.v (.bool b))),u)∈os
 |[],os,nx,_,o,ho=>by simp at ho
 |(ex,st,ds,nx0)::r,os,nx,h,o,ho=>by
  simp only[XZ]at h;split at h
  ·rename_i b ls pe st2 pe2 ts ps asg bod os' nx2 h1 h2 h3;split at h
   ·rename_i u hu;simp only[aA,aD]at h;obtain⟨rfl,_⟩:=h;simp only[aO]at ho;rcases ho with rfl|ho
    ·exact⟨b,ls,pe,st2,pe2,ts,ps,asg,bod,u,h1,h2,hu,by simp⟩
    ·obtain⟨b',ls',pe',st2',pe2',ts',ps',asg',bod',u',k1,k2,k3,k4⟩:=SF h3 o ho;exact⟨b',ls',pe',st2',pe2',ts',ps',asg',bod',u',k1,k2,k3,by simp[k4]⟩
   ·cases h
  ·cases h
theorem aG6(hmix:P.follows .mixedOrders=true)(hH:FB P H){i:Nat}{as:List A}{t:Tr R}{nx nx':Nat}{outs:List Ot}(h:aG5 P H i as t nx=some (outs,nx')):
 ∀(o:Oper)(T:Nat->A)(c:Call)(fo:Operand),o.op=.call c->c.callee=.value fo->dN T fo=.h i->c.args.toList.map (dN T)=as->o8 P o T t.get outs:=by
 intro o T c fo ho hc hfo has;unfold aG5 at h;split at h
 ·rename_i ts ps asg bod hi;split at h
  ·rename_i hlp;simp only[aE]at hlp;have hlen:as.length=ps.size:=bB hlp.1;split at h
   ·rename_i st1 nx1 h1;split at h
    ·rename_i pe1 ts1 ps1 asg1 bod1 hi1;split at h
     ·rename_i os hos;obtain⟨⟨g1,g2⟩,_⟩:=FT (rd:=true) hmix hH fK asg _ [] nx _ h1 (NY _ t);have hst1:=g2 _ (aR.2 rfl);simp only at hst1;obtain⟨⟨g3,g4⟩,_⟩:=FT (rd:=true) hmix hH fK bod _ [] nx1 os hos (hst1.1.u9 _);rw[LN,M6]at g1;refine o8.yield ho hc hfo hi (by rw[<-hlen,<-has];simp) (KI hlp.2) (by rw[has];exact g1) ?_ ?_ (PostB:=vB os)
      ·rintro ex T1 m1 ds1 ⟨q,hq,rfl,rfl,rfl,rfl⟩;simp only[aR]at hq;subst hq;refine⟨rfl,rfl,pe1,ts1,ps1,asg1,bod1,hi1,?_⟩;have e:(st1.u9 [(i,.lo .busy pe1 ts1 ps1 asg1 bod1)]).m.get=aX st1.m.get i (.lo .busy pe1 ts1 ps1 asg1 bod1):=by simp only[St.u9,Tr.nV,aH]
       rw[e]at g3;exact g3
      ·rintro ex T2 m2 ds2 ⟨q,hq,rfl,rfl,rfl,rfl⟩;obtain⟨b,ls,pe,st2,pe2,ts2,ps2,asg2,bod2,u,k1,k2,k3,k4⟩:=SF h q hq;have hIq:=g4 q hq;have kc:=XS k3 (hIq.1.u9 _);have hb:(q.2.1.u9 [(i,.lo ls pe ts2 ps2 asg2 bod2)]).b=t:=by
        have:(st1.u9 [(i,.lo .busy pe1 ts1 ps1 asg1 bod1)]).b=st1.b:=rfl;exact(show q.2.1.b=t from(hIq.2.trans this).trans hst1.2)
       rw[hb]at kc;have e:(q.2.1.u9 [(i,.lo ls pe ts2 ps2 asg2 bod2)]).m.get=aX q.2.1.m.get i (.lo ls pe ts2 ps2 asg2 bod2):=by simp only[St.u9,Tr.nV,aH]
       rw[e]at kc;exact⟨b,ls,pe,k1,st2,pe2,ts2,ps2,asg2,bod2,k2,_,k4,rfl,kc.1,kc.2.2⟩
     ·cases h
    ·cases h
   ·cases h
  ·cases h
 ·cases h
theorem aJ0(hmix:P.follows .mixedOrders=true){ct:Hd}(hct:FB P ct):∀d,FB P (evH P ct d):=by
 intro d;induction d with
 |zero=>exact⟨λ_ _ _ _ _ _ h=>(by cases h),λ_ _ _ _ _ _ h=>(by cases h)⟩
 |succ d ih=>
  refine⟨λf as t nx outs nx' h=>?_,λi as t nx outs nx' h=>?_⟩
  ·have h:(match ct (.fn f) as t nx with
    |some r=>some r
    |none=>aG1 P (evH P ct d) f as t nx)=some (outs,nx'):=h
   split at h
   ·rename_i r hr;simp only[aA]at h;subst h;exact hct.fn _ _ _ _ _ _ hr
   ·exact aG2 hmix ih h
  ·have h:(match ct (.yl i) as t nx with
    |some r=>some r
    |none=>aG5 P (evH P ct d) i as t nx)=some (outs,nx'):=h
   split at h
   ·rename_i r hr;simp only[aA]at h;subst h;exact hct.yl _ _ _ _ _ _ hr
   ·exact aG6 hmix ih h
def aA0:Hd:=λ_ _ _ _=>none
theorem aHX:FB P aA0:=⟨λ_ _ _ _ _ _ h=>(by cases h),λ_ _ _ _ _ _ h=>(by cases h)⟩
end
open Go.RowKit Go.ChangeShapes Go.WideShapes
def Kept(W w':World):Prop:=W.keptBut w' (λ_=>False)/\(∀a,a.block<W.heap.size->w'.frozen? a=W.frozen? a)/\W.heap.size<=w'.heap.size
theorem iF.kept{w w':World}(h:iF (λ_=>False) w w'):Kept w w':=by
 refine⟨⟨h.os,h.output,λi hi=>?_⟩,λa ha=>?_,h.size⟩
 ·rw[h.block i hi (λe=>e)];cases w.heap[i]? with
  |none=>rfl
  |some o=>cases o<;>simp
 ·unfold World.frozen?;rw[h.block _ ha (λe=>e)]
theorem Kept.frame{W w':World}(h:Kept W w')(may:MemPlace->Prop):W.keptBut w' may:=World.keptBut_mono (λ_ f=>f.elim) h.1
section
variable{H:Type}{enc:TypeId×Value->H}{P:Program}
theorem QQ{f:Func}{s:ChangeSpec}{apart fresh handsOn again:Bool}{W W':World}{args:Array Value}{v:Value}{ds gs:List (DataW H)}{before pa pv:List MemPlace}
 (hW:DataW.Whole enc P f.params.toList s.vars apart W args.toList ds gs before)
 (hres:∀(b:Nat)(sp:Nat->Bool)(hd:Bool),DataW.TrodAll enc P W' b sp hd f.resultTypes.toList (v.resultList f.resultTypes.size) (s.fn H (ds++gs)).results [])
 (hargs:∀sp:Nat->Bool,(∀p∈before,sp p.block=true)->DataW.TrodAll enc P W' 0 sp true f.params.toList args.toList (s.fn H (ds++gs)).args pa)
 (hvars:∀sp:Nat->Bool,(∀p∈before,sp p.block=true)->DataW.TrodVars enc P W' sp s.vars (s.fn H (ds++gs)).vars pv)
 (hps:before=pa++pv)(hk:W.keptBut W' (· ∈before))(hfz:∀a,a.block<W.heap.size->W'.frozen? a=W.frozen? a)
 (hok:∀(j:Nat)(t:TypeId)(r:Value),f.resultTypes[j]?=some t->(v.resultList f.resultTypes.size)[j]?=some r->Value.okWide P W' .any 0 t r):
 s.post enc P f apart fresh handsOn again W args v W':=by
 have hlt:∀p∈before,p.block<W.heap.size:=λp hp=>hW.lt p hp;have hold:∀p∈before,(λb=>decide (b<W.heap.size)) p.block=true:=λp hp=>by simpa using hW.lt p hp
 refine⟨ds,gs,before,[],pa,pv,hW,hres _ _ _,hargs _ hold,hvars _ hold,World.keptBut_mono (λp hp=>⟨hp,?_⟩) hk,λ_=>?_⟩
 ·rw[hps,bN]at hp;exact eV hp
 ·obtain⟨_,_,_,_,_,hz,hn⟩:=hW;refine⟨hok,_,_,([]++pa)++pv,⟨[]++pa,pv,trodAll_append (hargs _ (λ_ _=>rfl)) (hres _ _ _),hvars _ (λ_ _=>rfl),rfl,?_,?_⟩,?_⟩
  ·intro b off hp;have hp':MemPlace.cell b off∈before:=by rw[hps];simpa using hp
   rw[hfz _ (hlt _ hp')];exact hz b off hp'
  ·intro ha;have:=hn ha;rw[hps]at this;simpa using this
  ·intro p hp _;rw[hps];simpa using hp
end
theorem Rt.dC{w w':World}{M M':Nat->Prop}{m m':Mem}{ρ ρ':Nat->Value}(h:dV M w w')(hM:∀b,M' b->b<w.heap.size->M b)(hO:cI m m' ρ ρ'):∀{r:Rt}{e:Ending},r.Den w M m ρ e->r.Den w' M' m' ρ' e
 |.ok _,_,⟨y,e,h1⟩=>⟨y,e,A.dC h hM hO _ _ h1⟩
 |.sE _,_,⟨y,e,h1⟩=>⟨y,e,A.dC h hM hO _ _ h1⟩
theorem aJ.frame{P:Program}{f:FuncId}{as:List A}{m1 m:Mem}{ups:List (Nat×R)}(h:aJ P f as m1 r (aH m1 ups))(has:∀i∈A.lQ as,m1 i≠none)
 (hm:∀i r,m1 i=some r->m i=some r)(hcl:∀i r,m1 i=some r->∀j∈r.hs,m1 j≠none)(hfresh:∀p∈ups,m1 p.1=none->m p.1=none):aJ P f as m r (aH m ups):=by
 refine⟨h.1,?_⟩;intro N T M0 S0 w0 ρ a w hs hlt vs hvs;let M1:Nat->Prop:=λb=>M0 b\/∃i r,m i=some r/\m1 i=none/\r.live=true/\jK (ρ i)=some b;let S1:Nat->Prop:=λb=>∃i r,m1 i=some r/\r.live=true/\jK (ρ i)=some b;have hmut:∀b,dD M1 m1 ρ b↔dD M0 m ρ b:=by
  intro b;constructor
  ·rintro((e|⟨i,r,e1,_,e2,e3⟩)|⟨i,r,e1,e2,e3⟩)
   ·exact .inl e
   ·exact .inr ⟨i,r,e1,e2,e3⟩
   ·exact .inr ⟨i,r,hm i r e1,e2,e3⟩
  ·rintro(e|⟨i,r,e1,e2,e3⟩)
   ·exact .inl (.inl e)
   ·cases hi:m1 i with
    |none=>exact .inl (.inr ⟨i,r,e1,hi,e2,e3⟩)
    |some r'=>
     have:=hm i r' hi;rw[e1]at this;simp at this;subst this;exact .inr ⟨i,r,hi,e2,e3⟩
 have hmutE:dD M1 m1 ρ=dD M0 m ρ:=funext λb=>propext (hmut b);have h0:bC M1 S1 w ⟨N.n,none⟩ (λ_=>.x) m1 ρ a w:=
  {keeps:=iF.refl _ _,size:=hs.size,defers:=λds e=>by cases e
   tmps:=λn=>by simp only[A.Den]
   res:=λi r hi=>by rw[hmutE];exact R.rY hm (hcl i r hi) (hs.res i r (hm i r hi))
   own:=λi r b hi hl hb=>by
    obtain⟨x,y,z⟩:=hs.own i r b (hm i r hi) hl hb;refine⟨.inr ⟨i,r,hi,hl,hb⟩,?_,z⟩;rintro(e|⟨j,s,e1,e2,e3,e4⟩)
    · exact y e
    · have:=hs.apart i j r s b (hm i r hi) hl e1 e3 hb e4
      subst this;rw[hi]at e2;cases e2
   apart:=λi j r s b hi l1 hj l2 b1 b2=>hs.apart i j r s b (hm i r hi) l1 (hm j s hj) l2 b1 b2}
 have hlt1:∀b,M1 b->b<w.heap.size:=λb hb=>V8 hs hlt b ((hmut b).1 (.inl hb));refine(h.2 ⟨N.n,none⟩ (λ_=>.x) M1 S1 w ρ a w h0 hlt1 vs (by rw[hmutE];exact A.fG hm _ _ has hvs)).mono ?_;rintro e w' ⟨ρ',h1,hO,hv⟩;let ρ2:Nat->Value:=λi=>if(aH m1 ups i).isSome then ρ' i else ρ i
 have hA:∀{i:Nat}{r:R},aH m1 ups i=some r->aH m ups i=some r/\ρ2 i=ρ' i:=λ{i r}e=>⟨pN ups hm i r e,by simp[ρ2,e]⟩;have hB:∀{i:Nat},aH m1 ups i=none->m1 i=none/\aH m ups i=m i/\ρ2 i=ρ i:=λ{i}e=>⟨(nP ups e).1,(nP ups e).2 m,by simp[ρ2,e]⟩;have kk:=h1.keeps;have hS1:∀b,S1 b->dD M0 m ρ b:=λb⟨i,r,e1,e2,e3⟩=>.inr ⟨i,r,hm i r e1,e2,e3⟩;have hst:dV (dD M0 m ρ) w w':=kk.stays λb _ e=>hS1 b e;have hon:cI m (aH m ups) ρ ρ2:=by
  intro i hi;cases h':aH m1 ups i with
  |none=>
   obtain⟨e1,e2,e3⟩:=hB h';rw[e2];exact⟨hi,λhd=>⟨hd,e3,λfz t es l e=>⟨fz,t,l,e,rfl⟩⟩⟩
  |some r=>
   obtain⟨e1,e2⟩:=hA h';rw[e1];refine⟨by simp,λhd=>?_⟩;cases hmi:m1 i with
   |none=>
    obtain⟨p,hp,rfl⟩:=xS ups hmi (by rw[h'];simp);exact absurd (hfresh p hp hmi) hi
   |some r0=>
    have hmi':=hm i r0 hmi;obtain⟨_,q⟩:=hO i (by rw[hmi];simp);rw[h']at q;obtain⟨q1,q2,q3⟩:=q hd;rw[hmi'];rw[hmi]at q1 q3;exact⟨q1,by rw[e2];exact q2,q3⟩
 have hsub:∀b,dD M0 (aH m ups) ρ2 b->b<w.heap.size->dD M0 m ρ b:=by
  rintro b (e|⟨i,r,hi,hl,hb⟩) hbl
  ·exact .inl e
  ·cases h':aH m1 ups i with
   |none=>
    obtain⟨e1,e2,e3⟩:=hB h';rw[e2]at hi;rw[e3]at hb;exact .inr ⟨i,r,hi,hl,hb⟩
   |some r'=>
    obtain⟨e1,e2⟩:=hA h';rw[e1]at hi;simp at hi;subst hi;rw[e2]at hb;rcases(h1.own i r' b h' hl hb).1 with q|q
    ·omega
    ·exact hS1 b q
 have hsub2:∀b,dD M0 (aH m ups) ρ2 b->dD M1 (aH m1 ups) ρ' b:=by
  rintro b (e|⟨i,r,hi,hl,hb⟩)
  ·exact .inl (.inl e)
  ·cases h':aH m1 ups i with
   |none=>
    obtain⟨e1,e2,e3⟩:=hB h';rw[e2]at hi;rw[e3]at hb;exact .inl (.inr ⟨i,r,hi,e1,hl,hb⟩)
   |some r'=>
    obtain⟨e1,e2⟩:=hA h';rw[e1]at hi;simp at hi;subst hi;rw[e2]at hb;exact .inr ⟨i,r',h',hl,hb⟩
 have hon2:cI (aH m1 ups) (aH m ups) ρ' ρ2:=by
  intro i hi;cases h':aH m1 ups i with
  |none=>exact absurd h' hi
  |some r=>
   obtain⟨e1,e2⟩:=hA h';rw[e1];exact⟨by simp,λhd=>⟨hd,e2,λfz t es l e=>⟨fz,t,l,e,rfl⟩⟩⟩
 refine⟨ρ2,?_,hon,Rt.dC (dV.refl _ w') (λb hb _=>hsub2 b hb) hon2 hv⟩
 refine{keeps:=hs.keeps.trans kk λb hb⟨i,r,e1,e2,e3⟩=>?_,size:=h1.size,defers:=λds e=>eJ hst hsub hon _ _ (hs.defers ds e)
        tmps:=λn=>A.dC hst hsub hon _ _ (hs.tmps n)
        res:=λi r hi=>?_,own:=λi r b hi hl hb=>?_,apart:=λi j r s b hi l1 hj l2 b1 b2=>?_}
 ·rcases(hs.own i r b (hm i r e1) e2 e3).1 with q|q
  ·omega
  ·exact q
 ·cases h':aH m1 ups i with
  |some r'=>
   obtain⟨e1,e2⟩:=hA h';rw[e1]at hi;simp at hi;subst hi;rw[e2];exact R.hU (dV.refl _ w') (λb hb _=>hsub2 b hb) hon2 (λ_ _ _=>rfl) (h1.res i r' h')
  |none=>
   obtain⟨e1,e2,e3⟩:=hB h';rw[e2]at hi;rw[e3];by_cases hd:r=.dead
   ·subst hd;trivial
   ·refine R.hU hst hsub hon (λb hb hlt'=>?_) (hs.res i r hi);refine kk.block b hlt' ?_;rintro⟨j,s,q1,q2,q3⟩;have hij:i≠j:=by rintro rfl;rw[e1]at q1;cases q1
    exact hs.other (hm j s q1) q2 q3 hi hd hij hb
 ·cases h':aH m1 ups i with
  |some r'=>
   obtain⟨e1,e2⟩:=hA h';rw[e1]at hi;simp at hi;subst hi;rw[e2]at hb;obtain⟨x,y,z⟩:=h1.own i r' b h' hl hb;refine⟨?_,λe=>y (.inl e),z⟩;rcases x with q|⟨j,s,q1,q2,q3⟩
   ·exact .inl (cL hs.keeps.size q)
   ·exact(hs.own j s b (hm j s q1) q2 q3).1
  |none=>
   obtain⟨e1,e2,e3⟩:=hB h';rw[e2]at hi;rw[e3]at hb;obtain⟨x,y,z⟩:=hs.own i r b hi hl hb;exact⟨x,y,cG z kk.size⟩
 ·cases h':aH m1 ups i with
  |some r'=>
   obtain⟨e1,e2⟩:=hA h';rw[e1]at hi;simp at hi;subst hi;rw[e2]at b1;cases h2:aH m1 ups j with
   |some s'=>
    obtain⟨e3,e4⟩:=hA h2;rw[e3]at hj;simp at hj;subst hj;rw[e4]at b2;exact h1.apart i j r' s' b h' l1 h2 l2 b1 b2
   |none=>
    obtain⟨e3,e4,e5⟩:=hB h2;rw[e4]at hj;rw[e5]at b2;exact absurd (.inr ⟨j,s,hj,e3,l2,b2⟩) (h1.own i r' b h' l1 b1).2.1
  |none=>
   obtain⟨e1,e2,e3⟩:=hB h';rw[e2]at hi;rw[e3]at b1;cases h2:aH m1 ups j with
   |some s'=>
    obtain⟨e4,e5⟩:=hA h2;rw[e4]at hj;simp at hj;subst hj;rw[e5]at b2;exact absurd (.inr ⟨i,r,hi,e1,l1,b1⟩) (h1.own j s' b h2 l2 b2).2.1
   |none=>
    obtain⟨e4,e5,e6⟩:=hB h2;rw[e5]at hj;rw[e6]at b2;exact hs.apart i j r s b hi l1 hj l2 b1 b2
mutual
theorem A.BG{g f:Nat->Nat}(h:∀i,f (g i)=i):∀(a:A),(a.eZ g).eZ f=a
 |.d c=>rfl
 |.lp i o=>by simp only[A.eZ,h]
 |A.h i=>by simp only[A.eZ,h]
 |.ep i e k o=>by simp only[A.eZ,h]
 |.sv i l n=>by simp only[A.eZ,h]
 |.fn k u v=>by simp only[A.eZ];rw[A.oY h u,A.oY h v]
 |.agg l=>by simp only[A.eZ];rw[A.oY h l]
 |.eL l=>by simp only[A.eZ];rw[A.oY h l]
 |.AE t a=>by simp only[A.eZ];rw[A.BG h a]
 |.x=>rfl
theorem A.oY{g f:Nat->Nat}(h:∀i,f (g i)=i):∀(l:List A),A.iV f (A.iV g l)=l
 |[]=>rfl
 |c::r=>by simp only[A.iV];rw[A.BG h c,A.oY h r]
end
theorem yM{g f:Nat->Nat}(h:∀i,f (g i)=i):∀(l:List (List A)),(l.map (A.iV g)).map (A.iV f)=l
 |[]=>rfl
 |e::r=>by simp only[aG];rw[A.oY h,yM h r]
theorem YM{g f:Nat->Nat}(h:∀i,f (g i)=i):∀(l:List Nat),(l.map g).map f=l
 |[]=>rfl
 |e::r=>by simp only[aG,h];rw[YM h r]
theorem R.BG{g f:Nat->Nat}(h:∀i,f (g i)=i)(r:R):(r.eZ g).eZ f=r:=by
 cases r with
 |cells fz l=>simp only[R.eZ,A.oY h]
 |fW fz t es l=>simp only[R.eZ,yM h]
 |mp fz kv st=>
  simp only[R.eZ,bH];congr 1
  ·conv=>rhs;rw[<-qB kv]
   exact cQ λp _=>by simp[A.BG h]
  ·conv=>rhs;rw[<-qB st]
   exact cQ λp _=>by simp[h]
 |fr l=>simp only[R.eZ,A.oY h]
 |it i sc a b=>simp only[R.eZ,h,YM h]
 |lo st pend ts ps asg bod=>simp only[R.eZ,A.oY h]
 |cu src es l=>simp only[R.eZ,A.BG h,yM h]
 |_=>rfl
theorem aBB{gi:Nat->Nat}(h1:∀i,gi (g i)=i)(m:Mem):nK gi g (nK g gi m)=m:=by
 funext i;unfold nK;rw[h1];cases m i with
 |none=>rfl
 |some r=>simp only[dF];rw[R.BG h1]
theorem A.RH{w:World}{M M':Nat->Prop}{m m':Mem}{ρ ρ':Nat->Value}{g:Nat->Nat}(h:∀(v:A)(y:Value),v.Den w M m ρ y->(v.eZ g).Den w M' m' ρ' y):∀{l:List A}{ys:List Value},A.bR w M m ρ l ys->A.bR w M' m' ρ' (A.iV g l) ys
 |[],ys,hd=>by simpa only[A.bR,A.iV]using hd
 |c::r,ys,hd=>by
  simp only[A.bR,A.iV]at hd⊢;obtain⟨y,yr,e,h1,h2⟩:=hd;exact⟨y,yr,e,h c y h1,A.RH h h2⟩
theorem aJ.eZ{P:Program}{f:FuncId}{as:List A}{m1 m2:Mem}{r:Rt}(h:aJ P f as m1 r m2){g gi:Nat->Nat}(h1:∀i,gi (g i)=i)(h2:∀i,g (gi i)=i):
 aJ P f (A.iV g as) (nK g gi m1) (r.eZ g) (nK g gi m2):=by
 refine⟨h.1,?_⟩;intro N T M0 S0 w0 ρ a w hs hlt vs hvs;have hlt':∀b,M0 b->b<w.heap.size:=λb hb=>cG (hlt b hb) hs.keeps.size;obtain⟨s1,hden⟩:=hs.now.eZ (g:=gi) (gi:=g) h2 h1;rw[aBB h1]at s1 hden;have hv1:=A.RH hden hvs;rw[A.oY h1]at hv1;refine(h.2 _ _ M0 _ w _ a w s1 hlt' vs hv1).mono ?_;rintro e w' ⟨ρ2,s2,hO,hr⟩;obtain⟨s3,hden3⟩:=s2.eZ h1 h2;have hO':cI (nK g gi m1) (nK g gi m2) ρ (λi=>ρ2 (gi i)):=by
  intro i hi;cases hm:m1 (gi i)with
  |none=>exact absurd (by unfold nK;rw[hm];rfl) hi
  |some q=>
   obtain⟨k1,k2⟩:=hO (gi i) (by rw[hm];simp);cases hm2:m2 (gi i)with
   |none=>exact absurd hm2 k1
   |some q2=>
    have er:nK g gi m2 i=some (q2.eZ g):=by unfold nK;rw[hm2];rfl
    have er1:nK g gi m1 i=some (q.eZ g):=by unfold nK;rw[hm];rfl
    refine⟨by rw[er];simp,λhd=>?_⟩;have hnd:m2 (gi i)≠some .dead:=by
     rw[hm2];rintro e3;simp only[aA]at e3;subst e3;exact hd (by rw[er];rfl)
    obtain⟨k3,k4,k5⟩:=k2 hnd;refine⟨?_,by simp only[k4,h2],λfz t es l e3=>?_⟩
    ·rw[er1];rintro e4;apply k3;rw[hm];cases q<;>simp[R.eZ]at e4⊢
    ·rw[er1]at e3;have:∃l0,q=.fW fz t es l0/\l0.length=l.length:=by
      cases q<;>simp[R.eZ]at e3
      obtain⟨rfl,rfl,rfl,rfl⟩:=e3;exact⟨_,rfl,by simp⟩
     obtain⟨l0,rfl,hl0⟩:=this;obtain⟨fz',t',l',e4,e5⟩:=k5 fz t es l0 hm;rw[hm2]at e4;simp only[aA]at e4;subst e4;exact⟨fz',t',l'.map (A.iV g),by rw[er];rfl,by simp[e5,hl0]⟩
 refine⟨_,hs.back s3 hO',hO',?_⟩;cases r with
 |ok v=>obtain⟨y,rfl,hy⟩:=hr;exact⟨y,rfl,hden3 _ _ hy⟩
 |sE v=>obtain⟨y,rfl,hy⟩:=hr;exact⟨y,rfl,hden3 _ _ hy⟩
end Go.Pv
