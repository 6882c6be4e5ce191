import Derived.Test.YtefgfnbifbkanaaGreatDoorF1
import Derived.Orders
import Derived.Laws.StructEq
import Derived.Lib.ConvBytes
/- A program logic over the model, and an evaluator of closed runs that is sound for it. -/
set_option linter.all false
set_option maxRecDepth 100000
set_option maxHeartbeats 8000000
namespace Go.Pv
open Go.RowKit
structure Rec where
 dst:Option Nat
 v:A
 u:List (Nat×R)
def recT(T:Nat->A):List Rec->Nat->A
 |[]=>T
 |r::rs=>recT (setT T r.dst r.v) rs
def recM(m:Mem):List Rec->Mem
 |[]=>m
 |r::rs=>recM (applyU m r.u) rs
def sel(X:Nat->Bool):Nat->List Rec->List Rec
 |_,[]=>[]
 |k,r::rs=>if X k then r::sel X (k+1) rs else sel X (k+1) rs
theorem applyU_at:∀(u:List (Nat×R))(m:Mem){n:Nat},(∀p∈u,p.1≠n)->applyU m u n=m n
 |[],m,n,_=>rfl
 |(i,r)::t,m,n,h=>by
  simp only[applyU]
  rw[applyU_at t _ (λp hp=>h p (by simp[hp]))]
  have:n≠i:=λe=>h (i,r) (by simp) e.symm
  simp[setM,this]
theorem applyU_congr:∀(u:List (Nat×R)){m m':Mem}{n:Nat},m n=m' n->applyU m u n=applyU m' u n
 |[],m,m',n,h=>h
 |(i,r)::t,m,m',n,h=>by
  simp only[applyU]
  refine applyU_congr t ?_
  unfold setM;split
  ·rfl
  ·exact h
theorem applyU_comm(u v:List (Nat×R))(m:Mem)(h:∀p∈u,∀q∈v,q.1≠p.1):applyU (applyU m u) v=applyU (applyU m v) u:=by
 funext n
 by_cases hn:∃p∈u,p.1=n
 ·obtain⟨p,hp,rfl⟩:=hn
  rw[applyU_at v _ (λq hq=>h p hp q hq)]
  exact applyU_congr u (applyU_at v _ (λq hq=>h p hp q hq)).symm
 ·have hn':∀p∈u,p.1≠n:=λp hp e=>hn ⟨p,hp,e⟩
  rw[applyU_at u (applyU m v) hn']
  exact applyU_congr v (applyU_at u _ hn')
theorem setT_comm(T:Nat->A)(d e:Option Nat)(v x:A)(h:∀n,d=some n->e≠some n):setT (setT T d v) e x=setT (setT T e x) d v:=by
 funext n
 unfold setT
 by_cases h1:d=some n
 ·have:=h n h1;simp[h1,this]
 ·simp[h1]
theorem recM_push(u:List (Nat×R)):∀(l:List Rec)(m:Mem),(∀q∈l,∀p∈u,∀x∈q.u,x.1≠p.1)->recM (applyU m u) l=applyU (recM m l) u
 |[],m,_=>rfl
 |r::l,m,h=>by
  simp only[recM]
  rw[applyU_comm u r.u m (h r (by simp))]
  exact recM_push u l _ (λq hq=>h q (by simp[hq]))
theorem recT_push(d:Option Nat)(v:A):∀(l:List Rec)(T:Nat->A),(∀q∈l,∀n,d=some n->q.dst≠some n)->recT (setT T d v) l=setT (recT T l) d v
 |[],T,_=>rfl
 |r::l,T,h=>by
  simp only[recT]
  rw[setT_comm T d r.dst v r.v (h r (by simp))]
  exact recT_push d v l _ (λq hq=>h q (by simp[hq]))
theorem sel_mem{X:Nat->Bool}:∀{l:List Rec}{k:Nat}{r:Rec},r∈sel X k l->∃i,X (k+i)=true/\l[i]?=some r
 |[],k,r,h=>by simp[sel]at h
 |q::l,k,r,h=>by
  simp only[sel]at h
  split at h
  ·rename_i hx
   simp only[List.mem_cons]at h
   rcases h with rfl|h
   ·exact⟨0,by simpa using hx,rfl⟩
   ·obtain⟨i,h1,h2⟩:=sel_mem h
    exact⟨i+1,by rw[show k+(i+1)=k+1+i by omega];exact h1,by simpa using h2⟩
  ·obtain⟨i,h1,h2⟩:=sel_mem h
   exact⟨i+1,by rw[show k+(i+1)=k+1+i by omega];exact h1,by simpa using h2⟩
theorem sel_congr{X Y:Nat->Bool}:∀(l:List Rec)(k:Nat),(∀i,k<=i->X i=Y i)->sel X k l=sel Y k l
 |[],k,_=>rfl
 |r::l,k,h=>by
  simp only[sel,h k (Nat.le_refl _)]
  rw[sel_congr l (k+1) (λi hi=>h i (by omega))]
theorem sel_all{X:Nat->Bool}:∀(l:List Rec)(k:Nat),(∀i,k<=i->i<k+l.length->X i=true)->sel X k l=l
 |[],k,_=>rfl
 |r::l,k,h=>by
  simp only[sel,h k (Nat.le_refl _) (by simp),if_true]
  rw[sel_all l (k+1) (λi h1 h2=>h i (by omega) (by simp;omega))]
theorem sel_none{X:Nat->Bool}:∀(l:List Rec)(k:Nat),(∀i,X i=false)->sel X k l=[]
 |[],k,_=>rfl
 |r::l,k,h=>by
  simp only[sel,h k,Bool.false_eq_true,if_false]
  exact sel_none l (k+1) h
def addX(X:Nat->Bool)(j:Nat):Nat->Bool:=λi=>if i=j then true else X i
theorem sel_insert(X:Nat->Bool)(r:Rec):∀(l:List Rec)(k j:Nat)(T:Nat->A)(m:Mem),X (k+j)=false->l[j]?=some r->
 (∀i q,j<i->X (k+i)=true->l[i]?=some q->(∀p∈r.u,∀x∈q.u,x.1≠p.1)/\∀n,r.dst=some n->q.dst≠some n)->
 recM m (sel (addX X (k+j)) k l)=applyU (recM m (sel X k l)) r.u/\recT T (sel (addX X (k+j)) k l)=setT (recT T (sel X k l)) r.dst r.v
 |[],k,j,T,m,_,h,_=>by simp at h
 |q::l,k,0,T,m,hX,h,hd=>by
  simp at h;subst h
  have h1:addX X k k=true:=by simp[addX]
  simp only[Nat.add_zero]at hX⊢
  simp only[sel,h1,if_true,hX,Bool.false_eq_true,if_false,recM,recT]
  have e:sel (addX X k) (k+1) l=sel X (k+1) l:=sel_congr l (k+1) λi hi=>by unfold addX;rw[if_neg (by omega)]
  rw[e]
  have hm:∀x∈sel X (k+1) l,(∀p∈q.u,∀y∈x.u,y.1≠p.1)/\∀n,q.dst=some n->x.dst≠some n:=by
   intro x hx
   obtain⟨i,h2,h3⟩:=sel_mem hx
   exact hd (i+1) x (by omega) (by rw[show k+(i+1)=k+1+i by omega];exact h2) (by simpa using h3)
  exact⟨recM_push _ _ _ λx hx=>(hm x hx).1,recT_push _ _ _ _ λx hx=>(hm x hx).2⟩
 |q::l,k,j+1,T,m,hX,h,hd=>by
  have e:addX X (k+(j+1)) k=X k:=by unfold addX;rw[if_neg (by omega)]
  have ih:=λT m=>sel_insert X r l (k+1) j T m (by rw[show k+1+j=k+(j+1) by omega];exact hX) (by simpa using h) (λi q' hi hx hq=>hd (i+1) q' (by omega) (by rw[show k+(i+1)=k+1+i by omega];exact hx) (by simpa using hq))
  rw[show k+1+j=k+(j+1) by omega]at ih
  simp only[sel,e]
  split
  ·simp only[recM,recT];exact ih _ _
  ·exact ih _ _
theorem recM_agree{X Y:Nat->Bool}{n:Nat}:∀(l:List Rec)(k:Nat)(m m':Mem),(∀i q,l[i]?=some q->X (k+i)≠Y (k+i)->∀p∈q.u,p.1≠n)->m n=m' n->recM m (sel X k l) n=recM m' (sel Y k l) n
 |[],k,m,m',_,h=>h
 |q::l,k,m,m',hd,h=>by
  have hd':∀i q',l[i]?=some q'->X (k+1+i)≠Y (k+1+i)->∀p∈q'.u,p.1≠n:=λi q' hq hx=>hd (i+1) q' (by simpa using hq) (by rw[show k+(i+1)=k+1+i by omega];exact hx)
  have h0:=hd 0 q rfl
  simp only[Nat.add_zero]at h0
  simp only[sel]
  cases hx:X k<;>cases hy:Y k<;>simp only[if_true,Bool.false_eq_true,if_false,recM]
  ·exact recM_agree l (k+1) m m' hd' h
  ·exact recM_agree l (k+1) _ _ hd' (h.trans (applyU_at _ _ (h0 (by simp[hx,hy]))).symm)
  ·exact recM_agree l (k+1) _ _ hd' ((applyU_at _ _ (h0 (by simp[hx,hy]))).trans h)
  ·exact recM_agree l (k+1) _ _ hd' (applyU_congr _ h)
theorem recT_agree{X Y:Nat->Bool}{n:Nat}:∀(l:List Rec)(k:Nat)(T T':Nat->A),(∀i q,l[i]?=some q->X (k+i)≠Y (k+i)->q.dst≠some n)->T n=T' n->recT T (sel X k l) n=recT T' (sel Y k l) n
 |[],k,m,m',_,h=>h
 |q::l,k,m,m',hd,h=>by
  have hd':∀i q',l[i]?=some q'->X (k+1+i)≠Y (k+1+i)->q'.dst≠some n:=λi q' hq hx=>hd (i+1) q' (by simpa using hq) (by rw[show k+(i+1)=k+1+i by omega];exact hx)
  have h0:=hd 0 q rfl
  simp only[Nat.add_zero]at h0
  simp only[sel]
  cases hx:X k<;>cases hy:Y k<;>simp only[if_true,Bool.false_eq_true,if_false,recT]
  ·exact recT_agree l (k+1) m m' hd' h
  ·exact recT_agree l (k+1) _ _ hd' (h.trans (by unfold setT;rw[if_neg (h0 (by simp[hx,hy]))]))
  ·exact recT_agree l (k+1) _ _ hd' (Eq.trans (by unfold setT;rw[if_neg (h0 (by simp[hx,hy]))]) h)
  ·refine recT_agree l (k+1) _ _ hd' ?_
   unfold setT;split
   ·rfl
   ·exact h
def wantA(ops:Array Oper)(T:Nat->A)(o:Oper):Option Bool:=
 match o.guard with
 |none=>some true
 |some (j,want)=>match(ops[j]?).bind (·.dst)with
  |some d=>match T d with
   |.d (.v (.bool b))=>some (b==want)
   |.tup _=>some false
   |_=>none
  |none=>none
section
variable{M0 S0:Nat->Prop}{w0:World}{N:Fr}{T:Nat->A}{m:Mem}{ρ:Nat->Value}{a:Act}{w:World}{P:Program}
theorem want_den(h:SatAt M0 S0 w0 N T m ρ a w){ops:Array Oper}{o:Oper}{b:Bool}(hw:wantA ops T o=some b):Region.wanted o (yielded ops a.tmps)=b:=by
 unfold wantA at hw
 unfold Region.wanted
 split at hw
 ·rename_i hg;simp only[hg];simpa using hw
 ·rename_i j want hg
  simp only[hg]
  split at hw
  ·rename_i d hd
   split at hw
   ·rename_i t ht
    simp only[Option.some.injEq]at hw
    have h1:=h.tmps d
    rw[ht]at h1
    simp only[A.Den,C.Den]at h1
    have h2:a.tmps[d]?=some (.bool t):=by
     rw[Array.getD_eq_getD_getElem?]at h1
     cases hq:a.tmps[d]? with
     |none=>rw[hq]at h1;simp[undef]at h1
     |some x=>rw[hq]at h1;simp at h1;rw[h1]
    unfold yielded
    rw[hd]
    simp only[Option.bind_some,h2]
    rw[<-hw];cases t<;>cases want<;>rfl
   ·rename_i l ht
    simp only[Option.some.injEq]at hw
    have h1:=h.tmps d
    rw[ht]at h1
    simp only[A.Den]at h1
    obtain⟨vs,h1,_⟩:=h1
    have h2:a.tmps[d]?=none\/a.tmps[d]?=some (.tuple vs):=by
     rw[Array.getD_eq_getD_getElem?]at h1
     cases hq:a.tmps[d]? with
     |none=>exact .inl rfl
     |some x=>rw[hq]at h1;simp at h1;rw[h1];exact .inr rfl
    unfold yielded
    rw[hd]
    rcases h2 with h2|h2<;>simp only[Option.bind_some,h2]<;>(subst hw;rfl)
   ·cases hw
  ·cases hw
theorem SatAt.drew(h:SatAt M0 S0 w0 N T m ρ a w)(k:Nat):SatAt M0 S0 w0 N T m ρ a {w with drawn:=k}:=by
 have hst:Stays (Mut M0 m ρ) w {w with drawn:=k}:=⟨Nat.le_refl _,λ_ _ _=>rfl⟩
 exact{keeps:=h.keeps.trans (S':=λ_=>False) ⟨rfl,rfl,rfl,Nat.le_refl _,λ_ _ _=>rfl⟩ (λ_ _ e=>e.elim),size:=h.size
       defers:=λds e=>DefsDen_mono hst (λ_ e _=>e) (Onto.refl m ρ) _ _ (h.defers ds e)
       tmps:=λn=>A.Den_mono hst (λ_ e _=>e) (Onto.refl m ρ) _ _ (h.tmps n)
       res:=λi r hi=>R.Ok_mono hst (λ_ e _=>e) (Onto.refl m ρ) (λ_ _ _=>rfl) (h.res i r hi)
       own:=h.own,apart:=h.apart}
end
structure RegOk(P:Program)(ops:Array Oper)(recs:List Rec)(anc:Nat->Nat->Bool)(F:Nat->Nat->Prop)(Rq:Nat->Mem->Prop)(n:Nat)(T:Nat->A)(m:Mem):Prop where
 len:recs.length=ops.size
 dst:∀(k:Nat)(o:Oper)(r:Rec),ops[k]?=some o->recs[k]?=some r->r.dst=o.dst/\∀d,o.dst=some d->d<n
 good:∀(k:Nat)(o:Oper)(r:Rec),ops[k]?=some o->recs[k]?=some r->
  ((wantA ops (recT T (sel (anc k) 0 recs)) o=some false/\r.v=.tup []/\r.u=[])\/
   (wantA ops (recT T (sel (anc k) 0 recs)) o=some true/\∀(T':Nat->A)(m':Mem),(∀x∈o.looksAt ops,T' x=recT T (sel (anc k) 0 recs) x)->(∀i,F k i->m' i=recM m (sel (anc k) 0 recs) i)->
     Rq k m'->(∀p∈r.u,recM m (sel (anc k) 0 recs) p.1=none->m' p.1=none)->OpT P o T' m' r.v (applyU m' r.u)))
 rq:∀(k:Nat)(o:Oper)(X:Nat->Bool),ops[k]?=some o->X k=false->(∀i q,recs[i]?=some q->X i≠anc k i->i≠k/\anc i k=false/\anc k i=false)->Rq k (recM m (sel X 0 recs))
 guard:∀(k:Nat)(o:Oper)(j:Nat)(b:Bool),ops[k]?=some o->o.guard=some (j,b)->∀d,(ops[j]?).bind (·.dst)=some d->d∈o.looksAt ops
 fresh:∀(k:Nat)(r:Rec),recs[k]?=some r->∀p∈r.u,recM m (sel (anc k) 0 recs) p.1=none->F k p.1
 apart:∀(i j:Nat)(p q:Rec)(o:Oper),i≠j->recs[i]?=some p->recs[j]?=some q->ops[j]?=some o->anc i j=false->anc j i=false->
  (∀d,p.dst=some d->d∉o.looksAt ops/\q.dst≠some d)/\∀x∈p.u,¬F j x.1/\∀y∈q.u,y.1≠x.1
 down:∀(k:Nat)(o:Oper),ops[k]?=some o->∀e∈o.after,Region.binds .any e=true->e.on<k
 anc:∀(k:Nat)(o:Oper)(j:Nat),ops[k]?=some o->anc k j=true->∃e∈o.after,Region.binds .any e=true/\(e.on=j\/anc e.on j=true)
theorem length_filter_lt{p q:Nat->Bool}:∀{l:List Nat}{i:Nat},(∀j,q j=true->p j=true)->i∈l->p i=true->q i=false->(l.filter q).length<(l.filter p).length
 |[],i,_,h,_,_=>by simp at h
 |x::l,i,hpq,h,hp,hq=>by
  have hle:∀(l:List Nat),(l.filter q).length<=(l.filter p).length:=by
   intro l
   induction l with
   |nil=>simp
   |cons y l ih=>
    simp only[List.filter_cons]
    cases hy:q y
    ·cases p y<;>simp<;>omega
    ·simp[hpq y hy];omega
  simp only[List.filter_cons]
  simp only[List.mem_cons]at h
  by_cases hx:i=x
  ·subst hx
   have:=hle l
   simp[hp,hq];omega
  ·have ih:=length_filter_lt hpq (h.resolve_left hx) hp hq
   cases hy:q x
   ·cases p x<;>simp<;>omega
   ·simp[hpq x hy];exact ih
section
variable{M0 S0:Nat->Prop}{w0:World}{N:Fr}{T:Nat->A}{m:Mem}{ρ:Nat->Value}{P:Program}{ops:Array Oper}{recs:List Rec}{anc:Nat->Nat->Bool}{F:Nat->Nat->Prop}{Rq:Nat->Mem->Prop}
theorem region_any{ro:Option Nat}(hok:RegOk P ops recs anc F Rq N.n T m)(hlt:∀b,M0 b->b<w0.heap.size){Q:Exit->Act->World->Prop}
 (hQ:∀(a:Act)(w:World)(ρ':Nat->Value),SatAt M0 S0 w0 N (recT T recs) (recM m recs) ρ' a w->Onto m (recM m recs) ρ ρ'->Q .normal a w):
 ∀(fuel:Nat)(listed:Array Bool)(ρ':Nat->Value)(a:Act)(w:World),listed.size=ops.size->((List.range ops.size).filter λi=> !listed.getD i false).length<=fuel->
  (∀k o,ops[k]?=some o->listed.getD k false=true->∀e∈o.after,Region.binds .any e=true->listed.getD e.on false=true)->
  SatAt M0 S0 w0 N (recT T (sel (λi=>listed.getD i false) 0 recs)) (recM m (sel (λi=>listed.getD i false) 0 recs)) ρ' a w->Onto m (recM m (sel (λi=>listed.getD i false) 0 recs)) ρ ρ'->
  wpAnyIn (FW ro) 0 P .any ops Q fuel listed a w:=by
 have hfin:∀(listed:Array Bool)(ρ':Nat->Value)(a:Act)(w:World),listed.size=ops.size->Region.ready .any ops listed=[]->
  SatAt M0 S0 w0 N (recT T (sel (λi=>listed.getD i false) 0 recs)) (recM m (sel (λi=>listed.getD i false) 0 recs)) ρ' a w->Onto m (recM m (sel (λi=>listed.getD i false) 0 recs)) ρ ρ'->Q .normal a w:=by
  intro listed ρ' a w hsz hr hs hO
  have hall:∀i,i<ops.size->listed.getD i false=true:=by
   intro i
   induction i using Nat.strongRecOn with
   |_ i ih=>
    intro hi
    cases hX:listed.getD i false with
    |true=>rfl
    |false=>
     exfalso
     have hmem:i∈Region.ready .any ops listed:=by
      unfold Region.ready
      rw[List.mem_filter]
      refine⟨by simpa using hi,?_⟩
      have h1:listed.getD i true=false:=by
       have:i<listed.size:=by omega
       simp[Array.getD,this]at hX⊢;exact hX
      rw[h1,Array.getElem?_eq_getElem hi]
      simp only[Bool.not_false,Option.map_some,Option.getD_some,Bool.true_and,Array.all_eq_true']
      intro e he
      cases hb:Region.binds .any e with
      |false=>simp
      |true=>
       have hd:=hok.down i _ (Array.getElem?_eq_getElem hi) e he hb
       simp[ih e.on hd (by omega)]
     rw[hr]at hmem;simp at hmem
  have hsel:sel (λi=>listed.getD i false) 0 recs=recs:=sel_all recs 0 λi _ h=>hall i (by have:=hok.len;omega)
  rw[hsel]at hs hO
  exact hQ a w ρ' hs hO
 intro fuel
 induction fuel with
 |zero=>
  intro listed ρ' a w hsz hf hcl hs hO
  have hr:Region.ready .any ops listed=[]:=by
   unfold Region.ready
   rw[List.filter_eq_nil_iff]
   intro i hi
   have h0:(List.range ops.size).filter (λi=> !listed.getD i false)=[]:=List.eq_nil_of_length_eq_zero (by omega)
   rw[List.filter_eq_nil_iff]at h0
   have h1:=h0 i hi
   have hil:i<listed.size:=by have:=List.mem_range.1 hi;omega
   simp[Array.getD,hil]at h1⊢
   simp[h1]
  exact⟨hr,hfin listed ρ' a w hsz hr hs hO⟩
 |succ fuel ih=>
  intro listed ρ' a w hsz hf hcl hs hO
  refine⟨λhr=>hfin listed ρ' a w hsz hr hs hO,λk hk=>?_⟩
  unfold Region.ready at hk
  rw[List.mem_filter]at hk
  obtain⟨hk1,hk2⟩:=hk
  have hkn:k<ops.size:=by simpa using hk1
  have hko:ops[k]?=some ops[k]:=Array.getElem?_eq_getElem hkn
  rw[hko]at hk2
  simp only[Option.map_some,Option.getD_some,Bool.and_eq_true,Bool.not_eq_true',Array.all_eq_true',Bool.or_eq_true]at hk2
  obtain⟨hk3,hk4⟩:=hk2
  have hkl:k<listed.size:=by omega
  have hXk:listed.getD k false=false:=by simp[Array.getD,hkl]at hk3⊢;exact hk3
  have hdir:∀e∈(ops[k]).after,Region.binds .any e=true->listed.getD e.on false=true:=by
   intro e he hb
   rcases hk4 e he with h|h
   ·rw[hb]at h;cases h
   ·exact h
  have hcl2:∀(i:Nat)(o:Oper),ops[i]?=some o->(∀e∈o.after,Region.binds .any e=true->listed.getD e.on false=true)->∀j,anc i j=true->listed.getD j false=true:=by
   intro i
   induction i using Nat.strongRecOn with
   |_ i ih2=>
    intro o ho hdir j hj
    obtain⟨e,he,hb,h⟩:=hok.anc i o j ho hj
    have hel:=hdir e he hb
    rcases h with rfl|h
    ·exact hel
    ·have hlt2:=hok.down i o ho e he hb
     have hio:i<ops.size:=(Array.getElem?_eq_some_iff.1 ho).1
     exact ih2 e.on hlt2 _ (Array.getElem?_eq_getElem (by omega)) (hcl e.on _ (Array.getElem?_eq_getElem (by omega)) hel) j h
  have hdown:∀(i:Nat)(o:Oper),ops[i]?=some o->∀j,anc i j=true->j<i:=by
   intro i
   induction i using Nat.strongRecOn with
   |_ i ih2=>
    intro o ho j hj
    obtain⟨e,he,hb,h⟩:=hok.anc i o j ho hj
    have hlt2:=hok.down i o ho e he hb
    rcases h with rfl|h
    ·exact hlt2
    ·have hio:i<ops.size:=(Array.getElem?_eq_some_iff.1 ho).1
     exact Nat.lt_trans (ih2 e.on hlt2 _ (Array.getElem?_eq_getElem (by omega)) j h) hlt2
  have hanck:∀j,anc k j=true->listed.getD j false=true:=hcl2 k _ hko hdir
  have hrk:k<recs.length:=by have:=hok.len;omega
  have hr:recs[k]?=some recs[k]:=List.getElem?_eq_getElem hrk
  have hinc:∀i q,recs[i]?=some q->listed.getD i false≠anc k i->i≠k/\anc i k=false/\anc k i=false:=by
   intro i q hq hne
   have hio:i<ops.size:=by have:=(List.getElem?_eq_some_iff.1 hq).1;have:=hok.len;omega
   have hXi:listed.getD i false=true:=by
    cases h:listed.getD i false with
    |true=>rfl
    |false=>
     cases h2:anc k i with
     |true=>exact(hanck i h2).symm.trans h▸rfl
     |false=>rw[h,h2]at hne;exact absurd rfl hne
   have hki:anc k i=false:=by
    cases h2:anc k i with
    |true=>rw[hXi,h2]at hne;exact absurd rfl hne
    |false=>rfl
   refine⟨(by rintro rfl;rw[hXk]at hXi;cases hXi),?_,hki⟩
   cases h3:anc i k with
   |false=>rfl
   |true=>
    have:=hcl2 i _ (Array.getElem?_eq_getElem hio) (hcl i _ (Array.getElem?_eq_getElem hio) hXi) k h3
    rw[hXk]at this;cases this
  have hTk:∀x∈(ops[k]).looksAt ops,recT T (sel (λi=>listed.getD i false) 0 recs) x=recT T (sel (anc k) 0 recs) x:=by
   intro x hx
   refine recT_agree recs 0 T T (λi q hq hne=>?_) rfl
   rw[Nat.zero_add]at hne
   obtain⟨h1,h2,h3⟩:=hinc i q hq hne
   exact λe=>((hok.apart i k q _ _ h1 hq hr hko h2 h3).1 x e).1 hx
  have hmk:∀n,F k n->recM m (sel (λi=>listed.getD i false) 0 recs) n=recM m (sel (anc k) 0 recs) n:=by
   intro n hn
   refine recM_agree recs 0 m m (λi q hq hne p hp e=>?_) rfl
   rw[Nat.zero_add]at hne
   obtain⟨h1,h2,h3⟩:=hinc i q hq hne
   exact((hok.apart i k q _ _ h1 hq hr hko h2 h3).2 p hp).1 (e▸hn)
  have hsel:=sel_insert (λi=>listed.getD i false) recs[k] recs 0 k T m (by simpa using hXk) hr (λi q hi hX hq=>by
   have hX':listed.getD i false=true:=by simpa using hX
   have hio:i<ops.size:=by have:=(List.getElem?_eq_some_iff.1 hq).1;have:=hok.len;omega
   have h2:anc i k=false:=by
    cases h3:anc i k with
    |false=>rfl
    |true=>
     have:=hcl2 i _ (Array.getElem?_eq_getElem hio) (hcl i _ (Array.getElem?_eq_getElem hio) hX') k h3
     rw[hXk]at this;cases this
   have h3:anc k i=false:=by
    cases h3:anc k i with
    |false=>rfl
    |true=>have:=hdown k _ hko i h3;omega
   have:=hok.apart k i _ q _ (by omega) hr hq (Array.getElem?_eq_getElem hio) h3 h2
   exact⟨λp hp=>(this.2 p hp).2,λn hn=>(this.1 n hn).2⟩)
  have hX':(λi=>(listed.setIfInBounds k true).getD i false)=addX (λi=>listed.getD i false) (0+k):=by
   funext i
   unfold addX
   rw[Nat.zero_add]
   by_cases e:i=k
   ·subst e;simp[Array.getD,hkl]
   ·rw[if_neg e]
    show(listed.setIfInBounds k true).getD i false=listed.getD i false
    rw[Array.getD_eq_getD_getElem?,Array.getD_eq_getD_getElem?,Array.getElem?_setIfInBounds_ne (Ne.symm e)]
  obtain⟨hd1,hd2⟩:=hok.dst k _ _ hko hr
  have hnext:∀(ρ2:Nat->Value)(a2:Act)(w2:World),SatAt M0 S0 w0 N (setT (recT T (sel (λi=>listed.getD i false) 0 recs)) recs[k].dst recs[k].v) (applyU (recM m (sel (λi=>listed.getD i false) 0 recs)) recs[k].u) ρ2 a2 w2->
   Onto (recM m (sel (λi=>listed.getD i false) 0 recs)) (applyU (recM m (sel (λi=>listed.getD i false) 0 recs)) recs[k].u) ρ' ρ2->wpAnyIn (FW ro) 0 P .any ops Q fuel (listed.setIfInBounds k true) a2 w2:=by
   intro ρ2 a2 w2 hs2 hO2
   refine ih _ ρ2 a2 w2 (by simpa using hsz) ?_ ?_ ?_ ?_
   ·have:=length_filter_lt (l:=List.range ops.size) (p:=λi=> !listed.getD i false) (q:=λi=> !(listed.setIfInBounds k true).getD i false) (i:=k) (λj hj=>by
     have hj':(λi=>(listed.setIfInBounds k true).getD i false) j=false:=by simpa using hj
     rw[hX']at hj'
     unfold addX at hj'
     split at hj'
     · cases hj'
     · simpa using hj') (by simpa using hkn) (by simp only[hXk];rfl) (by
       have:(λi=>(listed.setIfInBounds k true).getD i false) k=true:=by rw[hX'];simp[addX]
       simpa using this)
    omega
   ·intro i o ho hi e he hb
    have hi':(λi=>(listed.setIfInBounds k true).getD i false) i=true:=hi
    show(λi=>(listed.setIfInBounds k true).getD i false) e.on=true
    rw[hX']at hi'⊢
    unfold addX at hi'⊢
    rw[Nat.zero_add]at hi'⊢
    split
    ·rfl
    ·split at hi'
     ·rename_i hik;subst hik;rw[hko]at ho;simp at ho;subst ho;exact hdir e he hb
     ·exact hcl i o ho hi' e he hb
   ·rw[hX',hsel.1,hsel.2];exact hs2
   ·rw[hX',hsel.1];exact hO.trans hO2
  unfold wpOpIn
  rw[hko]
  simp only
  have hwant:∀b,wantA ops (recT T (sel (anc k) 0 recs)) ops[k]=some b->wantA ops (recT T (sel (λi=>listed.getD i false) 0 recs)) ops[k]=some b:=by
   intro b hb
   unfold wantA at hb⊢
   split at hb
   ·exact hb
   ·rename_i j want hg
    split at hb
    ·rename_i d hd
     rw[hTk d (hok.guard k _ j want hko hg d hd)];simpa [hg,hd]using hb
    ·cases hb
  rcases hok.good k _ _ hko hr with⟨hw,hv,hu⟩|⟨hw,hop⟩
  ·rw[want_den hs (hwant _ hw)]
   simp only[Bool.false_eq_true,if_false]
   refine⟨λ_ _=>trivial,hnext ρ' _ w ?_ (by rw[hu];exact Onto.refl _ _)⟩
   rw[hu,hv,hd1]
   exact hs.put _ (λn hn=>hd2 n hn) (by simp only[A.Den];exact⟨#[],rfl,rfl⟩)
  ·rw[want_den hs (hwant _ hw)]
   simp only[if_true]
   refine hop _ _ hTk hmk (hok.rq k _ _ hko hXk hinc) (λp hp hn=>?_) ro N M0 S0 w0 ρ' a w hs hlt _ Q ?_
   ·rw[hmk _ (hok.fresh k _ hr p hp hn)];exact hn
   ·intro y w' ρ2 hs2 hO2 hden
    refine hnext ρ2 _ w' ?_ hO2
    rw[hd1]
    exact hs2.put _ (λn hn=>hd2 n hn) hden
theorem region_draw{ro:Option Nat}(hm:P.follows .mixedOrders=true)(hok:RegOk P ops recs anc F Rq N.n T m)(hlt:∀b,M0 b->b<w0.heap.size){id:Nat}{Q:Exit->Act->World->Prop}{a:Act}{w:World}(hs:SatAt M0 S0 w0 N T m ρ a w)
 (hQ:∀(a:Act)(w:World)(ρ':Nat->Value),SatAt M0 S0 w0 N (recT T recs) (recM m recs) ρ' a w->Onto m (recM m recs) ρ ρ'->Q .normal a w):(Code.region id ops true).wpIn (FW ro) 0 P Q a w:=by
 refine wpIn_region_any hm ?_
 have h0:(λi=>(Array.replicate ops.size false).getD i false)=λ_=>false:=by
  funext i
  by_cases h:i<ops.size<;>simp[Array.getD,h]
 refine region_any hok hlt hQ ops.size _ ρ a _ (by simp) ?_ ?_ ?_ ?_
 ·have:=List.length_filter_le (λi=> !(Array.replicate ops.size false).getD i false) (List.range ops.size)
  simpa using this
 ·intro k o _ hk
  have:(λi=>(Array.replicate ops.size false).getD i false) k=true:=hk
  rw[h0]at this;cases this
 ·rw[h0,sel_none recs 0 (λ_=>rfl)];exact hs.drew _
 ·rw[h0,sel_none recs 0 (λ_=>rfl)];exact Onto.refl _ _
end
end Go.Pv
namespace Go.Pv
open Go.RowKit
def KC.same:KC->KC->Bool
 |.int k _,.int k' _=>decide (k=k')
 |.bool _,.bool _=>true
 |.str _,.str _=>true
 |_,_=>false
def KC.fits(P:Program)(t:TypeId):KC->Bool
 |.int _ _=>match P.underlying t with
  |some (.int _)=>true
  |_=>false
 |.bool _=>isBoolT P t
 |.str _=>isStrT P t
def fldsFit(P:Program)(sub:TypeId->List KC->Bool):List Field->Nat->List KC->Bool
 |[],_,[]=>true
 |[],_,_::_=>false
 |f::fs,i,l=>decide (f.offset=i)&&(decide (f.name≠ "_")&&(match aggOf P f.type with
  |some false=>(match l with
   |c::r=>c.fits P f.type&&fldsFit P sub fs (i+1) r
   |[]=>false)
  |some true=>decide (0<P.cellsOf f.type/\P.cellsOf f.type<=l.length)&&(sub f.type (l.take (P.cellsOf f.type))&&fldsFit P sub fs (i+P.cellsOf f.type) (l.drop (P.cellsOf f.type)))
  |none=>false))
def aggFits(P:Program):Nat->TypeId->List KC->Bool
 |0,_,_=>false
 |n+1,t,l=>match P.underlying t with
  |some (.struct fs)=> !P.stoodInHeld t&&fldsFit P (aggFits P n) fs.toList 0 l
  |_=>false
def KC.sameL:List KC->List KC->Bool
 |[],[]=>true
 |a::r,b::s=>a.same b&&KC.sameL r s
 |_,_=>false
def Ky.fits(P:Program)(t:TypeId):Ky->Bool
 |.one c=>c.fits P t
 |.agg l=>aggFits P 4 t l
def Ky.same:Ky->Ky->Bool
 |.one a,.one b=>a.same b
 |.agg a,.agg b=>KC.sameL a b
 |_,_=>false
theorem same_len:∀{a b:List KC},KC.sameL a b=true->a.length=b.length
 |[],[],_=>rfl
 |a::r,b::s,h=>by simp only[KC.sameL,Bool.and_eq_true]at h;simp[same_len h.2]
 |[],_::_,h=>by simp[KC.sameL]at h
 |_::_,[],h=>by simp[KC.sameL]at h
section
variable{P:Program}{w:World}
theorem bytes_beq(a b:ByteArray):(a.toList==b.toList)=decide (a=b):=by
 apply Bool.eq_iff_iff.2
 simp only[beq_iff_eq,decide_eq_true_eq]
 exact⟨λe=>by
  have e1:a.data.toList=b.data.toList:=by simpa [ByteArray.toList_eq]using e
  cases a;cases b;simp at e1;simp[e1],λe=>by rw[e]⟩
theorem run_eqKC(d:Nat){t:TypeId}{a b:KC}(hf:a.fits P t=true)(hs:a.same b=true):(Op.equalIn (d+1) t a.val b.val).run P w=.ok (decide (a=b)) w:=by
 cases a<;>cases b<;>simp only[KC.same]at hs<;>(try cases hs)
 ·rename_i k n k' n'
  have hs:=of_decide_eq_true hs
  subst hs
  unfold KC.fits at hf
  simp only at hf
  split at hf
  ·rename_i k2 hu
   simp only[KC.val,run_equalIn_int w d t k k2 n n' hu]
   simp;exact Bool.eq_iff_iff.2 (by simp)
  ·cases hf
 ·rename_i x y
  simp only[KC.val,run_equalIn_bool' w d t x y (isBoolT_eq hf)]
  cases x<;>cases y<;>rfl
 ·rename_i x y
  simp only[KC.val,run_equalIn_string w d t x y (isStrT_eq hf),bytes_beq]
  simp
theorem sameL_take:∀{a b:List KC}(n:Nat),KC.sameL a b=true->KC.sameL (a.take n) (b.take n)=true
 |_,_,0,_=>by simp[KC.sameL]
 |[],[],_+1,_=>by simp[KC.sameL]
 |a::r,b::s,n+1,h=>by
  simp only[KC.sameL,Bool.and_eq_true]at h
  simp only[List.take_succ_cons,KC.sameL,h.1,sameL_take n h.2,Bool.and_self]
 |[],_::_,_,h=>by simp[KC.sameL]at h
 |_::_,[],_,h=>by simp[KC.sameL]at h
theorem sameL_drop:∀{a b:List KC}(n:Nat),KC.sameL a b=true->KC.sameL (a.drop n) (b.drop n)=true
 |_,_,0,h=>by simpa using h
 |[],[],_+1,_=>by simp[KC.sameL]
 |a::r,b::s,n+1,h=>by
  simp only[KC.sameL,Bool.and_eq_true]at h
  simpa using sameL_drop n h.2
 |[],_::_,_,h=>by simp[KC.sameL]at h
 |_::_,[],_,h=>by simp[KC.sameL]at h
theorem extract_vals{xs:Array Value}{a:List KC}{i n:Nat}(hx:∀j c,a[j]?=some c->xs[i+j]?=some c.val)(hn:n<=a.length):xs.extract i (i+n)=((a.take n).map KC.val).toArray:=by
 apply Array.ext_getElem?
 intro j
 rw[Array.getElem?_extract]
 simp only[List.getElem?_toArray,List.getElem?_map,List.getElem?_take]
 by_cases hj:j<n
 ·have hj2:j<a.length:=by omega
  have h1:=hx j a[j] (List.getElem?_eq_getElem hj2)
  have h2:i+j<xs.size:=(Array.getElem?_eq_some_iff.1 h1).1
  have h3:i+(a.length -1)<xs.size:=by
   have:=hx (a.length -1) _ (List.getElem?_eq_getElem (by omega))
   exact(Array.getElem?_eq_some_iff.1 this).1
  rw[if_pos (by omega),if_pos hj,h1,List.getElem?_eq_getElem hj2];rfl
 ·rw[if_neg (by omega),if_neg hj];rfl
theorem part_agg{f:TypeId}{cs:Array Value}{off:Nat}(h:aggOf P f=some true)(hp:0<P.cellsOf f):(part f cs off).run P w=.ok (.agg (cs.extract off (off+P.cellsOf f))) w:=by
 obtain⟨inf,hi⟩:=info_pos hp
 have he:P.cellsOf f=inf.size:=by simp[Program.cellsOf,hi]
 simp only[part,Sem.run_bind,run_isAgg h,Result.andThen_ok,if_true,run_sizeOf hi,Sem.run_pure,he]
theorem decide_take(a b:List KC)(n:Nat):decide (a=b)=(decide (a.take n=b.take n)&&decide (a.drop n=b.drop n)):=by
 apply Bool.eq_iff_iff.2
 simp only[decide_eq_true_eq,Bool.and_eq_true]
 constructor
 ·rintro rfl;exact⟨rfl,rfl⟩
 ·rintro⟨h1,h2⟩
  rw[<-List.take_append_drop n a,h1,h2,List.take_append_drop]
theorem run_eqFlds(d:Nat)(xs ys:Array Value)(sub:TypeId->List KC->Bool)(hsub:∀t a b,sub t a=true->KC.sameL a b=true->(Op.equalIn (d+1) t (.agg (a.map KC.val).toArray) (.agg (b.map KC.val).toArray)).run P w=.ok (decide (a=b)) w):
 ∀(fs:List Field)(i:Nat)(a b:List KC),fldsFit P sub fs i a=true->KC.sameL a b=true->
 (∀j c,a[j]?=some c->xs[i+j]?=some c.val)->(∀j c,b[j]?=some c->ys[i+j]?=some c.val)->(Op.eqFields (d+1) xs ys fs).run P w=.ok (decide (a=b)) w
 |[],i,[],b,hf,hs,_,_=>by
  cases b with
  |nil=>simp[Op.eqFields]
  |cons _ _=>simp[KC.sameL]at hs
 |[],i,_::_,b,hf,hs,_,_=>by simp[fldsFit]at hf
 |f::fs,i,a,b,hf,hs,hx,hy=>by
  simp only[fldsFit,Bool.and_eq_true,decide_eq_true_eq]at hf
  obtain⟨rfl,h2,h3⟩:=hf
  split at h3
  ·rename_i hag
   split at h3
   ·rename_i c r
    simp only[Bool.and_eq_true]at h3
    obtain⟨h4,h5⟩:=h3
    cases b with
    |nil=>simp[KC.sameL]at hs
    |cons c' r'=>
     simp only[KC.sameL,Bool.and_eq_true]at hs
     have hx0:=hx 0 c rfl
     have hy0:=hy 0 c' rfl
     simp only[Nat.add_zero]at hx0 hy0
     have ih:=run_eqFlds d xs ys sub hsub fs (f.offset+1) r r' h5 hs.2 (λj e he=>by have:=hx (j+1) e (by simpa using he);rwa [show f.offset+(j+1)=f.offset+1+j by omega]at this) (λj e he=>by have:=hy (j+1) e (by simpa using he);rwa [show f.offset+(j+1)=f.offset+1+j by omega]at this)
     simp only[Op.eqFields,h2,ne_eq,not_false_eq_true,if_true,Sem.run_bind,part,run_isAgg hag,Result.andThen_ok,Bool.false_eq_true,if_false,hx0,hy0,Sem.run_pure,run_eqKC d h4 hs.1]
     by_cases e:c=c'
     ·subst e
      simp only[decide_true,Bool.not_true,Bool.false_eq_true,if_false,ih]
      simp
     ·simp[e]
   ·cases h3
  ·rename_i hag
   simp only[Bool.and_eq_true]at h3
   obtain⟨h4,h5,h6⟩:=h3
   obtain⟨hpos,hle⟩:=of_decide_eq_true h4
   have hlen:=same_len hs
   have ih:=run_eqFlds d xs ys sub hsub fs (f.offset+P.cellsOf f.type) (a.drop (P.cellsOf f.type)) (b.drop (P.cellsOf f.type)) h6 (sameL_drop _ hs)
    (λj e he=>by have:=hx (P.cellsOf f.type+j) e (by simpa using he);rwa [<-Nat.add_assoc]at this) (λj e he=>by have:=hy (P.cellsOf f.type+j) e (by simpa using he);rwa [<-Nat.add_assoc]at this)
   have hq:=hsub f.type _ _ h5 (sameL_take (P.cellsOf f.type) hs)
   have ex:=extract_vals hx hle
   have ey:=extract_vals (n:=P.cellsOf f.type) hy (by omega)
   simp only[Op.eqFields,h2,ne_eq,not_false_eq_true,if_true,Sem.run_bind,part_agg hag hpos,Result.andThen_ok,ex,ey,hq]
   rw[decide_take a b (P.cellsOf f.type)]
   by_cases e:a.take (P.cellsOf f.type)=b.take (P.cellsOf f.type)
   ·simp only[e,decide_true,Bool.not_true,Bool.false_eq_true,if_false,ih,Bool.true_and]
   ·simp[e]
  ·cases h3
theorem run_eqAgg(d:Nat):∀(dep:Nat)(t:TypeId)(a b:List KC),aggFits P dep t a=true->KC.sameL a b=true->(Op.equalIn (d+dep+1) t (.agg (a.map KC.val).toArray) (.agg (b.map KC.val).toArray)).run P w=.ok (decide (a=b)) w
 |0,_,_,_,h,_=>by simp[aggFits]at h
 |dep+1,t,a,b,hf,hs=>by
  unfold aggFits at hf
  split at hf
  ·rename_i fs hu
   simp only[Bool.and_eq_true,Bool.not_eq_true']at hf
   have hfo:P.fieldsOf t=fs:=by simp[Program.fieldsOf,hu]
   rw[run_equalIn_struct w (d+(dep+1)) t _ _ (by rw[hfo];exact hu) hf.1,hfo]
   exact run_eqFlds (d+dep) _ _ (aggFits P dep) (run_eqAgg d dep) fs.toList 0 a b hf.2 hs (λj c h=>by simp[h]) (λj c h=>by simp[h])
  ·cases hf
theorem val_getElem(l:List KC)(j:Nat)(c:KC)(h:l[j]?=some c):((l.map KC.val).toArray)[0+j]?=some c.val:=by
 simp[h]
theorem run_eqKy(d:Nat){t:TypeId}{a b:Ky}(hf:a.fits P t=true)(hs:a.same b=true):(Op.equalIn (d+5) t a.val b.val).run P w=.ok (decide (a=b)) w:=by
 cases a<;>cases b<;>simp only[Ky.same]at hs<;>(try cases hs)
 ·simp only[Ky.val,run_eqKC (d+4) hf hs];simp
 ·rename_i x y
  simp only[Ky.val,run_eqAgg d 4 t x y hf hs];simp
theorem run_equalKy{t:TypeId}{a b:Ky}(hf:a.fits P t=true)(hs:a.same b=true):(Op.equal t a.val b.val).run P w=.ok (decide (a=b)) w:=run_eqKy 9995 hf hs
theorem run_checkKC(em:Bool)(n:Nat){t:TypeId}{c:KC}(hf:c.fits P t=true):(Instr.checkKey em (n+1) t c.val).run P w=.ok () w:=by
 cases c with
 |int k x=>
  unfold KC.fits at hf;simp only at hf
  split at hf
  ·rename_i k2 hu;simp[Instr.checkKey,run_underlying hu,KC.val]
  ·cases hf
 |bool x=>simp[Instr.checkKey,run_underlying (isBoolT_eq hf),KC.val]
 |str x=>simp[Instr.checkKey,run_underlying (isStrT_eq hf),KC.val]
theorem run_checkFlds(em:Bool)(n:Nat)(cs:Array Value)(sub:TypeId->List KC->Bool)(hsub:∀t a,sub t a=true->(Instr.checkKey em (n+1) t (.agg (a.map KC.val).toArray)).run P w=.ok () w):
 ∀(fs:List Field)(i:Nat)(l:List KC),fldsFit P sub fs i l=true->(∀j c,l[j]?=some c->cs[i+j]?=some c.val)->
 (forIn fs PUnit.unit (λf(_:PUnit)=>if f.name≠ "_" then(do let v<-part f.type cs f.offset;Instr.checkKey em (n+1) f.type v;pure (ForInStep.yield PUnit.unit))else pure (ForInStep.yield PUnit.unit)):Sem PUnit).run P w=.ok PUnit.unit w
 |[],i,[],_,_=>by simp
 |[],i,_::_,hf,_=>by simp[fldsFit]at hf
 |f::fs,i,l,hf,hx=>by
  simp only[fldsFit,Bool.and_eq_true,decide_eq_true_eq]at hf
  obtain⟨rfl,h2,h3⟩:=hf
  split at h3
  ·rename_i hag
   split at h3
   ·rename_i c r
    simp only[Bool.and_eq_true]at h3
    obtain⟨h4,h5⟩:=h3
    have hx0:=hx 0 c rfl
    simp only[Nat.add_zero]at hx0
    have ih:=run_checkFlds em n cs sub hsub fs (f.offset+1) r h5 (λj e he=>by have:=hx (j+1) e (by simpa using he);rwa [show f.offset+(j+1)=f.offset+1+j by omega]at this)
    simp only[List.forIn_cons,h2,ne_eq,not_false_eq_true,if_true,Sem.run_bind,part,run_isAgg hag,Result.andThen_ok,Bool.false_eq_true,if_false,hx0,Sem.run_pure,run_checkKC em n h4]
    exact ih
   ·cases h3
  ·rename_i hag
   simp only[Bool.and_eq_true]at h3
   obtain⟨h4,h5,h6⟩:=h3
   obtain⟨hpos,hle⟩:=of_decide_eq_true h4
   have ih:=run_checkFlds em n cs sub hsub fs (f.offset+P.cellsOf f.type) (l.drop (P.cellsOf f.type)) h6 (λj e he=>by have:=hx (P.cellsOf f.type+j) e (by simpa using he);rwa [<-Nat.add_assoc]at this)
   simp only[List.forIn_cons,h2,ne_eq,not_false_eq_true,if_true,Sem.run_bind,part_agg hag hpos,Result.andThen_ok,extract_vals hx hle,hsub _ _ h5,Sem.run_pure]
   exact ih
  ·cases h3
theorem run_checkAgg(em:Bool)(n:Nat):∀(dep:Nat)(t:TypeId)(l:List KC),aggFits P dep t l=true->(Instr.checkKey em (n+dep+1) t (.agg (l.map KC.val).toArray)).run P w=.ok () w
 |0,_,_,h=>by simp[aggFits]at h
 |dep+1,t,l,hf=>by
  unfold aggFits at hf
  split at hf
  ·rename_i fs hu
   simp only[Bool.and_eq_true,Bool.not_eq_true']at hf
   have:=run_checkFlds (w:=w) em (n+dep) (l.map KC.val).toArray (aggFits P dep) (run_checkAgg em n dep) fs.toList 0 l hf.2 (val_getElem l)
   rw[Instr.checkKey]
   simp only[Sem.run_bind,run_underlying hu,Result.andThen_ok]
   rw[<-Array.forIn_toList]
   rw[show n+(dep+1)=n+dep+1 by omega]
   simp only[this,Result.andThen_ok,Sem.run_pure]
  ·cases hf
theorem run_checkKy(em:Bool)(n:Nat){t:TypeId}{k:Ky}(hf:k.fits P t=true):(Instr.checkKey em (n+5) t k.val).run P w=.ok () w:=by
 cases k with
 |one c=>exact run_checkKC em (n+4) hf
 |agg l=>exact run_checkAgg em n 4 t l hf
def findZ(k:Ky):List (Ky×MapEntry)->Nat->Option (Nat×Value)
 |[],_=>none
 |p::r,i=>if k=p.1 then some (i,p.2.val)else findZ k r (i+1)
theorem findAsk{t:TypeId}{k:Ky}(hf:k.fits P t=true):∀(z:List (Ky×MapEntry))(i:Nat),(∀p∈z,p.2.key=p.1.val)->(∀p∈z,k.same p.1=true)->(Instr.findAsking t k.val (z.map (·.2)) i).run P w=.ok (findZ k z i) w
 |[],i,_,_=>by simp[Instr.findAsking,findZ]
 |p::r,i,hk,hs=>by
  have ih:=findAsk hf r (i+1) (λq hq=>hk q (by simp[hq])) (λq hq=>hs q (by simp[hq]))
  simp only[List.map_cons,Instr.findAsking,findZ,Sem.run_bind,hk p (by simp),run_equalKy hf (hs p (by simp)),Result.andThen_ok]
  by_cases e:k=p.1
  ·simp[e]
  ·simp[e,ih]
theorem findNow_one{d:TypeDesc}{t:TypeId}{c:KC}(hu:P.underlying t=some d)(hf:c.fits P t=true):∀(z:List (Ky×MapEntry))(i:Nat),(∀p∈z,p.2.key=p.1.val)->(∀p∈z,(Ky.one c).same p.1=true)->Instr.findNow d c.val (z.map (·.2)) i=some (findZ (.one c) z i)
 |[],i,_,_=>by simp[Instr.findNow,findZ]
 |p::r,i,hk,hs=>by
  have ih:=findNow_one hu hf r (i+1) (λq hq=>hk q (by simp[hq])) (λq hq=>hs q (by simp[hq]))
  have hsp:=hs p (by simp)
  simp only[List.map_cons,Instr.findNow,findZ,hk p (by simp)]
  cases hp:p.1 with
  |agg l=>rw[hp]at hsp;simp[Ky.same]at hsp
  |one c'=>
   rw[hp]at hsp
   simp only[Ky.same]at hsp
   have key:Instr.sameNow d c.val c'.val=some (decide (c=c')):=by
    cases c<;>cases c'<;>simp only[KC.same]at hsp<;>(try cases hsp)
    ·rename_i k n k' n'
     have:=of_decide_eq_true hsp;subst this
     unfold KC.fits at hf;simp only at hf
     split at hf
     ·rename_i k2 hu2;rw[hu]at hu2;simp at hu2;subst hu2
      simp[Instr.sameNow,KC.val];exact Bool.eq_iff_iff.2 (by simp)
     ·cases hf
    ·rename_i x y
     have:=isBoolT_eq hf;rw[hu]at this;simp at this;subst this
     cases x<;>cases y<;>rfl
    ·rename_i x y
     have:=isStrT_eq hf;rw[hu]at this;simp at this;subst this
     simp only[Instr.sameNow,KC.val,beq_toListBytes,bytes_beq];simp
   simp only[Ky.val,key,Ky.one.injEq]
   by_cases e:c=c'
   ·simp[e]
   ·simp only[e,decide_false,if_false];exact ih
theorem run_findKy{t:TypeId}{k:Ky}(hf:k.fits P t=true)(z:List (Ky×MapEntry))(hk:∀p∈z,p.2.key=p.1.val)(hs:∀p∈z,k.same p.1=true):(Instr.findKey t k.val (z.map (·.2))).run P w=.ok (findZ k z 0) w:=by
 cases k with
 |one c=>
  have hd:∃d,P.underlying t=some d:=by
   cases c with
   |int k n=>unfold Ky.fits KC.fits at hf;simp only at hf;split at hf
             ·exact⟨_,by assumption⟩
             ·cases hf
   |bool b=>exact⟨_,isBoolT_eq hf⟩
   |str b=>exact⟨_,isStrT_eq hf⟩
  obtain⟨d,hu⟩:=hd
  simp only[Instr.findKey,Sem.run_bind,run_underlying hu,Result.andThen_ok,Ky.val,findNow_one hu hf z 0 hk hs,Sem.run_pure]
 |agg l=>
  have hu:∃fs,P.underlying t=some (.struct fs):=by
   unfold Ky.fits aggFits at hf;simp only at hf
   split at hf
   ·exact⟨_,by assumption⟩
   ·cases hf
  obtain⟨fs,hu⟩:=hu
  cases z with
  |nil=>simp[Instr.findKey,run_underlying hu,Instr.findNow,findZ]
  |cons p r=>
   have hn:Instr.findNow (.struct fs) (Ky.agg l).val ((p::r).map (·.2)) 0=none:=by
    simp only[List.map_cons,Instr.findNow]
    rfl
   simp only[Instr.findKey,Sem.run_bind,run_underlying hu,Result.andThen_ok,hn]
   exact findAsk hf (p::r) 0 hk hs
end
end Go.Pv
namespace Go.Pv
open Go.RowKit
theorem perm_map_inv{α β:Type}{f:α->β}{l1 l:List β}(h:l1.Perm l):∀{l2:List α},l=l2.map f->∃l2':List α,l2'.Perm l2/\l1=l2'.map f:=by
 induction h with
 |nil=>
  intro l2 e
  cases l2 with
  |nil=>exact⟨[],.nil,rfl⟩
  |cons a r=>simp at e
 |cons x h ih=>
  intro l2 e
  cases l2 with
  |nil=>simp at e
  |cons a r=>
   simp at e
   obtain⟨l',h1,h2⟩:=ih e.2
   exact⟨a::l',h1.cons a,by simp[e.1,h2]⟩
 |swap x y l=>
  intro l2 e
  cases l2 with
  |nil=>simp at e
  |cons a r=>
   cases r with
   |nil=>simp at e
   |cons b r=>
    simp at e
    obtain⟨rfl,rfl,rfl⟩:=e
    exact⟨b::a::r,.swap _ _ _,rfl⟩
 |trans h1 h2 ih1 ih2=>
  intro l2 e
  obtain⟨l',g1,g2⟩:=ih2 e
  obtain⟨l'',g3,g4⟩:=ih1 g2
  exact⟨l'',g3.trans g1,g4⟩
structure MZ(w:World)(M:Nat->Prop)(m:Mem)(ρ:Nat->Value)(es:Array MapEntry)(clock:Nat)(kv:List (Ky×A))(z:List ((Ky×A)×MapEntry)):Prop where
 toList:es.toList=z.map (·.2)
 perm:(z.map (·.1)).Perm kv
 key:∀p∈z,p.2.key=p.1.1.val
 den:∀p∈z,A.Den w M m ρ p.1.2 p.2.val
 nodup:(z.map (·.1.1)).Nodup
 born:(z.map (·.2.born)).Nodup
 old:∀p∈z,p.2.born<clock
section
variable{w:World}{M:Nat->Prop}{m:Mem}{ρ:Nat->Value}{es:Array MapEntry}{clock:Nat}{kv:List (Ky×A)}
theorem zip_fst{α β:Type}:∀{l:List α}{r:List β},l.length=r.length->(l.zip r).map (·.1)=l
 |[],[],_=>rfl
 |a::l,b::r,h=>by simp at h;simp[zip_fst h]
 |[],_::_,h=>by simp at h
 |_::_,[],h=>by simp at h
theorem zip_snd{α β:Type}:∀{l:List α}{r:List β},l.length=r.length->(l.zip r).map (·.2)=r
 |[],[],_=>rfl
 |a::l,b::r,h=>by simp at h;simp[zip_snd h]
 |[],_::_,h=>by simp at h
 |_::_,[],h=>by simp at h
theorem mz_of{l:List MapEntry}(h:MapIs es clock (kv.map (·.1)) l)(hd:A.DenL w M m ρ (kv.map (·.2)) (l.map (·.val))):∃z,MZ w M m ρ es clock kv z:=by
 have hlen:kv.length=l.length:=by have:=congrArg List.length h.keys;simpa using this.symm
 obtain⟨z,h1,h2⟩:=perm_map_inv (f:=λp:(Ky×A)×MapEntry=>p.2) h.perm (zip_snd hlen).symm
 have hz:∀p∈z,∃j:Nat,kv[j]?=some p.1/\l[j]?=some p.2:=by
  intro p hp
  have:=h1.mem_iff.1 hp
  obtain⟨j,hj,e⟩:=List.mem_iff_getElem.1 this
  refine⟨j,?_,?_⟩
  ·have:(kv.zip l)[j]?=some p:=by rw[List.getElem?_eq_getElem hj,e]
   rw[List.getElem?_zip_eq_some]at this;exact this.1
  ·have:(kv.zip l)[j]?=some p:=by rw[List.getElem?_eq_getElem hj,e]
   rw[List.getElem?_zip_eq_some]at this;exact this.2
 rw[A.DenL_iff]at hd
 refine⟨z,h2,?_,λp hp=>?_,λp hp=>?_,?_,?_,λp hp=>?_⟩
 ·have:=h1.map (·.1);rwa [zip_fst hlen]at this
 ·obtain⟨j,e1,e2⟩:=hz p hp
  have e3:(l.map (·.key))[j]?=some p.2.key:=by simp[e2]
  rw[h.keys]at e3
  simp[e1]at e3
  exact e3.symm
 ·obtain⟨j,e1,e2⟩:=hz p hp
  exact hd.2 j _ _ (by simp[e1]) (by simp[e2])
 ·have:(z.map (·.1.1)).Perm (kv.map (·.1)):=by
   have:=(h1.map (·.1)).map (·.1)
   rw[zip_fst hlen,List.map_map]at this;exact this
  exact(this.nodup_iff).2 h.nodup
 ·have:(z.map (·.2.born)).Perm (l.map (·.born)):=by
   have:=(h1.map (·.2)).map (·.born)
   rw[zip_snd hlen,List.map_map]at this;exact this
  exact(this.nodup_iff).2 h.born
 ·obtain⟨j,e1,e2⟩:=hz p hp
  exact h.old _ (List.mem_of_getElem? e2)
theorem of_mz{z:List ((Ky×A)×MapEntry)}(h:MZ w M m ρ es clock kv z):∃l,MapIs es clock (kv.map (·.1)) l/\A.DenL w M m ρ (kv.map (·.2)) (l.map (·.val)):=by
 obtain⟨z',h1,h2⟩:=perm_map_inv (f:=λp:(Ky×A)×MapEntry=>p.1) h.perm.symm rfl
 refine⟨z'.map (·.2),⟨?_,?_,?_,?_,?_⟩,?_⟩
 ·rw[h.toList];exact(h1.map _).symm
 ·rw[h2,List.map_map,List.map_map,List.map_map]
  exact List.map_congr_left λp hp=>h.key p (h1.mem_iff.1 hp)
 ·rw[h2,List.map_map]
  exact((h1.map (·.1.1)).nodup_iff).2 h.nodup
 ·rw[List.map_map];exact((h1.map (·.2.born)).nodup_iff).2 h.born
 ·intro e he
  obtain⟨p,hp,rfl⟩:=List.mem_map.1 he
  exact h.old p (h1.mem_iff.1 hp)
 ·rw[A.DenL_iff]
  refine⟨by simp[h2],λj c y hc hy=>?_⟩
  rw[h2]at hc
  simp only[List.map_map,List.getElem?_map,Option.map_eq_some_iff]at hc hy
  obtain⟨p,hp,rfl⟩:=hc
  obtain⟨q,hq,rfl⟩:=hy
  rw[hp]at hq;cases hq
  exact h.den p (h1.mem_iff.1 (List.mem_of_getElem? hp))
def kvGet(k:Ky):List (Ky×A)->Option A
 |[]=>none
 |p::r=>if k=p.1 then some p.2 else kvGet k r
theorem kvGet_some{k:Ky}{a:A}:∀{kv:List (Ky×A)},kvGet k kv=some a->(k,a)∈kv
 |[],h=>by simp[kvGet]at h
 |p::r,h=>by
  simp only[kvGet]at h
  split at h
  ·rename_i e;simp at h;subst h;subst e;simp
  ·simp[kvGet_some h]
theorem kvGet_none{k:Ky}:∀{kv:List (Ky×A)},kvGet k kv=none->∀p∈kv,k≠p.1
 |[],_,p,hp=>by simp at hp
 |q::r,h,p,hp=>by
  simp only[kvGet]at h
  split at h
  ·cases h
  ·rename_i e
   simp only[List.mem_cons]at hp
   rcases hp with rfl|hp
   ·exact e
   ·exact kvGet_none h p hp
theorem findZ_some{k:Ky}:∀{z:List ((Ky×A)×MapEntry)}{i n:Nat}{v:Value},findZ k (z.map λp=>(p.1.1,p.2)) n=some (i,v)->∃p,z[i -n]?=some p/\n<=i/\p.1.1=k/\v=p.2.val
 |[],i,n,v,h=>by simp[findZ]at h
 |p::r,i,n,v,h=>by
  simp only[List.map_cons,findZ]at h
  split at h
  ·rename_i e;simp at h;obtain⟨rfl,rfl⟩:=h;exact⟨p,by simp,Nat.le_refl _,e.symm,rfl⟩
  ·obtain⟨q,h1,h2,h3,h4⟩:=findZ_some h
   refine⟨q,?_,by omega,h3,h4⟩
   rw[show i -n=(i -(n+1))+1 by omega];simpa using h1
theorem findZ_none{k:Ky}:∀{z:List ((Ky×A)×MapEntry)}{n:Nat},findZ k (z.map λp=>(p.1.1,p.2)) n=none->∀p∈z,k≠p.1.1
 |[],n,_,p,hp=>by simp at hp
 |q::r,n,h,p,hp=>by
  simp only[List.map_cons,findZ]at h
  split at h
  ·cases h
  ·rename_i e
   simp only[List.mem_cons]at hp
   rcases hp with rfl|hp
   ·exact e
   ·exact findZ_none h p hp
theorem MZ.find{z:List ((Ky×A)×MapEntry)}(h:MZ w M m ρ es clock kv z)(k:Ky):
 (findZ k (z.map λp=>(p.1.1,p.2)) 0=none/\kvGet k kv=none)\/∃i p,findZ k (z.map λp=>(p.1.1,p.2)) 0=some (i,p.2.val)/\z[i]?=some p/\p.1.1=k/\kvGet k kv=some p.1.2:=by
 cases hf:findZ k (z.map λp=>(p.1.1,p.2)) 0 with
 |none=>
  left
  refine⟨rfl,?_⟩
  cases hg:kvGet k kv with
  |none=>rfl
  |some a=>
   have:=h.perm.mem_iff.2 (kvGet_some hg)
   obtain⟨p,hp,e⟩:=List.mem_map.1 this
   exact absurd (by rw[e]) (findZ_none hf p hp)
 |some r=>
  right
  obtain⟨i,v⟩:=r
  obtain⟨p,h1,_,h2,rfl⟩:=findZ_some hf
  refine⟨i,p,rfl,by simpa using h1,h2,?_⟩
  have hm:p.1∈kv:=h.perm.mem_iff.1 (List.mem_map.2 ⟨p,List.mem_of_getElem? h1,rfl⟩)
  have hnd:(kv.map (·.1)).Nodup:=by
   have:=(h.perm.map (·.1)).nodup_iff
   rw[List.map_map]at this
   exact this.1 h.nodup
  subst h2
  cases hg:kvGet p.1.1 kv with
  |none=>exact absurd rfl (kvGet_none hg p.1 hm)
  |some a=>
   have h3:=kvGet_some hg
   have:∀{kv:List (Ky×A)}{k:Ky}{a b:A},(kv.map (·.1)).Nodup->(k,a)∈kv->(k,b)∈kv->a=b:=by
    intro kv k a b
    induction kv with
    |nil=>simp
    |cons q r ih=>
     intro hn h1 h2
     simp only[List.map_cons,List.nodup_cons,List.mem_map]at hn
     simp only[List.mem_cons]at h1 h2
     rcases h1 with h1|h1<;>rcases h2 with h2|h2
     ·rw[<-h1]at h2;cases h2;rfl
     ·exact absurd ⟨(k,b),h2,by rw[<-h1]⟩ hn.1
     ·exact absurd ⟨(k,a),h1,by rw[<-h2]⟩ hn.1
     ·exact ih hn.2 h1 h2
   rw[this hnd h3 hm]
end
def kcOf:Value->Option KC
 |.int k n=>some (.int k n)
 |.bool b=>some (.bool b)
 |.string s=>some (.str s)
 |_=>none
theorem kcOf_val{v:Value}{c:KC}(h:kcOf v=some c):v=c.val:=by
 cases v<;>simp[kcOf]at h<;>(subst h;rfl)
def kcC:C->Option KC
 |.v x=>kcOf x
 |_=>none
def kcA:A->Option KC
 |.d c=>kcC c
 |_=>none
def kcsC:List C->Option (List KC)
 |[]=>some []
 |c::r=>match kcC c,kcsC r with
  |some k,some l=>some (k::l)
  |_,_=>none
def kcsA:List A->Option (List KC)
 |[]=>some []
 |c::r=>match kcA c,kcsA r with
  |some k,some l=>some (k::l)
  |_,_=>none
def keyOf:A->Option Ky
 |.d (.v v)=>(kcOf v).map .one
 |.d (.agg l)=>(kcsC l).map .agg
 |.agg l=>(kcsA l).map .agg
 |_=>none
section
variable{w:World}{M:Nat->Prop}{m:Mem}{ρ:Nat->Value}
theorem kcC_den{c:C}{k:KC}{y:Value}(h:kcC c=some k)(hd:c.Den w M y):y=k.val:=by
 cases c<;>simp[kcC]at h
 simp only[C.Den]at hd
 rw[hd];exact kcOf_val h
theorem kcA_den{c:A}{k:KC}{y:Value}(h:kcA c=some k)(hd:c.Den w M m ρ y):y=k.val:=by
 cases c<;>simp[kcA]at h
 simp only[A.Den]at hd
 exact kcC_den h hd
theorem kcsC_den:∀{l:List C}{ks:List KC}{ys:List Value},kcsC l=some ks->C.DenL w M l ys->ys=ks.map KC.val
 |[],ks,ys,h,hd=>by simp only[kcsC,Option.some.injEq]at h;subst h;simpa only[C.DenL,List.map_nil]using hd
 |c::r,ks,ys,h,hd=>by
  simp only[kcsC]at h
  split at h
  ·rename_i k l h1 h2
   simp only[Option.some.injEq]at h;subst h
   simp only[C.DenL]at hd
   obtain⟨y,yr,rfl,h3,h4⟩:=hd
   rw[kcC_den h1 h3,kcsC_den h2 h4];rfl
  ·cases h
theorem kcsA_den:∀{l:List A}{ks:List KC}{ys:List Value},kcsA l=some ks->A.DenL w M m ρ l ys->ys=ks.map KC.val
 |[],ks,ys,h,hd=>by simp only[kcsA,Option.some.injEq]at h;subst h;simpa only[A.DenL,List.map_nil]using hd
 |c::r,ks,ys,h,hd=>by
  simp only[kcsA]at h
  split at h
  ·rename_i k l h1 h2
   simp only[Option.some.injEq]at h;subst h
   simp only[A.DenL]at hd
   obtain⟨y,yr,rfl,h3,h4⟩:=hd
   rw[kcA_den h1 h3,kcsA_den h2 h4];rfl
  ·cases h
theorem keyOf_den{x:A}{k:Ky}{y:Value}(h:keyOf x=some k)(hd:x.Den w M m ρ y):y=k.val:=by
 cases x with
 |d c=>
  cases c with
  |v v=>
   simp only[keyOf,Option.map_eq_some_iff]at h
   obtain⟨c,h1,rfl⟩:=h
   simp only[A.Den,C.Den]at hd
   rw[hd];exact kcOf_val h1
  |agg l=>
   simp only[keyOf,Option.map_eq_some_iff]at h
   obtain⟨c,h1,rfl⟩:=h
   simp only[A.Den,C.Den]at hd
   obtain⟨vs,rfl,_,h2⟩:=hd
   have:=kcsC_den h1 h2
   simp only[Ky.val]
   rw[<-this]
  |_=>simp[keyOf]at h
 |agg l=>
  simp only[keyOf,Option.map_eq_some_iff]at h
  obtain⟨c,h1,rfl⟩:=h
  simp only[A.Den]at hd
  obtain⟨vs,rfl,_,h2⟩:=hd
  have:=kcsA_den h1 h2
  simp only[Ky.val]
  rw[<-this]
 |_=>simp[keyOf]at h
end
def zeroA(P:Program)(t:TypeId):Option A:=
 match P.info? t with
 |some i=>match i.zero with
  |some (.agg _)=>(zeroC P t).map λz=>.d (.agg z)
  |some _=>match zeroC P t with
   |some [c]=>some (.d c)
   |_=>none
  |none=>none
 |none=>none
theorem zeroA_run{P:Program}{t:TypeId}{a:A}(h:zeroA P t=some a)(w:World):∃v,(zeroValue t).run P w=.ok v w/\∀w M m ρ,a.Den w M m ρ v:=by
 unfold zeroA at h
 split at h
 ·rename_i i hi
  split at h
  ·rename_i cs hz
   simp only[Option.map_eq_some_iff]at h
   obtain⟨z,h1,rfl⟩:=h
   obtain⟨zv,h2,h3,⟨i',h4,h5⟩,h6⟩:=zeroC_run h1 w
   rw[hi]at h4;cases h4
   rw[hz]at h5;cases h5
   exact⟨_,h2,λw M m ρ=>by simp only[A.Den,C.Den];exact⟨cs,rfl,h6,h3 w M⟩⟩
  ·rename_i v hne hz
   split at h
   ·rename_i c h1
    simp only[Option.some.injEq]at h;subst h
    obtain⟨zv,h2,h3,⟨i',h4,h5⟩,h6⟩:=zeroC_run h1 w
    rw[hi]at h4;cases h4
    rw[hz]at h5;cases h5
    refine⟨_,h2,λw M m ρ=>?_⟩
    have h7:=h3 w M
    have hc:v.cells= #[v]:=by cases v<;>first|rfl|exact(hne _ rfl).elim
    rw[hc]at h7
    simp only[C.DenL]at h7
    obtain⟨y,yr,e,h8,_⟩:=h7
    simp at e
    simp only[A.Den];rw[e.1];exact h8
   ·cases h
  ·cases h
 ·cases h
end Go.Pv
namespace Go.Pv
open Go.RowKit
def mapT(P:Program)(t:TypeId):Option (TypeId×TypeId):=
 match P.underlying t with
 |some (.map k e)=>some (k,e)
 |_=>none
theorem mapT_eq{P:Program}{t k e:TypeId}(h:mapT P t=some (k,e)):P.underlying t=some (.map k e):=by
 unfold mapT at h
 split at h
 ·rename_i hu;simp at h;obtain⟨rfl,rfl⟩:=h;exact hu
 ·cases h
def fitK(P:Program)(kt:TypeId)(k:Ky)(kv:List (Ky×A)):Bool:=k.fits P kt&&kv.all λp=>k.same p.1
def okA(ok:Bool)(a:A)(b:Bool):A:=if ok then .tup [a,.d (.v (.bool b))]else a
def effLookup(P:Program)(m:Mem)(t:TypeId)(x ix:A)(ok:Bool):Option E:=
 match mapT P t,keyOf ix with
 |some (kt,et),some k=>match zeroA P et with
  |some z=>match x with
   |.h i=>match m i with
    |some (.mp _ kv _)=>match kvGet k kv with
     |some a=>some (fitK P kt k kv,okA ok a true,[])
     |none=>some (fitK P kt k kv,okA ok z false,[])
    |_=>none
   |.d (.im ks vs)=>match kvGet k (ks.zip (vs.map A.d))with
    |some a=>some (fitK P kt k (ks.zip (vs.map A.d)),okA ok a true,[])
    |none=>some (fitK P kt k (ks.zip (vs.map A.d)),okA ok z false,[])
   |.d (.v (.map none))=>some (k.fits P kt,okA ok z false,[])
   |_=>none
  |none=>none
 |_,_=>none
def effMapSet(P:Program)(m:Mem)(t:TypeId)(x ix a:A):Option E:=
 match mapT P t,keyOf ix,x with
 |some (kt,_),some k,.h i=>match m i with
  |some (.mp false kv st)=>match kvGet k kv with
   |some _=>some (fitK P kt k kv,.x,[(i,.mp false (kv.map λp=>if p.1=k then(k,a)else p) st)])
   |none=>some (fitK P kt k kv,.x,[(i,.mp false (kv++[(k,a)]) (st.filter λp=>p.1 !=k&&p.1 !=.agg []))])
  |_=>none
 |_,_,_=>none
def effDelete(P:Program)(m:Mem)(t:TypeId)(x ix:A):Option E:=
 match mapT P t,keyOf ix,x with
 |some (kt,_),some k,.h i=>match m i with
  |some (.mp false kv st)=>some (fitK P kt k kv,.tup [],[(i,.mp false (kv.filter λp=>p.1 !=k) (st.filter λp=>p.1 !=k))])
  |_=>none
 |some (kt,_),some k,.d (.v (.map none))=>some (k.fits P kt,.tup [],[])
 |_,_,_=>none
section
variable{M0 S0:Nat->Prop}{w0:World}{N:Fr}{T:Nat->A}{m:Mem}{ρ:Nat->Value}{a:Act}{w:World}{P:Program}
theorem run_getMap{b:Nat}{es:Array MapEntry}{cl:Nat}(h:w.heap[b]?=some (.map es cl)):(getObj b).run P w=.ok (.map es cl) w:=by
 simp[getObj,Sem.run,h]
theorem mp_mz(h:SatAt M0 S0 w0 N T m ρ a w){i:Nat}{fz:Bool}{kv:List (Ky×A)}{st:List (Ky×Nat)}(hi:m i=some (.mp fz kv st)):
 ∃b es cl z,ρ i=.map (some b)/\w.heap[b]?=some (.map es cl)/\MZ w (Mut M0 m ρ) m ρ es cl kv z/\StIs m ρ st es.toList cl:=by
 obtain⟨b,es,cl,l,h1,h2,h3,h4,h5,h6⟩:=h.res i _ hi
 obtain⟨z,hz⟩:=mz_of h3 h4
 exact⟨b,es,cl,z,h1,h2,hz,λp hp=>⟨(h6 p hp).1,λhd=>⟨λe he=>((h6 p hp).2 hd).1 e (h3.perm.mem_iff.1 he),((h6 p hp).2 hd).2⟩⟩⟩
theorem okA_den{ok b:Bool}{x:A}{v:Value}{M:Nat->Prop}(h:x.Den w M m ρ v):(okA ok x b).Den w M m ρ (if ok=true then .tuple #[v,.bool b]else v):=by
 unfold okA
 cases ok
 ·simpa using h
 ·simp only[if_true,A.Den]
  exact⟨_,rfl,by simp only[A.DenL,A.Den,C.Den];exact⟨v,_,rfl,h,_,_,rfl,rfl,rfl⟩⟩
theorem fitK_all{kt:TypeId}{k:Ky}{kv:List (Ky×A)}(h:fitK P kt k kv=true){M:Nat->Prop}{es:Array MapEntry}{cl:Nat}{z:List ((Ky×A)×MapEntry)}(hz:MZ w M m ρ es cl kv z):
 k.fits P kt=true/\(Instr.findKey kt k.val es.toList).run P w=.ok (findZ k (z.map λp=>(p.1.1,p.2)) 0) w:=by
 unfold fitK at h
 simp only[Bool.and_eq_true,List.all_eq_true]at h
 refine⟨h.1,?_⟩
 have:=run_findKy (P:=P) (w:=w) h.1 (z.map λp=>(p.1.1,p.2)) (λp hp=>by obtain⟨q,hq,rfl⟩:=List.mem_map.1 hp;exact hz.key q hq) (λp hp=>by
  obtain⟨q,hq,rfl⟩:=List.mem_map.1 hp
  exact h.2 q.1 (hz.perm.mem_iff.1 (List.mem_map.2 ⟨q,hq,rfl⟩)))
 rw[List.map_map]at this
 rw[hz.toList];exact this
def lookV(ok:Bool)(zv:Value):Option (Nat×Value)->Value
 |some p=>if ok=true then .tuple #[p.2,.bool true]else p.2
 |none=>if ok=true then .tuple #[zv,.bool false]else zv
theorem run_lookupKy{t kt et:TypeId}{k:Ky}{ok:Bool}{es:Array MapEntry}{r:Option (Nat×Value)}{zv:Value}{x:Value}(hu:P.underlying t=some (.map kt et))(hx:(x=.map none/\es= #[])\/∃b cl,x=.map (some b)/\w.heap[b]?=some (.map es cl))
 (hf:k.fits P kt=true)(hfind:(Instr.findKey kt k.val es.toList).run P w=.ok r w)(hz:(zeroValue et).run P w=.ok zv w):
 (Instr.lookup t x k.val ok).run P w=.ok (lookV ok zv r) w:=by
 rcases hx with⟨rfl,rfl⟩|⟨b,cl,rfl,hb⟩
 ·simp only[Instr.lookup,Sem.run_bind,run_underlying hu,Result.andThen_ok,Sem.run_pure,run_checkKy _ 9995 hf,hfind]
  cases r with
  |none=>cases ok<;>simp[hz,lookV]
  |some p=>cases ok<;>simp[lookV]
 ·simp only[Instr.lookup,Sem.run_bind,run_underlying hu,Result.andThen_ok,Sem.run_pure,run_getMap hb,run_checkKy _ 9995 hf,hfind]
  cases r with
  |none=>cases ok<;>simp[hz,lookV]
  |some p=>cases ok<;>simp[lookV]
theorem sd_lookup(h:SatAt M0 S0 w0 N T m ρ a w){t:TypeId}{x ix v:A}{y iy:Value}{ok:Bool}{pre:Bool}{ups:List (Nat×R)}(hx:x.Den w (Mut M0 m ρ) m ρ y)(hix:ix.Den w (Mut M0 m ρ) m ρ iy)
 (he:effLookup P m t x ix ok=some (pre,v,ups))(hp:pre=true):ups=[]/\∃z,(Instr.lookup t y iy ok).run P w=.ok z w/\v.Den w (Mut M0 m ρ) m ρ z:=by
 unfold effLookup at he
 split at he
 ·rename_i kt et k hm hk
  have hu:=mapT_eq hm
  have hkv:=keyOf_den hk hix
  subst hkv
  split at he
  ·rename_i zA hzA
   obtain⟨zv,hz1,hz2⟩:=zeroA_run hzA w
   have fin:∀{es:Array MapEntry}{kv:List (Ky×A)}{cl:Nat}{z:List ((Ky×A)×MapEntry)}{b:Nat},y=.map (some b)->w.heap[b]?=some (.map es cl)->MZ w (Mut M0 m ρ) m ρ es cl kv z->fitK P kt k kv=true->
    ∃u,(Instr.lookup t y k.val ok).run P w=.ok u w/\(match kvGet k kv with|some a=>okA ok a true|none=>okA ok zA false).Den w (Mut M0 m ρ) m ρ u:=by
    intro es kv cl z b hy hb hz hfk
    obtain⟨hf,hfind⟩:=fitK_all hfk hz
    have hr:=run_lookupKy (ok:=ok) hu (.inr ⟨b,cl,hy,hb⟩) hf hfind hz1
    refine⟨_,hr,?_⟩
    rcases hz.find k with⟨e1,e2⟩|⟨i,p,e1,e2,e3,e4⟩
    ·rw[e1,e2];exact okA_den (hz2 _ _ _ _)
    ·rw[e1,e4];exact okA_den (hz.den p (List.mem_of_getElem? e2))
   split at he
   ·rename_i i
    split at he
    ·rename_i fz kv st hi
     obtain⟨b,es,cl,z,h1,h2,h3,_⟩:=mp_mz h hi
     simp only[A.Den]at hx
     have hy:=(has_of hx hi (by simp)).trans h1
     have key:ups=[]/\pre=fitK P kt k kv/\v=(match kvGet k kv with|some a=>okA ok a true|none=>okA ok zA false):=by
      split at he<;>(simp only[Option.some.injEq,Prod.mk.injEq]at he;obtain⟨rfl,rfl,rfl⟩:=he;rename_i hg;simp[hg])
     obtain⟨rfl,rfl,rfl⟩:=key
     exact⟨rfl,fin hy h2 h3 hp⟩
    ·cases he
   ·rename_i ks vs
    simp only[A.Den,C.Den]at hx
    obtain⟨b,es,cl,l,hy,_,h2,h3,h4⟩:=hx
    have hlen:ks.length=(vs.map A.d).length:=by
     have e1:=congrArg List.length h3.keys
     have e2:=(C.DenL_iff.1 h4).1
     simp at e1 e2⊢;omega
    obtain⟨z,hz⟩:=mz_of (m:=m) (ρ:=ρ) (M:=Mut M0 m ρ) (kv:=ks.zip (vs.map A.d)) (by rw[zip_fst hlen];exact h3) (by rw[zip_snd hlen];exact A.DenL_map_d.2 h4)
    have key:ups=[]/\pre=fitK P kt k (ks.zip (vs.map A.d))/\v=(match kvGet k (ks.zip (vs.map A.d))with|some a=>okA ok a true|none=>okA ok zA false):=by
     split at he<;>(simp only[Option.some.injEq,Prod.mk.injEq]at he;obtain⟨rfl,rfl,rfl⟩:=he;rename_i hg;simp[hg])
    obtain⟨rfl,rfl,rfl⟩:=key
    exact⟨rfl,fin hy h2 hz hp⟩
   ·simp only[Option.some.injEq,Prod.mk.injEq]at he
    obtain⟨rfl,rfl,rfl⟩:=he
    simp only[A.Den,C.Den]at hx;subst hx
    have hfind:(Instr.findKey kt k.val (#[]:Array MapEntry).toList).run P w=.ok none w:=by
     have:=run_findKy (P:=P) (w:=w) hp [] (by simp) (by simp)
     simpa [findZ]using this
    exact⟨rfl,_,run_lookupKy (ok:=ok) hu (.inl ⟨rfl,rfl⟩) hp hfind hz1,okA_den (hz2 _ _ _ _)⟩
   ·cases he
  ·cases he
 ·cases he
def _root_.Go.World.putObj(w:World)(b:Nat)(o:Obj):World:={w with heap:=w.heap.setIfInBounds b o}
theorem putObj_at{b:Nat}{o o':Obj}(h:w.heap[b]?=some o'):(w.putObj b o).heap[b]?=some o:=by
 have:=(Array.getElem?_eq_some_iff.1 h).1
 simp[World.putObj,this]
theorem putObj_keeps(w:World)(b:Nat)(o:Obj):Keeps (λk=>k=b) w (w.putObj b o):=
 ⟨rfl,rfl,rfl,by simp[World.putObj],λk _ hk=>by
   show(w.heap.setIfInBounds b o)[k]?=_
   rw[Array.getElem?_setIfInBounds_ne (λe=>hk e.symm)]⟩
theorem run_setMap{b:Nat}{es:Array MapEntry}{cl:Nat}{o:Obj}(h:w.heap[b]?=some (.map es cl)):(setObj b o).run P w=.ok () (w.putObj b o):=by
 simp[setObj,Sem.run,h,World.putObj]
theorem map_write(h:SatAt M0 S0 w0 N T m ρ a w){i b:Nat}{kv kv':List (Ky×A)}{st st':List (Ky×Nat)}{es es':Array MapEntry}{cl cl':Nat}(hi:m i=some (.mp false kv st))(hb:ρ i=.map (some b))(hh:w.heap[b]?=some (.map es cl))
 {z':List ((Ky×A)×MapEntry)}(hz:MZ w (Mut M0 m ρ) m ρ es' cl' kv' z')(hst:StIs m ρ st' es'.toList cl'):
 SatAt M0 S0 w0 N T (setM m i (.mp false kv' st')) ρ a (w.putObj b (.map es' cl'))/\Onto m (setM m i (.mp false kv' st')) ρ ρ:=by
 have hO:Onto m (setM m i (.mp false kv' st')) ρ ρ:=by
  have:=Onto.set (m:=m) (ρ:=ρ) i (.mp false kv' st') (ρ i) (λ_ _=>⟨by rw[hi];simp,rfl,λfz t es l e=>by rw[hi]at e;simp at e⟩)
  rwa [setH_same]at this
 refine⟨h.write hi rfl rfl (by simp) (putObj_keeps w b _) (λk _ e=>by rw[hb,e];rfl) ?_,hO⟩
 intro _ hst' hm
 obtain⟨l,h1,h2⟩:=of_mz hz
 refine⟨b,es',cl',l,hb,putObj_at hh,h1,A.DenL_mono hst' hm hO _ _ h2,by simp,StIs.mono hO λp hp=>⟨(hst p hp).1,λhd=>⟨λe he=>((hst p hp).2 hd).1 e (h1.perm.mem_iff.2 he),((hst p hp).2 hd).2⟩⟩⟩
theorem modify_map{α:Type}(f g:α->α):∀(l:List α)(i:Nat),(∀j x,l[j]?=some x->g x=if j=i then f x else x)->l.modify i f=l.map g
 |[],i,_=>by cases i<;>rfl
 |x::l,0,h=>by
  have h0:=h 0 x rfl
  simp only[List.modify_zero_cons,List.map_cons]
  rw[h0];simp only[if_true]
  congr 1
  have:∀y∈l,g y=y:=λy hy=>by
   obtain⟨j,hj,e⟩:=List.mem_iff_getElem.1 hy
   have:=h (j+1) y (by simp[hj,e])
   simpa using this
  rw[List.map_congr_left this];simp
 |x::l,i+1,h=>by
  have h0:=h 0 x rfl
  simp only[List.modify_succ_cons,List.map_cons]
  rw[h0];simp only[Nat.zero_ne_add_one,if_false]
  rw[modify_map f g l i λj y hy=>by have:=h (j+1) y (by simpa using hy);simpa using this]
theorem nodup_idx{α β:Type}{f:α->β}{l:List α}(hn:(l.map f).Nodup){i j:Nat}{x y:α}(hi:l[i]?=some x)(hj:l[j]?=some y)(e:f x=f y):i=j:=by
 have hi':=List.getElem?_eq_some_iff.1 hi
 have hj':=List.getElem?_eq_some_iff.1 hj
 obtain⟨h1,h2⟩:=hi'
 obtain⟨h3,h4⟩:=hj'
 have:=(List.getElem_inj (xs:=l.map f) (h₀:=by simpa using h1) (h₁:=by simpa using h3) hn).1 (by simp[h2,h4,e])
 exact this
theorem MZ.set{M:Nat->Prop}{es:Array MapEntry}{cl:Nat}{kv:List (Ky×A)}{z:List ((Ky×A)×MapEntry)}(hz:MZ w M m ρ es cl kv z){k:Ky}{i:Nat}{p:(Ky×A)×MapEntry}(hp:z[i]?=some p)(hk:p.1.1=k){x:A}{v:Value}(hv:x.Den w M m ρ v):
 MZ w M m ρ (es.modify i λe=>{e with key:=k.val,val:=v}) cl (kv.map λq=>if q.1=k then(k,x)else q) (z.map λq=>if q.1.1=k then((k,x),{q.2 with key:=k.val,val:=v})else q):=by
 have hg:∀q:(Ky×A)×MapEntry,(if q.1.1=k then(((k,x),{q.2 with key:=k.val,val:=v}):(Ky×A)×MapEntry)else q).2.born=q.2.born:=by intro q;split<;>rfl
 have hg1:∀q:(Ky×A)×MapEntry,(if q.1.1=k then(((k,x),{q.2 with key:=k.val,val:=v}):(Ky×A)×MapEntry)else q).1.1=q.1.1:=by intro q;split<;>simp_all
 refine⟨?_,?_,?_,?_,?_,?_,?_⟩
 ·rw[Array.toList_modify,hz.toList]
  rw[show(z.map (·.2)).modify i (λe=>{e with key:=k.val,val:=v})=(z.modify i λq=>(q.1,{q.2 with key:=k.val,val:=v})).map (·.2) by
   apply List.ext_getElem?;intro j;simp only[List.getElem?_modify,List.getElem?_map];cases z[j]?<;>simp;split<;>rfl]
  rw[modify_map _ (λq=>if q.1.1=k then(q.1,{q.2 with key:=k.val,val:=v})else q) z i λj q hq=>by
   by_cases e:j=i
   · subst e;rw[hp]at hq;cases hq;simp[hk]
   · have:q.1.1≠k:=λe2=>e (nodup_idx hz.nodup hq hp (e2.trans hk.symm))
     simp[e,this]]
  rw[List.map_map,List.map_map]
  exact List.map_congr_left λq _=>by simp only[Function.comp_apply];split<;>rfl
 ·have:=hz.perm.map (λq=>if q.1=k then(k,x)else q)
  rw[List.map_map]at this⊢
  refine(List.Perm.of_eq (List.map_congr_left λq _=>?_)).trans this
  simp only[Function.comp_apply];split<;>rfl
 ·intro q hq
  obtain⟨q0,hq0,rfl⟩:=List.mem_map.1 hq
  split
  ·rfl
  ·exact hz.key q0 hq0
 ·intro q hq
  obtain⟨q0,hq0,rfl⟩:=List.mem_map.1 hq
  split
  ·exact hv
  ·exact hz.den q0 hq0
 ·rw[List.map_map];exact(List.map_congr_left (λq _=>hg1 q):_=z.map (·.1.1))▸hz.nodup
 ·rw[List.map_map];exact(List.map_congr_left (λq _=>hg q):_=z.map (·.2.born))▸hz.born
 ·intro q hq
  obtain⟨q0,hq0,rfl⟩:=List.mem_map.1 hq
  rw[hg];exact hz.old q0 hq0
theorem MZ.push{M:Nat->Prop}{es:Array MapEntry}{cl:Nat}{kv:List (Ky×A)}{z:List ((Ky×A)×MapEntry)}(hz:MZ w M m ρ es cl kv z){k:Ky}(hk:∀p∈z,k≠p.1.1){x:A}{v:Value}(hv:x.Den w M m ρ v):
 MZ w M m ρ (es.push {key:=k.val,val:=v,born:=cl}) (cl+1) (kv++[(k,x)]) (z++[((k,x),{key:=k.val,val:=v,born:=cl})]):=by
 refine⟨?_,?_,?_,?_,?_,?_,?_⟩
 ·simp[hz.toList]
 ·simpa using hz.perm.append_right [(k,x)]
 ·intro p hp;simp at hp;rcases hp with hp|rfl
  ·exact hz.key p hp
  ·rfl
 ·intro p hp;simp at hp;rcases hp with hp|rfl
  ·exact hz.den p hp
  ·exact hv
 ·rw[List.map_append,List.nodup_append]
  refine⟨hz.nodup,by simp,?_⟩
  intro a ha b hb e
  simp at hb;subst hb
  obtain⟨p,hp,rfl⟩:=List.mem_map.1 ha
  exact hk p hp e.symm
 ·rw[List.map_append,List.nodup_append]
  refine⟨hz.born,by simp,?_⟩
  intro a ha b hb e
  simp at hb;subst hb
  obtain⟨p,hp,rfl⟩:=List.mem_map.1 ha
  have:=hz.old p hp;omega
 ·intro p hp;simp at hp;rcases hp with hp|rfl
  ·have:=hz.old p hp;omega
  ·simp
theorem sameBits_KC(n:Nat)(c:KC):Instr.sameBits (n+1) c.val c.val=true:=by
 cases c<;>simp[KC.val,Instr.sameBits,beq_toListBytes]
theorem sameBits_Ky(n:Nat)(k:Ky):Instr.sameBits (n+2) k.val k.val=true:=by
 cases k with
 |one c=>exact sameBits_KC (n+1) c
 |agg l=>
  simp only[Ky.val,Instr.sameBits,Bool.and_eq_true,List.all_eq_true]
  refine⟨by simp,?_⟩
  intro p hp
  obtain⟨x,y⟩:=p
  have:x=y/\x∈l.map KC.val:=by
   have h1:=List.of_mem_zip hp
   have:∀{l:List Value}{x y:Value},(x,y)∈l.zip l->x=y:=by
    intro l
    induction l with
    |nil=>simp
    |cons a r ih=>intro x y h;simp at h;rcases h with⟨rfl,rfl⟩|h;rfl;exact ih h
   exact⟨this (by simpa using hp),by simpa using h1.1⟩
  obtain⟨rfl,h2⟩:=this
  obtain⟨c,_,rfl⟩:=List.mem_map.1 h2
  exact sameBits_KC n c
theorem Ky.val_inj{a b:Ky}(h:a.val=b.val):a=b:=by
 have kc:∀{a b:KC},a.val=b.val->a=b:=by
  intro a b h
  cases a<;>cases b<;>simp[KC.val]at h<;>simp_all
 cases a<;>cases b
 ·simp only[Ky.val]at h;rw[kc h]
 ·rename_i c l;cases c<;>simp[Ky.val,KC.val]at h
 ·rename_i l c;cases c<;>simp[Ky.val,KC.val]at h
 ·rename_i l1 l2
  simp only[Ky.val,Value.agg.injEq]at h
  have h':l1.map KC.val=l2.map KC.val:=by simpa using h
  congr 1
  exact(List.map_inj_right (λa b=>kc)).1 h'
end
end Go.Pv
namespace Go.Pv
open Go.RowKit
section
variable{M0 S0:Nat->Prop}{w0:World}{N:Fr}{T:Nat->A}{m:Mem}{ρ:Nat->Value}{a:Act}{w:World}{P:Program}
theorem stIs_set{st:List (Ky×Nat)}{es:Array MapEntry}{k:Ky}{i:Nat}{v:Value}{M:Nat->Prop}{cl:Nat}{kv:List (Ky×A)}{z:List ((Ky×A)×MapEntry)}(hz:MZ w M m ρ es cl kv z){p:(Ky×A)×MapEntry}(hp:z[i]?=some p)(hk:p.1.1=k)
 {c:Nat}(h:StIs m ρ st es.toList c):StIs m ρ st (es.modify i λe=>{e with key:=k.val,val:=v}).toList c:=by
 refine λq hq=>⟨(h q hq).1,λhd=>⟨λe he hek=>?_,((h q hq).2 hd).2⟩⟩
 obtain⟨j,hj⟩:=List.mem_iff_getElem?.1 he
 rw[Array.toList_modify,List.getElem?_modify]at hj
 have hpk:p.2.key=k.val:=by rw[<-hk];exact hz.key p (List.mem_of_getElem? hp)
 by_cases e:i=j
 ·subst e
  have h1:es.toList[i]?=some p.2:=by rw[hz.toList];simp[hp]
  rw[h1]at hj
  simp at hj
  rw[<-hj]at hek⊢
  exact((h q hq).2 hd).1 p.2 (List.mem_of_getElem? h1) (hpk.trans hek)
 ·simp[e]at hj
  exact((h q hq).2 hd).1 _ (List.mem_of_getElem? (by simpa using hj)) hek
theorem stIs_push{st:List (Ky×Nat)}{es:Array MapEntry}{k:Ky}{v:Value}{b:Nat}{c:Nat}(h:StIs m ρ st es.toList c):StIs m ρ (st.filter λp=>p.1 !=k&&p.1 !=.agg []) (es.push {key:=k.val,val:=v,born:=b}).toList (c+1):=by
 intro q hq
 obtain⟨hq1,hq2⟩:=List.mem_filter.1 hq
 refine⟨(h q hq1).1,λhd=>⟨λe he hek=>?_,Nat.le_succ_of_le ((h q hq1).2 hd).2.1,λe=>by rw[e]at hq2;simp at hq2⟩⟩
 simp at he
 rcases he with he|rfl
 ·exact((h q hq1).2 hd).1 e (by simpa using he) hek
 ·have:=Ky.val_inj hek;simp[this]at hq2
theorem stIs_sub{st st':List (Ky×Nat)}{l l':List MapEntry}{c:Nat}(h:StIs m ρ st l c)(hs:∀p∈st',p∈st)(hl:∀e∈l',e∈l):StIs m ρ st' l' c:=
 λp hp=>⟨(h p (hs p hp)).1,λhd=>⟨λe he=>((h p (hs p hp)).2 hd).1 e (hl e he),((h p (hs p hp)).2 hd).2⟩⟩
theorem run_mapUpdateKy{t kt et:TypeId}{k:Ky}{es:Array MapEntry}{cl b:Nat}{r:Option (Nat×Value)}{v:Value}(hu:P.underlying t=some (.map kt et))(hb:w.heap[b]?=some (.map es cl))(hf:k.fits P kt=true)(hfind:(Instr.findKey kt k.val es.toList).run P w=.ok r w)
 (hr:∀i u,r=some (i,u)->∃e,es[i]?=some e/\e.key=k.val):
 (Instr.mapUpdate t (.map (some b)) k.val v).run P w=.ok () (w.putObj b (match(generalizing:=false) r with|some p=>.map (es.modify p.1 λe=>{e with key:=k.val,val:=v}) cl|none=>.map (es.push {key:=k.val,val:=v,born:=cl}) (cl+1))):=by
 simp only[Instr.mapUpdate,Sem.run_bind,run_underlying hu,Result.andThen_ok,run_getMap hb,run_checkKy _ 9995 hf,hfind]
 cases r with
 |none=>exact run_setMap hb
 |some p=>
  obtain⟨e,h1,h2⟩:=hr p.1 p.2 rfl
  simp only[h1,Option.map_some,Option.getD_some,h2,Instr.keyThatStays,sameBits_Ky 9998,if_true,Sem.run_pure,Result.andThen_ok]
  exact run_setMap hb
theorem find_entry{M:Nat->Prop}{es:Array MapEntry}{cl:Nat}{kv:List (Ky×A)}{z:List ((Ky×A)×MapEntry)}(hz:MZ w M m ρ es cl kv z){k:Ky}:∀i u,findZ k (z.map λp=>(p.1.1,p.2)) 0=some (i,u)->∃e,es[i]?=some e/\e.key=k.val:=by
 intro i u hf
 obtain⟨p,h1,_,h2,_⟩:=findZ_some hf
 refine⟨p.2,?_,by rw[<-h2];exact hz.key p (List.mem_of_getElem? h1)⟩
 have h1':z[i]?=some p:=by simpa using h1
 have:es.toList[i]?=some p.2:=by rw[hz.toList,List.getElem?_map,h1'];rfl
 simpa using this
theorem sd_mapSet(h:SatAt M0 S0 w0 N T m ρ a w){t:TypeId}{x ix v u:A}{y iy vv:Value}{pre:Bool}{ups:List (Nat×R)}(hx:x.Den w (Mut M0 m ρ) m ρ y)(hix:ix.Den w (Mut M0 m ρ) m ρ iy)(hv:v.Den w (Mut M0 m ρ) m ρ vv)
 (he:effMapSet P m t x ix v=some (pre,u,ups))(hp:pre=true):∃w',(Instr.mapUpdate t y iy vv).run P w=.ok () w'/\SatAt M0 S0 w0 N T (applyU m ups) ρ a w'/\Onto m (applyU m ups) ρ ρ/\u=.x:=by
 unfold effMapSet at he
 split at he
 ·rename_i kt et k i hm hk
  have hu:=mapT_eq hm
  have hkv:=keyOf_den hk hix
  subst hkv
  split at he
  ·rename_i kv st hi
   obtain⟨b,es,cl,z,h1,h2,h3,h4⟩:=mp_mz h hi
   simp only[A.Den]at hx
   have hy:=(has_of hx hi (by simp)).trans h1
   subst hy
   have hpre:pre=fitK P kt k kv:=by
    split at he<;>(simp only[Option.some.injEq,Prod.mk.injEq]at he;exact he.1.symm)
   rw[hpre]at hp
   obtain⟨hf,hfind⟩:=fitK_all (w:=w) hp h3
   have hrun:=run_mapUpdateKy (v:=vv) hu h2 hf hfind (find_entry h3)
   rcases h3.find k with⟨e1,e2⟩|⟨j,p,e1,e2,e3,e4⟩
   ·rw[e2]at he
    simp only[Option.some.injEq,Prod.mk.injEq]at he
    obtain⟨_,rfl,rfl⟩:=he
    rw[e1]at hrun
    have hno:∀p∈z,k≠p.1.1:=findZ_none e1
    obtain⟨g1,g2⟩:=map_write h hi h1 h2 (h3.push hno hv) (stIs_push h4)
    exact⟨_,hrun,g1,g2,rfl⟩
   ·rw[e4]at he
    simp only[Option.some.injEq,Prod.mk.injEq]at he
    obtain⟨_,rfl,rfl⟩:=he
    rw[e1]at hrun
    obtain⟨g1,g2⟩:=map_write h hi h1 h2 (h3.set e2 e3 hv) (stIs_set h3 e2 e3 h4)
    exact⟨_,hrun,g1,g2,rfl⟩
  ·cases he
 ·cases he
theorem filter_eraseIdx{α:Type}(f:α->Bool):∀(l:List α)(i:Nat),(∀j x,l[j]?=some x->f x=decide (j≠i))->l.eraseIdx i=l.filter f
 |[],i,_=>by simp
 |x::l,0,h=>by
  have h0:=h 0 x rfl
  have:∀y∈l,f y=true:=λy hy=>by
   obtain⟨j,hj⟩:=List.mem_iff_getElem?.1 hy
   have:=h (j+1) y (by simpa using hj)
   simpa using this
  simp only[List.eraseIdx_cons_zero,List.filter_cons,h0]
  simp
  exact(List.filter_eq_self.2 this).symm
 |x::l,i+1,h=>by
  have h0:=h 0 x rfl
  simp only[List.eraseIdx_cons_succ,List.filter_cons,h0]
  rw[filter_eraseIdx f l i λj y hy=>by have:=h (j+1) y (by simpa using hy);simpa using this]
  simp
theorem erase_map{α β:Type}(f:α->β):∀(l:List α)(i:Nat),(l.map f).eraseIdx i=(l.eraseIdx i).map f
 |[],i=>by simp
 |x::l,0=>by simp
 |x::l,i+1=>by simp[erase_map f l i]
theorem MZ.erase{M:Nat->Prop}{es:Array MapEntry}{cl:Nat}{kv:List (Ky×A)}{z:List ((Ky×A)×MapEntry)}(hz:MZ w M m ρ es cl kv z){k:Ky}{i:Nat}{p:(Ky×A)×MapEntry}(hp:z[i]?=some p)(hk:p.1.1=k):
 MZ w M m ρ (es.eraseIdxIfInBounds i) cl (kv.filter λq=>q.1 !=k) (z.filter λq=>q.1.1 !=k):=by
 have hsub:∀q∈z.filter (λq=>q.1.1 !=k),q∈z:=λq hq=>(List.mem_filter.1 hq).1
 refine⟨?_,?_,λq hq=>hz.key q (hsub q hq),λq hq=>hz.den q (hsub q hq),?_,?_,λq hq=>hz.old q (hsub q hq)⟩
 ·have hi:i<es.size:=by
   have h1:es.toList[i]?=some p.2:=by rw[hz.toList];simp[hp]
   have:=(List.getElem?_eq_some_iff.1 h1).1
   simpa using this
  rw[Array.eraseIdxIfInBounds,dif_pos hi,Array.toList_eraseIdx,hz.toList]
  rw[<-filter_eraseIdx (λq=>q.1.1 !=k) z i λj q hq=>by
   by_cases e:j=i
   · subst e;rw[hp]at hq;cases hq;simp[hk]
   · have:q.1.1≠k:=λe2=>e (nodup_idx hz.nodup hq hp (e2.trans hk.symm))
     simp[e,this]]
  exact erase_map _ z i
 ·have:=hz.perm.filter (λq=>q.1 !=k)
  rw[List.filter_map]at this
  exact this
 ·exact hz.nodup.sublist ((List.filter_sublist).map _)
 ·exact hz.born.sublist ((List.filter_sublist).map _)
theorem sd_delete(h:SatAt M0 S0 w0 N T m ρ a w){t t' ty:TypeId}{x ix u:A}{y iy:Value}{pre:Bool}{ups:List (Nat×R)}(hx:x.Den w (Mut M0 m ρ) m ρ y)(hix:ix.Den w (Mut M0 m ρ) m ρ iy)
 (he:effDelete P m t x ix=some (pre,u,ups))(hp:pre=true):∃w',(Builtin.delete_ #[t,t'] ty #[y,iy]).run P w=.ok (.tuple #[]) w'/\SatAt M0 S0 w0 N T (applyU m ups) ρ a w'/\Onto m (applyU m ups) ρ ρ/\u=.tup []:=by
 unfold effDelete at he
 split at he
 ·rename_i kt et k i hm hk
  have hu:=mapT_eq hm
  have hkv:=keyOf_den hk hix
  subst hkv
  split at he
  ·rename_i kv st hi
   simp only[Option.some.injEq,Prod.mk.injEq]at he
   obtain⟨rfl,rfl,rfl⟩:=he
   obtain⟨b,es,cl,z,h1,h2,h3,h4⟩:=mp_mz h hi
   simp only[A.Den]at hx
   have hy:=(has_of hx hi (by simp)).trans h1
   subst hy
   obtain⟨hf,hfind⟩:=fitK_all (w:=w) hp h3
   have hrun:∃es',(Builtin.delete_ #[t,t'] ty #[.map (some b),k.val]).run P w=.ok (.tuple #[]) (w.putObj b (.map es' cl))/\MZ w (Mut M0 m ρ) m ρ es' cl (kv.filter λq=>q.1 !=k) (z.filter λq=>q.1.1 !=k)/\∀e∈es'.toList,e∈es.toList:=by
    rcases h3.find k with⟨e1,e2⟩|⟨j,p,e1,e2,e3,e4⟩
    ·refine⟨es,?_,?_,λe he=>he⟩
     ·simp only[Builtin.delete_,List.getElem?_toArray,List.getElem?_cons_zero,List.getElem?_cons_succ,Sem.run_bind,run_underlying hu,Result.andThen_ok,run_getMap h2,run_checkKy _ 9995 hf,hfind,e1,run_setMap h2,Sem.run_pure]
     ·have hno:∀p∈z,k≠p.1.1:=findZ_none e1
      have f1:z.filter (λq=>q.1.1 !=k)=z:=List.filter_eq_self.2 λq hq=>by simpa using(hno q hq).symm
      have f2:kv.filter (λq=>q.1 !=k)=kv:=List.filter_eq_self.2 λq hq=>by
       have:=kvGet_none e2 q hq;simpa using this.symm
      rw[f1,f2];exact h3
    ·refine⟨_,?_,h3.erase e2 e3,?_⟩
     ·simp only[Builtin.delete_,List.getElem?_toArray,List.getElem?_cons_zero,List.getElem?_cons_succ,Sem.run_bind,run_underlying hu,Result.andThen_ok,run_getMap h2,run_checkKy _ 9995 hf,hfind,e1,run_setMap h2,Sem.run_pure]
     ·intro e he
      rw[(h3.erase e2 e3).toList]at he
      obtain⟨q,hq,rfl⟩:=List.mem_map.1 he
      rw[h3.toList];exact List.mem_map.2 ⟨q,(List.mem_filter.1 hq).1,rfl⟩
   obtain⟨es',hr,hz',hsub⟩:=hrun
   obtain⟨g1,g2⟩:=map_write h hi h1 h2 hz' (stIs_sub (st':=st.filter λp=>p.1 !=k) h4 (λp hp=>(List.mem_filter.1 hp).1) hsub)
   exact⟨_,hr,g1,g2,rfl⟩
  ·cases he
 ·rename_i kt et k hm hk
  have hu:=mapT_eq hm
  have hkv:=keyOf_den hk hix
  subst hkv
  simp only[Option.some.injEq,Prod.mk.injEq]at he
  obtain⟨rfl,rfl,rfl⟩:=he
  simp only[A.Den,C.Den]at hx;subst hx
  refine⟨w,?_,h,Onto.refl m ρ,rfl⟩
  simp only[Builtin.delete_,List.getElem?_toArray,List.getElem?_cons_zero,List.getElem?_cons_succ,Sem.run_bind,run_underlying hu,Result.andThen_ok,run_checkKy _ 9995 hp,Sem.run_pure]
 ·cases he
end
end Go.Pv
namespace Go.Pv
open Go.RowKit
def effMapEntry(P:Program)(m:Mem)(d:Nat)(t:TypeId)(x ix:A):Option E:=
 match mapT P t,keyOf ix,x with
 |some (kt,et),some k,.h i=>match m i,zeroA P et with
  |some (.mp false kv st),some z=>match kvGet k kv with
   |some a=>some (fitK P kt k kv&&freeB m d&&decide (k≠.agg []),.tup [a,.h d],[(d,.sta),(i,.mp false kv ((k,d)::st))])
   |none=>some (fitK P kt k kv&&freeB m d&&decide (k≠.agg []),.tup [z,.h d],[(d,.sta),(i,.mp false (kv++[(k,z)]) ((k,d)::st.filter λp=>p.1 !=k&&p.1 !=.agg []))])
  |_,_=>none
 |_,_,_=>none
def effEntryStore(m:Mem)(x s a:A):Option E:=
 match x,s with
 |.h i,.h sid=>match m i,m sid with
  |some (.mp false kv st),some .sta=>match st.find? λp=>p.2==sid with
   |some (k,_)=>match kvGet k kv with
    |some _=>some (true,.x,[(i,.mp false (kv.map λp=>if p.1=k then(k,a)else p) st)])
    |none=>none
   |none=>none
  |_,_=>none
 |_,_=>none
section
variable{M0 S0:Nat->Prop}{w0:World}{N:Fr}{T:Nat->A}{m:Mem}{ρ:Nat->Value}{a:Act}{w:World}{P:Program}
theorem MZ.mono{w':World}{M M':Nat->Prop}{m':Mem}{ρ':Nat->Value}(hs:Stays M w w')(hM:∀b,M' b->b<w.heap.size->M b)(hO:Onto m m' ρ ρ'){es:Array MapEntry}{cl:Nat}{kv:List (Ky×A)}{z:List ((Ky×A)×MapEntry)}(h:MZ w M m ρ es cl kv z):MZ w' M' m' ρ' es cl kv z:=
 ⟨h.toList,h.perm,h.key,λp hp=>A.Den_mono hs hM hO _ _ (h.den p hp),h.nodup,h.born,h.old⟩
theorem SatAt.stamp(h:SatAt M0 S0 w0 N T m ρ a w)(hlt:∀b,M0 b->b<w0.heap.size){d:Nat}(hd:m d=none)(n:Nat):
 SatAt M0 S0 w0 N T (setM m d .sta) (setH ρ d (.int .i64 n)) a w/\Onto m (setM m d .sta) ρ (setH ρ d (.int .i64 n))/\∀b,Mut M0 (setM m d .sta) (setH ρ d (.int .i64 n)) b->Mut M0 m ρ b:=by
 refine⟨h.newres hlt (Keeps.refl _ w) hd rfl (by simp[blk]) (λ_ _ _=>⟨n,rfl⟩),Onto.new _ _ hd,?_⟩
 rintro b (e|⟨i,r,h1,h2,h3⟩)
 ·exact .inl e
 ·by_cases e:i=d
  ·subst e;simp[setH,blk]at h3
  ·exact .inr ⟨i,r,by simpa [setM,e]using h1,h2,by simpa [setH,e]using h3⟩
theorem modify_id{es:Array MapEntry}{i:Nat}{f:MapEntry->MapEntry}(h:∀e,es[i]?=some e->f e=e):es.modify i f=es:=by
 apply Array.ext'
 rw[Array.toList_modify]
 apply List.ext_getElem?
 intro j
 rw[List.getElem?_modify]
 by_cases e:i=j
 ·subst e
  cases hh:es.toList[i]? with
  |none=>simp
  |some x=>simp;exact h x (by simpa using hh)
 ·simp[e]
theorem sd_mapEntry(h:SatAt M0 S0 w0 N T m ρ a w)(hlt:∀b,M0 b->b<w0.heap.size){d:Nat}{t:TypeId}{x ix u:A}{y iy:Value}{pre:Bool}{ups:List (Nat×R)}(hx:x.Den w (Mut M0 m ρ) m ρ y)(hix:ix.Den w (Mut M0 m ρ) m ρ iy)
 (he:effMapEntry P m d t x ix=some (pre,u,ups))(hp:pre=true):∃v w' ρ',(Instr.mapEntry t y iy).run P w=.ok v w'/\SatAt M0 S0 w0 N T (applyU m ups) ρ' a w'/\Onto m (applyU m ups) ρ ρ'/\u.Den w' (Mut M0 (applyU m ups) ρ') (applyU m ups) ρ' v:=by
 unfold effMapEntry at he
 split at he
 ·rename_i kt et k i hm hk
  have hu:=mapT_eq hm
  have hkv:=keyOf_den hk hix
  subst hkv
  split at he
  ·rename_i kv st zA hi hzA
   obtain⟨zv,hz1,hz2⟩:=zeroA_run hzA w
   obtain⟨b,es,cl,z,h1,h2,h3,h4⟩:=mp_mz h hi
   simp only[A.Den]at hx
   have hy:=(has_of hx hi (by simp)).trans h1
   subst hy
   have hpre:pre=(fitK P kt k kv&&freeB m d&&decide (k≠.agg [])):=by
    split at he<;>(simp only[Option.some.injEq,Prod.mk.injEq]at he;exact he.1.symm)
   rw[hpre,Bool.and_eq_true,Bool.and_eq_true]at hp
   obtain⟨hp,hkne⟩:=hp
   have hkne:=of_decide_eq_true hkne
   have hd:=freeB_eq hp.2
   have hid:i≠d:=by rintro rfl;rw[hi]at hd;cases hd
   obtain⟨hf,hfind⟩:=fitK_all (w:=w) hp.1 h3
   have key:∀(n:Nat){kv':List (Ky×A)}{es':Array MapEntry}{cl':Nat}{z':List ((Ky×A)×MapEntry)}{st':List (Ky×Nat)},MZ w (Mut M0 m ρ) m ρ es' cl' kv' z'->StIs m ρ st' es'.toList cl'->(∀e∈es'.toList,e.key=k.val->e.born=n)->n<=cl'->
    SatAt M0 S0 w0 N T (setM (setM m d .sta) i (.mp false kv' ((k,d)::st'))) (setH ρ d (.int .i64 n)) a (w.putObj b (.map es' cl'))/\Onto m (setM (setM m d .sta) i (.mp false kv' ((k,d)::st'))) ρ (setH ρ d (.int .i64 n)):=by
    intro n kv' es' cl' z' st' hz' hst' hn hnc
    obtain⟨g1,g2,g3⟩:=h.stamp hlt hd n
    have hi':setM m d .sta i=some (.mp false kv st):=by simp[setM,hid,hi]
    have hst2:StIs (setM m d .sta) (setH ρ d (.int .i64 n)) ((k,d)::st') es'.toList cl':=by
     intro p hp
     simp only[List.mem_cons]at hp
     rcases hp with rfl|hp
     ·exact⟨by simp[setM],λ_=>⟨λe he hk=>by rw[hn e he hk];simp[stampOf,setH],by simpa [stampOf,setH]using hnc,λe=>absurd e hkne⟩⟩
     ·exact StIs.mono g2 hst' p hp
    obtain⟨k1,k2⟩:=map_write g1 hi' (by simp[setH,hid,h1]) h2 (hz'.mono (Stays.refl _ w) (λb hb _=>g3 b hb) g2) hst2
    exact⟨k1,g2.trans k2⟩
   rcases h3.find k with⟨e1,e2⟩|⟨j,p,e1,e2,e3,e4⟩
   ·rw[e2]at he
    simp only[Option.some.injEq,Prod.mk.injEq]at he
    obtain⟨_,rfl,rfl⟩:=he
    rw[e1]at hfind
    have hno:∀p∈z,k≠p.1.1:=findZ_none e1
    have hz':=h3.push hno (hz2 w (Mut M0 m ρ) m ρ)
    obtain⟨k1,k2⟩:=key cl hz' (stIs_push h4) (λe he hek=>by
     rw[hz'.toList]at he
     obtain⟨q,hq,rfl⟩:=List.mem_map.1 he
     simp at hq
     rcases hq with hq|rfl
     · exact absurd (Ky.val_inj (by rw[<-hek];exact(h3.key q hq))) (λe=>hno q hq e)
     · rfl) (by omega)
    refine⟨.tuple #[zv,goInt cl],_,_,?_,k1,k2,?_⟩
    ·simp only[Instr.mapEntry,Sem.run_bind,run_underlying hu,Result.andThen_ok,run_getMap h2,run_checkKy _ 9995 hf,hfind,hz1,run_setMap h2,Sem.run_pure]
    ·simp only[applyU,A.Den]
     exact⟨_,rfl,by simp only[A.DenL];exact⟨_,_,rfl,hz2 _ _ _ _,_,_,rfl,by simp only[A.Den];exact⟨by simp[setM];split<;>simp,λ_=>by simp[setH,goInt]⟩,rfl⟩⟩
   ·rw[e4]at he
    simp only[Option.some.injEq,Prod.mk.injEq]at he
    obtain⟨_,rfl,rfl⟩:=he
    rw[e1]at hfind
    have hpm:=List.mem_of_getElem? e2
    have hej:es[j]?=some p.2:=by
     have:es.toList[j]?=some p.2:=by rw[h3.toList];simp[e2]
     simpa using this
    have hpk:p.2.key=k.val:=by rw[<-e3];exact h3.key p hpm
    obtain⟨k1,k2⟩:=key p.2.born h3 h4 (λe he hek=>by
     rw[h3.toList]at he
     obtain⟨q,hq,rfl⟩:=List.mem_map.1 he
     have:q.1.1=p.1.1:=Ky.val_inj (by rw[<-h3.key q hq,hek,e3])
     obtain⟨jq,hjq⟩:=List.mem_iff_getElem?.1 hq
     have:=nodup_idx h3.nodup hjq e2 this
     subst this
     rw[e2]at hjq;cases hjq;rfl) (Nat.le_of_lt (h3.old p hpm))
    refine⟨.tuple #[p.2.val,goInt p.2.born],_,_,?_,k1,k2,?_⟩
    ·have hmod:es.modify j (λe=>{e with key:=k.val})=es:=modify_id λe he=>by rw[hej]at he;cases he;rw[<-hpk]
     simp only[Instr.mapEntry,Sem.run_bind,run_underlying hu,Result.andThen_ok,run_getMap h2,run_checkKy _ 9995 hf,hfind,hej,Option.map_some,Option.getD_some,hpk,Instr.keyThatStays,sameBits_Ky 9998,if_true,Sem.run_pure,hmod,run_setMap h2]
    ·simp only[applyU,A.Den]
     have hden:A.Den (w.putObj b (.map es cl)) (Mut M0 (setM (setM m d .sta) i (.mp false kv ((k,d)::st))) (setH ρ d (.int .i64 p.2.born))) (setM (setM m d .sta) i (.mp false kv ((k,d)::st))) (setH ρ d (.int .i64 p.2.born)) p.1.2 p.2.val:=by
      have hmu:∀c,Mut M0 (setM (setM m d .sta) i (.mp false kv ((k,d)::st))) (setH ρ d (.int .i64 p.2.born)) c->c<w.heap.size->Mut M0 m ρ c:=by
       rintro c (e|⟨i',r,q1,q2,q3⟩) _
       ·exact .inl e
       ·by_cases ei:i'=i
        ·subst ei;exact .inr ⟨i',_,hi,rfl,by simpa [setH,hid]using q3⟩
        ·by_cases ed:i'=d
         ·subst ed;simp[setH,blk]at q3
         ·exact .inr ⟨i',r,by simpa [setM,ei,ed]using q1,q2,by simpa [setH,ed]using q3⟩
      refine A.Den_mono ?_ hmu k2 _ _ (h3.den p hpm)
      exact(putObj_keeps w b _).stays λc _ e=>.inr ⟨i,_,hi,rfl,by rw[h1,e];rfl⟩
     exact⟨_,rfl,by simp only[A.DenL];exact⟨_,_,rfl,hden,_,_,rfl,by simp only[A.Den];exact⟨by simp[setM];split<;>simp,λ_=>by simp[setH,goInt]⟩,rfl⟩⟩
  ·cases he
 ·cases he
theorem sd_entryStore(h:SatAt M0 S0 w0 N T m ρ a w){t:TypeId}{x s v u:A}{y sy vv:Value}{pre:Bool}{ups:List (Nat×R)}(hx:x.Den w (Mut M0 m ρ) m ρ y)(hs:s.Den w (Mut M0 m ρ) m ρ sy)(hv:v.Den w (Mut M0 m ρ) m ρ vv)
 (he:effEntryStore m x s v=some (pre,u,ups)):∃w',(Instr.entryStore t y sy vv).run P w=.ok () w'/\SatAt M0 S0 w0 N T (applyU m ups) ρ a w'/\Onto m (applyU m ups) ρ ρ/\u=.x:=by
 unfold effEntryStore at he
 split at he
 ·rename_i i sid
  split at he
  ·rename_i kv st hi hsi
   split at he
   ·rename_i k sid' hfi
    split at he
    ·rename_i a0 hg
     simp only[Option.some.injEq,Prod.mk.injEq]at he
     obtain⟨rfl,rfl,rfl⟩:=he
     obtain⟨b,es,cl,z,h1,h2,h3,h4⟩:=mp_mz h hi
     simp only[A.Den]at hx hs
     have hy:=(has_of hx hi (by simp)).trans h1
     subst hy
     have hsy:=has_of hs hsi (by simp)
     obtain⟨n,hn⟩:=h.res sid _ hsi
     rw[hn]at hsy;subst hsy
     have hmem:=List.mem_of_find?_eq_some hfi
     have hsid:sid'=sid:=by have:=List.find?_some hfi;simpa using this
     subst hsid
     have hst:=has_of (h4 _ hmem) hsi (by simp)
     rcases h3.find k with⟨_,e2⟩|⟨j,p,e1,e2,e3,e4⟩
     ·rw[e2]at hg;cases hg
     have hpm:=List.mem_of_getElem? e2
     have hpk:p.2.key=k.val:=by rw[<-e3];exact h3.key p hpm
     have hej:es.toList[j]?=some p.2:=by rw[h3.toList];simp[e2]
     have hbn:p.2.born=n:=by
      have:=hst.1 p.2 (List.mem_of_getElem? hej) hpk
      rw[this];simp[stampOf,hn]
     have hidx:es.findIdx? (λe=>(e.born:Int)==(n:Int))=some j:=by
      have htl:es.findIdx? (λe=>(e.born:Int)==(n:Int))=es.toList.findIdx? (λe=>(e.born:Int)==(n:Int)):=by
       conv=>lhs;rw[<-Array.toArray_toList (xs:=es)]
       exact List.findIdx?_toArray _ _
      rw[htl,List.findIdx?_eq_some_iff_getElem]
      have hjl:=(List.getElem?_eq_some_iff.1 hej).1
      have hjv:=(List.getElem?_eq_some_iff.1 hej).2
      refine⟨hjl,by rw[hjv];simp[hbn],λj' hj'=>?_⟩
      have hj'l:j'<es.toList.length:=by omega
      have hz':j'<z.length:=by have:=congrArg List.length h3.toList;simp at this hj'l;omega
      have e5:es.toList[j']=(z[j']).2:=by
       have:es.toList[j']?=some (z[j']).2:=by rw[h3.toList];simp[hz']
       exact(List.getElem?_eq_some_iff.1 this).2
      rw[e5]
      simp only[beq_iff_eq]
      intro e6
      have:=nodup_idx h3.born (List.getElem?_eq_getElem hz') e2 (by have:(z[j']).2.born=n:=by exact_mod_cast e6
                                                                    rw[this,hbn])
      omega
     have hmod:es.modify j (λe=>{e with val:=vv})=es.modify j (λe=>{e with key:=k.val,val:=vv}):=by
      apply Array.ext'
      rw[Array.toList_modify,Array.toList_modify]
      apply List.ext_getElem?
      intro j'
      rw[List.getElem?_modify,List.getElem?_modify]
      by_cases e:j=j'
      ·subst e;rw[hej];simp[hpk]
      ·simp[e]
     obtain⟨g1,g2⟩:=map_write h hi h1 h2 (h3.set e2 e3 hv) (stIs_set h3 e2 e3 h4)
     refine⟨_,?_,g1,g2,rfl⟩
     simp only[Instr.entryStore,Sem.run_bind,Sem.run_pure,Result.andThen_ok,run_getMap h2,asInt,asIntOf,hidx,hmod,run_setMap h2]
    ·cases he
   ·cases he
  ·cases he
 ·cases he
end
end Go.Pv
namespace Go.Pv
open Go.RowKit
def iotaL(d:Nat):Nat->List Nat
 |0=>[]
 |n+1=>d::iotaL (d+1) n
def stU:List Nat->List (Nat×R)
 |[]=>[]
 |i::r=>(i,.sta)::stU r
def freeL(m:Mem):List Nat->Bool
 |[]=>true
 |i::r=>freeB m i&&freeL m r
def effRange(P:Program)(m:Mem)(d:Nat)(t:TypeId)(x:A):Option E:=
 match x with
 |.h i=>match m i,mapT P t with
  |some (.mp false kv st),some _=>some (freeB m d&&(freeB m (d+1)&&(freeL m (iotaL (d+2) kv.length)&&(kvGet (.agg []) kv).isNone)),.h d,
    (d+1,.sta)::stU (iotaL (d+2) kv.length)++[(i,.mp false kv ((.agg [],d+1)::(kv.zip (iotaL (d+2) kv.length)).map λp=>(p.1.1,p.2))),(d,.it i (d+1) (iotaL (d+2) kv.length) [])])
  |_,_=>none
 |.d (.v (.map none))=>match mapT P t with
  |some _=>some (freeB m d,.h d,[(d,.it0)])
  |none=>none
 |.d (.v (.string s))=>some (isStrT P t&&freeB m d,.h d,[(d,.si s 0)])
 |_=>none
theorem iota_mem{n d i:Nat}:i∈iotaL d n↔d<=i/\i<d+n:=by
 induction n generalizing d with
 |zero=>simp only[iotaL,List.not_mem_nil,false_iff];omega
 |succ n ih=>simp[iotaL,ih];omega
theorem iota_len(d n:Nat):(iotaL d n).length=n:=by
 induction n generalizing d with
 |zero=>rfl
 |succ n ih=>simp[iotaL,ih]
theorem iota_get{d n j:Nat}(h:j<n):(iotaL d n)[j]?=some (d+j):=by
 induction n generalizing d j with
 |zero=>omega
 |succ n ih=>
  cases j with
  |zero=>simp[iotaL]
  |succ j=>simp only[iotaL,List.getElem?_cons_succ];rw[ih (by omega)];congr 1;omega
theorem iota_nodup(d n:Nat):(iotaL d n).Nodup:=by
 induction n generalizing d with
 |zero=>simp[iotaL]
 |succ n ih=>simp only[iotaL,List.nodup_cons];exact⟨λh=>by have:=iota_mem.1 h;omega,ih _⟩
section
variable{M0 S0:Nat->Prop}{w0:World}{N:Fr}{T:Nat->A}{m:Mem}{ρ:Nat->Value}{a:Act}{w:World}{P:Program}
theorem SatAt.stamps(hlt:∀b,M0 b->b<w0.heap.size):∀(ns:List Nat)(d:Nat){m:Mem}{ρ:Nat->Value},SatAt M0 S0 w0 N T m ρ a w->freeL m (iotaL d ns.length)=true->
 ∃ρ',SatAt M0 S0 w0 N T (applyU m (stU (iotaL d ns.length))) ρ' a w/\Onto m (applyU m (stU (iotaL d ns.length))) ρ ρ'/\(∀b,Mut M0 (applyU m (stU (iotaL d ns.length))) ρ' b->Mut M0 m ρ b)/\
  (∀(j n:Nat),ns[j]?=some n->ρ' (d+j)=.int .i64 (n:Int)/\applyU m (stU (iotaL d ns.length)) (d+j)=some .sta)/\∀i,(i<d\/d+ns.length<=i)->applyU m (stU (iotaL d ns.length)) i=m i/\ρ' i=ρ i
 |[],d,m,ρ,h,_=>⟨ρ,h,Onto.refl m ρ,λ_ e=>e,by simp,λi _=>⟨rfl,rfl⟩⟩
 |n::ns,d,m,ρ,h,hf=>by
  simp only[List.length_cons,iotaL,freeL,Bool.and_eq_true]at hf
  obtain⟨g1,g2,g3⟩:=h.stamp hlt (freeB_eq hf.1) n
  have hf':freeL (setM m d .sta) (iotaL (d+1) ns.length)=true:=by
   have:∀(l:List Nat),(∀i∈l,i≠d)->freeL m l=true->freeL (setM m d .sta) l=true:=by
    intro l
    induction l with
    |nil=>intro _ h;exact h
    |cons i r ih=>
     intro hi h
     simp only[freeL,Bool.and_eq_true]at h⊢
     refine⟨?_,ih (λj hj=>hi j (by simp[hj])) h.2⟩
     have hid:=hi i (by simp)
     unfold freeB at*
     simp only[setM,hid,if_false];exact h.1
   exact this _ (λi hi=>by have:=iota_mem.1 hi;omega) hf.2
  obtain⟨ρ',k1,k2,k3,k4,k5⟩:=SatAt.stamps hlt ns (d+1) g1 hf'
  refine⟨ρ',k1,g2.trans k2,λb hb=>g3 b (k3 b hb),λj n' hj=>?_,λi hi=>?_⟩
  ·cases j with
   |zero=>
    simp at hj;subst hj
    obtain⟨q1,q2⟩:=k5 d (by omega)
    simp only[Nat.add_zero]
    exact⟨by rw[q2];simp[setH],by show applyU (setM m d .sta) (stU (iotaL (d+1) ns.length)) d=_;rw[q1];simp[setM]⟩
   |succ j=>
    have:=k4 j n' (by simpa using hj)
    rw[show d+(j+1)=d+1+j by omega];exact this
  ·simp only[List.length_cons]at hi
   obtain⟨q1,q2⟩:=k5 i (by omega)
   have hid:i≠d:=by omega
   exact⟨by show applyU (setM m d .sta) (stU (iotaL (d+1) ns.length)) i=_;rw[q1];simp[setM,hid],by rw[q2];simp[setH,hid]⟩
theorem sd_range(h:SatAt M0 S0 w0 N T m ρ a w)(hlt:∀b,M0 b->b<w0.heap.size){d:Nat}{t:TypeId}{x u:A}{y:Value}{pre:Bool}{ups:List (Nat×R)}(hx:x.Den w (Mut M0 m ρ) m ρ y)
 (he:effRange P m d t x=some (pre,u,ups))(hp:pre=true):∃v w' ρ',(Instr.range t y).run P w=.ok v w'/\SatAt M0 S0 w0 N T (applyU m ups) ρ' a w'/\Onto m (applyU m ups) ρ ρ'/\u.Den w' (Mut M0 (applyU m ups) ρ') (applyU m ups) ρ' v:=by
 unfold effRange at he
 split at he
 ·rename_i i
  split at he
  ·rename_i kv st kt hi hm
   obtain⟨kt,et⟩:=kt
   have hu:=mapT_eq hm
   simp only[Option.some.injEq,Prod.mk.injEq]at he
   obtain⟨rfl,rfl,rfl⟩:=he
   simp only[Bool.and_eq_true]at hp
   obtain⟨hp0,hp1,hp2,hp3⟩:=hp
   obtain⟨b,es,cl,z,h1,h2,h3,h4⟩:=mp_mz h hi
   simp only[A.Den]at hx
   have hy:=(has_of hx hi (by simp)).trans h1
   subst hy
   have hd:=freeB_eq hp0
   have hd1:=freeB_eq hp1
   have hid:i≠d:=by rintro rfl;rw[hi]at hd;cases hd
   have hid1:i≠d+1:=by rintro rfl;rw[hi]at hd1;cases hd1
   obtain⟨f1,f2,f3⟩:=h.stamp hlt hd1 cl
   have hfl:freeL (setM m (d+1) .sta) (iotaL (d+2) kv.length)=true:=by
    have:∀(l:List Nat),(∀i∈l,i≠d+1)->freeL m l=true->freeL (setM m (d+1) .sta) l=true:=by
     intro l
     induction l with
     |nil=>intro _ h;exact h
     |cons i r ih=>
      intro hi h
      simp only[freeL,Bool.and_eq_true]at h⊢
      refine⟨?_,ih (λj hj=>hi j (by simp[hj])) h.2⟩
      have hid:=hi i (by simp)
      unfold freeB at*
      simp only[setM,hid,if_false];exact h.1
    exact this _ (λi hi=>by have:=iota_mem.1 hi;omega) hp2
   obtain⟨z',hz1,hz2⟩:=perm_map_inv (f:=λp:(Ky×A)×MapEntry=>p.1) h3.perm.symm rfl
   have hlen:kv.length=z'.length:=by rw[hz2];simp
   have hns:(z'.map (·.2.born)).length=kv.length:=by simp[hlen]
   obtain⟨ρ1,k1,k2,k3,k4,k5⟩:=SatAt.stamps hlt (z'.map (·.2.born)) (d+2) f1 (by rw[hns];exact hfl)
   rw[hns]at k1 k2 k3 k4 k5
   have hfree:∀j,d+2<=j->j<d+2+kv.length->m j=none:=by
    intro j hj1 hj2
    have:∀(l:List Nat),freeL m l=true->j∈l->m j=none:=by
     intro l
     induction l with
     |nil=>simp
     |cons q r ih=>
      intro hf hj
      simp only[freeL,Bool.and_eq_true]at hf
      simp only[List.mem_cons]at hj
      rcases hj with rfl|hj
      ·exact freeB_eq hf.1
      ·exact ih hf.2 hj
    exact this _ hp2 (iota_mem.2 ⟨hj1,hj2⟩)
   have hio:i<d+2\/d+2+kv.length<=i:=by
    rcases Nat.lt_or_ge i (d+2)with q|q
    ·exact .inl q
    ·rcases Nat.lt_or_ge i (d+2+kv.length)with q2|q2
     ·have:=hfree i q q2;rw[hi]at this;cases this
     ·exact .inr q2
   generalize hmu:applyU (setM m (d+1) .sta) (stU (iotaL (d+2) kv.length))=mu at k1 k2 k3 k4 k5
   obtain⟨q1,q2⟩:=k5 i hio
   rw[show setM m (d+1) .sta i=m i by simp[setM,hid1]]at q1
   rw[show setH ρ (d+1) (.int .i64 (cl:Int)) i=ρ i by simp[setH,hid1]]at q2
   obtain⟨q3,_⟩:=k5 d (by omega)
   rw[show setM m (d+1) .sta d=m d by simp[setM]]at q3
   obtain⟨q5,q6⟩:=k5 (d+1) (by omega)
   rw[show setM m (d+1) .sta (d+1)=some .sta by simp[setM]]at q5
   rw[show setH ρ (d+1) (.int .i64 (cl:Int)) (d+1)=.int .i64 (cl:Int) by simp[setH]]at q6
   have hO2:Onto m mu ρ ρ1:=f2.trans k2
   have hst:StIs mu ρ1 ((.agg [],d+1)::(kv.zip (iotaL (d+2) kv.length)).map λp=>(p.1.1,p.2)) es.toList cl:=by
    intro p hp
    simp only[List.mem_cons]at hp
    rcases hp with rfl|hp
    ·refine⟨by rw[q5];simp,λ_=>⟨λe he hek=>?_,by simp[stampOf,q6],λ_=>by simp[stampOf,q6]⟩⟩
     exfalso
     rw[h3.toList]at he
     obtain⟨qz,hqz,rfl⟩:=List.mem_map.1 he
     have e1:qz.1.1=.agg []:=Ky.val_inj (by rw[<-h3.key qz hqz,hek])
     have hm':qz.1∈kv:=h3.perm.mem_iff.1 (List.mem_map.2 ⟨qz,hqz,rfl⟩)
     cases hg:kvGet (.agg []) kv with
     |none=>exact kvGet_none hg qz.1 hm' e1.symm
     |some _=>rw[hg]at hp3;cases hp3
    ·obtain⟨pq,hpq,rfl⟩:=List.mem_map.1 hp
     obtain⟨j,hj⟩:=List.mem_iff_getElem?.1 hpq
     rw[List.getElem?_zip_eq_some]at hj
     have hjl:j<kv.length:=(List.getElem?_eq_some_iff.1 hj.1).1
     have hj2:=hj.2
     rw[iota_get hjl]at hj2
     simp at hj2
     have hj1:=hj.1
     rw[hz2]at hj1
     simp only[List.getElem?_map,Option.map_eq_some_iff]at hj1
     obtain⟨pz,hpz,hpz2⟩:=hj1
     obtain⟨r1,r2⟩:=k4 j pz.2.born (by simp[hpz])
     have hpzm:=hz1.mem_iff.1 (List.mem_of_getElem? hpz)
     rw[<-hj2]
     refine⟨by rw[r2];simp,λ_=>⟨λe he hek=>?_,by simp only[stampOf,r1,Int.toNat_natCast];exact Nat.le_of_lt (h3.old pz hpzm),λe=>by
      exfalso
      have hm':pz.1∈kv:=h3.perm.mem_iff.1 (List.mem_map.2 ⟨pz,hpzm,rfl⟩)
      cases hg:kvGet (.agg []) kv with
      |none=>exact kvGet_none hg pz.1 hm' (by rw[hpz2];exact e.symm)
      |some _=>rw[hg]at hp3;cases hp3⟩⟩
     simp only[stampOf,r1,Int.toNat_natCast]
     rw[h3.toList]at he
     obtain⟨qz,hqz,rfl⟩:=List.mem_map.1 he
     have e1:qz.1.1=pz.1.1:=Ky.val_inj (by rw[<-h3.key qz hqz,hek,hpz2])
     obtain⟨j1,hj1⟩:=List.mem_iff_getElem?.1 hqz
     obtain⟨j2,hj2⟩:=List.mem_iff_getElem?.1 hpzm
     have:=nodup_idx h3.nodup hj1 hj2 e1
     subst this
     rw[hj1]at hj2;cases hj2;rfl
   obtain⟨g1,g2⟩:=map_write k1 (q1.trans hi) (q2.trans h1) h2 (h3.mono (Stays.refl _ w) (λb hb _=>f3 b (k3 b hb)) hO2) hst
   have hpo:w.putObj b (.map es cl)=w:=by
    have hlt':=(Array.getElem?_eq_some_iff.1 h2).1
    have:w.heap.setIfInBounds b (.map es cl)=w.heap:=by
     apply Array.ext_getElem?
     intro j
     by_cases e:b=j
     ·subst e;have:=(Array.getElem?_eq_some_iff.1 h2).2;simp[hlt',this]
     ·rw[Array.getElem?_setIfInBounds_ne e]
    simp only[World.putObj,this]
   rw[hpo]at g1
   generalize hmw:R.mp false kv ((.agg [],d+1)::(kv.zip (iotaL (d+2) kv.length)).map λp=>(p.1.1,p.2))=rm at g1 g2
   have hd':setM mu i rm d=none:=by simp[setM,Ne.symm hid,q3,hd]
   have hmemU:∀j,d+2<=j->j<d+2+kv.length->setM mu i rm j=some .sta/\∃pz:(Ky×A)×MapEntry,z'[j -(d+2)]?=some pz/\ρ1 j=.int .i64 pz.2.born:=by
    intro j hj1 hj2
    have hji:j≠i:=by rintro rfl;have:=hfree j hj1 hj2;rw[hi]at this;cases this
    have hjz:j -(d+2)<z'.length:=by omega
    obtain⟨r1,r2⟩:=k4 (j -(d+2)) z'[j -(d+2)].2.born (by simp[hjz])
    rw[show d+2+(j -(d+2))=j by omega]at r1 r2
    exact⟨by simp[setM,hji,r2],_,List.getElem?_eq_getElem hjz,r1⟩
   have h5:SatAt M0 S0 w0 N T (setM (setM mu i rm) d (.it i (d+1) (iotaL (d+2) kv.length) [])) (setH ρ1 d (.pointer (some ⟨w.heap.size,0,none⟩))) a (w.alloc (.mapIter (some b) cl #[] cl)):=by
    refine g1.newres hlt (keeps_alloc w _) hd' rfl (by simp[blk]) ?_
    intro hO hst hm
    refine⟨w.heap.size,b,cl,#[],rfl,heap_alloc_new w _,⟨by simp[setM,hid],λ_=>by simp[setH,hid,q2,h1]⟩,⟨by simp[setM,Ne.symm hid1,q5],λ_=>by simp[stampOf,setH,q6]⟩,?_⟩
    refine⟨by simp,λj hj=>?_,λ_=>⟨iota_nodup _ _,?_,λj hj=>?_,by simp,by simp⟩⟩
    ·have hj':=iota_mem.1 hj
     have:=(hmemU j hj'.1 hj'.2).1
     have hjd:j≠d:=by omega
     rw[show setM (setM mu i rm) d (R.it i (d+1) (iotaL (d+2) kv.length) []) j=some .sta by rw[<-this];simp[setM,hjd]]
     simp
    ·have e1:(iotaL (d+2) kv.length).map (stampOf (setH ρ1 d (.pointer (some ⟨w.heap.size,0,none⟩))))=z'.map (·.2.born):=by
      apply List.ext_getElem?
      intro j
      rcases Nat.lt_or_ge j kv.length with hj|hj
      ·obtain⟨_,pz,r1,r2⟩:=hmemU (d+2+j) (by omega) (by omega)
       rw[show d+2+j -(d+2)=j by omega]at r1
       have hne:d+2+j≠d:=by omega
       simp[List.getElem?_map,iota_get hj,r1,stampOf,setH,hne,r2]
      ·rw[List.getElem?_eq_none (by simp[iota_len];omega),List.getElem?_eq_none (by simp;omega)]
     rw[e1]
     exact((hz1.map (·.2.born)).nodup_iff).2 h3.born
    ·have hj':=iota_mem.1 hj
     obtain⟨_,pz,r1,r2⟩:=hmemU j hj'.1 hj'.2
     have hne:j≠d:=by omega
     refine⟨?_,by simp⟩
     simp only[stampOf,setH,hne,if_false,r2,Int.toNat_natCast]
     exact h3.old pz (hz1.mem_iff.1 (List.mem_of_getElem? r1))
   have hap:applyU m ((d+1,.sta)::stU (iotaL (d+2) kv.length)++[(i,rm),(d,.it i (d+1) (iotaL (d+2) kv.length) [])])=setM (setM mu i rm) d (.it i (d+1) (iotaL (d+2) kv.length) []):=by
    rw[applyU_append]
    simp only[applyU,hmu]
   rw[hap]
   refine⟨.pointer (some ⟨w.heap.size,0,none⟩),_,_,?_,h5,(hO2.trans g2).trans (Onto.new _ _ hd'),?_⟩
   ·simp only[Instr.range,Sem.run_bind,run_underlying hu,Result.andThen_ok,run_getMap h2,Sem.run_pure,run_newObj,World.alloc_eq]
   ·simp only[A.Den]
    exact⟨by simp[setM],λ_=>by simp[setH]⟩
  ·cases he
 ·split at he
  ·rename_i kt hm
   obtain⟨kt,et⟩:=kt
   have hu:=mapT_eq hm
   simp only[Option.some.injEq,Prod.mk.injEq]at he
   obtain⟨rfl,rfl,rfl⟩:=he
   simp only[A.Den,C.Den]at hx;subst hx
   refine⟨.pointer (some ⟨w.heap.size,0,none⟩),w.alloc (.mapIter none 0 #[] 0),setH ρ d (.pointer (some ⟨w.heap.size,0,none⟩)),?_,?_,Onto.new _ _ (freeB_eq hp),?_⟩
   ·simp only[Instr.range,Sem.run_bind,run_underlying hu,Result.andThen_ok,Sem.run_pure,run_newObj,World.alloc_eq]
   ·exact h.newres hlt (keeps_alloc w _) (freeB_eq hp) rfl (by simp[blk]) λ_ _ _=>⟨w.heap.size,rfl,heap_alloc_new w _⟩
   ·simp only[applyU,A.Den]
    exact⟨by simp[setM],λ_=>by simp[setH]⟩
  ·cases he
 ·rename_i s
  simp only[Option.some.injEq,Prod.mk.injEq]at he
  obtain⟨rfl,rfl,rfl⟩:=he
  rw[Bool.and_eq_true]at hp
  simp only[A.Den,C.Den]at hx;subst hx
  refine⟨.pointer (some ⟨w.heap.size,0,none⟩),w.alloc (.stringIter s 0),setH ρ d (.pointer (some ⟨w.heap.size,0,none⟩)),?_,?_,Onto.new _ _ (freeB_eq hp.2),?_⟩
  ·simp only[Instr.range,Sem.run_bind,run_underlying (isStrT_eq hp.1),Result.andThen_ok,Sem.run_pure,run_newObj,World.alloc_eq]
  ·exact h.newres hlt (keeps_alloc w _) (freeB_eq hp.2) rfl (by simp[blk]) λ_ _ _=>⟨w.heap.size,rfl,heap_alloc_new w _⟩
  ·simp only[applyU,A.Den]
   exact⟨by simp[setM],λ_=>by simp[setH]⟩
 ·cases he
end
end Go.Pv
namespace Go.Pv
open Go.RowKit
abbrev Out:=A×List (Nat×R)
def kcVal(c:KC):C:=.v c.val
def kyA:Ky->A
 |.one c=>.d (.v c.val)
 |.agg l=>.d (.agg (l.map kcVal))
def stGet(k:Ky):List (Ky×Nat)->Option Nat
 |[]=>none
 |p::r=>if k=p.1 then some p.2 else stGet k r
def leftOf(st:List (Ky×Nat))(start seen:List Nat):List (Ky×A)->Option (List (Ky×A×Nat))
 |[]=>some []
 |p::r=>match stGet p.1 st,leftOf st start seen r with
  |some s,some l=>if s∈start then(if s∈seen then some l else some ((p.1,p.2,s)::l))else none
  |_,_=>none
def stampsOk(m:Mem):List Nat->Bool
 |[]=>true
 |i::r=>(match m i with|some .sta=>true|_=>false)&&stampsOk m r
def effNext(m:Mem)(x:A)(isS:Bool):Option (Bool×List Out):=
 match x with
 |.h d=>match m d,isS with
  |some (.it i sc start seen),false=>match m i with
   |some (.mp _ kv st)=>match leftOf st start seen kv with
    |some []=>some (stampsOk m (sc::start)&&decide ((Ky.agg [],sc)∈st),[(.tup [.d (.v (.bool false))],[])])
    |some l=>some (stampsOk m (sc::start)&&decide ((Ky.agg [],sc)∈st),l.map λq=>(.tup [.d (.v (.bool true)),kyA q.1,q.2.1],[(d,.it i sc start (q.2.2::seen))]))
    |none=>none
   |_=>none
  |some .it0,false=>some (true,[(.tup [.d (.v (.bool false))],[])])
  |some (.si s pos),true=>if pos<s.size then some (true,[(.tup [.d (.v (.bool true)),.d (.v (.int .i64 pos)),.d (.v (.int .i32 (Utf8.decode s pos).1))],[(d,.si s (pos+(Utf8.decode s pos).2))])])
   else some (true,[(.tup [.d (.v (.bool false))],[])])
  |_,_=>none
 |_=>none
theorem stGet_mem{k:Ky}{s:Nat}:∀{st:List (Ky×Nat)},stGet k st=some s->(k,s)∈st
 |[],h=>by simp[stGet]at h
 |p::r,h=>by
  simp only[stGet]at h
  split at h
  ·rename_i e;simp at h;subst h;subst e;simp
  ·simp[stGet_mem h]
theorem leftOf_spec{st:List (Ky×Nat)}{start seen:List Nat}:∀{kv:List (Ky×A)}{l:List (Ky×A×Nat)},leftOf st start seen kv=some l->
 ∀p∈kv,∃s,(p.1,s)∈st/\s∈start/\((s∈seen)\/(s∉seen/\(p.1,p.2,s)∈l))
 |[],l,h,p,hp=>by simp at hp
 |q::r,l,h,p,hp=>by
  simp only[leftOf]at h
  split at h
  ·rename_i s l' h1 h2
   split at h
   ·rename_i h3
    simp only[List.mem_cons]at hp
    have key:∀p∈r,∃s,(p.1,s)∈st/\s∈start/\((s∈seen)\/(s∉seen/\(p.1,p.2,s)∈l')):=leftOf_spec h2
    split at h
    ·rename_i h4
     simp only[Option.some.injEq]at h;subst h
     rcases hp with rfl|hp
     ·exact⟨s,stGet_mem h1,h3,.inl h4⟩
     ·exact key p hp
    ·rename_i h4
     simp only[Option.some.injEq]at h;subst h
     rcases hp with rfl|hp
     ·exact⟨s,stGet_mem h1,h3,.inr ⟨h4,by simp⟩⟩
     ·obtain⟨s',g1,g2,g3⟩:=key p hp
      exact⟨s',g1,g2,g3.imp id λ⟨a,b⟩=>⟨a,by simp[b]⟩⟩
   ·cases h
  ·cases h
theorem leftOf_back{st:List (Ky×Nat)}{start seen:List Nat}:∀{kv:List (Ky×A)}{l:List (Ky×A×Nat)},leftOf st start seen kv=some l->∀q∈l,(q.1,q.2.1)∈kv/\(q.1,q.2.2)∈st/\q.2.2∈start/\q.2.2∉seen
 |[],l,h,q,hq=>by simp[leftOf]at h;subst h;simp at hq
 |p::r,l,h,q,hq=>by
  simp only[leftOf]at h
  split at h
  ·rename_i s l' h1 h2
   split at h
   ·rename_i h3
    split at h
    ·simp only[Option.some.injEq]at h;subst h
     obtain⟨a,b⟩:=leftOf_back h2 q hq
     exact⟨by simp[a],b⟩
    ·rename_i h4
     simp only[Option.some.injEq]at h;subst h
     simp only[List.mem_cons]at hq
     rcases hq with rfl|hq
     ·exact⟨by simp,stGet_mem h1,h3,h4⟩
     ·obtain⟨a,b⟩:=leftOf_back h2 q hq
      exact⟨by simp[a],b⟩
   ·cases h
  ·cases h
section
variable{M0 S0:Nat->Prop}{w0:World}{N:Fr}{T:Nat->A}{m:Mem}{ρ:Nat->Value}{a:Act}{w:World}{P:Program}
theorem stampsOk_mem:∀{l:List Nat},stampsOk m l=true->∀i∈l,m i=some .sta
 |[],_,i,hi=>by simp at hi
 |j::r,h,i,hi=>by
  simp only[stampsOk,Bool.and_eq_true]at h
  simp only[List.mem_cons]at hi
  rcases hi with rfl|hi
  ·have h1:=h.1
   split at h1
   ·assumption
   ·cases h1
  ·exact stampsOk_mem h.2 i hi
theorem kyA_den(k:Ky)(M:Nat->Prop):(kyA k).Den w M m ρ k.val:=by
 cases k with
 |one c=>simp[kyA,A.Den,C.Den,Ky.val]
 |agg l=>
  simp only[kyA,A.Den,C.Den,Ky.val]
  refine⟨_,rfl,?_,?_⟩
  ·intro u hu
   simp at hu
   obtain⟨c,_,rfl⟩:=hu
   cases c<;>rfl
  ·simp only[List.toArray]
   induction l with
   |nil=>simp[C.DenL]
   |cons c r ih=>simp only[List.map_cons,C.DenL];exact⟨_,_,rfl,by simp[kcVal,C.Den],by simpa using ih⟩
theorem putObj_run{b:Nat}{o o':Obj}(h:w.heap[b]?=some o')(hc:∀c e f,o'≠.cells c e f):(setObj b o).run P w=.ok () (w.putObj b o):=by
 cases o'<;>first
  |(exact absurd rfl (hc _ _ _))
  |simp[setObj,Sem.run,h,World.putObj]
theorem sd_next(h:SatAt M0 S0 w0 N T m ρ a w){x:A}{isS:Bool}{y:Value}{ty:TypeId}{pre:Bool}{outs:List Out}(hx:x.Den w (Mut M0 m ρ) m ρ y)(he:effNext m x isS=some (pre,outs))(hp:pre=true):
 ∃o∈outs,∃v w',(Instr.next y isS ty).run P w=.ok v w'/\SatAt M0 S0 w0 N T (applyU m o.2) ρ a w'/\Onto m (applyU m o.2) ρ ρ/\o.1.Den w' (Mut M0 (applyU m o.2) ρ) (applyU m o.2) ρ v:=by
 have hfalse:∀{w':World}{m':Mem}{M:Nat->Prop},(A.tup [.d (.v (.bool false))]).Den w' M m' ρ (.tuple #[.bool false]):=by
  intro w' m' M
  simp only[A.Den,A.DenL,C.Den]
  exact⟨_,rfl,_,_,rfl,rfl,rfl⟩
 unfold effNext at he
 split at he
 ·rename_i d
  simp only[A.Den]at hx
  split at he
  ·rename_i i sc start seen hd
   have hy:=has_of hx hd (by simp)
   split at he
   ·rename_i fz kv st hi
    obtain⟨b,mb,si,sa,e1,e2,e3,e5,e6⟩:=h.res d _ hd
    obtain⟨b',es,cl,z,g1,g2,g3,g4⟩:=mp_mz h hi
    have e3':=has_of e3 hi (by simp)
    rw[g1]at e3';simp at e3';subst e3'
    rw[e1]at hy;subst hy
    have hpre:pre=(stampsOk m (sc::start)&&decide ((Ky.agg [],sc)∈st)):=by
     split at he<;>first
      |(simp only[Option.some.injEq,Prod.mk.injEq]at he;exact he.1.symm)
      |cases he
    rw[hpre,Bool.and_eq_true]at hp
    have hsta:=stampsOk_mem hp.1
    have hsc:=of_decide_eq_true hp.2
    have hscv:stampOf ρ sc=si:=has_of e5 (hsta sc (by simp)) (by simp)
    have hsicl:si=cl:=by
     have:=(has_of (g4 _ hsc) (hsta sc (by simp)) (by simp)).2.2 rfl
     rw[hscv]at this;exact this
    obtain⟨hnd,hndS,hall,hsub,hback⟩:=e6.2.2 (λj hj e=>by rw[hsta j (by simp[hj])]at e;cases e)
    have hborn:∀p∈z,∀s,(p.1.1,s)∈st->s∈start->p.2.born=stampOf ρ s:=by
     intro p hp s hs hss
     have:=(has_of (g4 _ hs) (hsta s (by simp[hss])) (by simp)).1 p.2 (by rw[g3.toList];exact List.mem_map.2 ⟨p,hp,rfl⟩) (g3.key p hp)
     exact this
    have hleft:∀{l},leftOf st start seen kv=some l->∀p∈z,∃s,s∈start/\p.2.born=stampOf ρ s/\(s∈seen\/(s∉seen/\(p.1.1,p.1.2,s)∈l)):=by
     intro l hl p hp
     obtain⟨s,q1,q2,q3⟩:=leftOf_spec hl p.1 (g3.perm.mem_iff.1 (List.mem_map.2 ⟨p,hp,rfl⟩))
     exact⟨s,q2,hborn p hp s q1 q2,q3⟩
    have hfil:∀{l},leftOf st start seen kv=some l->∀e,e∈es.filter (λe=> !sa.contains e.born)↔∃p∈z,e=p.2/\∃s,s∈start/\p.2.born=stampOf ρ s/\s∉seen/\(p.1.1,p.1.2,s)∈l:=by
     intro l hl e
     rw[Array.mem_filter]
     constructor
     ·rintro⟨h1,h2⟩
      have h1':e∈es.toList:=by simpa using h1
      rw[g3.toList]at h1'
      obtain⟨p,hp,rfl⟩:=List.mem_map.1 h1'
      obtain⟨s,q1,q2,q3⟩:=hleft hl p hp
      have:=(hall s q1).2
      rw[<-q2]at this
      rw[this]at h2
      have hns:s∉seen:=by simpa using h2
      exact⟨p,hp,rfl,s,q1,q2,hns,(q3.resolve_left hns).2⟩
     ·rintro⟨p,hp,rfl,s,q1,q2,q3,_⟩
      refine⟨?_,?_⟩
      ·have:p.2∈es.toList:=by rw[g3.toList];exact List.mem_map.2 ⟨p,hp,rfl⟩
       simpa using this
      ·have:=(hall s q1).2
       rw[q2,this];simpa using q3
    have holdB:∀{l},leftOf st start seen kv=some l->∀e∈es,e.born<si:=by
     intro l hl e he
     have he':e∈es.toList:=by simpa using he
     rw[g3.toList]at he'
     obtain⟨p,hp,rfl⟩:=List.mem_map.1 he'
     obtain⟨s,q1,q2,_⟩:=hleft hl p hp
     rw[q2];exact(hall s q1).1
    have hcheck:∀{l},leftOf st start seen kv=some l->(!sa.isEmpty&& !es.isEmpty&&es.all (λe=>decide (e.born≥si)))=false:=by
     intro l hl
     cases hE:es.isEmpty with
     |true=>simp
     |false=>
      have:∃e,e∈es:=by
       have:0<es.size:=by
        rcases Nat.eq_zero_or_pos es.size with q|q
        ·simp[Array.isEmpty,q]at hE
        ·exact q
       exact⟨es[0],by simp⟩
      obtain⟨e,he⟩:=this
      have h1:=holdB hl e he
      have:es.all (λe=>decide (e.born≥si))=false:=by
       rw[Array.all_eq_false']
       exact⟨e,he,by simp;omega⟩
      simp[this]
    have hold:∀{l},leftOf st start seen kv=some l->(es.filter (λe=> !sa.contains e.born)).filter (λe=>decide (e.born<si))=es.filter (λe=> !sa.contains e.born)/\(es.filter (λe=> !sa.contains e.born)).filter (λe=>decide (e.born≥si))= #[]:=by
     intro l hl
     constructor
     ·rw[Array.filter_eq_self]
      intro e he
      have:=holdB hl e (Array.mem_filter.1 he).1
      simpa using this
     ·rw[Array.filter_eq_empty_iff]
      intro e he
      have:=holdB hl e (Array.mem_filter.1 he).1
      simp;omega
    have hit:m d=some (.it i sc start seen):=hd
    have hdraw:∀(n:Nat),0<n->∃k w1,(choose (.mapNext n)).run P w=.ok k w1/\k<n/\SatAt M0 S0 w0 N T m ρ a w1/\w1.heap=w.heap:=by
     intro n hn
     by_cases h1:n<=1
     ·exact⟨0,w,by simp[choose,Sem.run,Question.forced,h1],hn,h,rfl⟩
     ·refine⟨(Question.mapNext n).cut (w.tape w.drawn (.mapNext n)),{w with drawn:=w.drawn+1},?_,by simp only[Question.cut];exact Nat.mod_lt _ hn,h.drew _,rfl⟩
      simp only[choose,Sem.run,Question.forced,h1,decide_false,Bool.false_eq_true,if_false]
    cases hl:leftOf st start seen kv with
    |none=>rw[hl]at he;cases he
    |some l=>
     rw[hl]at he
     obtain⟨o1,o2⟩:=hold hl
     have hc:=hcheck hl
     have hf:=hfil hl
     cases l with
     |nil=>
      simp only[Option.some.injEq,Prod.mk.injEq]at he
      obtain⟨_,rfl⟩:=he
      have hemp:es.filter (λe=> !sa.contains e.born)= #[]:=by
       apply Array.eq_empty_of_size_eq_zero
       rcases Nat.eq_zero_or_pos (es.filter (λe=> !sa.contains e.born)).size with q|q
       ·exact q
       ·have hmem:(es.filter (λe=> !sa.contains e.born))[0]'q∈es.filter (λe=> !sa.contains e.born):=Array.getElem_mem q
        obtain⟨p,_,_,s,_,_,_,hm⟩:=(hf _).1 hmem
        simp at hm
      refine⟨_,List.mem_singleton.2 rfl,.tuple #[.bool false],w,?_,h,Onto.refl m ρ,hfalse⟩
      simp only[Instr.next,Sem.run_bind]
      rw[show(getObj b).run P w=.ok (.mapIter (some b') si sa si) w by simp[getObj,Sem.run,e2]]
      simp only[Result.andThen_ok,Sem.run_bind]
      rw[run_getMap g2]
      simp only[Result.andThen_ok,Sem.run_bind,hc,Bool.false_eq_true,if_false,Sem.run_pure,hemp]
      simp[choose,Sem.run,Question.forced]
     |cons q l'=>
      simp only[Option.some.injEq,Prod.mk.injEq]at he
      obtain⟨_,rfl⟩:=he
      generalize hF:es.filter (λe=> !sa.contains e.born)=F at o1 o2 hf
      have hpos:0<F.size:=by
       obtain⟨q1,q2,q3,q4⟩:=leftOf_back hl q (by simp)
       obtain⟨p,hp,hp2⟩:=List.mem_map.1 (g3.perm.mem_iff.2 q1)
       have:p.2∈F:=(hf p.2).2 ⟨p,hp,rfl,q.2.2,q3,hborn p hp q.2.2 (by rw[hp2];exact q2) q3,q4,by rw[hp2];simp⟩
       rcases Nat.eq_zero_or_pos F.size with z0|z0
       ·have:=Array.eq_empty_of_size_eq_zero z0;subst this;simp at*
       ·exact z0
      obtain⟨k,w1,hk1,hk2,hk3,hk4⟩:=hdraw F.size hpos
      obtain⟨p,hpz,hpe,s,hs1,hs2,hs3,hs4⟩:=(hf F[k]).1 (by simp)
      have hw1b:w1.heap[b]?=some (.mapIter (some b') si sa si):=by rw[hk4];exact e2
      have hO:Onto m (setM m d (.it i sc start (s::seen))) ρ ρ:=by
       have:=Onto.set (m:=m) (ρ:=ρ) d (.it i sc start (s::seen)) (ρ d) (λ_ _=>⟨by rw[hit];simp,rfl,λfz t es l e=>by rw[hit]at e;simp at e⟩)
       rwa [setH_same]at this
      refine⟨_,List.mem_map.2 ⟨_,hs4,rfl⟩,.tuple #[.bool true,F[k].key,F[k].val],w1.putObj b (.mapIter (some b') si (sa.push F[k].born) cl),?_,?_,hO,?_⟩
      ·simp only[Instr.next,Sem.run_bind]
       rw[show(getObj b).run P w=.ok (.mapIter (some b') si sa si) w by simp[getObj,Sem.run,e2]]
       simp only[Result.andThen_ok,Sem.run_bind]
       rw[run_getMap g2]
       have hne:F.isEmpty=false:=by unfold Array.isEmpty;exact decide_eq_false (by omega)
       simp only[Result.andThen_ok,Sem.run_bind,hc,Bool.false_eq_true,if_false,Sem.run_pure,hF,o1,o2,hne,Array.empty_append,Array.append_empty,Array.size_map,hk1,Array.getElem?_map,Array.getElem?_eq_getElem hk2,Option.map_some]
       rw[putObj_run hw1b (by simp)]
       simp
      ·refine hk3.write hit rfl rfl (by simp) (putObj_keeps w1 b _) (λc _ e=>by rw[e1,e];rfl) λhO' hst' hm'=>?_
       refine⟨b,b',si,_,e1,by rw[putObj_at hw1b,hsicl],e3.mono hO' λe _ q=>e.trans q,e5.mono hO' λe _ q=>q,?_⟩
       refine⟨λj hj=>by
        simp only[List.mem_cons]at hj
        rcases hj with rfl|hj
        · exact hs1
        · exact hsub j hj,λj hj=>by
        have hjd:j≠d:=by rintro rfl;have:=hsta j (by simp[hj]);rw[hit]at this;cases this
        simp[setM,hjd,hsta j (by simp[hj])],λ_=>⟨hnd,hndS,λj hj=>⟨(hall j hj).1,?_⟩,λj hj=>by
         simp only[List.mem_cons]at hj
         rcases hj with rfl|hj
         · exact hs1
         · exact hsub j hj,by simp[hpe,hs2]⟩⟩
       have hcj:=(hall j hj).2
       have hbk:F[k].born=stampOf ρ s:=by rw[hpe];exact hs2
       rw[Array.contains_push,hcj,hbk]
       by_cases hjs:j=s
       ·subst hjs;simp
       ·have hne:stampOf ρ j≠stampOf ρ s:=λe=>hjs (by
         obtain⟨j1,hj1⟩:=List.mem_iff_getElem?.1 hj
         obtain⟨j2,hj2⟩:=List.mem_iff_getElem?.1 hs1
         have:=nodup_idx hndS hj1 hj2 e
         subst this;rw[hj1]at hj2;cases hj2;rfl)
        simp[hjs,hne]
      ·have hkey:F[k].key=p.1.1.val:=by rw[hpe];exact g3.key p hpz
       have hval:A.Den (w1.putObj b (.mapIter (some b') si (sa.push F[k].born) cl)) (Mut M0 (setM m d (.it i sc start (s::seen))) ρ) (setM m d (.it i sc start (s::seen))) ρ p.1.2 F[k].val:=by
        rw[hpe]
        have hst1:Stays (Mut M0 m ρ) w (w1.putObj b (.mapIter (some b') si (sa.push p.2.born) cl)):=by
         refine⟨by simp[World.putObj,hk4],λc hc1 hc2=>?_⟩
         have hcb:c≠b:=by rintro rfl;exact hc2 (.inr ⟨d,_,hit,rfl,by rw[e1];rfl⟩)
         show(w1.heap.setIfInBounds b _)[c]?=_
         rw[Array.getElem?_setIfInBounds_ne (Ne.symm hcb),hk4]
        refine A.Den_mono hst1 ?_ hO _ _ (g3.den p hpz)
        rintro c (e|⟨i',r,q1,q2,q3⟩) _
        ·exact .inl e
        ·by_cases ei:i'=d
         ·subst ei;exact .inr ⟨i',_,hit,rfl,q3⟩
         ·exact .inr ⟨i',r,by simpa [setM,ei]using q1,q2,q3⟩
       simp only[applyU,A.Den]
       refine⟨_,rfl,?_⟩
       simp only[A.DenL]
       exact⟨_,_,rfl,by simp[A.Den,C.Den],_,_,rfl,by rw[hkey];exact kyA_den _ _,_,_,rfl,hval,rfl⟩
   ·cases he
  ·rename_i hd
   simp only[Option.some.injEq,Prod.mk.injEq]at he
   obtain⟨_,rfl⟩:=he
   obtain⟨b,e1,e2⟩:=h.res d _ hd
   have hy:=has_of hx hd (by simp)
   rw[e1]at hy;subst hy
   refine⟨_,List.mem_singleton.2 rfl,.tuple #[.bool false],w,?_,h,Onto.refl m ρ,hfalse⟩
   simp[Instr.next,getObj,Sem.run,e2]
  ·rename_i s pos hd
   obtain⟨b,e1,e2⟩:=h.res d _ hd
   have hy:=has_of hx hd (by simp)
   rw[e1]at hy;subst hy
   split at he
   ·rename_i hlt
    simp only[Option.some.injEq,Prod.mk.injEq]at he
    obtain⟨_,rfl⟩:=he
    have hO:Onto m (setM m d (.si s (pos+(Utf8.decode s pos).2))) ρ ρ:=by
     have:=Onto.set (m:=m) (ρ:=ρ) d (.si s (pos+(Utf8.decode s pos).2)) (ρ d) (λ_ _=>⟨by rw[hd];simp,rfl,λfz t es l e=>by rw[hd]at e;simp at e⟩)
     rwa [setH_same]at this
    refine⟨_,List.mem_singleton.2 rfl,.tuple #[.bool true,goInt pos,.int .i32 (Utf8.decode s pos).1],w.putObj b (.stringIter s (pos+(Utf8.decode s pos).2)),?_,?_,hO,?_⟩
    ·simp only[Instr.next,Sem.run_bind]
     rw[show(getObj b).run P w=.ok (.stringIter s pos) w by simp[getObj,Sem.run,e2]]
     simp only[Result.andThen_ok,hlt,if_true,Sem.run_bind]
     rw[putObj_run e2 (by simp)]
     simp
    ·exact h.write hd rfl rfl (by simp) (putObj_keeps w b _) (λk _ e=>by rw[e1,e];rfl) λ_ _ _=>⟨b,e1,putObj_at e2⟩
    ·simp only[A.Den,A.DenL,C.Den]
     exact⟨_,rfl,_,_,rfl,rfl,_,_,rfl,rfl,_,_,rfl,rfl,rfl⟩
   ·rename_i hlt
    simp only[Option.some.injEq,Prod.mk.injEq]at he
    obtain⟨_,rfl⟩:=he
    refine⟨_,List.mem_singleton.2 rfl,.tuple #[.bool false],w,?_,h,Onto.refl m ρ,hfalse⟩
    simp only[Instr.next,Sem.run_bind]
    rw[show(getObj b).run P w=.ok (.stringIter s pos) w by simp[getObj,Sem.run,e2]]
    simp[hlt]
  ·cases he
 ·cases he
end
end Go.Pv
namespace Go.Pv
open Go.RowKit
def effEntry(m:Mem)(x:A):Option E:=
 match x with
 |.h d=>match m d with
  |some (.it i sc start (s::_))=>match m i with
   |some (.mp _ kv st)=>match st.find? λp=>p.2==s&&p.1 !=.agg []with
    |some (k,_)=>match kvGet k kv with
     |some a=>some (stampsOk m (sc::start)&&decide ((Ky.agg [],sc)∈st),.tup [kyA k,a],[])
     |none=>none
    |none=>none
   |_=>none
  |_=>none
 |_=>none
theorem find_unique{α:Type}{p:α->Bool}:∀{l:List α}{x:α},x∈l->p x=true->(∀y∈l,p y=true->y=x)->l.find? p=some x
 |[],x,h,_,_=>by simp at h
 |y::l,x,h,hp,hu=>by
  simp only[List.find?_cons]
  cases hy:p y with
  |true=>rw[hu y (by simp) hy]
  |false=>
   simp only
   simp only[List.mem_cons]at h
   rcases h with rfl|h
   ·rw[hp]at hy;cases hy
   ·exact find_unique h hp λz hz=>hu z (by simp[hz])
section
variable{M0 S0:Nat->Prop}{w0:World}{N:Fr}{T:Nat->A}{m:Mem}{ρ:Nat->Value}{a:Act}{w:World}{P:Program}
theorem sd_entry(h:SatAt M0 S0 w0 N T m ρ a w){x v:A}{y:Value}{pre:Bool}{ups:List (Nat×R)}(hx:x.Den w (Mut M0 m ρ) m ρ y)(he:effEntry m x=some (pre,v,ups))(hp:pre=true):
 ups=[]/\∃z,(Instr.entry y).run P w=.ok z w/\v.Den w (Mut M0 m ρ) m ρ z:=by
 unfold effEntry at he
 split at he
 ·rename_i d
  simp only[A.Den]at hx
  split at he
  ·rename_i i sc start s seen hd
   have hy:=has_of hx hd (by simp)
   split at he
   ·rename_i fz kv st hi
    split at he
    ·rename_i k s' hfi
     split at he
     ·rename_i a0 hg
      simp only[Option.some.injEq,Prod.mk.injEq]at he
      obtain⟨rfl,rfl,rfl⟩:=he
      obtain⟨b,mb,si,sa,e1,e2,e3,e5,e6⟩:=h.res d _ hd
      obtain⟨b',es,cl,z,g1,g2,g3,g4⟩:=mp_mz h hi
      have e3':=has_of e3 hi (by simp)
      rw[g1]at e3';simp at e3';subst e3'
      rw[e1]at hy;subst hy
      rw[Bool.and_eq_true]at hp
      have hsta:=stampsOk_mem hp.1
      have hsc:=of_decide_eq_true hp.2
      have hscv:stampOf ρ sc=si:=has_of e5 (hsta sc (by simp)) (by simp)
      have hsicl:si=cl:=by
       have:=(has_of (g4 _ hsc) (hsta sc (by simp)) (by simp)).2.2 rfl
       rw[hscv]at this;exact this
      obtain⟨hnd,hndS,hall,hsub,hback⟩:=e6.2.2 (λj hj e=>by rw[hsta j (by simp[hj])]at e;cases e)
      have hmem:=List.mem_of_find?_eq_some hfi
      have hs':s'=s:=by have:=List.find?_some hfi;simp at this;exact this.1
      subst hs'
      rcases g3.find k with⟨_,q2⟩|⟨j,p,q1,q2,q3,q4⟩
      ·rw[q2]at hg;cases hg
      rw[q4]at hg;simp only[Option.some.injEq]at hg;subst hg
      have hpz:=List.mem_of_getElem? q2
      have hpe:p.2∈es.toList:=by rw[g3.toList];exact List.mem_map.2 ⟨p,hpz,rfl⟩
      have hpk:p.2.key=k.val:=by rw[<-q3];exact g3.key p hpz
      have hbn:=(has_of (g4 _ hmem) (hsta s' (by simp[hsub s' (by simp)])) (by simp)).1 p.2 hpe hpk
      have hfind:es.find? (λe=>e.born==stampOf ρ s')=some p.2:=by
       have:es.find? (λe=>e.born==stampOf ρ s')=es.toList.find? (λe=>e.born==stampOf ρ s'):=by
        conv=>lhs;rw[<-Array.toArray_toList (xs:=es)]
        exact List.find?_toArray _ _
       rw[this]
       refine find_unique hpe (by simp[hbn]) λe he hb=>?_
       rw[g3.toList]at he
       obtain⟨q,hq,rfl⟩:=List.mem_map.1 he
       obtain⟨jq,hjq⟩:=List.mem_iff_getElem?.1 hq
       have:=nodup_idx g3.born hjq q2 (by rw[hbn];simpa using hb)
       subst this;rw[q2]at hjq;cases hjq;rfl
      refine⟨rfl,.tuple #[p.2.key,p.2.val],?_,?_⟩
      ·simp only[Instr.entry,Sem.run_bind]
       rw[show(getObj b).run P w=.ok (.mapIter (some b') si sa si) w by simp[getObj,Sem.run,e2]]
       simp only[Result.andThen_ok,hback,List.head?_cons,Option.map_some,Sem.run_bind]
       rw[run_getMap g2]
       simp only[Result.andThen_ok,hsicl,bne_self_eq_false,Bool.false_eq_true,if_false,Sem.run_bind,Sem.run_pure,hfind]
      ·simp only[A.Den,A.DenL]
       exact⟨_,rfl,_,_,rfl,by rw[hpk];exact kyA_den _ _,_,_,rfl,g3.den p hpz,rfl⟩
     ·cases he
    ·cases he
   ·cases he
  ·cases he
 ·cases he
def effEqS(P:Program)(t:TypeId)(x y:A):Option (Bool×Bool):=
 match keyOf x,keyOf y with
 |some (.agg a),some (.agg b)=>some ((Ky.agg a).fits P t&&(Ky.agg a).same (.agg b)&& !P.eqGuardType P.depth t,decide (a=b))
 |_,_=>none
theorem sd_eqS{op:BinOp}{t:TypeId}{x y:A}{u v:Value}{ox oy:Operand}{pre b:Bool}{M:Nat->Prop}(hx:x.Den w M m ρ u)(hy:y.Den w M m ρ v)(he:effEqS P t x y=some (pre,b))(hp:pre=true)(hop:op=.eql\/op=.neq):
 (do eqGuard op t ox oy u v;binOp op t u v).run P w=.ok (.bool (if op=.eql then b else !b)) w:=by
 unfold effEqS at he
 split at he
 ·rename_i k l h1 h2
  simp only[Option.some.injEq,Prod.mk.injEq]at he
  obtain⟨rfl,rfl⟩:=he
  have e1:=keyOf_den h1 hx
  have e2:=keyOf_den h2 hy
  subst e1;subst e2
  simp only[Bool.and_eq_true,Bool.not_eq_true']at hp
  have hq:=run_eqKy (w:=w) 9995 hp.1.1 hp.1.2
  simp only[Ky.val]at hq⊢
  simp only[Sem.run_bind,run_eqGuard_agg w op t ox oy _ _ hp.2,Result.andThen_ok]
  rcases hop with rfl|rfl
  ·rw[run_eql_struct w];simp only[hq,Result.andThen_ok];simp
  ·rw[run_neq_struct w];simp only[hq,Result.andThen_ok];simp
 ·cases he
def effIndex(P:Program)(t:TypeId)(x ix:A):Option E:=
 match x,ix with
 |.d (.v (.string s)),.d (.v (.int _ n))=>match s[n.toNat]? with
  |some b=>some (isStrT P t&&decide (0<=n),.d (.v (.int .u8 b.toNat)),[])
  |none=>none
 |.agg l,.d (.v (.int _ n))=>match P.underlying t with
  |some (.array len e)=>match aggOf P e with
   |some true=>some (decide (0<=n/\n<len/\n.toNat*P.cellsOf e+P.cellsOf e<=l.length),.agg ((l.drop (n.toNat*P.cellsOf e)).take (P.cellsOf e)),[])
   |some false=>some (decide (0<=n/\n<len/\n.toNat*P.cellsOf e<l.length),l.getD (n.toNat*P.cellsOf e) .x,[])
   |none=>none
  |_=>none
 |.d (.agg l),.d (.v (.int _ n))=>match P.underlying t with
  |some (.array len e)=>match aggOf P e with
   |some true=>some (decide (0<=n/\n<len/\n.toNat*P.cellsOf e+P.cellsOf e<=l.length),.d (.agg ((l.drop (n.toNat*P.cellsOf e)).take (P.cellsOf e))),[])
   |some false=>some (decide (0<=n/\n<len/\n.toNat*P.cellsOf e<l.length),.d (l.getD (n.toNat*P.cellsOf e) default),[])
   |none=>none
  |_=>none
 |_,_=>none
theorem run_part{t:TypeId}{vs:Array Value}{o:Nat}{M:Nat->Prop}{l:List A}(h0:∀u∈vs.toList,u.oneCell'=true)(hd:A.DenL w M m ρ l vs.toList):
 (aggOf P t=some true->o+P.cellsOf t<=l.length->∃y,(part t vs o).run P w=.ok y w/\(A.agg ((l.drop o).take (P.cellsOf t))).Den w M m ρ y)/\
 (aggOf P t=some false->o<l.length->∃y,(part t vs o).run P w=.ok y w/\(l.getD o .x).Den w M m ρ y):=by
 have hlen:=(A.DenL_iff.1 hd).1
 constructor
 ·intro hg hle
  refine⟨.agg (vs.extract o (o+P.cellsOf t)),by simp[part,run_isAgg hg,run_sizeOf' hg],?_⟩
  simp only[A.Den]
  have e1:(vs.extract o (o+P.cellsOf t)).toList=(vs.toList.drop o).take (P.cellsOf t):=by
   rw[Array.toList_extract];simp[List.extract_eq_take_drop]
  exact⟨_,rfl,by rw[e1];exact λu hu=>h0 u (List.mem_of_mem_drop (List.mem_of_mem_take hu)),by rw[e1];exact A.DenL_take _ (A.DenL_drop _ hd)⟩
 ·intro hg hlt
  have hlt':o<vs.toList.length:=by omega
  refine⟨vs.toList[o],?_,?_⟩
  ·have:vs[o]?=some vs.toList[o]:=by simp at hlt';simp[hlt']
   simp[part,run_isAgg hg,this]
  ·rw[List.getD_eq_getElem?_getD,List.getElem?_eq_getElem hlt]
   exact(A.DenL_iff.1 hd).2 _ _ _ (List.getElem?_eq_getElem hlt) (List.getElem?_eq_getElem hlt')
theorem sd_index{t:TypeId}{x ix v:A}{y iy:Value}{pre:Bool}{ups:List (Nat×R)}{M:Nat->Prop}(hx:x.Den w M m ρ y)(hix:ix.Den w M m ρ iy)(he:effIndex P t x ix=some (pre,v,ups))(hp:pre=true):
 ups=[]/\∃z,(Instr.index t y iy).run P w=.ok z w/\v.Den w M m ρ z:=by
 unfold effIndex at he
 split at he
 ·rename_i s k n
  simp only[A.Den,C.Den]at hx hix;subst hx;subst hix
  split at he
  ·rename_i b hb
   simp only[Option.some.injEq,Prod.mk.injEq]at he
   obtain⟨rfl,rfl,rfl⟩:=he
   rw[Bool.and_eq_true]at hp
   have h0:=of_decide_eq_true hp.2
   exact⟨rfl,.int .u8 b.toNat,by simp[Instr.index,asIntOf,run_underlying (isStrT_eq hp.1),h0,hb],by simp[A.Den,C.Den]⟩
  ·cases he
 ·rename_i l k n
  simp only[A.Den,C.Den]at hix;subst hix
  simp only[A.Den]at hx
  obtain⟨vs,rfl,h0,hd⟩:=hx
  split at he
  ·rename_i len e hu
   split at he
   ·rename_i hg
    simp only[Option.some.injEq,Prod.mk.injEq]at he
    obtain⟨rfl,rfl,rfl⟩:=he
    obtain⟨p1,p2,p3⟩:=of_decide_eq_true hp
    obtain⟨z,r1,r2⟩:=(run_part (P:=P) (t:=e) (o:=n.toNat*P.cellsOf e) h0 hd).1 hg p3
    exact⟨rfl,z,by simp[Instr.index,asIntOf,run_underlying hu,p1,p2,run_sizeOf' hg,r1],r2⟩
   ·rename_i hg
    simp only[Option.some.injEq,Prod.mk.injEq]at he
    obtain⟨rfl,rfl,rfl⟩:=he
    obtain⟨p1,p2,p3⟩:=of_decide_eq_true hp
    obtain⟨z,r1,r2⟩:=(run_part (P:=P) (t:=e) (o:=n.toNat*P.cellsOf e) h0 hd).2 hg p3
    exact⟨rfl,z,by simp[Instr.index,asIntOf,run_underlying hu,p1,p2,run_sizeOf' hg,r1],r2⟩
   ·cases he
  ·cases he
 ·rename_i l k n
  simp only[A.Den,C.Den]at hix;subst hix
  simp only[A.Den,C.Den]at hx
  obtain⟨vs,rfl,h0,hd⟩:=hx
  have hd':A.DenL w M m ρ (l.map A.d) vs.toList:=A.DenL_map_d.2 hd
  split at he
  ·rename_i len e hu
   split at he
   ·rename_i hg
    simp only[Option.some.injEq,Prod.mk.injEq]at he
    obtain⟨rfl,rfl,rfl⟩:=he
    obtain⟨p1,p2,p3⟩:=of_decide_eq_true hp
    obtain⟨z,r1,r2⟩:=(run_part (P:=P) (t:=e) (o:=n.toNat*P.cellsOf e) h0 hd').1 hg (by simpa using p3)
    refine⟨rfl,z,by simp[Instr.index,asIntOf,run_underlying hu,p1,p2,run_sizeOf' hg,r1],?_⟩
    rw[<-List.map_drop,<-List.map_take]at r2
    simp only[A.Den,C.Den]at r2⊢
    obtain⟨us,q1,q2,q3⟩:=r2
    exact⟨us,q1,q2,A.DenL_map_d.1 q3⟩
   ·rename_i hg
    simp only[Option.some.injEq,Prod.mk.injEq]at he
    obtain⟨rfl,rfl,rfl⟩:=he
    obtain⟨p1,p2,p3⟩:=of_decide_eq_true hp
    obtain⟨z,r1,r2⟩:=(run_part (P:=P) (t:=e) (o:=n.toNat*P.cellsOf e) h0 hd').2 hg (by simpa using p3)
    refine⟨rfl,z,by simp[Instr.index,asIntOf,run_underlying hu,p1,p2,run_sizeOf' hg,r1],?_⟩
    rw[List.getD_eq_getElem?_getD,List.getElem?_map,List.getElem?_eq_getElem p3]at r2
    rw[List.getD_eq_getElem?_getD,List.getElem?_eq_getElem p3]
    exact r2
   ·cases he
  ·cases he
 ·cases he
end
end Go.Pv
namespace Go.Pv
open Go.RowKit
def effAll(P:Program)(m:Mem)(T:Nat->A)(d:Nat)(o:Oper):Option E:=
 match o.op with
 |.lookup t x ix ok=>effLookup P m t (evT T x) (evT T ix) ok
 |.mapUpdate t x k v=>effMapSet P m t (evT T x) (evT T k) (evT T v)
 |.insert t x k v=>effMapSet P m t (evT T x) (evT T k) (evT T v)
 |.mapEntry t x k=>effMapEntry P m d t (evT T x) (evT T k)
 |.entryStore t x s v=>effEntryStore m (evT T x) (evT T s) (evT T v)
 |.range t x=>effRange P m d t (evT T x)
 |.entry x=>effEntry m (evT T x)
 |.index t x ix=>effIndex P t (evT T x) (evT T ix)
 |.binOp op t x y _=>match effOp P m T d o with
  |some e=>some e
  |none=>match op with
   |.eql=>(effEqS P t (evT T x) (evT T y)).map λr=>(r.1,.d (.v (.bool r.2)),[])
   |.neq=>(effEqS P t (evT T x) (evT T y)).map λr=>(r.1,.d (.v (.bool (!r.2))),[])
   |_=>none
 |.call c=>match effOp P m T d o with
  |some e=>some e
  |none=>match c.callee,c.args.toList,c.argTypes.toList with
   |.builtin .delete,[x,k],[t,_]=>effDelete P m t (evT T x) (evT T k)
   |_,_,_=>none
 |_=>effOp P m T d o
section
variable{M0 S0:Nat->Prop}{w0:World}{N:Fr}{T:Nat->A}{m:Mem}{ρ:Nat->Value}{a:Act}{w:World}{P:Program}
theorem sd_all(h:SatAt M0 S0 w0 N T m ρ a w)(hlt:∀b,M0 b->b<w0.heap.size){o:Oper}{d:Nat}{pre:Bool}{v:A}{ups:List (Nat×R)}(he:effAll P m T d o=some (pre,v,ups))(hp:pre=true):Gives P M0 S0 w0 N T m ρ a w o v (applyU m ups):=by
 unfold effAll at he
 split at he
 ·rename_i t x ix ok ho
  obtain⟨rfl,z,hr,hv⟩:=sd_lookup (P:=P) h (ev_den h x) (ev_den h ix) he hp
  exact gives_pure h (by simp[execOp,ho,hr]) hv
 ·rename_i t x k v' ho
  obtain⟨w',hr,hs,hO,rfl⟩:=sd_mapSet (P:=P) h (ev_den h x) (ev_den h k) (ev_den h v') he hp
  exact⟨undef,w',ρ,_,by simp[execOp,ho,hr],.inr ⟨rfl,rfl⟩,hs,hO,by simp only[A.Den]⟩
 ·rename_i t x k v' ho
  obtain⟨w',hr,hs,hO,rfl⟩:=sd_mapSet (P:=P) h (ev_den h x) (ev_den h k) (ev_den h v') he hp
  exact⟨undef,w',ρ,_,by simp[execOp,ho,hr],.inr ⟨rfl,rfl⟩,hs,hO,by simp only[A.Den]⟩
 ·rename_i t x k ho
  obtain⟨z,w',ρ',hr,hs,hO,hv⟩:=sd_mapEntry (P:=P) h hlt (ev_den h x) (ev_den h k) he hp
  exact⟨z,w',ρ',_,by simp[execOp,ho,hr],.inl rfl,hs,hO,hv⟩
 ·rename_i t x s v' ho
  obtain⟨w',hr,hs,hO,rfl⟩:=sd_entryStore (P:=P) (t:=t) h (ev_den h x) (ev_den h s) (ev_den h v') he
  exact⟨undef,w',ρ,_,by simp[execOp,ho,hr],.inr ⟨rfl,rfl⟩,hs,hO,by simp only[A.Den]⟩
 ·rename_i t x ho
  obtain⟨z,w',ρ',hr,hs,hO,hv⟩:=sd_range (P:=P) h hlt (ev_den h x) he hp
  exact⟨z,w',ρ',_,by simp[execOp,ho,hr],.inl rfl,hs,hO,hv⟩
 ·rename_i x ho
  obtain⟨rfl,z,hr,hv⟩:=sd_entry (P:=P) h (ev_den h x) he hp
  exact gives_pure h (by simp[execOp,ho,hr]) hv
 ·rename_i t x ix ho
  obtain⟨rfl,z,hr,hv⟩:=sd_index (P:=P) (w:=w) (ev_den h x) (ev_den h ix) he hp
  exact gives_pure h (by simp[execOp,ho,hr]) hv
 ·rename_i op t x y ty ho
  split at he
  ·rename_i e heq
   simp only[Option.some.injEq]at he;subst he
   exact sd_op h hlt heq hp
  ·split at he
   ·simp only[Option.map_eq_some_iff]at he
    obtain⟨⟨p,b⟩,h1,h2⟩:=he
    simp only[Prod.mk.injEq]at h2;obtain⟨rfl,rfl,rfl⟩:=h2
    have hr:=sd_eqS (P:=P) (w:=w) (op:=.eql) (ox:=x) (oy:=y) (ev_den h x) (ev_den h y) h1 hp (.inl rfl)
    refine gives_pure h (y:=.bool b) ?_ (by simp[A.Den,C.Den])
    simp only[execOp,ho,Sem.run_bind]at hr⊢
    rw[hr];simp
   ·simp only[Option.map_eq_some_iff]at he
    obtain⟨⟨p,b⟩,h1,h2⟩:=he
    simp only[Prod.mk.injEq]at h2;obtain⟨rfl,rfl,rfl⟩:=h2
    have hr:=sd_eqS (P:=P) (w:=w) (op:=.neq) (ox:=x) (oy:=y) (ev_den h x) (ev_den h y) h1 hp (.inr rfl)
    refine gives_pure h (y:=.bool (!b)) ?_ (by simp[A.Den,C.Den])
    simp only[execOp,ho,Sem.run_bind]at hr⊢
    rw[hr];simp
   ·cases he
 ·rename_i c ho
  split at he
  ·rename_i e heq
   simp only[Option.some.injEq]at he;subst he
   exact sd_op h hlt heq hp
  ·obtain⟨callee,args,tys⟩:=c
   simp only at he
   split at he
   ·rename_i x k t t' h2 h3
    have e1:=arr2 h2;have e2:=arr2 h3;subst e1;subst e2
    obtain⟨w',hr,hs,hO,rfl⟩:=sd_delete (P:=P) (t':=t') (ty:=o.type) h (ev_den h x) (ev_den h k) he hp
    refine⟨.tuple #[],w',ρ,_,by simp[execOp,ho,resolve,invoke,builtin,hr],.inl rfl,hs,hO,?_⟩
    simp only[A.Den,A.DenL]
    exact⟨#[],rfl,rfl⟩
   ·cases he
 ·exact sd_op h hlt he hp
theorem effAll_noDefer{P:Program}{m:Mem}{T:Nat->A}{d:Nat}{o:Oper}{e:E}(h:effAll P m T d o=some e):noDefer o=true:=by
 unfold noDefer
 split
 ·rename_i c ho;simp[effAll,effOp,ho]at h
 ·rfl
theorem OpT.of_all{P:Program}{o:Oper}{T:Nat->A}{m:Mem}{d:Nat}{pre:Bool}{v:A}{ups:List (Nat×R)}(he:effAll P m T d o=some (pre,v,ups))(hp:pre=true):OpT P o T m v (applyU m ups):=by
 intro ro N M0 S0 w0 ρ a w h hlt next Q hn
 obtain⟨y,w',ρ',res,hr,hres,hs,hO,hv⟩:=sd_all h hlt he hp
 exact wpIn_val (effAll_noDefer he) hr hres (hn y w' ρ' hs hO hv)
end
end Go.Pv
namespace Go.Pv
open Go.RowKit
inductive Tr(α:Type)where
 |nil
 |node(v:Option α)(l r:Tr α)
def Tr.getF{α:Type}(f:Nat):Tr α->Nat->Option α:=
 Nat.rec (motive:=λ_=>Tr α->Nat->Option α) (λt _=>Tr.casesOn (motive:=λ_=>Option α) t none (λv _ _=>v))
  (λ_ ih t n=>Tr.casesOn (motive:=λ_=>Option α) t none (λv l r=>Bool.casesOn (motive:=λ_=>Option α) (Nat.beq n 0) (Bool.casesOn (motive:=λ_=>Option α) (Nat.beq (Nat.mod n 2) 0) (ih l (Nat.div n 2)) (ih r (Nat.pred (Nat.div n 2)))) v)) f
def Tr.setF{α:Type}(x:α)(f:Nat):Tr α->Nat->Tr α:=
 Nat.rec (motive:=λ_=>Tr α->Nat->Tr α) (λt _=>Tr.casesOn (motive:=λ_=>Tr α) t (.node (some x) .nil .nil) (λ_ l r=>.node (some x) l r))
  (λ_ ih t n=>Tr.casesOn (motive:=λ_=>Tr α) t
    (Bool.casesOn (motive:=λ_=>Tr α) (Nat.beq n 0) (Bool.casesOn (motive:=λ_=>Tr α) (Nat.beq (Nat.mod n 2) 0) (.node none (ih .nil (Nat.div n 2)) .nil) (.node none .nil (ih .nil (Nat.pred (Nat.div n 2))))) (.node (some x) .nil .nil))
    (λv l r=>Bool.casesOn (motive:=λ_=>Tr α) (Nat.beq n 0) (Bool.casesOn (motive:=λ_=>Tr α) (Nat.beq (Nat.mod n 2) 0) (.node v (ih l (Nat.div n 2)) r) (.node v l (ih r (Nat.pred (Nat.div n 2))))) (.node (some x) l r))) f
theorem beq_dec(a b:Nat):Nat.beq a b=decide (a=b):=by
 cases h:Nat.beq a b with
 |true=>simp[Nat.eq_of_beq_eq_true h]
 |false=>have:=Nat.ne_of_beq_eq_false h;simp[this]
theorem pick_if{α:Type}(c:Bool)(a b:α):Bool.casesOn (motive:=λ_=>α) c a b=if c=true then b else a:=by cases c<;>rfl
theorem Tr.getF_nil{α:Type}:∀(f n:Nat),Tr.getF f (.nil:Tr α) n=none
 |0,_=>rfl
 |_+1,_=>rfl
theorem Tr.getF_node{α:Type}(f:Nat)(v:Option α)(l r:Tr α)(n:Nat):Tr.getF (f+1) (.node v l r) n=if n=0 then v else if n %2=0 then Tr.getF f r (n/2 -1)else Tr.getF f l (n/2):=by
 have e:Tr.getF (f+1) (.node v l r) n=Bool.casesOn (motive:=λ_=>Option α) (Nat.beq n 0) (Bool.casesOn (motive:=λ_=>Option α) (Nat.beq (Nat.mod n 2) 0) (Tr.getF f l (Nat.div n 2)) (Tr.getF f r (Nat.pred (Nat.div n 2)))) v:=rfl
 rw[e,pick_if,pick_if,beq_dec,beq_dec]
 simp only[decide_eq_true_eq]
 rfl
theorem Tr.getF_zero{α:Type}(v:Option α)(l r:Tr α)(n:Nat):Tr.getF 0 (.node v l r) n=v:=rfl
theorem Tr.setF_nil{α:Type}(x:α)(f n:Nat):Tr.setF x (f+1) .nil n=if n=0 then .node (some x) .nil .nil else if n %2=0 then .node none .nil (Tr.setF x f .nil (n/2 -1))else .node none (Tr.setF x f .nil (n/2)) .nil:=by
 have e:Tr.setF x (f+1) .nil n=Bool.casesOn (motive:=λ_=>Tr α) (Nat.beq n 0) (Bool.casesOn (motive:=λ_=>Tr α) (Nat.beq (Nat.mod n 2) 0) (.node none (Tr.setF x f .nil (Nat.div n 2)) .nil) (.node none .nil (Tr.setF x f .nil (Nat.pred (Nat.div n 2))))) (.node (some x) .nil .nil):=rfl
 rw[e,pick_if,pick_if,beq_dec,beq_dec]
 simp only[decide_eq_true_eq]
 rfl
theorem Tr.setF_node{α:Type}(x:α)(f n:Nat)(v:Option α)(l r:Tr α):Tr.setF x (f+1) (.node v l r) n=if n=0 then .node (some x) l r else if n %2=0 then .node v l (Tr.setF x f r (n/2 -1))else .node v (Tr.setF x f l (n/2)) r:=by
 have e:Tr.setF x (f+1) (.node v l r) n=Bool.casesOn (motive:=λ_=>Tr α) (Nat.beq n 0) (Bool.casesOn (motive:=λ_=>Tr α) (Nat.beq (Nat.mod n 2) 0) (.node v (Tr.setF x f l (Nat.div n 2)) r) (.node v l (Tr.setF x f r (Nat.pred (Nat.div n 2))))) (.node (some x) l r):=rfl
 rw[e,pick_if,pick_if,beq_dec,beq_dec]
 simp only[decide_eq_true_eq]
 rfl
def Fit(f n:Nat):Prop:=n+1<2^(f+1)
theorem Fit.zero{n:Nat}(h:Fit 0 n):n=0:=by unfold Fit at h;simp at h;omega
theorem Fit.left{f n:Nat}(h:Fit (f+1) n)(hn:¬n %2=0):Fit f (n/2):=by
 unfold Fit at h⊢
 rw[Nat.pow_succ]at h
 omega
theorem Fit.right{f n:Nat}(h:Fit (f+1) n)(h0:¬n=0)(hn:n %2=0):Fit f (n/2 -1):=by
 unfold Fit at h⊢
 rw[Nat.pow_succ]at h
 omega
theorem fit_log(n:Nat):Fit (Nat.log2 (n+1)) n:=Nat.lt_log2_self
theorem Tr.getF_setF{α:Type}(x:α):∀(f g:Nat)(t:Tr α)(n k:Nat),Fit f n->Fit g k->Tr.getF g (Tr.setF x f t n) k=if k=n then some x else Tr.getF g t k
 |0,g,t,n,k,h1,h2=>by
  have hn:n=0:=h1.zero
  subst hn
  have e:∃l r,Tr.setF x 0 t 0=.node (some x) l r/\((t=.nil/\l=.nil/\r=.nil)\/∃v,t=.node v l r):=by
   cases t with
   |nil=>exact⟨_,_,rfl,.inl ⟨rfl,rfl,rfl⟩⟩
   |node v l r=>exact⟨_,_,rfl,.inr ⟨v,rfl⟩⟩
  obtain⟨l,r,e,ht⟩:=e
  rw[e]
  cases g with
  |zero=>
   have hk:k=0:=h2.zero
   subst hk;rw[if_pos rfl];rfl
  |succ g=>
   rw[Tr.getF_node]
   by_cases hk:k=0
   ·rw[if_pos hk,if_pos hk]
   ·rw[if_neg hk,if_neg hk]
    rcases ht with⟨rfl,rfl,rfl⟩|⟨v,rfl⟩
    ·rw[Tr.getF_nil,Tr.getF_nil,Tr.getF_nil,ite_self]
    ·rw[Tr.getF_node,if_neg hk]
 |f+1,g,t,n,k,h1,h2=>by
  have e:∃v l r,(t=.nil/\v=none/\l=.nil/\r=.nil\/t=.node v l r)/\Tr.setF x (f+1) t n=if n=0 then .node (some x) l r else if n %2=0 then .node v l (Tr.setF x f r (n/2 -1))else .node v (Tr.setF x f l (n/2)) r:=by
   cases t with
   |nil=>exact⟨none,.nil,.nil,.inl ⟨rfl,rfl,rfl,rfl⟩,Tr.setF_nil x f n⟩
   |node v l r=>exact⟨v,l,r,.inr rfl,Tr.setF_node x f n v l r⟩
  obtain⟨v,l,r,ht,e⟩:=e
  have hget:∀g k,Fit g k->Tr.getF g t k=if k=0 then v else if k %2=0 then Tr.getF (g -1) r (k/2 -1)else Tr.getF (g -1) l (k/2):=by
   intro g k hk
   rcases ht with⟨rfl,rfl,rfl,rfl⟩|rfl
   ·simp only[Tr.getF_nil,ite_self]
   ·cases g with
    |zero=>have:k=0:=hk.zero
           subst this;rfl
    |succ g=>rw[Tr.getF_node];rfl
  rw[e,hget g k h2]
  cases g with
  |zero=>
   have hk:k=0:=h2.zero
   subst hk
   by_cases hn:n=0
   ·subst hn;simp[Tr.getF_zero]
   ·rw[if_neg hn,if_neg (Ne.symm hn)]
    split<;>simp[Tr.getF_zero]
  |succ g=>
   simp only[Nat.add_sub_cancel]
   by_cases hn:n=0
   ·subst hn
    rw[if_pos rfl,Tr.getF_node]
    by_cases hk:k=0
    ·rw[if_pos hk,if_pos hk]
    ·rw[if_neg hk,if_neg hk,if_neg hk]
   ·rw[if_neg hn]
    by_cases hm:n %2=0
    ·rw[if_pos hm,Tr.getF_node]
     by_cases hk:k=0
     ·rw[if_pos hk,if_pos hk,if_neg (by omega)]
     ·rw[if_neg hk,if_neg hk]
      by_cases hk2:k %2=0
      ·rw[if_pos hk2,if_pos hk2,Tr.getF_setF x f g r (n/2 -1) (k/2 -1) (h1.right hn hm) (h2.right hk hk2)]
       by_cases e:k=n
       ·subst e;simp
       ·rw[if_neg e,if_neg (by omega)]
      ·rw[if_neg hk2,if_neg hk2,if_neg (by rintro rfl;exact hk2 hm)]
    ·rw[if_neg hm,Tr.getF_node]
     by_cases hk:k=0
     ·rw[if_pos hk,if_pos hk,if_neg (by omega)]
     ·rw[if_neg hk,if_neg hk]
      by_cases hk2:k %2=0
      ·rw[if_pos hk2,if_pos hk2,if_neg (by rintro rfl;exact hm hk2)]
      ·rw[if_neg hk2,if_neg hk2,Tr.getF_setF x f g l (n/2) (k/2) (h1.left hm) (h2.left hk2)]
       by_cases e:k=n
       ·subst e;simp
       ·rw[if_neg e,if_neg (by omega)]
def Tr.get{α:Type}(t:Tr α)(n:Nat):Option α:=Tr.getF (Nat.log2 (Nat.succ n)) t n
def Tr.set{α:Type}(f:Nat)(t:Tr α)(n:Nat)(x:α):Tr α:=Tr.setF x (Nat.log2 (Nat.succ n)) t n
theorem Tr.get_nil{α:Type}(n:Nat):(Tr.nil:Tr α).get n=none:=Tr.getF_nil _ _
theorem Tr.get_set{α:Type}(f:Nat)(t:Tr α)(n k:Nat)(x:α):(Tr.set f t n x).get k=if k=n then some x else t.get k:=
 Tr.getF_setF x _ _ t n k (fit_log n) (fit_log k)
def Tr.setU(f:Nat):Tr R->List (Nat×R)->Tr R
 |t,[]=>t
 |t,(i,r)::u=>Tr.setU f (Tr.set f t i r) u
theorem Tr.get_setU(f:Nat):∀(u:List (Nat×R))(t:Tr R),(Tr.setU f t u).get=applyU t.get u
 |[],t=>rfl
 |(i,r)::u,t=>by
  simp only[Tr.setU,applyU]
  rw[Tr.get_setU f u]
  congr 1
  funext k
  rw[Tr.get_set];rfl
def Tr.fn(t:Tr A):Nat->A:=λn=>Option.casesOn (motive:=λ_=>A) (Tr.get t n) .x (λv=>v)
theorem Tr.fn_def(t:Tr A)(n:Nat):t.fn n=(t.get n).getD .x:=by
 show(Option.casesOn (motive:=λ_=>A) (Tr.get t n) .x (λv=>v):A)=(Tr.get t n).getD .x
 cases Tr.get t n<;>rfl
theorem Tr.fn_set(f:Nat)(t:Tr A)(n:Nat)(x:A):(Tr.set f t n x).fn=setT t.fn (some n) x:=by
 funext k
 simp only[Tr.fn_def,Tr.get_set,setT]
 by_cases e:k=n
 ·subst e;simp
 ·have:¬(some n=some k):=λh=>e (by simpa using h.symm)
  simp[e,this]
end Go.Pv
namespace Go.Pv
open Go.RowKit
def LiveB(m:Mem)(ρ:Nat->Value)(b:Nat):Prop:=∃i r,m i=some r/\r.live=true/\blk (ρ i)=some b
section
variable{M0 S0:Nat->Prop}{w0:World}{N:Fr}{T:Nat->A}{m:Mem}{ρ:Nat->Value}{a:Act}{w:World}{P:Program}
theorem SatAt.now(h:SatAt M0 S0 w0 N T m ρ a w):SatAt M0 (LiveB m ρ) w N T m ρ a w:=
 {keeps:=Keeps.refl _ _,size:=h.size,defers:=h.defers,tmps:=h.tmps,res:=h.res
  own:=λi r b hi hl hb=>⟨.inr ⟨i,r,hi,hl,hb⟩,(h.own i r b hi hl hb).2⟩,apart:=h.apart}
theorem SatAt.evo(h:SatAt M0 S0 w0 N T m ρ a w){N1:Fr}{T1:Nat->A}{m':Mem}{ρ':Nat->Value}{a1:Act}{w':World}(h1:SatAt M0 (LiveB m ρ) w N1 T1 m' ρ' a1 w'):
 Stays (Mut M0 m ρ) w w'/\∀b,Mut M0 m' ρ' b->b<w.heap.size->Mut M0 m ρ b:=by
 refine⟨h1.keeps.stays λb _ e=>.inr e,?_⟩
 rintro b (e|⟨i,r,hi,hl,hb⟩) hlt
 ·exact .inl e
 ·rcases(h1.own i r b hi hl hb).1 with q|q
  ·omega
  ·exact .inr q
theorem SatAt.back(h:SatAt M0 S0 w0 N T m ρ a w){N1:Fr}{T1:Nat->A}{m':Mem}{ρ':Nat->Value}{a1:Act}{w':World}(h1:SatAt M0 (LiveB m ρ) w N1 T1 m' ρ' a1 w')(hO:Onto m m' ρ ρ'):SatAt M0 S0 w0 N T m' ρ' a w':=by
 obtain⟨e1,e2⟩:=h.evo h1
 have hown:∀b,LiveB m ρ b->w0.heap.size<=b\/S0 b:=λb⟨i,r,hi,hl,hb⟩=>(h.own i r b hi hl hb).1
 exact{keeps:=h.keeps.trans h1.keeps λb hb e=>(hown b e).resolve_left (by omega),size:=h.size
       defers:=λds e=>DefsDen_mono e1 e2 hO _ _ (h.defers ds e)
       tmps:=λn=>A.Den_mono e1 e2 hO _ _ (h.tmps n)
       res:=h1.res
       own:=λi r b hi hl hb=>by
        obtain⟨x,y,z⟩:=h1.own i r b hi hl hb
        refine⟨?_,y,z⟩
        rcases x with x|x
        · exact .inl (Nat.le_trans h.keeps.size x)
        · exact hown b x
       apart:=h1.apart}
end
def resA(P:Program)(m:Mem)(T:Nat->A):ResultVar->Option A
 |.tmp t=>some (T t)
 |.cell ad t=>match effLoad P m t (T ad)with
  |some (true,v,_)=>some v
  |_=>none
def resL(P:Program)(m:Mem)(T:Nat->A):List ResultVar->Option (List A)
 |[]=>some []
 |r::rs=>match resA P m T r,resL P m T rs with
  |some v,some vs=>some (v::vs)
  |_,_=>none
def resV(P:Program)(m:Mem)(T:Nat->A)(rs:List ResultVar):Option A:=
 match resL P m T rs with
 |some [v]=>some v
 |some vs=>some (.tup vs)
 |none=>none
section
variable{M0 S0:Nat->Prop}{w0:World}{N:Fr}{T:Nat->A}{m:Mem}{ρ:Nat->Value}{a:Act}{w:World}{P:Program}
theorem resL_run(h:SatAt M0 S0 w0 N T m ρ a w):∀{rs:List ResultVar}{vs:List A},resL P m T rs=some vs->
 ∃ys:List Value,(rs.mapM λr=>(match r with|.tmp t=>pure (a.tmps.getD t undef)|.cell ad t=>(do loadVar t (<-asAddr (a.tmps.getD ad undef))):Sem Value)).run P w=.ok ys w/\A.DenL w (Mut M0 m ρ) m ρ vs ys
 |[],vs,hr=>by
  simp only[resL,Option.some.injEq]at hr;subst hr
  exact⟨[],by simp,by simp[A.DenL]⟩
 |r::rs,vs,hr=>by
  simp only[resL]at hr
  split at hr
  ·rename_i v vs' h1 h2
   simp only[Option.some.injEq]at hr;subst hr
   obtain⟨ys,k1,k2⟩:=resL_run h h2
   have key:∃y,((match r with|.tmp t=>pure (a.tmps.getD t undef)|.cell ad t=>(do loadVar t (<-asAddr (a.tmps.getD ad undef))):Sem Value)).run P w=.ok y w/\v.Den w (Mut M0 m ρ) m ρ y:=by
    cases r with
    |tmp t=>
     simp only[resA,Option.some.injEq]at h1;subst h1
     exact⟨_,by simp,h.tmps t⟩
    |cell ad t=>
     simp only[resA]at h1
     split at h1
     ·rename_i v' u he
      simp only[Option.some.injEq]at h1;subst h1
      obtain⟨_,z,q1,q2⟩:=sd_load (P:=P) h (h.tmps ad) he rfl
      refine⟨z,?_,q2⟩
      simp only[Instr.loadAt]at q1
      have hp:∃ad',a.tmps.getD ad undef=.pointer (some ad'):=by
       generalize a.tmps.getD ad undef=y at q1
       cases y<;>simp[Instr.sureAddr,asAddr]at q1
       rename_i o;cases o with
       |none=>simp[Instr.sureAddr,asAddr]at q1
       |some d=>exact⟨d,rfl⟩
      obtain⟨d,hd⟩:=hp
      simp only[hd]at q1⊢
      simpa [Instr.sureAddr,asAddr]using q1
     ·cases h1
   obtain⟨y,q1,q2⟩:=key
   refine⟨y::ys,?_,by simp only[A.DenL];exact⟨y,ys,rfl,q2,k2⟩⟩
   rw[List.mapM_cons]
   simp only[Sem.run_bind,q1,Result.andThen_ok,k1,Sem.run_pure]
  ·cases hr
end
section
variable{M0 S0:Nat->Prop}{w0:World}{N:Fr}{T:Nat->A}{m:Mem}{ρ:Nat->Value}{a:Act}{w:World}{P:Program}
theorem results_run(h:SatAt M0 S0 w0 N T m ρ a w){fn:Func}{v:A}(hr:resV P m T fn.results.toList=some v):∃y,(results fn a.tmps).run P w=.ok y w/\v.Den w (Mut M0 m ρ) m ρ y:=by
 unfold resV at hr
 have key:∀{vs:List A},resL P m T fn.results.toList=some vs->∃ys:List Value,(results fn a.tmps).run P w=.ok (if h:ys.toArray.size=1 then ys.toArray[0]else .tuple ys.toArray) w/\A.DenL w (Mut M0 m ρ) m ρ vs ys:=by
  intro vs hl
  obtain⟨ys,k1,k2⟩:=resL_run h hl
  refine⟨ys,?_,k2⟩
  unfold results
  have e:fn.results=fn.results.toList.toArray:=by simp
  rw[Sem.run_bind]
  conv=>lhs;rw[e,List.mapM_toArray]
  rw[Sem.run_map]
  erw [k1]
  simp
 split at hr
 ·rename_i v' hl
  simp only[Option.some.injEq]at hr;subst hr
  obtain⟨ys,k1,k2⟩:=key hl
  simp only[A.DenL]at k2
  obtain⟨y,yr,rfl,k3,rfl⟩:=k2
  exact⟨y,by simpa using k1,k3⟩
 ·rename_i vs hne hl
  simp only[Option.some.injEq]at hr;subst hr
  obtain⟨ys,k1,k2⟩:=key hl
  have hlen:=(A.DenL_iff.1 k2).1
  have h1:ys.length≠1:=by
   intro e
   rw[e]at hlen
   match vs,hlen,hne with
   |[v],_,hne=>exact hne v rfl
  exact⟨.tuple ys.toArray,by rw[k1];simp[h1],by simp only[A.Den];exact⟨_,rfl,by simpa using k2⟩⟩
 ·cases hr
end
mutual
theorem A.hs_dom{w:World}{M:Nat->Prop}{m:Mem}{ρ:Nat->Value}:∀(a:A)(y:Value),a.Den w M m ρ y->∀i∈a.hs,m i≠none
 |.d c,y,_,i,hi=>by simp[A.hs]at hi
 |.lp j off,y,hd,i,hi=>by simp[A.hs]at hi;subst hi;simp only[A.Den]at hd;exact hd.1
 |.h j,y,hd,i,hi=>by simp[A.hs]at hi;subst hi;simp only[A.Den]at hd;exact hd.1
 |.ep j es k off,y,hd,i,hi=>by simp[A.hs]at hi;subst hi;simp only[A.Den]at hd;exact hd.1
 |.sv j lo n,y,hd,i,hi=>by simp[A.hs]at hi;subst hi;simp only[A.Den]at hd;exact hd.1
 |.fn f u v,y,hd,i,hi=>by
  simp only[A.Den]at hd
  obtain⟨us,vs,_,h1,h2⟩:=hd
  simp only[A.hs,List.mem_append]at hi
  exact hi.elim (A.hsL_dom u _ h1 i) (A.hsL_dom v _ h2 i)
 |.agg l,y,hd,i,hi=>by
  simp only[A.Den]at hd
  obtain⟨vs,_,_,h1⟩:=hd
  simp only[A.hs]at hi
  exact A.hsL_dom l _ h1 i hi
 |.tup l,y,hd,i,hi=>by
  simp only[A.Den]at hd
  obtain⟨vs,_,h1⟩:=hd
  simp only[A.hs]at hi
  exact A.hsL_dom l _ h1 i hi
 |.ifc t a,y,hd,i,hi=>by
  simp only[A.Den]at hd
  obtain⟨v,_,h1⟩:=hd
  simp only[A.hs]at hi
  exact A.hs_dom a _ h1 i hi
 |.x,y,_,i,hi=>by simp[A.hs]at hi
theorem A.hsL_dom{w:World}{M:Nat->Prop}{m:Mem}{ρ:Nat->Value}:∀(l:List A)(ys:List Value),A.DenL w M m ρ l ys->∀i∈A.hsL l,m i≠none
 |[],ys,_,i,hi=>by simp[A.hsL]at hi
 |c::r,ys,hd,i,hi=>by
  simp only[A.DenL]at hd
  obtain⟨y,yr,_,h1,h2⟩:=hd
  simp only[A.hsL,List.mem_append]at hi
  exact hi.elim (A.hs_dom c _ h1 i) (A.hsL_dom r _ h2 i)
end
theorem R.hs_dom{w:World}{M:Nat->Prop}{m:Mem}{ρ:Nat->Value}{h:Value}{r:R}(hr:r.Ok w M m ρ h):∀i∈r.hs,m i≠none:=by
 intro i hi
 cases r with
 |dead=>simp[R.hs]at hi
 |cells fz l=>obtain⟨_,_,_,_,_,h2,_⟩:=hr;exact A.hsL_dom _ _ h2 i (by simpa [R.hs]using hi)
 |osl fz t es l=>obtain⟨_,_,h2,_⟩:=hr;exact A.hsL_dom _ _ h2 i (by simpa [R.hs]using hi)
 |mp fz kv st=>
  obtain⟨_,_,_,_,_,_,_,h3,_,h5⟩:=hr
  simp only[R.hs,List.mem_append]at hi
  rcases hi with hi|hi
  ·exact A.hsL_dom _ _ h3 i hi
  ·obtain⟨p,hp,rfl⟩:=List.mem_map.1 hi;exact(h5 p hp).1
 |fr l=>obtain⟨_,_,h2⟩:=hr;exact A.hsL_dom _ _ h2 i (by simpa [R.hs]using hi)
 |lo _ _ _ _ _ _=>obtain⟨_,_,_,_,_,_,h2⟩:=hr;exact A.hsL_dom _ _ h2 i (by simpa [R.hs]using hi)
 |it j sc start seen=>
  obtain⟨_,_,_,_,_,_,h1,h2,h3⟩:=hr
  simp only[R.hs,List.mem_cons]at hi
  rcases hi with rfl|rfl|hi
  ·exact h1.1
  ·exact h2.1
  ·exact h3.2.1 i hi
 |cu src es l=>
  obtain⟨_,_,h1,_,h3⟩:=hr
  simp only[R.hs,List.mem_append]at hi
  rcases hi with hi|hi
  ·exact A.hs_dom _ _ h1 i hi
  ·rcases h3 with rfl|⟨_,_,_,_,_,_,h6,_⟩
   ·simp[A.hsL]at hi
   ·exact A.hsL_dom _ _ h6 i hi
 |_=>simp[R.hs]at hi
def DA.hs:DA->List Nat
 |.call _ as cs=>A.hsL as++A.hsL cs
 |.coll i=>[i]
 |.bi _ _ _ _ as=>A.hsL as
 |.opq _=>[]
section
variable{M0 S0:Nat->Prop}{w0:World}{N:Fr}{T:Nat->A}{m:Mem}{ρ:Nat->Value}{a:Act}{w:World}{P:Program}
theorem defs_dom{w:World}{M:Nat->Prop}{m:Mem}{ρ:Nat->Value}:∀{ds:List DA}{l:List Deferred},DefsDen w M m ρ ds l->∀d∈ds,∀i∈d.hs,m i≠none
 |[],l,_,d,hd,i,hi=>by simp at hd
 |.call f as cs::r,l,⟨vs,us,rest,_,h1,h2,h3⟩,d,hd,i,hi=>by
  simp only[List.mem_cons]at hd
  rcases hd with rfl|hd
  ·simp only[DA.hs,List.mem_append]at hi
   exact hi.elim (A.hsL_dom _ _ h1 i) (A.hsL_dom _ _ h2 i)
  ·exact defs_dom h3 d hd i hi
 |.bi b tys ty cs as::r,l,⟨vs,rest,_,h1,h3⟩,d,hd,i,hi=>by
  simp only[List.mem_cons]at hd
  rcases hd with rfl|hd
  ·simp only[DA.hs]at hi
   exact A.hsL_dom _ _ h1 i hi
  ·exact defs_dom h3 d hd i hi
 |.coll k::r,l,⟨D,rest,_,h1,h3⟩,d,hd,i,hi=>by
  simp only[List.mem_cons]at hd
  rcases hd with rfl|hd
  ·simp only[DA.hs,List.mem_singleton]at hi
   subst hi;exact h1.1
  ·exact defs_dom h3 d hd i hi
 |.opq k::r,l,⟨rest,_,h3⟩,d,hd,i,hi=>by
  simp only[List.mem_cons]at hd
  rcases hd with rfl|hd
  ·simp[DA.hs]at hi
  ·exact defs_dom h3 d hd i hi
theorem DefsDen_restrict{w:World}{M:Nat->Prop}{m m1:Mem}{ρ:Nat->Value}(hm:∀i r,m1 i=some r->m i=some r):∀{ds:List DA}{l:List Deferred},(∀d∈ds,∀i∈d.hs,m1 i≠none)->DefsDen w M m ρ ds l->DefsDen w M m1 ρ ds l
 |[],l,_,h=>h
 |.call f as cs::r,l,hi,⟨vs,us,rest,h0,h1,h2,h3⟩=>
  ⟨vs,us,rest,h0,A.DenL_restrict hm _ _ (λi hii=>hi (.call f as cs) (by simp) i (by simp[DA.hs,hii])) h1,A.DenL_restrict hm _ _ (λi hii=>hi (.call f as cs) (by simp) i (by simp[DA.hs,hii])) h2,DefsDen_restrict hm (λd hd=>hi d (by simp[hd])) h3⟩
 |.bi b tys ty cs as::r,l,hi,⟨vs,rest,h0,h1,h3⟩=>
  ⟨vs,rest,h0,A.DenL_restrict hm _ _ (λi hii=>hi (.bi b tys ty cs as) (by simp) i (by simp[DA.hs,hii])) h1,DefsDen_restrict hm (λd hd=>hi d (by simp[hd])) h3⟩
 |.coll k::r,l,hi,⟨D,rest,h0,h1,h3⟩=>
  ⟨D,rest,h0,h1.restrict hm (hi (.coll k) (by simp) k (by simp[DA.hs])) λ_ q=>q,DefsDen_restrict hm (λd hd=>hi d (by simp[hd])) h3⟩
 |.opq k::r,l,hi,⟨rest,h0,h3⟩=>⟨rest,h0,DefsDen_restrict hm (λd hd=>hi d (by simp[hd])) h3⟩
theorem SatAt.drop(h:SatAt M0 S0 w0 N T m ρ a w){m1:Mem}(hm:∀i r,m1 i=some r->m i=some r)(hT:∀n,∀i∈(T n).hs,m1 i≠none)(hds:∀ds,N.ds=some ds->∀d∈ds,∀i∈d.hs,m1 i≠none)(hcl:∀i r,m1 i=some r->∀j∈r.hs,m1 j≠none):SatAt M0 S0 w0 N T m1 ρ a w:=by
 have hmu:∀b,Mut M0 m1 ρ b->b<w.heap.size->Mut M0 m ρ b:=by
  rintro b (e|⟨i,r,h1,h2,h3⟩) _
  ·exact .inl e
  ·exact .inr ⟨i,r,hm i r h1,h2,h3⟩
 have hmono:∀{x:A}{y:Value},x.Den w (Mut M0 m ρ) m1 ρ y->x.Den w (Mut M0 m1 ρ) m1 ρ y:=λ{x y}hd=>A.Den_mono (Stays.refl _ w) hmu (Onto.refl m1 ρ) _ _ hd
 exact{keeps:=h.keeps,size:=h.size
       defers:=λds e=>DefsDen_mono (Stays.refl _ w) hmu (Onto.refl m1 ρ) _ _ (DefsDen_restrict hm (hds ds e) (h.defers ds e))
       tmps:=λn=>hmono (A.Den_restrict hm _ _ (hT n) (h.tmps n))
       res:=λi r hi=>R.Ok_mono (Stays.refl _ w) hmu (Onto.refl m1 ρ) (λ_ _ _=>rfl) (R.Ok_restrict hm (hcl i r hi) (h.res i r (hm i r hi)))
       own:=λi r b hi hl hb=>h.own i r b (hm i r hi) hl hb
       apart:=λi j r s b hi l1 hj l2 b1 b2=>h.apart i j r s b (hm i r hi) l1 (hm j s hj) l2 b1 b2}
end
theorem applyU_cases:∀{u:List (Nat×R)}{m:Mem}{i:Nat}{r:R},applyU m u i=some r->(i,r)∈u\/m i=some r
 |[],m,i,r,h=>.inr h
 |(j,q)::t,m,i,r,h=>by
  simp only[applyU]at h
  rcases applyU_cases h with h|h
  ·exact .inl (by simp[h])
  ·unfold setM at h
   split at h
   ·rename_i e;simp at h;subst h;subst e;exact .inl (by simp)
   ·exact .inr h
theorem applyU_ne:∀{u:List (Nat×R)}{m:Mem}{i:Nat},m i≠none->applyU m u i≠none
 |[],m,i,h=>h
 |(j,q)::t,m,i,h=>by
  simp only[applyU]
  refine applyU_ne ?_
  unfold setM;split
  ·simp
  ·exact h
inductive Rt where
 |ok(a:A)
 |pan(a:A)
 deriving Inhabited
def Rt.hs:Rt->List Nat
 |.ok a=>a.hs
 |.pan a=>a.hs
def Rt.Den(w:World)(M:Nat->Prop)(m:Mem)(ρ:Nat->Value):Rt->Ending->Prop
 |.ok a,e=>∃y,e=.returned y/\a.Den w M m ρ y
 |.pan a,e=>∃y,e=.panicked [{v:=y,recovered:=false}]/\a.Den w M m ρ y
def CallT(P:Program)(f:FuncId)(as:List A)(m:Mem)(r:Rt)(m':Mem):Prop:=
 callable P f=true/\∀(N:Fr)(T:Nat->A)(M0 S0:Nat->Prop)(w0:World)(ρ:Nat->Value)(a:Act)(w:World),SatAt M0 S0 w0 N T m ρ a w->(∀b,M0 b->b<w0.heap.size)->
  ∀vs:List Value,A.DenL w (Mut M0 m ρ) m ρ as vs->Calls P f vs.toArray w λe w'=>∃ρ',SatAt M0 S0 w0 N T m' ρ' a w'/\Onto m m' ρ ρ'/\r.Den w' (Mut M0 m' ρ') m' ρ' e
abbrev Ot:=Rt×List (Nat×R)
def OpN(P:Program)(o:Oper)(T:Nat->A)(m:Mem)(outs:List Ot):Prop:=
 ∀(ro:Option Nat)(N:Fr)(M0 S0:Nat->Prop)(w0:World)(ρ:Nat->Value)(a:Act)(w:World),SatAt M0 S0 w0 N T m ρ a w->(∀b,M0 b->b<w0.heap.size)->
  ∀(next:Act->World->Prop)(Q:Exit->Act->World->Prop),
   (∀(u:Ot)(y:Value)(w':World)(ρ':Nat->Value),u∈outs->SatAt M0 S0 w0 N T (applyU m u.2) ρ' a w'->Onto m (applyU m u.2) ρ ρ'->
     (∀v,u.1=.ok v->v.Den w' (Mut M0 (applyU m u.2) ρ') (applyU m u.2) ρ' y->next (a.put o.dst y) w')/\
     (∀v,u.1=.pan v->v.Den w' (Mut M0 (applyU m u.2) ρ') (applyU m u.2) ρ' y->Q (.panic [{v:=y,recovered:=false}]) a w'))->o.wpIn (FW ro) 0 P a w next Q
theorem OpN.one{P:Program}{o:Oper}{T:Nat->A}{m:Mem}{v:A}{u:List (Nat×R)}(h:OpT P o T m v (applyU m u)):OpN P o T m [(.ok v,u)]:=by
 intro ro N M0 S0 w0 ρ a w hs hlt next Q hn
 exact h ro N M0 S0 w0 ρ a w hs hlt next Q λy w' ρ' h1 h2 h3=>(hn (.ok v,u) y w' ρ' (by simp) h1 h2).1 v rfl h3
theorem OpN.next{P:Program}{o:Oper}{T:Nat->A}{m:Mem}{x:Operand}{b:Bool}{outs:List Out}(ho:o.op=.next x b)(he:effNext m (evT T x) b=some (true,outs)):OpN P o T m (outs.map λu=>(.ok u.1,u.2)):=by
 intro ro N M0 S0 w0 ρ a w hs hlt next Q hn
 obtain⟨u,hu,y,w',hr,h1,h2,h3⟩:=sd_next (P:=P) (ty:=o.type) hs (ev_den hs x) he rfl
 refine wpIn_val (res:=.value y) (w':=w') (by unfold noDefer;rw[ho]) (by simp[execOp,ho,hr]) (.inl rfl) ?_
 exact(hn (.ok u.1,u.2) y w' ρ (List.mem_map.2 ⟨u,hu,rfl⟩) h1 h2).1 u.1 rfl h3
theorem OpN.call{P:Program}{o:Oper}{T:Nat->A}{m:Mem}{u:List (Nat×R)}{c:Call}{f:FuncId}{as:List A}{r:Rt}(ho:o.op=.call c)(hc:callArgs T c=some (f,as))(hp:CallT P f as m r (applyU m u)):OpN P o T m [(r,u)]:=by
 intro ro N M0 S0 w0 ρ a w h hlt next Q hn
 obtain⟨vs,hr,hd⟩:=call_run h ho hc hp.1
 refine wpIn_enter (by unfold noDefer;rw[ho]) hr ((hp.2 N T M0 S0 w0 ρ a w h hlt vs hd).mono ?_)
 rintro e w' ⟨ρ',h1,h2,h3⟩
 cases r with
 |ok v=>
  obtain⟨y,rfl,h4⟩:=h3
  exact .inl ⟨y,rfl,(hn (.ok v,u) y w' ρ' (by simp) h1 h2).1 v rfl h4⟩
 |pan v=>
  obtain⟨y,rfl,h4⟩:=h3
  exact .inr ⟨_,rfl,(hn (.pan v,u) y w' ρ' (by simp) h1 h2).2 v rfl h4⟩
def argsT(as:List A):Nat->A:=λn=>(as[n]?).getD .x
end Go.Pv
namespace Go.Pv
open Go.RowKit
inductive Ex where
 |nm
 |ext(id:Nat)
 |ret
 |pan(a:A)
 deriving Inhabited
def Ex.Den(w:World)(M:Nat->Prop)(m:Mem)(ρ:Nat->Value):Ex->Exit->Prop
 |.nm,e=>e=.normal
 |.ext id,e=>e=.exit id
 |.ret,e=>e=.ret
 |.pan a,e=>∃y,e=.panic [{v:=y,recovered:=false}]/\a.Den w M m ρ y
def Ex.isNm:Ex->Bool
 |.nm=>true
 |_=>false
abbrev PostT:=Ex->(Nat->A)->Mem->List DA->Prop
def CodeT(P:Program)(rd:Bool)(n:Nat)(c:Code)(T:Nat->A)(m:Mem)(ds:List DA)(Post:PostT):Prop:=
 ∀(ro:Option Nat)(M0 S0:Nat->Prop)(w0:World)(ρ:Nat->Value)(a:Act)(w:World),ro.isSome=rd->SatAt M0 S0 w0 ⟨n,some ds⟩ T m ρ a w->(∀b,M0 b->b<w0.heap.size)->
  ∀Q:Exit->Act->World->Prop,(∀ex e T' m' ds' ρ' a' w',Post ex T' m' ds'->SatAt M0 S0 w0 ⟨n,some ds'⟩ T' m' ρ' a' w'->Onto m m' ρ ρ'->ex.Den w' (Mut M0 m' ρ') m' ρ' e->Q e a' w')->c.wpIn (FW ro) 0 P Q a w
section
variable{P:Program}{rd:Bool}{n:Nat}{T:Nat->A}{m:Mem}{ds:List DA}{Post:PostT}
theorem CodeT.mono{c:Code}{Post1:PostT}(h:CodeT P rd n c T m ds Post1)(hp:∀ex T' m' ds',Post1 ex T' m' ds'->Post ex T' m' ds'):CodeT P rd n c T m ds Post:=by
 intro ro M0 S0 w0 ρ a w hro hs hlt Q hQ
 exact h ro M0 S0 w0 ρ a w hro hs hlt Q λex e T' m' ds' ρ' a' w' q=>hQ ex e T' m' ds' ρ' a' w' (hp _ _ _ _ q)
theorem CodeT.skip(h:Post .nm T m ds):CodeT P rd n .skip T m ds Post:=by
 intro ro M0 S0 w0 ρ a w hro hs hlt Q hQ
 exact wpIn_skip (hQ .nm _ T m ds ρ a w h hs (Onto.refl m ρ) rfl)
theorem CodeT.label{l:Nat}(h:Post .nm T m ds):CodeT P rd n (.label l) T m ds Post:=by
 intro ro M0 S0 w0 ρ a w hro hs hlt Q hQ
 exact wpIn_label (hQ .nm _ T m ds ρ a w h hs (Onto.refl m ρ) rfl)
theorem CodeT.exit{id:Nat}(h:Post (.ext id) T m ds):CodeT P rd n (.exit id) T m ds Post:=by
 intro ro M0 S0 w0 ρ a w hro hs hlt Q hQ
 exact wpIn_exit (hQ (.ext id) _ T m ds ρ a w h hs (Onto.refl m ρ) rfl)
theorem CodeT.ret(h:Post .ret T m ds):CodeT P rd n .ret T m ds Post:=by
 intro ro M0 S0 w0 ρ a w hro hs hlt Q hQ
 exact wpIn_ret (hQ .ret _ T m ds ρ a w h hs (Onto.refl m ρ) rfl)
theorem ex_nm{w:World}{M:Nat->Prop}{ρ:Nat->Value}{ex:Ex}{e:Exit}(h:ex.Den w M m ρ e):(ex.isNm=true->ex=.nm/\e=.normal)/\(ex.isNm=false->e≠.normal):=by
 cases ex with
 |nm=>exact⟨λ_=>⟨rfl,h⟩,λq=>by cases q⟩
 |ext id=>exact⟨λq=>(by cases q),λ_=>by rw[h];simp⟩
 |ret=>exact⟨λq=>(by cases q),λ_=>by rw[h];simp⟩
 |pan a=>exact⟨λq=>(by cases q),λ_=>by obtain⟨y,h,_⟩:=h;rw[h];simp⟩
theorem CodeT.seq{x y:Code}{Post1:PostT}(h:CodeT P rd n x T m ds Post1)(h1:∀T' m' ds',Post1 .nm T' m' ds'->CodeT P rd n y T' m' ds' Post)(h2:∀ex T' m' ds',ex.isNm=false->Post1 ex T' m' ds'->Post ex T' m' ds'):CodeT P rd n (.seq x y) T m ds Post:=by
 intro ro M0 S0 w0 ρ a w hro hs hlt Q hQ
 refine wpIn_seq (h ro M0 S0 w0 ρ a w hro hs hlt _ ?_)
 intro ex e T' m' ds' ρ' a' w' hp h' hO hd
 cases hx:ex.isNm with
 |true=>
  obtain⟨rfl,rfl⟩:=(ex_nm hd).1 hx
  exact h1 T' m' ds' hp ro M0 S0 w0 ρ' a' w' hro h' hlt Q λex e T2 m2 ds2 ρ2 a2 w2 q s o=>hQ ex e T2 m2 ds2 ρ2 a2 w2 q s (hO.trans o)
 |false=>
  have hne:=(ex_nm hd).2 hx
  have:=hQ ex e T' m' ds' ρ' a' w' (h2 ex T' m' ds' hx hp) h' hO hd
  cases e<;>first|exact this|exact absurd rfl hne
theorem CodeT.cond{c:Operand}{x y:Code}{b:Bool}(hc:evT T c=.d (.v (.bool b)))(h:CodeT P rd n (if b then x else y) T m ds Post):CodeT P rd n (.cond c x y) T m ds Post:=by
 intro ro M0 S0 w0 ρ a w hro hs hlt Q hQ
 have hd:=ev_den hs c
 rw[hc]at hd
 simp only[A.Den,C.Den]at hd
 exact wpIn_cond hd (h ro M0 S0 w0 ρ a w hro hs hlt Q hQ)
def inB(id:Nat):Ex->Ex
 |.ext i=>if i=id then .nm else .ext i
 |e=>e
theorem CodeT.block{id:Nat}{c:Code}{Post1:PostT}(h:CodeT P rd n c T m ds Post1)(h1:∀ex T' m' ds',Post1 ex T' m' ds'->Post (inB id ex) T' m' ds'):CodeT P rd n (.block id c) T m ds Post:=by
 intro ro M0 S0 w0 ρ a w hro hs hlt Q hQ
 refine wpIn_block (h ro M0 S0 w0 ρ a w hro hs hlt _ ?_)
 intro ex e T' m' ds' ρ' a' w' hp h' hO hd
 have:=λe=>hQ _ e T' m' ds' ρ' a' w' (h1 ex T' m' ds' hp) h' hO
 cases ex with
 |ext id'=>
  simp only[Ex.Den]at hd;subst hd
  simp only[Exit.inBlock,inB]at this⊢
  by_cases e:id'=id
  ·simp only[e,if_true]at this⊢;exact this _ rfl
  ·simp only[e,if_false]at this⊢;exact this _ rfl
 |nm=>simp only[Ex.Den]at hd;subst hd;exact this _ rfl
 |ret=>simp only[Ex.Den]at hd;subst hd;exact this _ rfl
 |pan v=>obtain⟨y,rfl,hy⟩:=hd;exact this _ ⟨y,rfl,hy⟩
def LoopT(P:Program)(rd:Bool)(n:Nat)(c:Code)(Post:PostT):Nat->(Nat->A)->Mem->List DA->Prop
 |0,_,_,_=>False
 |k+1,T,m,ds=>∃Post1,CodeT P rd n c T m ds Post1/\(∀T' m' ds',Post1 .nm T' m' ds'->LoopT P rd n c Post k T' m' ds')/\∀ex T' m' ds',ex.isNm=false->Post1 ex T' m' ds'->Post ex T' m' ds'
theorem wpIn_loop_ghost{F:Fence}{n:Nat}{P:Program}{Q:Exit->Act->World->Prop}{a:Act}{w:World}{c:Code}(I:Nat->Act->World->Prop)(k:Nat)(h0:I k a w)
 (round:∀j a w,I j a w->c.wpIn F n P (Exit.then (λa' w'=>∃i,i<j/\I i a' w') Q) a w):(Code.loop c).wpIn F n P Q a w:=by
 intro b kk cs hro hb hr
 have key:∀j a w,I j a w->
  ∃e a' w',Q e a' w'/\ArrivesIn (Machine.fenced P F) P (lone (b.atR a (.code c::.inLoop c::kk)) cs w) b kk cs e a' w':=by
  intro j
  induction j using Nat.strongRecOn with
  |_ j ih=>
   intro a w hI
   obtain⟨e,a₁,w₁,hq,harr⟩:=round j a w hI b (.inLoop c::kk) cs hro hb hr
   cases e with
   |normal=>
    obtain⟨i,hlt,hI₁⟩:=hq
    obtain⟨e₂,a₂,w₂,hq₂,harr₂⟩:=ih i hlt a₁ w₁ hI₁
    exact⟨e₂,a₂,w₂,hq₂,.of_steps (StepsIn.trans harr (.one (fenced_calm hb hr rfl) stepR_inLoop)) harr₂⟩
   |exit id=>exact⟨_,a₁,w₁,hq,.pass (x:=.inLoop c) rfl (λ_ _=>.inl (by simp)) harr⟩
   |goto l=>exact⟨_,a₁,w₁,hq,.pass (x:=.inLoop c) rfl (λ_ _=>.inl (by simp)) harr⟩
   |ret=>exact⟨_,a₁,w₁,hq,.pass (x:=.inLoop c) rfl (λ_ _=>.inl (by simp)) harr⟩
   |panic ch=>exact⟨_,a₁,w₁,hq,.pass (x:=.inLoop c) rfl (λ_ _=>.inl (by simp)) harr⟩
   |outgrown=>exact⟨_,a₁,w₁,hq,.pass (x:=.inLoop c) rfl (λ_ _=>.inl (by simp)) harr⟩
 obtain⟨e,a',w',hq,harr⟩:=key k a w h0
 exact⟨e,a',w',hq,.of_steps (.one (fenced_calm hb hr rfl) stepR_loop) harr⟩
theorem CodeT.loop{c:Code}{k:Nat}(h:LoopT P rd n c Post k T m ds):CodeT P rd n (.loop c) T m ds Post:=by
 intro ro M0 S0 w0 ρ a w hro hs hlt Q hQ
 refine wpIn_loop_ghost (λj a' w'=>∃T' m' ds' ρ',LoopT P rd n c Post j T' m' ds'/\SatAt M0 S0 w0 ⟨n,some ds'⟩ T' m' ρ' a' w'/\Onto m m' ρ ρ') k ⟨T,m,ds,ρ,h,hs,Onto.refl m ρ⟩ ?_
 rintro j a' w' ⟨T',m',ds',ρ',hL,hs',hO⟩
 cases j with
 |zero=>exact hL.elim
 |succ j=>
  obtain⟨Post1,h1,h2,h3⟩:=hL
  refine h1 ro M0 S0 w0 ρ' a' w' hro hs' hlt _ ?_
  intro ex e T2 m2 ds2 ρ2 a2 w2 hp h' hO2 hd
  cases hx:ex.isNm with
  |true=>
   obtain⟨rfl,rfl⟩:=(ex_nm hd).1 hx
   exact⟨j,Nat.lt_succ_self j,T2,m2,ds2,ρ2,h2 T2 m2 ds2 hp,h',hO.trans hO2⟩
  |false=>
   have hne:=(ex_nm hd).2 hx
   have:=hQ ex e T2 m2 ds2 ρ2 a2 w2 (h3 ex T2 m2 ds2 hx hp) h' (hO.trans hO2) hd
   cases e<;>first|exact this|exact absurd rfl hne
def OpD(P:Program)(o:Oper)(T:Nat->A)(m:Mem)(da:DA):Prop:=
 ∀(N:Fr)(M0 S0:Nat->Prop)(w0:World)(ρ:Nat->Value)(a:Act)(w:World),SatAt M0 S0 w0 N T m ρ a w->∃d,(execOp a.eval o).run P w=.ok (.defer d) w/\DefsDen w (Mut M0 m ρ) m ρ [da] [d]
theorem DefsDen_cons{w:World}{M:Nat->Prop}{m:Mem}{ρ:Nat->Value}{da:DA}{d:Deferred}{l:List DA}{ds:List Deferred}(h:DefsDen w M m ρ [da] [d])(hl:DefsDen w M m ρ l ds):DefsDen w M m ρ (da::l) (d::ds):=by
 cases da with
 |call f as cs=>
  obtain⟨vs,us,rest,e,h1,h2,h3⟩:=h
  simp only[DefsDen]at h3;subst h3
  simp only[List.cons.injEq,and_true]at e;subst e
  exact⟨vs,us,ds,rfl,h1,h2,hl⟩
 |bi b tys ty cs as=>
  obtain⟨vs,rest,e,h1,h3⟩:=h
  simp only[DefsDen]at h3;subst h3
  simp only[List.cons.injEq,and_true]at e;subst e
  exact⟨vs,ds,rfl,h1,hl⟩
 |coll i=>
  obtain⟨D,rest,e,h1,h3⟩:=h
  simp only[DefsDen]at h3;subst h3
  simp only[List.cons.injEq,and_true]at e;subst e
  exact⟨D,ds,rfl,h1,hl⟩
 |opq d=>
  obtain⟨rest,e,h3⟩:=h
  simp only[DefsDen]at h3;subst h3
  simp only[List.cons.injEq,and_true]at e;subst e
  exact⟨ds,rfl,hl⟩
def OpsT(P:Program)(rd:Bool)(n:Nat)(ops:Array Oper)(Post:PostT):List Nat->(Nat->A)->Mem->List DA->Prop
 |[],T,m,ds=>Post .nm T m ds
 |i::r,T,m,ds=>match ops[i]? with
  |none=>OpsT P rd n ops Post r T m ds
  |some o=>(∀d,o.dst=some d->d<n)/\match wantA ops T o with
   |some true=>(∃outs:List Ot,OpN P o T m outs/\∀u∈outs,(∀v,u.1=.ok v->OpsT P rd n ops Post r (setT T o.dst v) (applyU m u.2) ds)/\∀v,u.1=.pan v->Post (.pan v) T (applyU m u.2) ds)\/
    (rd=false/\∃da,OpD P o T m da/\OpsT P rd n ops Post r (setT T o.dst (.tup [])) m (da::ds))
   |some false=>OpsT P rd n ops Post r (setT T o.dst (.tup [])) m ds
   |none=>False
theorem SatAt.defer{M0 S0:Nat->Prop}{w0:World}{ρ:Nat->Value}{a:Act}{w:World}(h:SatAt M0 S0 w0 ⟨n,some ds⟩ T m ρ a w){da:DA}{d:Deferred}(hd:DefsDen w (Mut M0 m ρ) m ρ [da] [d]):SatAt M0 S0 w0 ⟨n,some (da::ds)⟩ T m ρ {a with defers:=d::a.defers} w:=
 {keeps:=h.keeps,size:=h.size,defers:=λds' e=>by simp only[Option.some.injEq]at e;subst e;exact DefsDen_cons hd (h.defers ds rfl),tmps:=h.tmps,res:=h.res,own:=h.own,apart:=h.apart}
theorem ops_wp{ops:Array Oper}{ro:Option Nat}(hro:ro.isSome=rd){M0 S0:Nat->Prop}{w0:World}(hlt:∀b,M0 b->b<w0.heap.size){Q:Exit->Act->World->Prop}{m0:Mem}{ρ0:Nat->Value}
 (hQ:∀ex e T' m' ds' ρ' a' w',Post ex T' m' ds'->SatAt M0 S0 w0 ⟨n,some ds'⟩ T' m' ρ' a' w'->Onto m0 m' ρ0 ρ'->ex.Den w' (Mut M0 m' ρ') m' ρ' e->Q e a' w'):
 ∀(l:List Nat)(T:Nat->A)(m:Mem)(ds:List DA)(ρ:Nat->Value)(a:Act)(w:World),OpsT P rd n ops Post l T m ds->SatAt M0 S0 w0 ⟨n,some ds⟩ T m ρ a w->Onto m0 m ρ0 ρ->wpOpsIn (FW ro) 0 P ops Q l a w
 |[],T,m,ds,ρ,a,w,h,hs,hO=>hQ .nm _ T m ds ρ a w h hs hO rfl
 |i::r,T,m,ds,ρ,a,w,h,hs,hO=>by
  simp only[OpsT]at h
  simp only[wpOpsIn]
  cases ho:ops[i]? with
  |none=>rw[ho]at h;exact ops_wp hro hlt hQ r T m ds ρ a w h hs hO
  |some o=>
   rw[ho]at h
   obtain⟨hd,h⟩:=h
   cases hw:wantA ops T o with
   |none=>rw[hw]at h;exact h.elim
   |some b=>
    rw[hw]at h
    simp only[want_den hs hw]
    cases b with
    |true=>
     simp only[if_true]
     rcases h with⟨outs,h1,h2⟩|⟨hrd,da,h1,h2⟩
     ·refine h1 ro ⟨n,some ds⟩ M0 S0 w0 ρ a w hs hlt _ Q ?_
      intro u y w' ρ' hu hs' hO'
      refine⟨λv e hv=>?_,λv e hv=>?_⟩
      ·exact ops_wp hro hlt hQ r _ _ ds ρ' _ w' ((h2 u hu).1 v e) (hs'.put _ (λd e=>hd d e) hv) (hO.trans hO')
      ·exact hQ (.pan v) _ _ _ ds ρ' _ w' ((h2 u hu).2 v e) hs' (hO.trans hO') ⟨y,rfl,hv⟩
     ·obtain⟨d,hr,hden⟩:=h1 _ M0 S0 w0 ρ a w hs
      have hro':ro=none:=by cases ro with
       |none=>rfl
       |some _=>rw[hrd]at hro;cases hro
      subst hro'
      refine⟨λ_ _=>trivial,?_⟩
      rw[show(FW none).round=none from rfl,Oper.semAt_none,hr,Oper.uponIn_defer]
      exact ops_wp hro hlt hQ r _ m _ ρ _ w h2 ((hs.defer hden).put _ (λd e=>hd d e) (by simp only[A.Den];exact⟨#[],rfl,rfl⟩)) hO
    |false=>
     simp only[Bool.false_eq_true,if_false]
     exact⟨λ_ _=>trivial,ops_wp hro hlt hQ r _ m ds ρ _ w h (hs.put _ (λd e=>hd d e) (by simp only[A.Den];exact⟨#[],rfl,rfl⟩)) hO⟩
theorem CodeT.region{id:Nat}{ops:Array Oper}(h:OpsT P rd n ops Post (List.range ops.size) T m ds):CodeT P rd n (.region id ops false) T m ds Post:=by
 intro ro M0 S0 w0 ρ a w hro hs hlt Q hQ
 exact wpIn_region (ops_wp hro hlt hQ _ T m ds ρ a w h hs (Onto.refl m ρ))
theorem CodeT.draw{id:Nat}{ops:Array Oper}{recs:List Rec}{anc:Nat->Nat->Bool}{F:Nat->Nat->Prop}{Rq:Nat->Mem->Prop}(hm:P.follows .mixedOrders=true)(hok:RegOk P ops recs anc F Rq n T m)(h:Post .nm (recT T recs) (recM m recs) ds):CodeT P rd n (.region id ops true) T m ds Post:=by
 intro ro M0 S0 w0 ρ a w hro hs hlt Q hQ
 exact region_draw (N:=⟨n,some ds⟩) hm hok hlt hs λa' w' ρ' h' hO=>hQ .nm _ _ _ ds ρ' a' w' h h' hO rfl
end
end Go.Pv
namespace Go.Pv
open Go.RowKit
def LeavesX(P:Program)(fn:Func)(tmps:Array Value)(R:Ending->World->Prop):List Deferred->FrameMode->World->Prop
 |[],.returning,w=>∃v,(results fn tmps).run P w=.ok v w/\R (.returned v) w
 |[],.panicking chain,w=>R (.panicked chain) w
 |[],.run,_=>False
 |d::ds,u,w=>u≠.run/\
   ((∃r w',d.target=.collected r/\(Instr.takeDeferred r).run P w=.ok [] w'/\LeavesX P fn tmps R ds u w')\/
    (∃fv cap f args,d.target=.fn fv cap/\(invoke d.target d.args).run P w=.ok (.enter f args) w/\
     CallsD P f args u w λ
      |.returned _,u',w'=>LeavesX P fn tmps R ds (settle u') w'
      |.panicked chain,u',w'=>LeavesX P fn tmps R ds (raised u' chain) w'
      |.outgrown,_,w'=>R .outgrown w')\/
    (∃b tys ty cs v w',d.target=.builtin b tys ty cs/\(invoke d.target d.args).run P w=.ok (.value v) w'/\LeavesX P fn tmps R ds u w'))
theorem step_biX{P:Program}{fr:Frame}{cs:List Frame}{w w':World}{d:Deferred}{ds:List Deferred}{b:Builtin}{tys:Array TypeId}{ty:TypeId}{bs:Array Bool}{v:Value}
 (hm:fr.mode≠.run)(hd:fr.defers=d::ds)(ht:d.target=.builtin b tys ty bs)(hk:(invoke d.target d.args).run P w=.ok (.value v) w'):
 step P (lone fr cs w)=.next (lone {fr with defers:=ds} cs w'):=by
 obtain⟨t,a⟩:=d
 simp only at ht hk
 subst ht
 refine step_lone_go ?_
 cases hmode:fr.mode with
 |run=>exact absurd hmode hm
 |returning=>simp[stepG,unwind,callDeferred,hmode,hd,hk]
 |panicking chain=>simp[stepG,unwind,callDeferred,hmode,hd,hk]
theorem step_collX{P:Program}{fr:Frame}{cs:List Frame}{w w':World}{d:Deferred}{r:Nat}{ds:List Deferred}
 (hm:fr.mode≠.run)(hd:fr.defers=d::ds)(ht:d.target=.collected r)(hk:(Instr.takeDeferred r).run P w=.ok [] w'):
 step P (lone fr cs w)=.next (lone {fr with defers:=ds} cs w'):=by
 obtain⟨t,a⟩:=d
 simp only at ht
 subst ht
 refine step_lone_go ?_
 cases hmode:fr.mode with
 |run=>exact absurd hmode hm
 |returning=>simp[stepG,unwind,hmode,hd,Sem.runT_eq,hk,GStep.bare_after]
 |panicking chain=>simp[stepG,unwind,hmode,hd,Sem.runT_eq,hk,GStep.bare_after]
theorem leavesX_steps{P:Program}{fn:Func}{tmps:Array Value}{R:Ending->World->Prop}:∀(ds:List Deferred)(u:FrameMode)(w:World)(fr:Frame)(cs:List Frame),
 fr.mode=u->fr.defers=ds->fr.tmps=tmps->P.funcs[fr.fn]?=some fn->fr.kind=.normal->LeavesX P fn tmps R ds u w->
 ∃e w' fr',R e w'/\Comes P (lone fr cs w) (lone fr' cs w') e/\fr'.fn=fr.fn/\fr'.leaving P w' e
 |[],u,w,fr,cs,hu,hd,ht,hf,hk,h=>by
  cases u with
  |run=>exact h.elim
  |returning=>
   obtain⟨v,hr,hR⟩:=h
   exact⟨.returned v,w,fr,hR,Steps.refl _ _,rfl,hu,hd,hk,fn,hf,ht▸hr⟩
  |panicking chain=>exact⟨.panicked chain,w,fr,h,Steps.refl _ _,rfl,hu,hd,fn,hf⟩
 |d::ds,u,w,fr,cs,hu,hd,ht,hf,hk,h=>by
  obtain⟨hrun,h⟩:=h
  rcases h with⟨r,w',htar,htake,hrest⟩|⟨fv,cap,f,args,htar,hinv,hcall⟩|⟨b,tys,ty,bs,v,w',htar,hinv,hrest⟩
  rotate_left 2
  ·have h1:=step_biX (cs:=cs) (hu▸hrun) hd htar hinv
   obtain⟨e',w'',fr',hR',hs',hfn',hl'⟩:=leavesX_steps ds u w' {fr with defers:=ds} cs hu rfl ht hf hk hrest
   exact⟨e',w'',fr',hR',Comes.of_steps (.one h1) hs',hfn',hl'⟩
  ·have h1:=step_collX (cs:=cs) (hu▸hrun) hd htar htake
   obtain⟨e',w'',fr',hR',hs',hfn',hl'⟩:=leavesX_steps ds u w' {fr with defers:=ds} cs hu rfl ht hf hk hrest
   exact⟨e',w'',fr',hR',Comes.of_steps (.one h1) hs',hfn',hl'⟩
  ·have h1:=step_defer (cs:=cs) (hu▸hrun) hd htar hinv
   obtain⟨e,u',w',frX,hR,hsteps,hkX,hgo⟩:=hcall {fr with defers:=ds} cs hu
   cases e with
   |outgrown=>exact⟨.outgrown,w',fr,hR,Outgrown.of_steps (.one h1) hsteps,rfl,trivial⟩
   |returned v=>
    have h2:=step_going_returned (c:={{fr with defers:=ds}with mode:=u'}) (cs:=cs) hkX hgo
    obtain⟨e',w'',fr',hR',hs',hfn',hl'⟩:=leavesX_steps ds (settle u') w' {{{fr with defers:=ds}with mode:=u'}with mode:=settle u'} cs rfl rfl ht hf hk hR
    exact⟨e',w'',fr',hR',Comes.of_steps (.head h1 (Steps.trans hsteps (.one h2))) hs',hfn',hl'⟩
   |panicked chain=>
    have h2:=step_going_panicked (c:={{fr with defers:=ds}with mode:=u'}) (cs:=cs) hgo
    obtain⟨e',w'',fr',hR',hs',hfn',hl'⟩:=leavesX_steps ds (raised u' chain) w' {{{fr with defers:=ds}with mode:=u'}with mode:=raised u' chain} cs rfl rfl ht hf hk hR
    exact⟨e',w'',fr',hR',Comes.of_steps (.head h1 (Steps.trans hsteps (.one h2))) hs',hfn',hl'⟩
def bodyX(P:Program)(fn:Func)(R:Ending->World->Prop):Exit->Act->World->Prop
 |.normal,a,w|.ret,a,w=>LeavesX P fn a.tmps R a.defers .returning w
 |.panic chain,a,w=>LeavesX P fn a.tmps R a.defers (.panicking chain) w
 |_,_,_=>False
theorem calls_of_wpX{P:Program}{f:FuncId}{fn:Func}{c:Code}{args:Array Value}{w:World}{R:Ending->World->Prop}(hf:P.funcs[f]?=some fn)(hb:fn.body=some c)
 (h:c.wpIn (FW none) 0 P (bodyX P fn R) {tmps:=args++Array.replicate (fn.ntmps -args.size) undef,defers:=[]} w):Calls P f args w R:=by
 have h:=wpIn_wide.1 h
 intro cs
 let b:Frame:={(default:Frame)with fn:=f,kind:=.normal}
 have henter:Frame.enter P f args .normal=b.at {tmps:=args++Array.replicate (fn.ntmps -args.size) undef,defers:=[]} [.code c]:=by
  simp[Frame.enter,Frame.at,hf,hb,b]
 obtain⟨e,a',w',hq,harr⟩:=h b [] cs
 rw[<-henter]at harr
 cases e with
 |normal=>
  obtain⟨e',w'',fr',hR,hs,hfn,hl⟩:=leavesX_steps a'.defers .returning w' {b.at a' []with mode:=.returning} cs rfl rfl rfl hf rfl hq
  exact⟨e',w'',fr',hR,Comes.of_steps (Steps.trans harr (.one step_end)) hs,hfn,hl⟩
 |ret=>
  obtain⟨todo,hs₀⟩:=harr
  obtain⟨e',w'',fr',hR,hs,hfn,hl⟩:=leavesX_steps a'.defers .returning w' {b.at a' todo with mode:=.returning} cs rfl rfl rfl hf rfl hq
  exact⟨e',w'',fr',hR,Comes.of_steps hs₀ hs,hfn,hl⟩
 |panic chain=>
  obtain⟨todo,hs₀⟩:=harr
  obtain⟨e',w'',fr',hR,hs,hfn,hl⟩:=leavesX_steps a'.defers (.panicking chain) w' {b.at a' todo with mode:=.panicking chain} cs rfl rfl rfl hf rfl hq
  exact⟨e',w'',fr',hR,Comes.of_steps hs₀ hs,hfn,hl⟩
 |exit id=>exact hq.elim
 |goto l=>exact hq.elim
 |outgrown=>exact hq.elim
theorem SatAt.cut{M0 S0:Nat->Prop}{w0:World}{N:Fr}{T:Nat->A}{m m3:Mem}{ρ ρ':Nat->Value}{a:Act}{w w':World}(hs:SatAt M0 S0 w0 N T m ρ a w)(h1:SatAt M0 S0 w0 N T m3 ρ' a w')(hO:Onto m m3 ρ ρ')
 {u:List (Nat×R)}{v:A}{y:Value}(hsub:∀i r,applyU m u i=some r->m3 i=some r)(hv:∀i∈v.hs,applyU m u i≠none)(hc:∀p∈u,∀j∈p.2.hs,applyU m u j≠none)(hden:v.Den w' (Mut M0 m3 ρ') m3 ρ' y):
 SatAt M0 S0 w0 N T (applyU m u) ρ' a w'/\Onto m (applyU m u) ρ ρ'/\v.Den w' (Mut M0 (applyU m u) ρ') (applyU m u) ρ' y:=by
 have hdom:∀i,m i≠none->applyU m u i≠none:=λi hi=>applyU_ne hi
 have h2:=h1.drop hsub (λn i hi=>hdom i (A.hs_dom _ _ (hs.tmps n) i hi)) (λds e d hd i hi=>hdom i (defs_dom (hs.defers ds e) d hd i hi)) (λi r hi j hj=>by
  rcases applyU_cases hi with q|q
  · exact hc _ q j hj
  · exact hdom j (R.hs_dom (hs.res i r q) j hj))
 refine⟨h2,?_,?_⟩
 ·intro i hi
  have hne:=hdom i hi
  cases hq:applyU m u i with
  |none=>exact absurd hq hne
  |some r=>
   have:=hO i hi
   rw[hsub i r hq]at this
   exact⟨by simp,this.2⟩
 ·have hmu:∀b,Mut M0 (applyU m u) ρ' b->b<w'.heap.size->Mut M0 m3 ρ' b:=by
   rintro b (e|⟨i,r,g1,g2,g3⟩) _
   ·exact .inl e
   ·exact .inr ⟨i,r,hsub i r g1,g2,g3⟩
  exact A.Den_mono (Stays.refl _ w') hmu (Onto.refl _ ρ') _ _ (A.Den_restrict hsub _ _ hv hden)
theorem SatAt.take{M0 S0:Nat->Prop}{w0:World}{n:Nat}{ds:List DA}{T:Nat->A}{m:Mem}{ρ:Nat->Value}{a:Act}{w:World}{P:Program}{i:Nat}(h:SatAt M0 S0 w0 ⟨n,some (.coll i::ds)⟩ T m ρ a w)(hi:m i=some (.df false)):
 ∃D dr w',a.defers={target:=.collected D,args:= #[]}::dr/\(Instr.takeDeferred D).run P w=.ok [] w'/\SatAt M0 S0 w0 ⟨n,some ds⟩ T (setM m i (.df true)) ρ {a with defers:=dr} w'/\Onto m (setM m i (.df true)) ρ ρ:=by
 obtain⟨D,dr,e,hh,hr⟩:=h.defers _ rfl
 have hρ:=has_of hh hi (by simp)
 obtain⟨b,hb,hw⟩:=h.res i _ hi
 rw[hρ]at hb
 simp only[Value.pointer.injEq,Option.some.injEq,Addr.mk.injEq,and_true]at hb
 subst hb
 simp only[Bool.false_eq_true,if_false]at hw
 refine⟨D,dr,w.putObj D (.deferred none),e,?_,?_,?_⟩
 ·have e1:(getObj D).run P w=.ok (.deferred (some [])) w:=by simp[getObj,hw,Sem.run]
  unfold Instr.takeDeferred
  simp only[Sem.run_bind,e1,Result.andThen_ok]
  rw[putObj_run hw (by intro c e f h;cases h)]
  simp[Result.andThen_ok]
 ·have h':SatAt M0 S0 w0 ⟨n,some ds⟩ T m ρ {a with defers:=dr} w:=
   {keeps:=h.keeps,size:=h.size,defers:=λds' e'=>by simp only[Option.some.injEq]at e';subst e';exact hr,tmps:=h.tmps,res:=h.res,own:=h.own,apart:=h.apart}
  refine h'.write hi rfl rfl (λfz t es l e=>by cases e) (putObj_keeps w D _) (λb _ e=>by subst e;rw[hρ];rfl) ?_
  intro _ _ _
  exact⟨D,hρ,by simpa using putObj_at hw⟩
 ·exact Onto.set (m:=m) (ρ:=ρ) i (.df true) (ρ i) (λ_ _=>⟨by rw[hi];simp,rfl,λfz t es l e=>by rw[hi]at e;cases e⟩)|>λq=>by rwa [setH_same]at q
end Go.Pv
namespace Go.Pv
open Go.RowKit
mutual
theorem A.ren_congr{f g:Nat->Nat}:∀(a:A),(∀i∈a.hs,f i=g i)->a.ren f=a.ren g
 |.d c,_=>rfl
 |.lp i o,hh=>by simp only[A.ren];rw[hh i (by simp[A.hs])]
 |.h i,hh=>by simp only[A.ren];rw[hh i (by simp[A.hs])]
 |.ep i e k o,hh=>by simp only[A.ren];rw[hh i (by simp[A.hs])]
 |.sv i l n,hh=>by simp only[A.ren];rw[hh i (by simp[A.hs])]
 |.fn f' u v,hh=>by
  simp only[A.hs,List.mem_append]at hh
  simp only[A.ren]
  rw[A.renL_congr u λi hi=>hh i (.inl hi),A.renL_congr v λi hi=>hh i (.inr hi)]
 |.agg l,hh=>by simp only[A.hs]at hh;simp only[A.ren];rw[A.renL_congr l hh]
 |.tup l,hh=>by simp only[A.hs]at hh;simp only[A.ren];rw[A.renL_congr l hh]
 |.ifc t a,hh=>by simp only[A.hs]at hh;simp only[A.ren];rw[A.ren_congr a hh]
 |.x,_=>rfl
theorem A.renL_congr{f g:Nat->Nat}:∀(l:List A),(∀i∈A.hsL l,f i=g i)->A.renL f l=A.renL g l
 |[],_=>rfl
 |c::r,hh=>by
  simp only[A.hsL,List.mem_append]at hh
  simp only[A.renL]
  rw[A.ren_congr c λi hi=>hh i (.inl hi),A.renL_congr r λi hi=>hh i (.inr hi)]
end
mutual
theorem A.ren_id:∀(a:A),a.ren (λi=>i)=a
 |.d c=>rfl
 |.lp i o=>rfl
 |A.h i=>rfl
 |.ep i e k o=>rfl
 |.sv i l n=>rfl
 |.fn f u v=>by simp only[A.ren];rw[A.renL_id u,A.renL_id v]
 |.agg l=>by simp only[A.ren];rw[A.renL_id l]
 |.tup l=>by simp only[A.ren];rw[A.renL_id l]
 |.ifc t a=>by simp only[A.ren];rw[A.ren_id a]
 |.x=>rfl
theorem A.renL_id:∀(l:List A),A.renL (λi=>i) l=l
 |[]=>rfl
 |c::r=>by simp only[A.renL];rw[A.ren_id c,A.renL_id r]
end
mutual
theorem A.hs_ren(g:Nat->Nat):∀(a:A),(a.ren g).hs=a.hs.map g
 |.d c=>rfl
 |.lp i o=>rfl
 |.h i=>rfl
 |.ep i e k o=>rfl
 |.sv i l n=>rfl
 |.fn f u v=>by simp only[A.ren,A.hs,A.hsL_ren g u,A.hsL_ren g v,List.map_append]
 |.agg l=>by simp only[A.ren,A.hs,A.hsL_ren g l]
 |.tup l=>by simp only[A.ren,A.hs,A.hsL_ren g l]
 |.ifc t a=>by simp only[A.ren,A.hs,A.hs_ren g a]
 |.x=>rfl
theorem A.hsL_ren(g:Nat->Nat):∀(l:List A),A.hsL (A.renL g l)=(A.hsL l).map g
 |[]=>rfl
 |c::r=>by simp only[A.renL,A.hsL,A.hs_ren g c,A.hsL_ren g r,List.map_append]
end
theorem hsL_app:∀(a b:List A),A.hsL (a++b)=A.hsL a++A.hsL b
 |[],b=>rfl
 |c::r,b=>by simp[A.hsL,hsL_app r b]
theorem renL_map_congr{f g:Nat->Nat}:∀(l:List (List A)),(∀i∈A.hsL l.flatten,f i=g i)->l.map (A.renL f)=l.map (A.renL g)
 |[],_=>rfl
 |e::r,h=>by
  simp only[List.flatten_cons,hsL_app,List.mem_append]at h
  simp only[List.map_cons]
  rw[A.renL_congr e λi hi=>h i (.inl hi),renL_map_congr r λi hi=>h i (.inr hi)]
theorem kv_ren_congr{f g:Nat->Nat}:∀(l:List (Ky×A)),(∀i∈A.hsL (l.map (·.2)),f i=g i)->(l.map λp=>(p.1,p.2.ren f))=l.map λp=>(p.1,p.2.ren g)
 |[],_=>rfl
 |e::r,h=>by
  simp only[List.map_cons,A.hsL,List.mem_append]at h
  simp only[List.map_cons]
  rw[A.ren_congr e.2 λi hi=>h i (.inl hi),kv_ren_congr r λi hi=>h i (.inr hi)]
def R.noIt:R->Bool
 |.it _ _ _ _=>false
 |_=>true
theorem R.ren_congr{f g:Nat->Nat}(r:R)(hn:r.noIt=true)(h:∀i∈r.hs,f i=g i):r.ren f=r.ren g:=by
 cases r with
 |cells fz l=>simp only[R.ren];rw[A.renL_congr l (by simpa only[R.hs]using h)]
 |osl fz t es l=>simp only[R.ren];rw[renL_map_congr l (by simpa only[R.hs]using h)]
 |mp fz kv st=>
  simp only[R.hs,List.mem_append]at h
  simp only[R.ren]
  rw[kv_ren_congr kv λi hi=>h i (.inl hi)]
  congr 1
  exact List.map_congr_left λp hp=>by rw[h p.2 (.inr (List.mem_map.2 ⟨p,hp,rfl⟩))]
 |fr l=>simp only[R.ren];rw[A.renL_congr l (by simpa only[R.hs]using h)]
 |it i sc a b=>cases hn
 |lo st pend ts ps asg bod=>simp only[R.ren];rw[A.renL_congr ts (by simpa only[R.hs]using h)]
 |cu src es l=>
  simp only[R.hs,List.mem_append]at h
  simp only[R.ren]
  rw[A.ren_congr src λi hi=>h i (.inl hi),renL_map_congr l λi hi=>h i (.inr hi)]
 |_=>rfl
theorem map_renL_id:∀(l:List (List A)),l.map (A.renL λi=>i)=l
 |[]=>rfl
 |e::r=>by simp only[List.map_cons];rw[A.renL_id,map_renL_id r]
theorem R.ren_id(r:R):r.ren (λi=>i)=r:=by
 cases r with
 |cells fz l=>simp only[R.ren];rw[A.renL_id]
 |osl fz t es l=>simp only[R.ren];rw[map_renL_id]
 |mp fz kv st=>
  simp only[R.ren]
  congr 1
  ·conv=>rhs;rw[<-List.map_id kv]
   exact List.map_congr_left λp _=>by rw[A.ren_id];rfl
  ·conv=>rhs;rw[<-List.map_id st]
   exact List.map_congr_left λp _=>rfl
 |fr l=>simp only[R.ren];rw[A.renL_id]
 |it i sc a b=>simp only[R.ren,List.map_id']
 |lo st pend ts ps asg bod=>simp only[R.ren];rw[A.renL_id]
 |cu src es l=>simp only[R.ren];rw[A.ren_id,map_renL_id]
 |_=>rfl
theorem R.hs_ren(g:Nat->Nat)(r:R):(r.ren g).hs=r.hs.map g:=by
 have e1:∀l:List (List A),A.hsL (l.map (A.renL g)).flatten=(A.hsL l.flatten).map g:=λl=>by rw[renL_flatten,A.hsL_ren]
 cases r with
 |cells fz l=>simp only[R.ren,R.hs,A.hsL_ren]
 |osl fz t es l=>simp only[R.ren,R.hs,e1]
 |mp fz kv st=>
  simp only[R.ren,R.hs,List.map_append]
  congr 1
  ·rw[<-A.hsL_ren,renL_map,List.map_map,List.map_map];rfl
  ·rw[List.map_map,List.map_map];rfl
 |fr l=>simp only[R.ren,R.hs,A.hsL_ren]
 |it i sc a b=>simp only[R.ren,R.hs,List.map_cons]
 |lo st pend ts ps asg bod=>simp only[R.ren,R.hs,A.hsL_ren]
 |cu src es l=>simp only[R.ren,R.hs,A.hs_ren,e1,List.map_append]
 |_=>rfl
def Rt.ren(g:Nat->Nat):Rt->Rt
 |.ok a=>.ok (a.ren g)
 |.pan a=>.pan (a.ren g)
theorem Rt.ren_id(r:Rt):r.ren (λi=>i)=r:=by cases r<;>simp only[Rt.ren,A.ren_id]
theorem Rt.hs_ren(g:Nat->Nat)(r:Rt):(r.ren g).hs=r.hs.map g:=by cases r<;>simp only[Rt.ren,Rt.hs,A.hs_ren]
theorem Rt.ren_congr{f g:Nat->Nat}(r:Rt)(h:∀i∈r.hs,f i=g i):r.ren f=r.ren g:=by
 cases r<;>simp only[Rt.ren]<;>rw[A.ren_congr _ h]
def renM(g gi:Nat->Nat)(m:Mem):Mem:=λi=>(m (gi i)).map (R.ren g)
def RenTo(m mf:Mem)(r0:Rt)(m':Mem)(r:Rt):Prop:=
 ∃g gi:Nat->Nat,(∀i,gi (g i)=i)/\(∀i,g (gi i)=i)/\(∀i,m i≠none->g i=i)/\r=r0.ren g/\∀i q,m' i=some q->(∃q0,mf (gi i)=some q0/\q=q0.ren g)\/(m i=some q/\mf i=some q)
theorem RenTo.refl{m mf m':Mem}{r:Rt}(h:∀i q,m' i=some q->mf i=some q):RenTo m mf r m' r:=
 ⟨λi=>i,λi=>i,λ_=>rfl,λ_=>rfl,λ_ _=>rfl,(Rt.ren_id r).symm,λi q hq=>.inl ⟨q,h i q hq,(R.ren_id q).symm⟩⟩
section
variable{M0 S0:Nat->Prop}{w0:World}{n:Nat}{ds:List DA}{T:Nat->A}{m mf:Mem}{ρ ρ':Nat->Value}{a:Act}{w:World}
theorem ontoG_ren{g gi:Nat->Nat}(h1:∀i,gi (g i)=i)(m:Mem)(ρ:Nat->Value):OntoG g m (renM g gi m) ρ (λi=>ρ (gi i)):=by
 intro i hi
 have e:renM g gi m (g i)=(m i).map (R.ren g):=by unfold renM;rw[h1]
 cases hm:m i with
 |none=>exact absurd hm hi
 |some r=>
  rw[hm]at e
  refine⟨by rw[e];simp,λhd=>⟨?_,by simp only[h1],?_⟩⟩
  ·rintro e2
   simp only[Option.some.injEq]at e2;subst e2
   exact hd (by rw[e];rfl)
  ·rintro fz t es l e2
   simp only[Option.some.injEq]at e2;subst e2
   exact⟨fz,t,l.map (A.renL g),by rw[e];rfl,by simp⟩
theorem SatAt.ren{N:Fr}(s:SatAt M0 S0 w0 N T mf ρ a w){g gi:Nat->Nat}(h1:∀i,gi (g i)=i)(h2:∀i,g (gi i)=i):
 SatAt M0 S0 w0 ⟨N.n,none⟩ (λ_=>.x) (renM g gi mf) (λi=>ρ (gi i)) a w/\∀(v:A)(y:Value),v.Den w (Mut M0 mf ρ) mf ρ y->(v.ren g).Den w (Mut M0 (renM g gi mf) (λi=>ρ (gi i))) (renM g gi mf) (λi=>ρ (gi i)) y:=by
 have hO:=ontoG_ren h1 mf ρ
 have live:∀i r,renM g gi mf i=some r->∃r0,mf (gi i)=some r0/\r=r0.ren g/\r.live=r0.live:=by
  intro i r hr
  unfold renM at hr
  simp only[Option.map_eq_some_iff]at hr
  obtain⟨r0,e,rfl⟩:=hr
  exact⟨r0,e,rfl,R.ren_live g r0⟩
 have hM:∀b,Mut M0 (renM g gi mf) (λi=>ρ (gi i)) b->b<w.heap.size->Mut M0 mf ρ b:=by
  rintro b (e|⟨i,r,hi,hl,hb⟩) _
  ·exact .inl e
  ·obtain⟨r0,e1,e2,e3⟩:=live i r hi
   exact .inr ⟨gi i,r0,e1,by rw[<-e3];exact hl,hb⟩
 have hg:∀i j,g i=g j->i=j:=λi j e=>by rw[<-h1 i,e,h1]
 refine⟨?_,λv y hd=>A.Den_push (Stays.refl _ w) hM hO v y hd⟩
 refine{keeps:=s.keeps,size:=s.size,defers:=(λ_ e=>by cases e),tmps:=λ_=>by simp[A.Den]
        res:=λi r hi=>?_,own:=λi r b hi hl hb=>?_,apart:=λi j r r' b hi hl hj hl' hb hb'=>?_}
 ·obtain⟨r0,e1,rfl,_⟩:=live i r hi
  exact R.Ok_push hg (Stays.refl _ w) hM hO (λ_ _ _=>rfl) (s.res _ r0 e1)
 ·obtain⟨r0,e1,rfl,e3⟩:=live i r hi
  exact s.own (gi i) r0 b e1 (by rw[<-e3];exact hl) hb
 ·obtain⟨r0,e1,rfl,e3⟩:=live i r hi
  obtain⟨r1,f1,rfl,f3⟩:=live j r' hj
  have:=s.apart (gi i) (gi j) r0 r1 b e1 (by rw[<-e3];exact hl) f1 (by rw[<-f3];exact hl') hb hb'
  rw[<-h2 i,this,h2]
theorem onto_ren{g gi:Nat->Nat}(h1:∀i,gi (g i)=i)(hfix:∀i,m i≠none->g i=i)(hO:Onto m mf ρ ρ'):Onto m (renM g gi mf) ρ (λi=>ρ' (gi i)):=by
 intro i hi
 have e:=hfix i hi
 have e2:gi i=i:=by have:=h1 i;rwa [e]at this
 obtain⟨k1,k2⟩:=hO i hi
 cases hm:mf i with
 |none=>exact absurd hm k1
 |some r=>
  have er:renM g gi mf i=some (r.ren g):=by unfold renM;rw[e2,hm];rfl
  refine⟨by rw[er];simp,λhd=>?_⟩
  have hnd:mf i≠some .dead:=by
   rw[hm];rintro e3
   simp only[Option.some.injEq]at e3;subst e3
   exact hd (by rw[er];rfl)
  obtain⟨k3,k4,k5⟩:=k2 hnd
  refine⟨k3,by simp only[e2,k4],λfz t es l e3=>?_⟩
  obtain⟨fz',t',l',e4,e5⟩:=k5 fz t es l e3
  rw[hm]at e4
  simp only[Option.some.injEq]at e4;subst e4
  exact⟨fz',t',l'.map (A.renL g),by rw[er];rfl,by simpa using e5⟩
end
theorem exists_perm:∀(ps:List (Nat×Nat)),(ps.map (·.1)).Nodup->(ps.map (·.2)).Nodup->
 ∃g gi:Nat->Nat,(∀i,gi (g i)=i)/\(∀i,g (gi i)=i)/\(∀p∈ps,g p.1=p.2)/\∀i,i∉ps.map (·.1)->i∉ps.map (·.2)->g i=i
 |[],_,_=>⟨λi=>i,λi=>i,λ_=>rfl,λ_=>rfl,by simp,λ_ _ _=>rfl⟩
 |p::r,h1,h2=>by
  simp only[List.map_cons,List.nodup_cons]at h1 h2
  obtain⟨g,gi,k1,k2,k3,k4⟩:=exists_perm r h1.2 h2.2
  have inj:∀i j,g i=g j->i=j:=λi j e=>by rw[<-k1 i,e,k1]
  let sw:Nat->Nat:=λi=>if i=g p.1 then p.2 else if i=p.2 then g p.1 else i
  have sw2:∀i,sw (sw i)=i:=by
   intro i
   simp only[sw]
   by_cases e1:i=g p.1
   ·subst e1
    simp only[if_true]
    by_cases e2:p.2=g p.1
    ·rw[if_pos e2,e2]
    ·rw[if_neg e2]
   ·rw[if_neg e1]
    by_cases e2:i=p.2
    ·rw[if_pos e2,if_pos rfl,e2]
    ·rw[if_neg e2,if_neg e1,if_neg e2]
  refine⟨λi=>sw (g i),λi=>gi (sw i),λi=>by simp only[sw2,k1],λi=>by simp only[k2,sw2],?_,?_⟩
  ·intro q hq
   simp only[List.mem_cons]at hq
   rcases hq with rfl|hq
   ·simp[sw]
   ·have e1:g q.1≠g p.1:=λe=>h1.1 (by have:=inj _ _ e;rw[<-this];exact List.mem_map.2 ⟨q,hq,rfl⟩)
    have e2:g q.1≠p.2:=by rw[k3 q hq];exact λe=>h2.1 (by rw[<-e];exact List.mem_map.2 ⟨q,hq,rfl⟩)
    simp only[sw,if_neg e1,if_neg e2]
    exact k3 q hq
  ·intro i hi hj
   simp only[List.map_cons,List.mem_cons,not_or]at hi hj
   have e:=k4 i hi.2 hj.2
   have e1:g i≠g p.1:=λq=>hi.1 (inj _ _ q)
   simp only[sw,if_neg e1]
   rw[e,if_neg hj.1]
end Go.Pv
namespace Go.Pv
open Go.RowKit
inductive Md where
 |ret
 |pan(v:A)
def Md.Den(w:World)(M:Nat->Prop)(m:Mem)(ρ:Nat->Value):Md->FrameMode->Prop
 |.ret,u=>u=.returning
 |.pan v,u=>∃y,u=.panicking [{v:=y,recovered:=false}]/\v.Den w M m ρ y
theorem Md.Den_mono{w w':World}{M M':Nat->Prop}{m m':Mem}{ρ ρ':Nat->Value}(h:Stays M w w')(hM:∀b,M' b->b<w.heap.size->M b)(hO:Onto m m' ρ ρ'):∀{md:Md}{u:FrameMode},md.Den w M m ρ u->md.Den w' M' m' ρ' u
 |.ret,_,h1=>h1
 |.pan v,_,⟨y,e,h1⟩=>⟨y,e,A.Den_mono h hM hO _ _ h1⟩
def LeaveT(P:Program)(fn:Func)(T:Nat->A)(m:Mem)(ds:List DA)(md:Md)(r:Rt)(mf:Mem):Prop:=
 ∀(n:Nat)(M0 S0:Nat->Prop)(w0:World)(ρ:Nat->Value)(a:Act)(w:World)(u:FrameMode),SatAt M0 S0 w0 ⟨n,some ds⟩ T m ρ a w->(∀b,M0 b->b<w0.heap.size)->md.Den w (Mut M0 m ρ) m ρ u->
  ∀R:Ending->World->Prop,(∀e w' ρ',SatAt M0 S0 w0 ⟨n,some []⟩ T mf ρ' {a with defers:=[]} w'->Onto m mf ρ ρ'->r.Den w' (Mut M0 mf ρ') mf ρ' e->R e w')->LeavesX P fn a.tmps R a.defers u w
section
variable{P:Program}{fn:Func}{T:Nat->A}{m mf:Mem}{ds:List DA}{md:Md}{r:Rt}
theorem act_nil{a:Act}(h:a.defers=[]):{a with defers:=[]}=a:=by cases a;simp at h;subst h;rfl
theorem LeaveT.ret{v:A}(h:resV P m T fn.results.toList=some v):LeaveT P fn T m [] .ret (.ok v) m:=by
 intro n M0 S0 w0 ρ a w u hs hlt hu R hR
 obtain⟨y,k1,k2⟩:=results_run (P:=P) hs h
 have hde:a.defers=[]:=hs.defers [] rfl
 simp only[Md.Den]at hu;subst hu
 rw[hde]
 exact⟨y,k1,hR _ w ρ (by rw[act_nil hde];exact hs) (Onto.refl m ρ) ⟨y,rfl,k2⟩⟩
theorem LeaveT.pan{v:A}:LeaveT P fn T m [] (.pan v) (.pan v) m:=by
 intro n M0 S0 w0 ρ a w u hs hlt hu R hR
 have hde:a.defers=[]:=hs.defers [] rfl
 obtain⟨y,rfl,hy⟩:=hu
 rw[hde]
 exact hR _ w ρ (by rw[act_nil hde];exact hs) (Onto.refl m ρ) ⟨y,rfl,hy⟩
theorem LeaveT.coll{i:Nat}(hi:m i=some (.df false))(h:LeaveT P fn T (setM m i (.df true)) ds md r mf):LeaveT P fn T m (.coll i::ds) md r mf:=by
 intro n M0 S0 w0 ρ a w u hs hlt hu R hR
 obtain⟨D,dr,w',e,hk,h1,hO⟩:=hs.take (P:=P) hi
 have hu':md.Den w' (Mut M0 (setM m i (.df true)) ρ) (setM m i (.df true)) ρ u:=by
  have hsn:SatAt M0 (LiveB m ρ) w ⟨n,some (.coll i::ds)⟩ T m ρ a w:=hs.now
  obtain⟨D2,dr2,w2,e2,hk2,h2,_⟩:=hsn.take (P:=P) hi
  rw[e]at e2
  simp only[List.cons.injEq,Deferred.mk.injEq,Target.collected.injEq,and_true]at e2
  obtain⟨rfl,rfl⟩:=e2
  rw[hk]at hk2
  simp only[Result.ok.injEq,true_and]at hk2
  subst hk2
  obtain⟨q1,q2⟩:=hs.evo h2
  exact Md.Den_mono q1 q2 hO hu
 have hrun:u≠.run:=by
  cases md with
  |ret=>simp only[Md.Den]at hu;subst hu;simp
  |pan v=>obtain⟨y,rfl,_⟩:=hu;simp
 rw[e]
 refine⟨hrun,.inl ⟨D,w',rfl,hk,?_⟩⟩
 exact h n M0 S0 w0 ρ {a with defers:=dr} w' u h1 hlt hu' R λe w2 ρ2 s o q=>hR e w2 ρ2 s (hO.trans o) q
end
def exMd:Ex->Option Md
 |.nm=>some .ret
 |.ret=>some .ret
 |.pan v=>some (.pan v)
 |.ext _=>none
theorem callT_of_body{P:Program}{f:FuncId}{fn:Func}{c:Code}{as:List A}{m:Mem}{u:List (Nat×R)}{r:Rt}{Post:PostT}(hf:P.funcs[f]?=some fn)(hb:fn.body=some c)(hcl:callable P f=true)(hn:as.length<=fn.ntmps)
 (hbody:CodeT P false fn.ntmps c (argsT as) m [] Post)(hpost:∀ex T' m' ds',Post ex T' m' ds'->∃md mf r0,exMd ex=some md/\LeaveT P fn T' m' ds' md r0 mf/\RenTo m mf r0 (applyU m u) r)
 (hv:∀i∈r.hs,applyU m u i≠none)(hc:∀p∈u,∀j∈p.2.hs,applyU m u j≠none):CallT P f as m r (applyU m u):=by
 refine⟨hcl,?_⟩
 intro N T M0 S0 w0 ρ a w h hlt vs hd
 have hlen:=(A.DenL_iff.1 hd).1
 refine calls_of_wpX hf hb ?_
 have hlt':∀b,M0 b->b<w.heap.size:=λb hb=>Nat.lt_of_lt_of_le (hlt b hb) h.keeps.size
 have h0:SatAt M0 (LiveB m ρ) w ⟨fn.ntmps,some []⟩ (argsT as) m ρ {tmps:=vs.toArray++Array.replicate (fn.ntmps -vs.toArray.size) undef,defers:=[]} w:=
  {keeps:=Keeps.refl _ _,size:=by simp;omega
   defers:=λds e=>by simp at e;subst e;rfl
   tmps:=λn=>by
    unfold argsT
    rcases Nat.lt_or_ge n as.length with q|q
    · rw[List.getElem?_eq_getElem q]
      have hv:n<vs.length:=by omega
      have e1:(vs.toArray++Array.replicate (fn.ntmps -vs.toArray.size) undef).getD n undef=vs[n]:=by
       rw[Array.getD_eq_getD_getElem?,Array.getElem?_append_left (by simpa using hv)]
       simp[hv]
      rw[e1]
      exact(A.DenL_iff.1 hd).2 n _ _ (List.getElem?_eq_getElem q) (List.getElem?_eq_getElem hv)
    · rw[List.getElem?_eq_none q]
      simp[A.Den]
   res:=h.res,own:=h.now.own,apart:=h.apart}
 refine hbody none M0 (LiveB m ρ) w ρ _ w rfl h0 hlt' _ ?_
 intro ex e T' m' ds' ρ' a' w' hp h1 hO hex
 obtain⟨md,mf,r0,hmd,hL,g,gi,hg1,hg2,hfix,hr0,hsub⟩:=hpost ex T' m' ds' hp
 subst hr0
 have key:∀(e:Ending)(w2:World)(ρ2:Nat->Value),SatAt M0 (LiveB m ρ) w ⟨fn.ntmps,some []⟩ T' mf ρ2 {a' with defers:=[]} w2->Onto m' mf ρ' ρ2->r0.Den w2 (Mut M0 mf ρ2) mf ρ2 e->
  ∃ρ',SatAt M0 S0 w0 N T (applyU m u) ρ' a w2/\Onto m (applyU m u) ρ ρ'/\(r0.ren g).Den w2 (Mut M0 (applyU m u) ρ') (applyU m u) ρ' e:=by
  intro e w2 ρ2 s o q
  obtain⟨s',hden⟩:=s.ren hg1 hg2
  have hO':=onto_ren hg1 hfix (hO.trans o)
  have hb:=h.back s' hO'
  have hsub':∀i q,applyU m u i=some q->renM g gi mf i=some q:=by
   intro i q hq
   rcases hsub i q hq with⟨q0,e1,rfl⟩|⟨e1,e2⟩
   ·unfold renM;rw[e1];rfl
   ·have e3:=hfix i (by rw[e1];simp)
    have e4:gi i=i:=by have:=hg1 i;rwa [e3]at this
    unfold renM;rw[e4,e2]
    have hd:=R.hs_dom (h.res i q e1)
    have hit:q.ren g=q:=by
     cases q with
     |it i' sc st se=>
      obtain⟨_,_,_,_,_,_,g1,g2,g3⟩:=h.res i _ e1
      simp only[R.ren]
      have es:st.map g=st:=by
       conv=>rhs;rw[<-List.map_id st]
       exact List.map_congr_left λj hj=>hfix j (g3.2.1 j hj)
      have ee:se.map g=se:=by
       conv=>rhs;rw[<-List.map_id se]
       exact List.map_congr_left λj hj=>hfix j (g3.2.1 j (g3.1 j hj))
      rw[es,ee,hfix i' g1.1,hfix sc g2.1]
     |_=>exact(R.ren_congr (f:=g) (g:=λi=>i) _ rfl λj hj=>hfix j (hd j hj)).trans (R.ren_id _)
    simp only[Option.map_some,hit]
  cases r0 with
  |ok v=>
   obtain⟨y,rfl,hy⟩:=q
   obtain⟨k1,k2,k3⟩:=h.cut hb hO' hsub' hv hc (hden _ _ hy)
   exact⟨_,k1,k2,y,rfl,k3⟩
  |pan v=>
   obtain⟨y,rfl,hy⟩:=q
   obtain⟨k1,k2,k3⟩:=h.cut hb hO' hsub' hv hc (hden _ _ hy)
   exact⟨_,k1,k2,y,rfl,k3⟩
 cases ex with
 |nm=>
  simp only[Ex.Den]at hex;subst hex
  simp only[exMd,Option.some.injEq]at hmd;subst hmd
  exact hL fn.ntmps M0 (LiveB m ρ) w ρ' a' w' _ h1 hlt' rfl _ key
 |ret=>
  simp only[Ex.Den]at hex;subst hex
  simp only[exMd,Option.some.injEq]at hmd;subst hmd
  exact hL fn.ntmps M0 (LiveB m ρ) w ρ' a' w' _ h1 hlt' rfl _ key
 |pan v=>
  obtain⟨y,rfl,hy⟩:=hex
  simp only[exMd,Option.some.injEq]at hmd;subst hmd
  exact hL fn.ntmps M0 (LiveB m ρ) w ρ' a' w' _ h1 hlt' ⟨y,rfl,hy⟩ _ key
 |ext id=>cases hmd
end Go.Pv
namespace Go.Pv
open Go.RowKit
def roundX(P:Program)(l:Nat)(R:Ending->World->Prop):Exit->Act->World->Prop
 |.normal,_,w=>∃v w',(Instr.endRound l none).run P w=.ok v w'/\R (.returned v) w'
 |.ret,_,w=>∃v w',(Instr.endRound l (some .ret)).run P w=.ok v w'/\R (.returned v) w'
 |.exit id,_,w=>∃v w',(Instr.endRound l (some (.exit id))).run P w=.ok v w'/\R (.returned v) w'
 |_,_,_=>False
theorem roundIn_of{P:Program}{ro:Option Nat}{l:Nat}{f:FuncId}{tmps:Array Value}{asg bod:Code}{w:World}{R:Ending->World->Prop}
 (h:asg.wpIn (FW (some l)) 0 P (λe a₁ w₁=>e=.normal/\∃w₂,(Instr.beginRound l).run P w₁=.ok () w₂/\bod.wpIn (FW (some l)) 0 P (roundX P l R) a₁ w₂) {tmps:=tmps,defers:=[]} w):
 RoundIn (FW ro) 0 P l f tmps asg bod w R:=by
 refine⟨trivial,λc cs _=>?_⟩
 have hr':(FW (some l)).room ((c::cs).length+1+0):=λd e=>by cases e
 let b:Frame:={(default:Frame)with fn:=f,kind:=.normal,roundOf:=some l}
 have hb0:Frame.round l f tmps asg bod .normal=b.atR {tmps:=tmps,defers:=[]} [.code asg,.beginRound,.code bod]:=by
  simp[Frame.round,Frame.atR,b]
 obtain⟨e,a₁,w₁,⟨he,w₂,hbr,hbody⟩,harr⟩:=h b [.beginRound,.code bod] (c::cs) rfl trivial hr'
 subst he
 rw[<-hb0]at harr
 have s0:Steps P (lone (Frame.round l f tmps asg bod .normal) (c::cs) w) (lone (b.atR a₁ [.beginRound,.code bod]) (c::cs) w₁):=harr.steps
 have s1:Steps P (lone (b.atR a₁ [.beginRound,.code bod]) (c::cs) w₁) (lone (b.atR a₁ [.code bod]) (c::cs) w₂):=.one (stepR_beginRound rfl hbr)
 obtain⟨e₂,a₂,w₃,hq₂,harr₂⟩:=hbody b [] (c::cs) rfl trivial hr'
 have fin:∀{v:Value}{w4:World},Steps P (lone (b.atR a₁ [.code bod]) (c::cs) w₂) (lone (c.finish v) cs w4)->R (.returned v) w4->∃e w',R e w'/\ComesIn (Machine.fenced P (FW ro)) P (lone (Frame.round l f tmps asg bod .normal) (c::cs) w)
  (match e with
   |.returned v=>lone (c.finish v) cs w'
   |.panicked chain=>lone (c.raise chain) cs w'
   |.outgrown=>lone c cs w') e:=by
  intro v w4 hs hR
  exact⟨.returned v,w4,hR,(StepsIn.of_steps ((s0.trans s1).trans hs)).mono λm _=>fenced_wide P m⟩
 cases e₂ with
 |normal=>
  obtain⟨v,w₄,hend,hR⟩:=hq₂
  exact fin (Steps.trans harr₂.steps (.one (stepR_round_end rfl rfl hend))) hR
 |ret=>
  obtain⟨v,w₄,hend,hR⟩:=hq₂
  obtain⟨k₁,hs⟩:=harr₂.2 rfl
  exact fin (Steps.trans hs.steps (.one (stepR_round_ret rfl rfl hend))) hR
 |exit id=>
  obtain⟨v,w₄,hend,hR⟩:=hq₂
  obtain⟨k₁,hk,hs⟩:=harr₂.2 rfl rfl
  exact fin (Steps.trans hs.steps (.one (stepR_round_exit rfl rfl hk hend))) hR
 |_=>exact hq₂.elim
abbrev rangeCall(g:Operand)(l:Nat):Call:={callee:=.value g,args:= #[.const (.func (.yield l) #[] #[])],argTypes:= #[]}
theorem step_endRF{P:Program}{b:Frame}{a:Act}{k:List Item}{cs:List Frame}{w w':World}{l:Nat}{jump:Option Code}(h:(Instr.endLoop l).run P w=.ok jump w'):
 step P (lone (b.at a (.endRangeFunc l::k)) cs w)=.next (lone (b.at a ((jump.map Item.code).toList++k)) cs w'):=
 step_lone_go (by simp[stepG,stepG.exec,Frame.at,Sem.runT_eq,h,GStep.bare_after])
theorem step_RF{P:Program}{b:Frame}{a:Act}{k:List Item}{cs:List Frame}{w:World}{g:Operand}{ps:Array Tmp}{asg bod:Code}{l:Nat}{mark:List Deferred}{w₁ w₁' w₂:World}{d:Deferred}{f:FuncId}{args:Array Value}
 (he:(Instr.enterLoop b.fn a.tmps ps asg bod none).run P w=.ok (l,mark) w₁)
 (hres:(resolve a.eval (rangeCall g l) 0).run P w₁=.ok d w₁')(hinv:(invoke d.target d.args).run P w₁'=.ok (.enter f args) w₂):
 step P (lone (b.at a (.code (.rangeFunc g ps asg bod)::k)) cs w)=
  .next (lone (Frame.enter P f args .normal) (b.at {a with defers:=mark++a.defers} (.inRangeFunc l::k)::cs) w₂):=
 step_lone_go (by
  have hev:=Frame.eval_at' b {a with defers:=mark++a.defers} (.inRangeFunc l::k)
  simp only[Frame.at]at hev
  have hres':Sem.run P (resolve ({tmps:=a.tmps,defers:=mark++a.defers}:Act).eval {callee:=.value g,args:= #[.const (.func (.yield l) #[] #[])],argTypes:= #[]} 0) w₁=.ok d w₁':=hres
  simp[stepG,stepG.exec,Frame.at,Sem.runT_eq,he,GStep.bare_after,stepG.apply,hev,Sem.run_bind,hres',hinv,Result.andThen])
theorem finish_atRF{b:Frame}{a:Act}{k:List Item}(l:Nat)(v:Value):(b.at a (.inRangeFunc l::k)).finish v=b.at a (.endRangeFunc l::k):=by
 simp[Frame.finish,Frame.at]
theorem wp_rangeFunc{P:Program}{g:Operand}{ps:Array Tmp}{asg bod:Code}{Q:Exit->Act->World->Prop}{a:Act}{w:World}
 (h:∀fn,∃(l:Nat)(mark:List Deferred)(w₁:World)(d:Deferred)(w₁':World)(f:FuncId)(args:Array Value)(w₂:World),
   (Instr.enterLoop fn a.tmps ps asg bod none).run P w=.ok (l,mark) w₁/\(resolve a.eval (rangeCall g l) 0).run P w₁=.ok d w₁'/\(invoke d.target d.args).run P w₁'=.ok (.enter f args) w₂/\
   Calls P f args w₂ λe w3=>(∃v jump w4,e=.returned v/\(Instr.endLoop l).run P w3=.ok jump w4/\(match jump with
    |none=>Q .normal {a with defers:=mark++a.defers} w4
    |some c=>c.wp P Q {a with defers:=mark++a.defers} w4))\/∃ch,e=.panicked ch/\Q (.panic ch) {a with defers:=mark++a.defers} w3):
 (Code.rangeFunc g ps asg bod).wp P Q a w:=by
 intro b k cs
 obtain⟨l,mark,w₁,d,w₁',f,args,w₂,he,hres,hinv,hcall⟩:=h b.fn
 have henter:=step_RF (P:=P) (b:=b) (a:=a) (k:=k) (cs:=cs) (w:=w) he hres hinv
 obtain⟨e,w₃,fr,hR,hsteps,hfn,hleave⟩:=hcall (b.at {a with defers:=mark++a.defers} (.inRangeFunc l::k)::cs)
 rcases hR with⟨v,jump,w4,rfl,hend,hj⟩|⟨ch,rfl,hq⟩
 ·have sback:Steps P (lone (b.at a (.code (.rangeFunc g ps asg bod)::k)) cs w) (lone (b.at {a with defers:=mark++a.defers} ((jump.map Item.code).toList++k)) cs w4):=by
   refine .head henter (Steps.trans hsteps (.head (step_leave_returned hleave) ?_))
   rw[finish_atRF]
   exact .one (step_endRF hend)
  cases jump with
  |none=>exact⟨.normal,_,w4,hj,sback⟩
  |some c=>
   obtain⟨e',a'',w5,hq,harr⟩:=hj b k cs
   exact⟨e',a'',w5,hq,.of_steps sback harr⟩
 ·refine⟨.panic ch,_,w₃,hq,.inRangeFunc l::k,.head henter (Steps.trans hsteps (.one ?_))⟩
  rw[<-Frame.raise_at];exact step_leave_panicked hleave
end Go.Pv
namespace Go.Pv
open Go.RowKit
section
variable{M0 S0:Nat->Prop}{w0:World}{N:Fr}{T:Nat->A}{m:Mem}{ρ:Nat->Value}{a:Act}{w:World}{P:Program}
theorem SatAt.loset(h:SatAt M0 S0 w0 N T m ρ a w){i:Nat}{st:LoopState}{pe:Option Code}{ts:List A}{ps:Array Tmp}{asg bod:Code}(hi:m i=some (.lo st pe ts ps asg bod)):
 ∃l fn vs D,ρ i=.func (.yield l) #[] #[]/\w.heap[l]?=some (.loop {state:=st,pending:=pe,fn:=fn,tmps:=vs,params:=ps,assign:=asg,body:=bod,defers:=D})/\A.DenL w (Mut M0 m ρ) m ρ ts vs.toList/\
  ∀st' pe',SatAt M0 S0 w0 N T (setM m i (.lo st' pe' ts ps asg bod)) ρ a (w.putObj l (.loop {state:=st',pending:=pe',fn:=fn,tmps:=vs,params:=ps,assign:=asg,body:=bod,defers:=D}))/\Onto m (setM m i (.lo st' pe' ts ps asg bod)) ρ ρ:=by
 obtain⟨l,fn,vs,D,e,hw,hd⟩:=h.res i _ hi
 refine⟨l,fn,vs,D,e,hw,hd,λst' pe'=>⟨?_,?_⟩⟩
 ·refine h.write hi rfl rfl (λfz t es l e=>by cases e) (putObj_keeps w l _) (λb _ e'=>by subst e';rw[e];rfl) ?_
  intro hO hst hmu
  exact⟨l,fn,vs,D,e,putObj_at hw,A.DenL_mono hst hmu hO _ _ hd⟩
 ·have:=Onto.set (m:=m) (ρ:=ρ) i (.lo st' pe' ts ps asg bod) (ρ i) (λ_ _=>⟨by rw[hi];simp,rfl,λfz t es l e=>by rw[hi]at e;cases e⟩)
  rwa [setH_same]at this
theorem run_getLoop{l:Nat}{r:Loop}(h:w.heap[l]?=some (.loop r)):(Instr.getLoop l).run P w=.ok r w:=by
 unfold Instr.getLoop
 have e1:(getObj l).run P w=.ok (.loop r) w:=by simp[getObj,h,Sem.run]
 simp only[Sem.run_bind,e1,Result.andThen_ok]
 simp
theorem run_setLoop{l:Nat}{r:Loop}{o:Obj}(h:w.heap[l]?=some (.loop r)):(setObj l o).run P w=.ok () (w.putObj l o):=putObj_run h (by intro c e f h;cases h)
def setPs:List (Tmp×A)->(Nat->A)->(Nat->A)
 |[],T=>T
 |p::r,T=>setPs r (setT T (some p.1) p.2)
theorem setPs_den{M:Nat->Prop}:∀{ps:List Tmp}{as:List A}{vs:List Value}{T:Nat->A}{tmps:Array Value},A.DenL w M m ρ as vs->(∀p∈ps,p<tmps.size)->(∀n,(T n).Den w M m ρ (tmps.getD n undef))->
 ∀n,((setPs (ps.zip as) T) n).Den w M m ρ (((ps.zip vs).foldl (λt(p:Tmp×Value)=>t.setIfInBounds p.1 p.2) tmps).getD n undef)/\((ps.zip vs).foldl (λt(p:Tmp×Value)=>t.setIfInBounds p.1 p.2) tmps).size=tmps.size
 |[],as,vs,T,tmps,_,_,h,n=>⟨by simpa [setPs]using h n,by simp⟩
 |p::ps,[],vs,T,tmps,hd,_,h,n=>by
  simp only[A.DenL]at hd;subst hd
  exact⟨by simpa [setPs]using h n,by simp⟩
 |p::ps,c::as,vs,T,tmps,hd,hp,h,n=>by
  simp only[A.DenL]at hd
  obtain⟨y,yr,rfl,h1,h2⟩:=hd
  have hlt:=hp p (by simp)
  have:=setPs_den (ps:=ps) (T:=setT T (some p) c) (tmps:=tmps.setIfInBounds p y) h2 (λq hq=>by simpa using hp q (by simp[hq])) (λk=>by
   unfold setT
   by_cases e:p=k
   · subst e
     simp only[if_true]
     rw[Array.getD_eq_getD_getElem?,Array.getElem?_setIfInBounds_self_of_lt hlt]
     exact h1
   · rw[if_neg (by simpa using e),Array.getD_eq_getD_getElem?,Array.getElem?_setIfInBounds_ne e,<-Array.getD_eq_getD_getElem?]
     exact h k) n
  simpa [setPs]using this
end
def exLo:Ex->Option (Bool×LoopState×Option Code)
 |.nm=>some (true,.ready,none)
 |.ret=>some (false,.done,some .ret)
 |.ext id=>some (false,.done,some (.exit id))
 |.pan _=>none
theorem OpN.yield{P:Program}{o:Oper}{T:Nat->A}{m:Mem}{c:Call}{fo:Operand}{i:Nat}{ts:List A}{ps:Array Tmp}{asg bod:Code}{PostA PostB:PostT}{outs:List Ot}
 (ho:o.op=.call c)(hc:c.callee=.value fo)(hf:evT T fo=.h i)(hi:m i=some (.lo .ready none ts ps asg bod))(hlen:c.args.size=ps.size)(hps:∀p∈ps.toList,p<ts.length)
 (hA:CodeT P true ts.length asg (setPs (ps.toList.zip (c.args.toList.map (evT T))) (argsT ts)) m [] PostA)
 (hAB:∀ex T1 m1 ds1,PostA ex T1 m1 ds1->ex=.nm/\ds1=[]/\∃pe1 ts1 ps1 asg1 bod1,m1 i=some (.lo .ready pe1 ts1 ps1 asg1 bod1)/\CodeT P true ts.length bod T1 (setM m1 i (.lo .busy pe1 ts1 ps1 asg1 bod1)) [] PostB)
 (hB:∀ex T2 m2 ds2,PostB ex T2 m2 ds2->∃b st pe,exLo ex=some (b,st,pe)/\∃st2 pe2 ts2 ps2 asg2 bod2,m2 i=some (.lo st2 pe2 ts2 ps2 asg2 bod2)/\∃u∈outs,u.1=.ok (.d (.v (.bool b)))/\(∀j q,applyU m u.2 j=some q->setM m2 i (.lo st pe ts2 ps2 asg2 bod2) j=some q)/\∀p∈u.2,∀j∈p.2.hs,applyU m u.2 j≠none):
 OpN P o T m outs:=by
 intro ro N M0 S0 w0 ρ a w h hlt next Q hn
 obtain⟨l,fn,vs,D,hρ,hw,hden,_⟩:=h.loset hi
 have hfo:=ev_den h fo
 rw[hf]at hfo
 simp only[A.Den]at hfo
 have hfv:=has_of hfo hi (by simp)
 rw[hρ]at hfv
 have hlen2:=(A.DenL_iff.1 hden).1
 have hrun:(execOp a.eval o).run P w=.ok (.round l fn ((ps.toList.zip (c.args.toList.map a.eval)).foldl (λt(p:Tmp×Value)=>t.setIfInBounds p.1 p.2) vs) asg bod) w:=by
  have e1:(Instr.yield l (c.args.map a.eval)).run P w=.ok (.round l fn ((ps.toList.zip (c.args.toList.map a.eval)).foldl (λt(p:Tmp×Value)=>t.setIfInBounds p.1 p.2) vs) asg bod) w:=by
   unfold Instr.yield
   rw[Sem.run_bind,run_getLoop hw]
   simp only[Result.andThen_ok]
   rw[if_neg (by simpa using hlen)]
   have e2:(ps.zip (c.args.map a.eval))=(ps.toList.zip (c.args.toList.map a.eval)).toArray:=by
    apply Array.ext'
    simp
   simp only[e2,List.foldl_toArray]
   simp
  simp only[execOp,ho,resolve,hc,hfv,Deferred.ofValue,Sem.run_bind,Sem.run_pure,Result.andThen_ok,invoke]
  simpa using e1
 refine wpIn_run (by unfold noDefer;rw[ho]) ?_
 rw[hrun,Oper.uponIn_round]
 refine⟨λe=>(by cases e),?_⟩
 refine roundIn_of ?_
 have hlt':∀b,M0 b->b<w.heap.size:=λb hb=>Nat.lt_of_lt_of_le (hlt b hb) h.keeps.size
 have hargs:=denL_map_ev h c.args.toList
 have hT:=λn=>setPs_den (T:=argsT ts) (tmps:=vs) hargs (λp hp=>by have:=hps p hp;rw[hlen2]at this;simpa using this) (λn=>by
  unfold argsT
  rcases Nat.lt_or_ge n ts.length with q|q
  · rw[List.getElem?_eq_getElem q]
    have hv:n<vs.toList.length:=by omega
    have e1:vs.getD n undef=vs.toList[n]:=by
     rw[Array.getD_eq_getD_getElem?]
     simp at hv
     simp[hv]
    rw[e1]
    exact(A.DenL_iff.1 hden).2 n _ _ (List.getElem?_eq_getElem q) (List.getElem?_eq_getElem hv)
  · rw[List.getElem?_eq_none q]
    simp[A.Den]) n
 have h0:SatAt M0 (LiveB m ρ) w ⟨ts.length,some []⟩ (setPs (ps.toList.zip (c.args.toList.map (evT T))) (argsT ts)) m ρ {tmps:=(ps.toList.zip (c.args.toList.map a.eval)).foldl (λt(p:Tmp×Value)=>t.setIfInBounds p.1 p.2) vs,defers:=[]} w:=
  {keeps:=Keeps.refl _ _,size:=by simp only;rw[(hT 0).2,hlen2];simp
   defers:=λds e=>by simp at e;subst e;rfl
   tmps:=λn=>(hT n).1
   res:=h.res,own:=h.now.own,apart:=h.apart}
 refine hA (some l) M0 (LiveB m ρ) w ρ _ w rfl h0 hlt' _ ?_
 intro ex e T1 m1 ds1 ρ1 a1 w1 hp h1 hO hex
 obtain⟨rfl,rfl,pe1,ts1,ps1,asg1,bod1,hi1,hBody⟩:=hAB ex T1 m1 ds1 hp
 simp only[Ex.Den]at hex
 refine⟨hex,?_⟩
 have hρ1:ρ1 i=ρ i:=((hO i (by rw[hi];simp)).2 (by rw[hi1];simp)).2.1
 obtain⟨l1,fn1,vs1,D1,e1,hw1,hden1,hset1⟩:=h1.loset hi1
 rw[hρ1,hρ]at e1
 simp only[Value.func.injEq,Fn.yield.injEq,and_true]at e1
 subst e1
 refine⟨w1.putObj l (.loop {state:=.busy,pending:=pe1,fn:=fn1,tmps:=vs1,params:=ps1,assign:=asg1,body:=bod1,defers:=D1}),?_,?_⟩
 ·unfold Instr.beginRound
  rw[Sem.run_bind,run_getLoop hw1]
  simp only[Result.andThen_ok]
  rw[Sem.run_bind,run_setLoop hw1]
  simp
 obtain⟨h2,hO2⟩:=hset1 .busy pe1
 refine hBody (some l) M0 (LiveB m ρ) w ρ1 a1 _ rfl h2 hlt' _ ?_
 intro ex e T3 m3 ds3 ρ3 a3 w3 hp3 h3 hO3 hex3
 obtain⟨b,st,pe,hlo,st2,pe2,ts2,ps2,asg2,bod2,hi3,u,hu,hu1,hsub,hcl⟩:=hB ex T3 m3 ds3 hp3
 have hρ3:ρ3 i=ρ i:=(((hO3 i (by simp[setM])).2 (by rw[hi3];simp)).2.1).trans hρ1
 obtain⟨l3,fn3,vs3,D3,e3,hw3,hden3,hset3⟩:=h3.loset hi3
 rw[hρ3,hρ]at e3
 simp only[Value.func.injEq,Fn.yield.injEq,and_true]at e3
 subst e3
 obtain⟨h4,hO4⟩:=hset3 st pe
 have hOall:=((hO.trans hO2).trans hO3).trans hO4
 have hb:=h.back h4 hOall
 obtain⟨k1,k2,k3⟩:=h.cut (v:=.d (.v (.bool b))) (y:=.bool b) hb hOall hsub (by simp[A.hs]) hcl (by simp only[A.Den,C.Den])
 have hfin:=(hn u (.bool b) _ ρ3 hu k1 k2).1 _ hu1 k3
 have hend:∀(j:Option Code),pe=j->st=(if j.isNone then .ready else .done)->b=j.isNone->(Instr.endRound l j).run P w3=.ok (.bool b) (w3.putObj l (.loop {state:=st,pending:=pe,fn:=fn3,tmps:=vs3,params:=ps2,assign:=asg2,body:=bod2,defers:=D3})):=by
  rintro j rfl rfl rfl
  unfold Instr.endRound
  rw[Sem.run_bind,run_getLoop hw3]
  simp only[Result.andThen_ok]
  rw[Sem.run_bind,run_setLoop hw3]
  simp
 cases ex with
 |nm=>
  simp only[Ex.Den]at hex3;subst hex3
  simp only[exLo,Option.some.injEq,Prod.mk.injEq]at hlo
  obtain⟨rfl,rfl,rfl⟩:=hlo
  exact⟨_,_,hend none rfl rfl rfl,hfin⟩
 |ret=>
  simp only[Ex.Den]at hex3;subst hex3
  simp only[exLo,Option.some.injEq,Prod.mk.injEq]at hlo
  obtain⟨rfl,rfl,rfl⟩:=hlo
  exact⟨_,_,hend (some .ret) rfl rfl rfl,hfin⟩
 |ext id=>
  simp only[Ex.Den]at hex3;subst hex3
  simp only[exLo,Option.some.injEq,Prod.mk.injEq]at hlo
  obtain⟨rfl,rfl,rfl⟩:=hlo
  exact⟨_,_,hend (some (.exit id)) rfl rfl rfl,hfin⟩
 |pan v=>cases hlo
end Go.Pv
namespace Go.Pv
open Go.RowKit
def allT(n:Nat)(T:Nat->A):List A:=(List.range n).map T
theorem allT_den{w:World}{M:Nat->Prop}{m:Mem}{ρ:Nat->Value}{n:Nat}{T:Nat->A}{tmps:Array Value}(hn:tmps.size=n)(h:∀k,(T k).Den w M m ρ (tmps.getD k undef)):A.DenL w M m ρ (allT n T) tmps.toList:=by
 rw[A.DenL_iff]
 refine⟨by simp[allT,hn],λj c y hc hy=>?_⟩
 obtain⟨hj,rfl⟩:=List.getElem?_eq_some_iff.1 hy
 have hjn:j<n:=by simpa [hn]using hj
 simp only[allT,List.getElem?_map,List.getElem?_range hjn,Option.map_some,Option.some.injEq]at hc
 subst hc
 have:=h j
 have hj':j<tmps.size:=by simpa using hj
 simpa [Array.getD_eq_getD_getElem?,hj']using this
theorem run_enterLoop{P:Program}{w:World}(fn:FuncId)(tmps:Array Value)(ps:Array Tmp)(asg bod:Code):
 (Instr.enterLoop fn tmps ps asg bod none).run P w=.ok ((w.alloc (.deferred (some []))).heap.size,[{target:=.collected w.heap.size,args:= #[]}])
   ((w.alloc (.deferred (some []))).alloc (.loop {state:=.ready,pending:=none,fn:=fn,tmps:=tmps,params:=ps,assign:=asg,body:=bod,defers:=w.heap.size})):=by
 have e1:∀(o:Obj)(w:World),(newObj o).run P w=.ok w.heap.size (w.alloc o):=λ_ _=>rfl
 simp only[Instr.enterLoop,Sem.run_bind,e1,Result.andThen_ok,Sem.run_pure]
def jumpPost(Post:PostT)(T:Nat->A)(m:Mem)(ds:List DA):Option Code->Prop
 |none=>Post .nm T m ds
 |some .ret=>Post .ret T m ds
 |some (.exit id)=>Post (.ext id) T m ds
 |_=>False
theorem CodeT.rangeFunc{P:Program}{n:Nat}{T:Nat->A}{m m2:Mem}{ds:List DA}{Post:PostT}{g:Operand}{ps:Array Tmp}{asg bod:Code}{gf:FuncId}{us vs:List A}{i j:Nat}{r:Rt}
 (hg:evT T g=.fn (.func gf) us vs\/∃cu cv,evT T g=.d (.fn (.func gf) cu cv)/\us=cu.map A.d/\vs=cv.map A.d)(hi:m i=none)(hj:m j=none)(hij:i≠j)
 (hcall:CallT P gf (us++([.h j]++vs)) (setM (setM m i (.df false)) j (.lo .ready none (allT n T) ps asg bod)) r m2)
 (hok:∀v,r=.ok v->∃st pe ts' ps' asg' bod',m2 j=some (.lo st pe ts' ps' asg' bod')/\st≠.busy/\jumpPost Post T (setM m2 j (.lo .exhausted pe ts' ps' asg' bod')) (.coll i::ds) pe)
 (hpan:∀v,r=.pan v->Post (.pan v) T m2 (.coll i::ds)):CodeT P false n (.rangeFunc g ps asg bod) T m ds Post:=by
 intro ro M0 S0 w0 ρ a w hro hs hlt Q hQ
 have hro':ro=none:=by cases ro with
  |none=>rfl
  |some _=>cases hro
 subst hro'
 refine wpIn_wide.2 (wp_rangeFunc λfn=>?_)
 obtain⟨w1,hw1⟩:∃w1,w1=w.alloc (.deferred (some [])):=⟨_,rfl⟩
 have h1:SatAt M0 S0 w0 ⟨n,some ds⟩ T (setM m i (.df false)) (setH ρ i (.pointer (some ⟨w.heap.size,0,none⟩))) a w1:=by
  subst hw1
  exact hs.newres hlt (keeps_alloc w _) hi rfl (by simp[blk]) λ_ _ _=>⟨w.heap.size,rfl,heap_alloc_new w _⟩
 have hO1:Onto m (setM m i (.df false)) ρ (setH ρ i (.pointer (some ⟨w.heap.size,0,none⟩))):=Onto.new _ _ hi
 have hρ1:setH ρ i (.pointer (some ⟨w.heap.size,0,none⟩)) i=.pointer (some ⟨w.heap.size,0,none⟩):=by simp[setH]
 revert h1 hO1 hρ1
 generalize setH ρ i (.pointer (some ⟨w.heap.size,0,none⟩))=ρ1
 intro h1 hO1 hρ1
 have hj1:setM m i (.df false) j=none:=by simp[setM,Ne.symm hij,hj]
 obtain⟨w2,hw2⟩:∃w2,w2=w1.alloc (.loop {state:=.ready,pending:=none,fn:=fn,tmps:=a.tmps,params:=ps,assign:=asg,body:=bod,defers:=w.heap.size}):=⟨_,rfl⟩
 have hden:A.DenL w1 (Mut M0 (setM m i (.df false)) ρ1) (setM m i (.df false)) ρ1 (allT n T) a.tmps.toList:=allT_den h1.size h1.tmps
 have h2:SatAt M0 S0 w0 ⟨n,some ds⟩ T (setM (setM m i (.df false)) j (.lo .ready none (allT n T) ps asg bod)) (setH ρ1 j (.func (.yield w1.heap.size) #[] #[])) a w2:=by
  subst hw2
  refine h1.newres hlt (keeps_alloc w1 _) hj1 rfl (by simp[blk]) λhO hst hmu=>?_
  exact⟨w1.heap.size,fn,a.tmps,w.heap.size,rfl,heap_alloc_new w1 _,A.DenL_mono hst hmu hO _ _ hden⟩
 have hO2:Onto (setM m i (.df false)) (setM (setM m i (.df false)) j (.lo .ready none (allT n T) ps asg bod)) ρ1 (setH ρ1 j (.func (.yield w1.heap.size) #[] #[])):=Onto.new _ _ hj1
 have hρ2:setH ρ1 j (.func (.yield w1.heap.size) #[] #[]) j=.func (.yield w1.heap.size) #[] #[]:=by simp[setH]
 have hρ2i:setH ρ1 j (.func (.yield w1.heap.size) #[] #[]) i=.pointer (some ⟨w.heap.size,0,none⟩):=by simp[setH,hij,hρ1]
 revert h2 hO2 hρ2 hρ2i
 generalize setH ρ1 j (.func (.yield w1.heap.size) #[] #[])=ρ2
 intro h2 hO2 hρ2 hρ2i
 have h3:SatAt M0 S0 w0 ⟨n,some (.coll i::ds)⟩ T (setM (setM m i (.df false)) j (.lo .ready none (allT n T) ps asg bod)) ρ2 {a with defers:=[{target:=.collected w.heap.size,args:= #[]}]++a.defers} w2:=
  {keeps:=h2.keeps,size:=h2.size
   defers:=λds' e=>by
    simp only[Option.some.injEq]at e;subst e
    exact⟨w.heap.size,a.defers,rfl,⟨by simp[setM,hij],λ_=>hρ2i⟩,h2.defers ds rfl⟩
   tmps:=h2.tmps,res:=h2.res,own:=h2.own,apart:=h2.apart}
 have hO3:=hO1.trans hO2
 have hgv:=ev_den h2 g
 have hargs:∃ua va:Array Value,a.eval g=.func (.func gf) ua va/\A.DenL w2 (Mut M0 (setM (setM m i (.df false)) j (.lo .ready none (allT n T) ps asg bod)) ρ2) (setM (setM m i (.df false)) j (.lo .ready none (allT n T) ps asg bod)) ρ2 us ua.toList/\A.DenL w2 (Mut M0 (setM (setM m i (.df false)) j (.lo .ready none (allT n T) ps asg bod)) ρ2) (setM (setM m i (.df false)) j (.lo .ready none (allT n T) ps asg bod)) ρ2 vs va.toList:=by
  rcases hg with e|⟨cu,cv,e,rfl,rfl⟩
  ·rw[e]at hgv
   simp only[A.Den]at hgv
   obtain⟨ua,va,q1,q2,q3⟩:=hgv
   exact⟨ua,va,q1,q2,q3⟩
  ·rw[e]at hgv
   simp only[A.Den,C.Den]at hgv
   obtain⟨ua,va,q1,q2,q3⟩:=hgv
   exact⟨ua,va,q1,A.DenL_map_d.2 q2,A.DenL_map_d.2 q3⟩
 obtain⟨ua,va,he,hu,hv⟩:=hargs
 have hyd:A.DenL w2 (Mut M0 (setM (setM m i (.df false)) j (.lo .ready none (allT n T) ps asg bod)) ρ2) (setM (setM m i (.df false)) j (.lo .ready none (allT n T) ps asg bod)) ρ2 [.h j] [.func (.yield w1.heap.size) #[] #[]]:=by
  simp only[A.DenL,A.Den]
  exact⟨_,_,rfl,⟨by simp[setM],λ_=>hρ2.symm⟩,rfl⟩
 have harr:ua++ #[Value.func (.yield w1.heap.size) #[] #[]]++va=(ua.toList++([Value.func (.yield w1.heap.size) #[] #[]]++va.toList)).toArray:=by
  cases ua;cases va;simp
 refine⟨w1.heap.size,[{target:=.collected w.heap.size,args:= #[]}],w2,⟨.fn (.func gf) va,ua++ #[.func (.yield w1.heap.size) #[] #[]]⟩,w2,gf,ua++ #[.func (.yield w1.heap.size) #[] #[]]++va,w2,?_,?_,?_,?_⟩
 ·rw[run_enterLoop,hw2,hw1]
 ·have e4:(Array.map a.eval #[Operand.const (.func (.yield w1.heap.size) #[] #[])])= #[.func (.yield w1.heap.size) #[] #[]]:=by simp[Act.eval]
  simp only[resolve,he,Deferred.ofValue,e4,Sem.run_pure]
 ·simp only[invoke]
  rw[run_callFunc' hcall.1]
 rw[harr]
 refine(hcall.2 ⟨n,some (.coll i::ds)⟩ T M0 S0 w0 ρ2 _ w2 h3 hlt _ (A.DenL_append hu (A.DenL_append hyd hv))).mono ?_
 rintro e w3 ⟨ρ3,h4,hO4,hr⟩
 cases r with
 |pan v=>
  obtain⟨y,rfl,hy⟩:=hr
  exact .inr ⟨_,rfl,hQ (.pan v) _ T m2 _ ρ3 _ w3 (hpan v rfl) h4 (hO3.trans hO4) ⟨y,rfl,hy⟩⟩
 |ok v=>
  obtain⟨y,rfl,hy⟩:=hr
  obtain⟨st,pe,ts',ps',asg',bod',hj3,hst,hjump⟩:=hok v rfl
  obtain⟨l3,fn3,vs3,D3,e3,hw3,hden3,hset3⟩:=h4.loset hj3
  have hρ3:ρ3 j=ρ2 j:=((hO4 j (by simp[setM])).2 (by rw[hj3];simp)).2.1
  rw[hρ3,hρ2]at e3
  simp only[Value.func.injEq,Fn.yield.injEq,and_true]at e3
  subst e3
  obtain⟨h5,hO5⟩:=hset3 .exhausted pe
  refine .inl ⟨y,pe,w3.putObj w1.heap.size (.loop {state:=.exhausted,pending:=pe,fn:=fn3,tmps:=vs3,params:=ps',assign:=asg',body:=bod',defers:=D3}),rfl,?_,?_⟩
  ·unfold Instr.endLoop
   rw[Sem.run_bind,run_getLoop hw3]
   simp only[Result.andThen_ok]
   have hb:(st==.busy)=false:=by simpa using hst
   simp only[hb,Bool.false_eq_true,if_false]
   rw[Sem.run_bind,run_setLoop hw3]
   simp
  ·have hOf:=(hO3.trans hO4).trans hO5
   cases pe with
   |none=>exact hQ .nm _ T _ _ ρ3 _ _ hjump h5 hOf rfl
   |some c=>
    cases c with
    |ret=>exact wp_ret (hQ .ret _ T _ _ ρ3 _ _ hjump h5 hOf rfl)
    |exit id=>exact wp_exit (hQ (.ext id) _ T _ _ ρ3 _ _ hjump h5 hOf rfl)
    |_=>exact hjump.elim
end Go.Pv
namespace Go.Pv
open Go.RowKit
def vEq:Value->Value->Bool
 |.bool a,.bool b=>a==b
 |.int k a,.int k' b=>decide (k=k')&&decide (a=b)
 |.string a,.string b=> @decide (a=b) (sDec a b)
 |.pointer none,.pointer none=>true
 |.pointer (some ⟨b,o,none⟩),.pointer (some ⟨b',o',none⟩)=>Nat.beq b b'&&Nat.beq o o'
 |.map none,.map none=>true
 |.nilFunc,.nilFunc=>true
 |.nilIface,.nilIface=>true
 |_,_=>false
theorem vEq_eq{a b:Value}(h:vEq a b=true):a=b:=by
 unfold vEq at h
 split at h<;>first
  |(simp only[Bool.and_eq_true]at h;rw[Nat.eq_of_beq_eq_true h.1,Nat.eq_of_beq_eq_true h.2])
  |simp_all
mutual
def C.eqb:C->C->Bool
 |.v a,.v b=>vEq a b
 |.sl e l,.sl e' l'=>decide (e=e')&&C.eqbLL l l'
 |.nl e,.nl e'=>decide (e=e')
 |.ip l,.ip l'=>C.eqbL l l'
 |.im ks vs,.im ks' vs'=>decide (ks=ks')&&C.eqbL vs vs'
 |.fn f x1 y1,.fn f' x2 y2=>decide (f=f')&&(C.eqbL x1 x2&&C.eqbL y1 y2)
 |.agg l,.agg l'=>C.eqbL l l'
 |.ifc t c,.ifc t' c'=>decide (t=t')&&C.eqb c c'
 |_,_=>false
def C.eqbL:List C->List C->Bool
 |[],[]=>true
 |a::r,b::s=>C.eqb a b&&C.eqbL r s
 |_,_=>false
def C.eqbLL:List (List C)->List (List C)->Bool
 |[],[]=>true
 |a::r,b::s=>C.eqbL a b&&C.eqbLL r s
 |_,_=>false
end
mutual
theorem C.eqb_eq:∀(a b:C),C.eqb a b=true->a=b
 |.v a,b,h=>by cases b<;>simp only[C.eqb]at h<;>first|(rw[vEq_eq h])|cases h
 |.sl e l,b,h=>by
  cases b<;>simp only[C.eqb]at h<;>first
   |(rw[Bool.and_eq_true]at h;rw[of_decide_eq_true h.1,C.eqbLL_eq l _ h.2])
   |cases h
 |.nl e,b,h=>by cases b<;>simp only[C.eqb]at h<;>first|(rw[of_decide_eq_true h])|cases h
 |.ip l,b,h=>by cases b<;>simp only[C.eqb]at h<;>first|(rw[C.eqbL_eq l _ h])|cases h
 |.im ks vs,b,h=>by
  cases b<;>simp only[C.eqb]at h<;>first
   |(rw[Bool.and_eq_true]at h;rw[of_decide_eq_true h.1,C.eqbL_eq vs _ h.2])
   |cases h
 |.fn f x1 y1,b,h=>by
  cases b<;>simp only[C.eqb]at h<;>first
   |(rw[Bool.and_eq_true,Bool.and_eq_true]at h;rw[of_decide_eq_true h.1,C.eqbL_eq x1 _ h.2.1,C.eqbL_eq y1 _ h.2.2])
   |cases h
 |.agg l,b,h=>by cases b<;>simp only[C.eqb]at h<;>first|(rw[C.eqbL_eq l _ h])|cases h
 |.ifc t c,b,h=>by
  cases b<;>simp only[C.eqb]at h<;>first
   |(rw[Bool.and_eq_true]at h;rw[of_decide_eq_true h.1,C.eqb_eq c _ h.2])
   |cases h
theorem C.eqbL_eq:∀(a b:List C),C.eqbL a b=true->a=b
 |[],b,h=>by cases b<;>simp only[C.eqbL]at h<;>first|rfl|cases h
 |c::r,b,h=>by
  cases b with
  |nil=>simp[C.eqbL]at h
  |cons d s=>
   simp only[C.eqbL,Bool.and_eq_true]at h
   rw[C.eqb_eq c d h.1,C.eqbL_eq r s h.2]
theorem C.eqbLL_eq:∀(a b:List (List C)),C.eqbLL a b=true->a=b
 |[],b,h=>by cases b<;>simp only[C.eqbLL]at h<;>first|rfl|cases h
 |c::r,b,h=>by
  cases b with
  |nil=>simp[C.eqbLL]at h
  |cons d s=>
   simp only[C.eqbLL,Bool.and_eq_true]at h
   rw[C.eqbL_eq c d h.1,C.eqbLL_eq r s h.2]
end
mutual
def A.eqb:A->A->Bool
 |.d a,.d b=>C.eqb a b
 |.lp i o,.lp i' o'=>decide (i=i')&&decide (o=o')
 |.h i,.h i'=>decide (i=i')
 |.ep i e k o,.ep i' e' k' o'=>decide (i=i')&&(decide (e=e')&&(decide (k=k')&&decide (o=o')))
 |.sv i l n,.sv i' l' n'=>decide (i=i')&&(decide (l=l')&&decide (n=n'))
 |.fn f x1 y1,.fn f' x2 y2=>decide (f=f')&&(A.eqbL x1 x2&&A.eqbL y1 y2)
 |.agg l,.agg l'=>A.eqbL l l'
 |.tup l,.tup l'=>A.eqbL l l'
 |.ifc t c,.ifc t' c'=>decide (t=t')&&A.eqb c c'
 |.x,.x=>true
 |_,_=>false
def A.eqbL:List A->List A->Bool
 |[],[]=>true
 |a::r,b::s=>A.eqb a b&&A.eqbL r s
 |_,_=>false
end
mutual
theorem A.eqb_eq:∀(a b:A),A.eqb a b=true->a=b
 |.d a,b,hh=>by cases b<;>simp only[A.eqb]at hh<;>first|(rw[C.eqb_eq _ _ hh])|cases hh
 |.lp i o,b,hh=>by
  cases b<;>simp only[A.eqb]at hh<;>first
   |(rw[Bool.and_eq_true]at hh;rw[of_decide_eq_true hh.1,of_decide_eq_true hh.2])
   |cases hh
 |.h i,b,hh=>by cases b<;>simp only[A.eqb]at hh<;>first|(rw[of_decide_eq_true hh])|cases hh
 |.ep i e k o,b,hh=>by
  cases b<;>simp only[A.eqb]at hh<;>first
   |(simp only[Bool.and_eq_true]at hh;rw[of_decide_eq_true hh.1,of_decide_eq_true hh.2.1,of_decide_eq_true hh.2.2.1,of_decide_eq_true hh.2.2.2])
   |cases hh
 |.sv i l n,b,hh=>by
  cases b<;>simp only[A.eqb]at hh<;>first
   |(simp only[Bool.and_eq_true]at hh;rw[of_decide_eq_true hh.1,of_decide_eq_true hh.2.1,of_decide_eq_true hh.2.2])
   |cases hh
 |.fn f x1 y1,b,hh=>by
  cases b<;>simp only[A.eqb]at hh<;>first
   |(rw[Bool.and_eq_true,Bool.and_eq_true]at hh;rw[of_decide_eq_true hh.1,A.eqbL_eq x1 _ hh.2.1,A.eqbL_eq y1 _ hh.2.2])
   |cases hh
 |.agg l,b,hh=>by cases b<;>simp only[A.eqb]at hh<;>first|(rw[A.eqbL_eq l _ hh])|cases hh
 |.tup l,b,hh=>by cases b<;>simp only[A.eqb]at hh<;>first|(rw[A.eqbL_eq l _ hh])|cases hh
 |.ifc t c,b,hh=>by
  cases b<;>simp only[A.eqb]at hh<;>first
   |(rw[Bool.and_eq_true]at hh;rw[of_decide_eq_true hh.1,A.eqb_eq c _ hh.2])
   |cases hh
 |.x,b,hh=>by cases b<;>simp only[A.eqb]at hh<;>first|rfl|cases hh
theorem A.eqbL_eq:∀(a b:List A),A.eqbL a b=true->a=b
 |[],b,hh=>by cases b<;>simp only[A.eqbL]at hh<;>first|rfl|cases hh
 |c::r,b,hh=>by
  cases b with
  |nil=>simp[A.eqbL]at hh
  |cons d s=>
   simp only[A.eqbL,Bool.and_eq_true]at hh
   rw[A.eqb_eq c d hh.1,A.eqbL_eq r s hh.2]
end
def A.eqbLL:List (List A)->List (List A)->Bool
 |[],[]=>true
 |a::r,b::s=>A.eqbL a b&&A.eqbLL r s
 |_,_=>false
theorem A.eqbLL_eq:∀(a b:List (List A)),A.eqbLL a b=true->a=b
 |[],b,hh=>by cases b<;>simp only[A.eqbLL]at hh<;>first|rfl|cases hh
 |c::r,b,hh=>by
  cases b with
  |nil=>simp[A.eqbLL]at hh
  |cons d s=>
   simp only[A.eqbLL,Bool.and_eq_true]at hh
   rw[A.eqbL_eq c d hh.1,A.eqbLL_eq r s hh.2]
def kvEqb:List (Ky×A)->List (Ky×A)->Bool
 |[],[]=>true
 |a::r,b::s=>decide (a.1=b.1)&&(A.eqb a.2 b.2&&kvEqb r s)
 |_,_=>false
theorem kvEqb_eq:∀(a b:List (Ky×A)),kvEqb a b=true->a=b
 |[],b,h=>by cases b<;>simp only[kvEqb]at h<;>first|rfl|cases h
 |(k,x)::r,b,h=>by
  cases b with
  |nil=>simp[kvEqb]at h
  |cons d s=>
   obtain⟨k',x'⟩:=d
   simp only[kvEqb,Bool.and_eq_true]at h
   rw[of_decide_eq_true h.1,A.eqb_eq x x' h.2.1,kvEqb_eq r s h.2.2]
def R.eqb:R->R->Bool
 |.dead,.dead=>true
 |.cells f l,.cells f' l'=>(f==f')&&A.eqbL l l'
 |.osl f t e l,.osl f' t' e' l'=>(f==f')&&(decide (t=t')&&(decide (e=e')&&A.eqbLL l l'))
 |.mp f kv st,.mp f' kv' st'=>(f==f')&&(kvEqb kv kv'&&decide (st=st'))
 |.sta,.sta=>true
 |.cu s e l,.cu s' e' l'=>A.eqb s s'&&(decide (e=e')&&A.eqbLL l l')
 |_,_=>false
theorem R.eqb_eq:∀(a b:R),R.eqb a b=true->a=b:=by
 intro a b h
 cases a<;>cases b<;>simp only[R.eqb]at h<;>(try cases h)<;>(try rfl)
 ·simp only[Bool.and_eq_true,beq_iff_eq]at h
  rw[h.1,A.eqbL_eq _ _ h.2]
 ·simp only[Bool.and_eq_true,beq_iff_eq]at h
  rw[h.1,of_decide_eq_true h.2.1,of_decide_eq_true h.2.2.1,A.eqbLL_eq _ _ h.2.2.2]
 ·simp only[Bool.and_eq_true,beq_iff_eq]at h
  rw[h.1,kvEqb_eq _ _ h.2.1,of_decide_eq_true h.2.2]
 ·simp only[Bool.and_eq_true]at h
  rw[A.eqb_eq _ _ h.1,of_decide_eq_true h.2.1,A.eqbLL_eq _ _ h.2.2]
end Go.Pv
namespace Go.Pv
open Go.RowKit
def isByteT(P:Program)(t:TypeId):Bool:=match P.underlying t with
 |some (.int .u8)=>true
 |_=>false
def bytesC(s:ByteArray):List (List C):=s.data.toList.map λb=>[.v (.int .u8 b.toNat)]
def bsI(ns:List Int):ByteArray:=⟨(ns.map λn=>UInt8.ofNat n.toNat).toArray⟩
theorem bsI_eq(ns:List Int):bsI ns=ns.foldl (λr n=>r.push (UInt8.ofNat n.toNat)) ByteArray.empty:=by
 have key:∀(ns:List Int)(acc:List UInt8),(⟨(acc++ns.map λn=>UInt8.ofNat n.toNat).toArray⟩:ByteArray)=ns.foldl (λr n=>r.push (UInt8.ofNat n.toNat)) ⟨acc.toArray⟩:=by
  intro ns
  induction ns with
  |nil=>intro acc;simp
  |cons n ns ih=>
   intro acc
   rw[List.foldl_cons,List.map_cons]
   have e:(⟨acc.toArray⟩:ByteArray).push (UInt8.ofNat n.toNat)=⟨(acc++[UInt8.ofNat n.toNat]).toArray⟩:=by
    rw[ByteArray.ext_iff];simp[ByteArray.push]
   rw[e,<-ih]
   simp
 exact key ns []
def bytesOf:List (List A)->Option (List Int)
 |[]=>some []
 |[.d (.v (.int .u8 n))]::r=>match bytesOf r with
  |some l=>some (n::l)
  |none=>none
 |_::_=>none
def effBytesStr(P:Program)(m:Mem)(s t:TypeId)(x:A):Option E:=match srcRows m x,elemOf' P s with
 |some rows,some e=>match bytesOf rows with
  |some ns=>some (isByteT P e&&isStrT P t,.d (.v (.string (bsI ns))),[])
  |none=>none
 |_,_=>none
def effConvS(P:Program)(m:Mem)(s t:TypeId)(x:A):Option E:=match x with
 |.h i=>match m i,elemOf' P s with
  |some (.osl false te es (r::l)),some e=>some (decide (s=t)&&isByteT P e,.h i,[(i,.osl false te es (r::l))])
  |_,_=>none
 |_=>none
def effMore(P:Program)(m:Mem)(T:Nat->A)(d:Nat)(o:Oper):Option E:=
 match o.op with
 |.convert s t x=>match elemOf' P t with
  |some e=>match evT T x with
   |.d (.v (.string b))=>some (isByteT P e&&(match P.underlying s with|some _=>true|none=>false),.d (.sl 1 (bytesC b)),[])
   |_=>effConvS P m s t (evT T x)
  |none=>effBytesStr P m s t (evT T x)
 |_=>none
def effPre(P:Program)(m:Mem)(T:Nat->A)(o:Oper):Option E:=
 match o.op with
 |.call c=>match c.callee,c.args.toList,c.argTypes.toList with
  |.builtin .append,[x,y],[t,t']=>match evT T x,srcRows m (evT T y),elemOf' P t with
   |.d (.nl _),some [],some e=>match zeroC P e with
    |some z=>some (decide (t=t'/\z.length=P.cellsOf e/\0<P.cellsOf e)&&srcEs m (P.cellsOf e) (evT T y),.d (.nl (P.cellsOf e)),[])
    |none=>none
   |_,_,_=>none
  |_,_,_=>none
 |_=>none
def effNew(P:Program)(m:Mem)(T:Nat->A)(d:Nat)(o:Oper):Option E:=
 match effPre P m T o with
 |some e=>some e
 |none=>match effAll P m T d o with
  |some e=>some e
  |none=>effMore P m T d o
def purE(P:Program)(T:Nat->A)(o:Oper):Option A:=
 match o.op with
 |.move x=>some (mvA P o.type (evT T x))
 |.assign x=>some (mvA P o.type (evT T x))
 |.pick c a b=>match evT T c with
  |.d (.v (.bool t))=>some (cond t (evT T a) (evT T b))
  |_=>none
 |.binOp op t x y _=>match evT T x,evT T y with
  |.d (.v (.int k a)),.d (.v (.int k' b))=>match effInt op k k' a b with
   |some (true,c)=>some (.d c)
   |_=>none
  |_,_=>none
 |.unOp op _ x=>match effUn op (evT T x)with
  |some (true,v,_)=>some v
  |_=>none
 |.extract x i=>match evT T x with
  |.tup l=>cond (Nat.blt i l.length) (some (l.getD i .x)) none
  |_=>none
 |.field t x f=>match effField P (λ_=>none) t (evT T x) f with
  |some (true,v,_)=>some v
  |_=>none
 |_=>none
end Go.Pv
