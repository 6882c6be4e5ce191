import Derived.Test.YtgnnkajjlhmgkaaGreatDoorF4
/- A program logic over the model, and an evaluator of closed runs that is sound for it. -/
set_option linter.all false
set_option maxRecDepth 100000
set_option maxHeartbeats 8000000
namespace Go.Pv
open Go.RowKit
def lkp(i:Nat):List (Nat×Nat)->Option Nat
 |[]=>none
 |(j,k)::l=>cond (Nat.beq i j) (some k) (lkp i l)
def lkR(i:Nat):List (Nat×R)->Option R
 |[]=>none
 |(j,k)::l=>cond (Nat.beq i j) (some k) (lkR i l)
def pairF(m0:List (Nat×R))(t:Tr R):Nat->List (Nat×Nat)->List (Nat×Nat)->List (Nat×Nat)
 |0,_,acc=>acc
 |_+1,[],acc=>acc
 |n+1,(i,j)::r,acc=>match lkp i acc with
  |some _=>pairF m0 t n r acc
  |none=>match lkR i m0,t.get j with
   |some a,some b=>pairF m0 t n (a.hs.zip b.hs++r) ((i,j)::acc)
   |_,_=>pairF m0 t n r ((i,j)::acc)
def gmP(ps:List (Nat×Nat))(d i:Nat):Nat:=match lkp i ps with
 |some j=>j
 |none=>i+d
def memN(i:Nat):List Nat->Bool
 |[]=>false
 |j::l=>cond (Nat.beq i j) true (memN i l)
def ndN:List Nat->Bool
 |[]=>true
 |i::l=> !memN i l&&ndN l
def newP(m0:List (Nat×R))(ps:List (Nat×Nat))(d:Nat):List (Nat×R)->List (Nat×Nat)
 |[]=>ps
 |(i,_)::u=>cond (keyB i m0) (newP m0 ps d u) ((i,i+d)::newP m0 ps d u)
def renU(g:Nat->Nat)(u:List (Nat×R)):List (Nat×R):=u.map λp=>(g p.1,p.2.ren g)
def frP(t:Tr R)(m0:List (Nat×R))(d:Nat):List (Nat×R)->Bool
 |[]=>true
 |(i,_)::u=>cond (keyB i m0) true (freeB t.get (i+d))&&frP t m0 d u
def okR(as0:List A)(m0:List (Nat×R))(u0:List (Nat×R))(ps:List (Nat×Nat))(d:Nat)(xs:List A)(t:Tr R):Bool:=
 A.eqbL xs (A.renL (gmP ps d) as0)&&((m0.all λp=>(lkp p.1 ps).isSome&&oEqb (t.get (gmP ps d p.1)) (some (p.2.ren (gmP ps d))))&&(frP t m0 d u0&&(ndN ((newP m0 ps d u0).map (·.1))&&ndN ((newP m0 ps d u0).map (·.2)))))
def hitR(f0:Nat)(as0:List A)(m0:List (Nat×R))(r0:Rt)(u0:List (Nat×R))(b0 n0:Nat)(g:Hd):Hd:=λc xs t nx=>match c with
 |.fn f=>cond (Nat.beq f f0) (cond (Nat.ble b0 nx&&okR as0 m0 u0 (pairF m0 t 4000 ((A.hsL as0).zip (A.hsL xs)) []) (nx -b0) xs t)
   (some ([(r0.ren (gmP (pairF m0 t 4000 ((A.hsL as0).zip (A.hsL xs)) []) (nx -b0)),renU (gmP (pairF m0 t 4000 ((A.hsL as0).zip (A.hsL xs)) []) (nx -b0)) u0)],n0+(nx -b0))) (g c xs t nx)) (g c xs t nx)
 |_=>g c xs t nx
def cR(as0:List A)(m0:List (Nat×R))(r0:Rt)(u0:List (Nat×R)):Bool:=
 clB as0 m0&&((m0.all λp=>p.2.noIt)&&(r0.hs.all (λi=>keyB i m0||keyB i u0)&&u0.all λp=>p.2.noIt&&p.2.hs.all λi=>keyB i m0||keyB i u0))
theorem lkp_mem{i j:Nat}:∀{l:List (Nat×Nat)},lkp i l=some j->(i,j)∈l
 |[],h=>by cases h
 |(a,b)::l,h=>by
  simp only[lkp]at h
  cases hb:Nat.beq i a with
  |true=>rw[hb]at h;simp only[cond_true,Option.some.injEq]at h;rw[Nat.eq_of_beq_eq_true hb,h];simp
  |false=>rw[hb]at h;exact List.mem_cons_of_mem _ (lkp_mem h)
theorem memN_of{i:Nat}:∀{l:List Nat},i∈l->memN i l=true
 |[],h=>by simp at h
 |j::l,h=>by
  simp only[memN]
  cases hb:Nat.beq i j with
  |true=>rfl
  |false=>
   simp only[List.mem_cons]at h
   rcases h with rfl|h
   ·simp at hb
   ·exact memN_of h
theorem ndN_nodup:∀{l:List Nat},ndN l=true->l.Nodup
 |[],_=>by simp
 |i::l,h=>by
  simp only[ndN,Bool.and_eq_true,Bool.not_eq_true']at h
  simp only[List.nodup_cons]
  exact⟨λe=>(by rw[memN_of e]at h;cases h.1),ndN_nodup h.2⟩
theorem newP_ps{m0:List (Nat×R)}{ps:List (Nat×Nat)}{d:Nat}:∀{u:List (Nat×R)},∀p∈ps,p∈newP m0 ps d u
 |[],p,hp=>hp
 |(i,_)::u,p,hp=>by
  simp only[newP]
  cases keyB i m0 with
  |true=>exact newP_ps (u:=u) p hp
  |false=>exact List.mem_cons_of_mem _ (newP_ps (u:=u) p hp)
theorem newP_u{m0:List (Nat×R)}{ps:List (Nat×Nat)}{d i:Nat}:∀{u:List (Nat×R)},keyB i u=true->keyB i m0=false->(i,i+d)∈newP m0 ps d u
 |[],h,_=>by cases h
 |(j,_)::u,h,h2=>by
  simp only[keyB]at h
  simp only[newP]
  cases hb:Nat.beq i j with
  |true=>
   have:=Nat.eq_of_beq_eq_true hb;subst this
   rw[h2];simp
  |false=>
   rw[hb]at h
   cases keyB j m0 with
   |true=>exact newP_u h h2
   |false=>exact List.mem_cons_of_mem _ (newP_u h h2)
theorem frP_mem{t:Tr R}{m0:List (Nat×R)}{d:Nat}:∀{u:List (Nat×R)},frP t m0 d u=true->∀p∈u,keyB p.1 m0=true\/t.get (p.1+d)=none
 |[],_,p,hp=>by simp at hp
 |(i,r)::u,h,p,hp=>by
  simp only[frP,Bool.and_eq_true]at h
  simp only[List.mem_cons]at hp
  rcases hp with rfl|hp
  ·cases hk:keyB i m0 with
   |true=>exact .inl rfl
   |false=>rw[hk]at h;exact .inr (freeB_eq h.1)
  ·exact frP_mem h.2 p hp
theorem renU_congr{f g:Nat->Nat}{u:List (Nat×R)}(h1:∀p∈u,f p.1=g p.1)(hn:∀p∈u,p.2.noIt=true)(h2:∀p∈u,∀j∈p.2.hs,f j=g j):renU f u=renP g u:=by
 unfold renU renP
 refine List.map_congr_left λp hp=>?_
 rw[h1 p hp,R.ren_congr p.2 (hn p hp) (h2 p hp)]
theorem renP_key{g:Nat->Nat}{i:Nat}{m:List (Nat×R)}(h:keyB i m=true):applyU (λ_=>none) (renP g m) (g i)≠none:=by
 obtain⟨p,hp,rfl⟩:=keyB_mem h
 exact applyU_key (p:=(g p.1,p.2.ren g)) (List.mem_map.2 ⟨p,hp,rfl⟩)
theorem hitR_ok{P:Program}{f0:Nat}{as0:List A}{m0:List (Nat×R)}{r0:Rt}{u0:List (Nat×R)}{b0 n0:Nat}{g g0:Hd}(hg:HdOk P g)(h0:HdOk P g0)(hc:cR as0 m0 r0 u0=true)(he:g0 (.fn f0) as0 (trU m0) b0=some ([(r0,u0)],n0)):HdOk P (hitR f0 as0 m0 r0 u0 b0 n0 g):=by
 refine⟨λf xs t nx outs nx' h=>?_,λi xs t nx outs nx' h=>hg.yl _ _ _ _ _ _ h,λf xs t nx outs nx' h=>hg.ex _ _ _ _ _ _ h⟩
 generalize hps:pairF m0 t 4000 ((A.hsL as0).zip (A.hsL xs)) []=ps at*
 replace h:cond (Nat.beq f f0) (cond (Nat.ble b0 nx&&okR as0 m0 u0 (pairF m0 t 4000 ((A.hsL as0).zip (A.hsL xs)) []) (nx -b0) xs t)
  (some ([(r0.ren (gmP (pairF m0 t 4000 ((A.hsL as0).zip (A.hsL xs)) []) (nx -b0)),renU (gmP (pairF m0 t 4000 ((A.hsL as0).zip (A.hsL xs)) []) (nx -b0)) u0)],n0+(nx -b0))) (g (.fn f) xs t nx)) (g (.fn f) xs t nx)=some (outs,nx'):=h
 rw[hps]at h
 cases hf:Nat.beq f f0 with
 |false=>rw[hf]at h;exact hg.fn _ _ _ _ _ _ h
 |true=>
  rw[hf]at h
  simp only[cond_true]at h
  have hf:=Nat.eq_of_beq_eq_true hf;subst hf
  generalize nx -b0=d at*
  cases hq:Nat.ble b0 nx&&okR as0 m0 u0 ps d xs t with
  |false=>rw[hq]at h;exact hg.fn _ _ _ _ _ _ h
  |true=>
   rw[hq]at h
   simp only[cond_true,Option.some.injEq,Prod.mk.injEq]at h
   obtain⟨rfl,rfl⟩:=h
   simp only[Bool.and_eq_true]at hq
   have hq:=hq.2
   unfold okR at hq
   simp only[Bool.and_eq_true,List.all_eq_true]at hq
   obtain⟨hx,hm,hfr,hn1,hn2⟩:=hq
   obtain⟨r,u,e,hcall⟩:=h0.fn _ _ _ _ _ _ he
   simp only[List.cons.injEq,Prod.mk.injEq,and_true]at e
   obtain⟨rfl,rfl⟩:=e
   refine⟨_,_,rfl,?_⟩
   rw[trU_get]at hcall
   unfold cR clB at hc
   simp only[Bool.and_eq_true,List.all_eq_true,Bool.or_eq_true]at hc
   obtain⟨⟨hc1,hc2⟩,hmn,hr0,hu0⟩:=hc
   obtain⟨G,Gi,g1,g2,g3,_⟩:=exists_perm (newP m0 ps d u0) (ndN_nodup hn1) (ndN_nodup hn2)
   have hgm:∀i,keyB i m0=true->gmP ps d i=G i:=by
    intro i hi
    obtain⟨p,hp,rfl⟩:=keyB_mem hi
    have h1:=(hm p hp).1
    cases hl:lkp p.1 ps with
    |none=>rw[hl]at h1;cases h1
    |some j=>
     have:=g3 _ (newP_ps (m0:=m0) (d:=d) (u:=u0) _ (lkp_mem hl))
     unfold gmP
     rw[hl]
     exact this.symm
   have hgu:∀i,keyB i m0=true\/keyB i u0=true->gmP ps d i=G i:=by
    intro i hi
    cases hk:keyB i m0 with
    |true=>exact hgm i hk
    |false=>
     rcases hi with hi|hi
     ·rw[hk]at hi;cases hi
     ·have h3:=g3 _ (newP_u (ps:=ps) (d:=d) hi hk)
      unfold gmP
      cases hl:lkp i ps with
      |none=>exact h3.symm
      |some j=>
       have:=g3 _ (newP_ps (m0:=m0) (d:=d) (u:=u0) _ (lkp_mem hl))
       exact this.symm
   have k:=CallT.ren hcall g1 g2
   have e0:applyU (λ_=>none) m0=memO (m0.reverse++[]):=by rw[<-memO_nil,applyU_memO]
   have e1:renM G Gi (applyU (λ_=>none) m0)=applyU (λ_=>none) (renP G m0):=by
    rw[<-memO_nil,applyU_ren g1 g2]
    rfl
   have e2:renM G Gi (applyU (applyU (λ_=>none) m0) u0)=applyU (applyU (λ_=>none) (renP G m0)) (renP G u0):=by
    rw[e0,applyU_ren g1 g2,<-renM_memO g1 g2,<-e0,e1]
   rw[e1,e2]at k
   have ex:A.renL G as0=xs:=by
    rw[A.eqbL_eq _ _ hx]
    exact A.renL_congr as0 λi hi=>(hgm i (hc1 i hi)).symm
   have er:r0.ren G=r0.ren (gmP ps d):=Rt.ren_congr r0 λi hi=>(hgu i (hr0 i hi)).symm
   have eu:renU (gmP ps d) u0=renP G u0:=renU_congr (λp hp=>hgu _ (.inr (keyB_of ⟨p,hp,rfl⟩))) (λp hp=>(hu0 p hp).1) (λp hp j hj=>hgu j ((hu0 p hp).2 j hj))
   rw[ex,er,<-eu]at k
   have key:∀i r,applyU (λ_=>none) (renP G m0) i=some r->∃p∈m0,i=G p.1/\r=p.2.ren G:=by
    intro i r hi
    rcases applyU_cases' hi with e|⟨e,_⟩
    ·obtain⟨p,hp,e⟩:=List.mem_map.1 e
     simp only[Prod.mk.injEq]at e
     exact⟨p,hp,e.1.symm,e.2.symm⟩
    ·cases e
   refine CallT.frame k (λi hi=>?_) (λi r hi=>?_) (λi r hi j hj=>?_) (λp hp hn=>?_)
   ·rw[<-ex,A.hsL_ren]at hi
    obtain⟨j,hj,rfl⟩:=List.mem_map.1 hi
    exact renP_key (hc1 j hj)
   ·obtain⟨p,hp,rfl,rfl⟩:=key i r hi
    have h2:=oEqb_eq (hm p hp).2
    have hk:keyB p.1 m0=true:=keyB_of ⟨p,hp,rfl⟩
    rw[hgm _ hk]at h2
    rw[h2,R.ren_congr p.2 (hmn p hp) (λj hj=>hgm j (hc2 p hp j hj))]
   ·obtain⟨p,hp,rfl,rfl⟩:=key i r hi
    rw[R.hs_ren]at hj
    obtain⟨l,hl,rfl⟩:=List.mem_map.1 hj
    exact renP_key (hc2 p hp l hl)
   ·rw[eu]at hp
    obtain⟨q,hq,rfl⟩:=List.mem_map.1 hp
    rcases frP_mem hfr q hq with e|e
    ·exact absurd hn (renP_key e)
    ·cases hk:keyB q.1 m0 with
     |true=>exact absurd hn (renP_key hk)
     |false=>
      have h3:=g3 _ (newP_u (ps:=ps) (d:=d) (keyB_of ⟨q,hq,rfl⟩) hk)
      show t.get (G q.1)=none
      rw[show G q.1=q.1+d from h3]
      exact e
end Go.Pv
