import Derived.Test.YthcppjbcleblbaaGreatF4
/- A program logic over the model, and an evaluator of closed runs that is sound for it. -/
set_option linter.all false
set_option maxRecDepth 100000
set_option maxHeartbeats 8000000
namespace Go.Pv
open Go.RowKit
def cutK(ex:Ex)(id:Nat)(X Y Z:Prop):Prop:=match ex with
 |.nm=>X
 |.ext i=>bK (Nat.beq i id) Y Z
 |.ret=>Z
 |.pan _=>Z
theorem wj{id:Nat}{X Y Z:Prop}(h:X):cutK .nm id X Y Z:=h
theorem wk{id:Nat}{X Y Z:Prop}(h:Y):cutK (.ext id) id X Y Z:=by
 have e:Nat.beq id id=true:=by simp
 simp only[cutK,e];exact h
theorem wl{id:Nat}{X Y Z:Prop}(h:Z):cutK .ret id X Y Z:=h
theorem loop_cut{P:Program}(hm:P.follows .mixedOrders=true){mb:List (Nat×R)}{n:Nat}{c:Code}{l:List (Nat×A)}{ml:List (Nat×R)}{K:KT}{α β:Type}(Inv:α->Prop)(I:α->List (Nat×A))(J:α->List (Nat×R))(μ:α->Nat)(nx:Nat)(a0:α)(id:Nat)(Exi:β->Prop)(I':β->List (Nat×A))(J':β->List (Nat×R))(nx2:Nat)(hi:Inv a0)(h0:Moves mb n l ml (I a0) (J a0))
 (step:∀a,Inv a->vc P mb n c (I a) (J a) nx (λex l' ml' nx'=>cutK ex id (∃a',μ a'<μ a/\Inv a'/\Moves mb n l' ml' (I a') (J a')) (∃b,Exi b/\Moves mb n l' ml' (I' b) (J' b)) (K ex l' ml' nx')))
 (cont:∀b,Exi b->K (.ext id) (I' b) (J' b) nx2):LoopK P mb n c l ml K:=by
 refine⟨λro hro b ρb ρ a w hs hob hlt Q hQ=>?_⟩
 obtain⟨ρ1,hs1,ho1⟩:=h0 b ρb ρ a w hs hob
 refine wpIn_loop_ghost (λj a' w'=>∃x ρ' b',μ x=j/\Inv x/\b.Ext b'/\(noRF c=true->b'=b)/\(∀x,b'.M x->x<b'.w.heap.size)/\SatB b' n (lT (I x)) (memO (J x)) ρ' a' w'/\Onto (memO mb) (memO (J x)) ρb ρ') (μ a0) ⟨a0,ρ1,b,rfl,hi,.refl b,λ_=>rfl,hlt,hs1,ho1⟩ ?_
 rintro j a' w' ⟨x,ρ',b1,rfl,hix,hE1,hn1,hlt1,hs',ho'⟩
 refine vc_ok hm c _ _ nx _ (step x hix) ro hro b1 ρb ρ' a' w' hs' ho' hlt1 _ ?_
 rintro ex e T' m' b2 ρ2 a2 w2 ⟨l',ml',nx',rfl,rfl,h⟩ hE2 hn2 hlt2 hs2 ho2 hd
 cases hx:ex.isNm with
 |true=>
  obtain⟨rfl,rfl⟩:=(ex_nm hd).1 hx
  obtain⟨x',q1,q2,q3⟩:=h
  obtain⟨ρ3,hs3,ho3⟩:=q3 b2 ρb ρ2 a2 w2 hs2 ho2
  exact⟨μ x',q1,x',ρ3,b2,rfl,q2,hE1.trans hE2,λq=>(hn2 q).trans (hn1 q),hlt2,hs3,ho3⟩
 |false=>
  have hne:=(ex_nm hd).2 hx
  have out:PK K ex (lT l') (memO ml')->Exit.then (λa' w'=>∃i,i<μ x/\∃x ρ' b',μ x=i/\Inv x/\b.Ext b'/\(noRF c=true->b'=b)/\(∀x,b'.M x->x<b'.w.heap.size)/\SatB b' n (lT (I x)) (memO (J x)) ρ' a' w'/\Onto (memO mb) (memO (J x)) ρb ρ') Q e a2 w2:=λhk=>by
   have:=hQ ex e _ _ b2 ρ2 a2 w2 hk (hE1.trans hE2) (λq=>(hn2 q).trans (hn1 q)) hlt2 hs2 ho2 hd
   cases e<;>first|exact this|exact absurd rfl hne
  cases ex with
  |nm=>cases hx
  |ret=>exact out ⟨l',ml',nx',rfl,rfl,h⟩
  |pan v=>exact out ⟨l',ml',nx',rfl,rfl,h⟩
  |ext i=>
   simp only[cutK]at h
   cases hb:Nat.beq i id with
   |false=>rw[hb]at h;exact out ⟨l',ml',nx',rfl,rfl,h⟩
   |true=>
    rw[hb]at h
    have:=Nat.eq_of_beq_eq_true hb
    subst this
    obtain⟨y,q2,q3⟩:=h
    obtain⟨ρ3,hs3,ho3⟩:=q3 b2 ρb ρ2 a2 w2 hs2 ho2
    have hd':(Ex.ext i).Den w2 (Mut b2.M (memO (J' y)) ρ3) (memO (J' y)) ρ3 e:=hd
    have:=hQ (.ext i) e _ _ b2 ρ3 a2 w2 ⟨_,_,nx2,rfl,rfl,cont y q2⟩ (hE1.trans hE2) (λq=>(hn2 q).trans (hn1 q)) hlt2 hs3 ho3 hd'
    cases e<;>first|exact this|exact absurd rfl hne
end Go.Pv
namespace Go.Pv
open Go.RowKit
end Go.Pv
namespace Go.Pv
theorem em{mb u ml:List (Nat×R)}{r v:A}(h1:v=r:=by exact rfl)(h2:SubS ml [] (u.reverse++mb):=by repeat'(first|exact True.intro|exact Or.inl rfl|exact Or.inr rfl|refine And.intro ?_ ?_)):EndM mb r u v ml:=endM_of h1 h2
end Go.Pv
namespace Go.Pv
end Go.Pv
namespace Go.Pv
open Go.RowKit
mutual
def C.nr:C->Bool
 |.v _=>true
 |.nl _=>true
 |.agg l=>C.nrL l
 |.ifc _ c=>c.nr
 |_=>false
def C.nrL:List C->Bool
 |[]=>true
 |c::r=>c.nr&&C.nrL r
end
mutual
def A.nr:A->Bool
 |.d c=>c.nr
 |.agg l=>A.nrL l
 |.tup l=>A.nrL l
 |.ifc _ a=>a.nr
 |.x=>true
 |_=>false
def A.nrL:List A->Bool
 |[]=>true
 |a::r=>a.nr&&A.nrL r
end
section
variable{w w':World}{M M':Nat->Prop}{m m':Mem}{ρ ρ':Nat->Value}
mutual
theorem C.nr_den:∀(c:C)(y:Value),c.nr=true->c.Den w M y->c.Den w' M' y
 |.v x,y,_,hd=>by simpa only[C.Den]using hd
 |.nl _,y,_,hd=>by simpa only[C.Den]using hd
 |.agg l,y,h,hd=>by
  simp only[C.nr]at h
  simp only[C.Den]at hd⊢
  obtain⟨vs,e,h0,h1⟩:=hd
  exact⟨vs,e,h0,C.nrL_den l _ h h1⟩
 |.ifc t c,y,h,hd=>by
  simp only[C.nr]at h
  simp only[C.Den]at hd⊢
  obtain⟨v,e,h1⟩:=hd
  exact⟨v,e,C.nr_den c _ h h1⟩
 |.sl _ _,_,q0,_=>by simp[C.nr]at q0
 |.ip _,_,q0,_=>by simp[C.nr]at q0
 |.im _ _,_,q0,_=>by simp[C.nr]at q0
 |.fn _ _ _,_,q0,_=>by simp[C.nr]at q0
theorem C.nrL_den:∀(l:List C)(ys:List Value),C.nrL l=true->C.DenL w M l ys->C.DenL w' M' l ys
 |[],ys,_,hd=>by simpa only[C.DenL]using hd
 |c::r,ys,h,hd=>by
  simp only[C.nrL,Bool.and_eq_true]at h
  simp only[C.DenL]at hd⊢
  obtain⟨y,yr,e,h1,h2⟩:=hd
  exact⟨y,yr,e,C.nr_den c _ h.1 h1,C.nrL_den r _ h.2 h2⟩
end
mutual
theorem A.nr_den:∀(a:A)(y:Value),a.nr=true->a.Den w M m ρ y->a.Den w' M' m' ρ' y
 |.d c,y,hz,hd=>by
  simp only[A.nr]at hz
  simp only[A.Den]at hd⊢
  exact C.nr_den c _ hz hd
 |.agg l,y,hz,hd=>by
  simp only[A.nr]at hz
  simp only[A.Den]at hd⊢
  obtain⟨vs,e,h0,h1⟩:=hd
  exact⟨vs,e,h0,A.nrL_den l _ hz h1⟩
 |.tup l,y,hz,hd=>by
  simp only[A.nr]at hz
  simp only[A.Den]at hd⊢
  obtain⟨vs,e,h1⟩:=hd
  exact⟨vs,e,A.nrL_den l _ hz h1⟩
 |.ifc t a,y,hz,hd=>by
  simp only[A.nr]at hz
  simp only[A.Den]at hd⊢
  obtain⟨v,e,h1⟩:=hd
  exact⟨v,e,A.nr_den a _ hz h1⟩
 |.x,y,_,_=>by simp only[A.Den]
 |.lp _ _,_,q0,_=>by simp[A.nr]at q0
 |.h _,_,q0,_=>by simp[A.nr]at q0
 |.ep _ _ _ _,_,q0,_=>by simp[A.nr]at q0
 |.sv _ _ _,_,q0,_=>by simp[A.nr]at q0
 |.fn _ _ _,_,q0,_=>by simp[A.nr]at q0
theorem A.nrL_den:∀(l:List A)(ys:List Value),A.nrL l=true->A.DenL w M m ρ l ys->A.DenL w' M' m' ρ' l ys
 |[],ys,_,hd=>by simpa only[A.DenL]using hd
 |c::r,ys,hz,hd=>by
  simp only[A.nrL,Bool.and_eq_true]at hz
  simp only[A.DenL]at hd⊢
  obtain⟨y,yr,e,h1,h2⟩:=hd
  exact⟨y,yr,e,A.nr_den c _ hz.1 h1,A.nrL_den r _ hz.2 h2⟩
end
end
theorem CallT.viewG{P:Program}{f:FuncId}{as:List A}{cs:List C}{m:Mem}{v:A}(h:∀m,CallT P f (cs.map A.d) m (.ok v) m)(hv:v.nr=true)(hr:RdL m as cs):CallT P f as m (.ok v) m:=by
 refine⟨(h m).1,?_⟩
 intro N T M0 S0 w0 ρ a w hs hlt vs hvs
 have hM:Mut M0 (λ_=>none) ρ=M0:=by
  funext b
  refine propext ⟨?_,.inl⟩
  rintro(e|⟨i,r,hi,_⟩)
  ·exact e
  ·cases hi
 have h0:SatAt M0 (λ_=>False) w ⟨N.n,none⟩ (λ_=>.x) (λ_=>none) ρ a w:=
  {keeps:=Keeps.refl _ _,size:=hs.size,defers:=λds e=>by cases e
   tmps:=λn=>by simp only[A.Den]
   res:=λi r hi=>by cases hi
   own:=λi r b hi=>by cases hi
   apart:=λi j r s b hi=>by cases hi}
 have hlt1:∀b,M0 b->b<w.heap.size:=λb hb=>Nat.lt_of_lt_of_le (hlt b hb) hs.keeps.size
 refine((h λ_=>none).2 ⟨N.n,none⟩ (λ_=>.x) M0 (λ_=>False) w ρ a w h0 hlt1 vs (by rw[hM];exact denL_data (rdL_den hs hr hvs))).mono ?_
 rintro e w' ⟨ρ',h1,hO,y,rfl,hy⟩
 have hk:=h1.keeps
 have hst:Stays (Mut M0 m ρ) w w':=hk.stays λb _ e=>e.elim
 have hid:∀b,Mut M0 m ρ b->b<w.heap.size->Mut M0 m ρ b:=λb hb _=>hb
 refine⟨ρ,?_,Onto.refl m ρ,y,rfl,A.nr_den _ _ hv hy⟩
 exact{keeps:=hs.keeps.trans hk λb _ e=>e.elim,size:=h1.size
       defers:=λds e=>DefsDen_mono hst hid (Onto.refl m ρ) _ _ (hs.defers ds e)
       tmps:=λn=>A.Den_mono hst hid (Onto.refl m ρ) _ _ (hs.tmps n)
       res:=λi r hi=>by
        by_cases hd:r=.dead
        · subst hd;trivial
        · exact R.Ok_mono hst hid (Onto.refl m ρ) (λb hb hlt'=>hk.block b hlt' (λe=>e)) (hs.res i r hi)
       own:=λi r b hi hl hb=>let⟨x,y,z⟩:=hs.own i r b hi hl hb;⟨x,y,Nat.lt_of_lt_of_le z hk.size⟩
       apart:=hs.apart}
def optM{α β:Type}(f:α->Option β):List α->Option (List β)
 |[]=>some []
 |x::r=>match f x,optM f r with
  |some y,some l=>some (y::l)
  |_,_=>none
def rdA(t:Tr R):Nat->A->Option C
 |0,_=>none
 |n+1,a=>match a with
  |.d c=>some c
  |.h i=>match t.get i with
   |some (.osl _ _ es rows)=>match optM (λr=>optM (rdA t n) r) rows with
    |some l=>some (.sl es l)
    |none=>none
   |some (.mp _ kv _)=>match optM (rdA t n) (kv.map (·.2))with
    |some l=>some (.im (kv.map (·.1)) l)
    |none=>none
   |_=>none
  |.lp i 0=>match t.get i with
   |some (.cells _ l)=>match optM (rdA t n) l with
    |some l=>some (.ip l)
    |none=>none
   |_=>none
  |.agg l=>match optM (rdA t n) l with
   |some l=>some (.agg l)
   |none=>none
  |_=>none
theorem optM_rd{m:Mem}{f:A->Option C}(hf:∀a c,f a=some c->Rd m a c):∀{l:List A}{cs:List C},optM f l=some cs->RdL m l cs
 |[],cs,h=>by simp only[optM,Option.some.injEq]at h;subst h;exact .nil
 |x::r,cs,h=>by
  simp only[optM]at h
  split at h
  ·rename_i y l h1 h2
   simp only[Option.some.injEq]at h;subst h
   exact .cons (hf _ _ h1) (optM_rd hf h2)
  ·cases h
theorem optM_rdLL{m:Mem}{f:A->Option C}(hf:∀a c,f a=some c->Rd m a c):∀{l:List (List A)}{cs:List (List C)},optM (λr=>optM f r) l=some cs->RdLL m l cs
 |[],cs,h=>by simp only[optM,Option.some.injEq]at h;subst h;exact .nil
 |x::r,cs,h=>by
  simp only[optM]at h
  split at h
  ·rename_i y l h1 h2
   simp only[Option.some.injEq]at h;subst h
   exact .cons (optM_rd hf h1) (optM_rdLL hf h2)
  ·cases h
theorem rdA_ok{t:Tr R}:∀(n:Nat)(a:A)(c:C),rdA t n a=some c->Rd t.get a c
 |0,a,c,h=>by simp[rdA]at h
 |n+1,a,c,h=>by
  have ih:=λa c=>rdA_ok (t:=t) n a c
  simp only[rdA]at h
  split at h
  ·simp only[Option.some.injEq]at h;subst h;exact .d _
  ·split at h
   ·rename_i hi
    split at h
    ·rename_i l hl
     simp only[Option.some.injEq]at h;subst h
     exact .os hi (optM_rdLL ih hl)
    ·cases h
   ·rename_i hi
    split at h
    ·rename_i l hl
     simp only[Option.some.injEq]at h;subst h
     exact .mp hi (optM_rd ih hl)
    ·cases h
   ·cases h
  ·split at h
   ·rename_i hi
    split at h
    ·rename_i l hl
     simp only[Option.some.injEq]at h;subst h
     exact .lp hi (optM_rd ih hl)
    ·cases h
   ·cases h
  ·split at h
   ·rename_i l hl
    simp only[Option.some.injEq]at h;subst h
    exact .agg (optM_rd ih hl)
   ·cases h
  ·cases h
def hitV(f0:Nat)(cs:List C)(v:A)(g:Hd):Hd:=λc xs t nx=>match c with
 |.fn f=>cond (Nat.beq f f0) (match optM (rdA t 40) xs with
   |some l=>cond (C.eqbL l cs) (some ([(.ok v,[])],nx)) (g c xs t nx)
   |none=>g c xs t nx) (g c xs t nx)
 |_=>g c xs t nx
theorem hitV_ok{P:Program}{f0:Nat}{cs:List C}{v:A}{g:Hd}(hg:HdOk P g)(h:∀m,CallT P f0 (cs.map A.d) m (.ok v) m)(hv:v.nr=true):HdOk P (hitV f0 cs v g):=by
 refine⟨λf xs t nx outs nx' h'=>?_,λi xs t nx outs nx' h'=>hg.yl _ _ _ _ _ _ h',λf xs t nx outs nx' h'=>hg.ex _ _ _ _ _ _ h'⟩
 replace h':cond (Nat.beq f f0) (match optM (rdA t 40) xs with
  |some l=>cond (C.eqbL l cs) (some ([(.ok v,[])],nx)) (g (.fn f) xs t nx)
  |none=>g (.fn f) xs t nx) (g (.fn f) xs t nx)=some (outs,nx'):=h'
 cases hf:Nat.beq f f0 with
 |false=>rw[hf]at h';exact hg.fn _ _ _ _ _ _ h'
 |true=>
  rw[hf]at h'
  simp only[cond_true]at h'
  have hf:=Nat.eq_of_beq_eq_true hf;subst hf
  split at h'
  ·rename_i l hl
   cases hq:C.eqbL l cs with
   |false=>rw[hq]at h';exact hg.fn _ _ _ _ _ _ h'
   |true=>
    rw[hq]at h'
    simp only[cond_true,Option.some.injEq,Prod.mk.injEq]at h'
    obtain⟨rfl,rfl⟩:=h'
    have:=C.eqbL_eq _ _ hq
    subst this
    exact⟨_,_,rfl,CallT.viewG h hv (optM_rd (rdA_ok 40) hl)⟩
  ·exact hg.fn _ _ _ _ _ _ h'
def subB(t:Tr R):List (Nat×R)->Bool
 |[]=>true
 |(i,r)::l=>oEqb (t.get i) (some r)&&subB t l
def keyB(i:Nat):List (Nat×R)->Bool
 |[]=>false
 |(j,_)::l=>cond (Nat.beq i j) true (keyB i l)
def frB(t:Tr R)(m:List (Nat×R)):List (Nat×R)->Bool
 |[]=>true
 |(i,_)::u=>cond (keyB i m) true (freeB t.get i)&&frB t m u
def clB(as:List A)(m:List (Nat×R)):Bool:=(A.hsL as).all (λi=>keyB i m)&&m.all λp=>p.2.hs.all λi=>keyB i m
def hitM(f0:Nat)(as0:List A)(m0:List (Nat×R))(r0:Rt)(u0:List (Nat×R))(n0:Nat)(g:Hd):Hd:=λc xs t nx=>match c with
 |.fn f=>cond (Nat.beq f f0) (cond (A.eqbL xs as0&&(subB t m0&&frB t m0 u0)) (some ([(r0,u0)],n0)) (g c xs t nx)) (g c xs t nx)
 |_=>g c xs t nx
theorem trU_get(u:List (Nat×R)):(trU u).get=applyU (λ_=>none) u:=by
 have:=Tr.get_setU 0 u (Tr.nil:Tr R)
 have hn:(Tr.nil:Tr R).get=λ_=>none:=funext λn=>Tr.get_nil n
 unfold trU
 rw[this,hn]
theorem subB_mem{t:Tr R}:∀{m:List (Nat×R)},subB t m=true->∀p∈m,t.get p.1=some p.2
 |[],_,p,hp=>by simp at hp
 |(i,r)::m,h,p,hp=>by
  simp only[subB,Bool.and_eq_true]at h
  simp only[List.mem_cons]at hp
  rcases hp with rfl|hp
  ·exact oEqb_eq h.1
  ·exact subB_mem h.2 p hp
theorem keyB_mem{i:Nat}:∀{m:List (Nat×R)},keyB i m=true->∃p∈m,p.1=i
 |[],h=>by cases h
 |(j,r)::m,h=>by
  simp only[keyB]at h
  cases hb:Nat.beq i j with
  |true=>exact⟨(j,r),by simp,(Nat.eq_of_beq_eq_true hb).symm⟩
  |false=>
   rw[hb]at h
   obtain⟨p,hp,e⟩:=keyB_mem (m:=m) h
   exact⟨p,by simp[hp],e⟩
theorem keyB_ne{i:Nat}{m:List (Nat×R)}(h:keyB i m=true):applyU (λ_=>none) m i≠none:=by
 obtain⟨p,hp,rfl⟩:=keyB_mem h
 exact applyU_key hp
theorem frB_mem{t:Tr R}{m:List (Nat×R)}:∀{u:List (Nat×R)},frB t m u=true->∀p∈u,keyB p.1 m=true\/t.get p.1=none
 |[],_,p,hp=>by simp at hp
 |(i,r)::u,h,p,hp=>by
  simp only[frB,Bool.and_eq_true]at h
  simp only[List.mem_cons]at hp
  rcases hp with rfl|hp
  ·cases hk:keyB i m with
   |true=>exact .inl rfl
   |false=>rw[hk]at h;exact .inr (freeB_eq h.1)
  ·exact frB_mem h.2 p hp
theorem hitM_ok{P:Program}{f0:Nat}{as0:List A}{m0:List (Nat×R)}{r0:Rt}{u0:List (Nat×R)}{n0:Nat}{g g0:Hd}(hg:HdOk P g)(h0:HdOk P g0){nx0:Nat}(hc:clB as0 m0=true)(he:g0 (.fn f0) as0 (trU m0) nx0=some ([(r0,u0)],n0)):HdOk P (hitM f0 as0 m0 r0 u0 n0 g):=by
 refine⟨λf xs t nx outs nx' h=>?_,λi xs t nx outs nx' h=>hg.yl _ _ _ _ _ _ h,λf xs t nx outs nx' h=>hg.ex _ _ _ _ _ _ h⟩
 replace h:cond (Nat.beq f f0) (cond (A.eqbL xs as0&&(subB t m0&&frB t m0 u0)) (some ([(r0,u0)],n0)) (g (.fn f) xs t nx)) (g (.fn f) xs t nx)=some (outs,nx'):=h
 cases hf:Nat.beq f f0 with
 |false=>rw[hf]at h;exact hg.fn _ _ _ _ _ _ h
 |true=>
  rw[hf]at h
  simp only[cond_true]at h
  have hf:=Nat.eq_of_beq_eq_true hf;subst hf
  cases hq:A.eqbL xs as0&&(subB t m0&&frB t m0 u0)with
  |false=>rw[hq]at h;exact hg.fn _ _ _ _ _ _ h
  |true=>
   rw[hq]at h
   simp only[cond_true,Option.some.injEq,Prod.mk.injEq]at h
   obtain⟨rfl,rfl⟩:=h
   simp only[Bool.and_eq_true]at hq
   obtain⟨r,u,e,hcall⟩:=h0.fn _ _ _ _ _ _ he
   simp only[List.cons.injEq,Prod.mk.injEq,and_true]at e
   obtain⟨rfl,rfl⟩:=e
   rw[A.eqbL_eq _ _ hq.1]
   refine⟨_,_,rfl,?_⟩
   rw[trU_get]at hcall
   unfold clB at hc
   simp only[Bool.and_eq_true,List.all_eq_true]at hc
   have hs:=subB_mem hq.2.1
   have hfr:=frB_mem hq.2.2
   have key:∀i r,applyU (λ_=>none) m0 i=some r->(i,r)∈m0:=by
    intro i r hi
    rcases applyU_cases' hi with e|⟨e,_⟩
    ·exact e
    ·cases e
   refine CallT.frame hcall (λi hi=>keyB_ne (hc.1 i hi)) (λi r hi=>hs (i,r) (key i r hi)) (λi r hi j hj=>keyB_ne (hc.2 _ (key i r hi) j hj)) (λp hp hn=>?_)
   rcases hfr p hp with e|e
   ·exact absurd hn (keyB_ne e)
   ·exact e
def shU(d:Nat)(u:List (Nat×R)):List (Nat×R):=u.map λp=>(p.1+d,p.2.ren (· +d))
def frU(t:Tr R):List (Nat×R)->Bool
 |[]=>true
 |(i,_)::u=>freeB t.get i&&frU t u
def hitD(f0:Nat)(as0:List A)(r0:Rt)(u0:List (Nat×R))(b0 n0:Nat)(g:Hd):Hd:=λc xs t nx=>match c with
 |.fn f=>cond (Nat.beq f f0) (cond (A.eqbL xs as0&&(Nat.ble b0 nx&&frU t (shU (nx -b0) u0))) (some ([(r0.ren (· +(nx -b0)),shU (nx -b0) u0)],n0+(nx -b0))) (g c xs t nx)) (g c xs t nx)
 |_=>g c xs t nx
def ndB:List (Nat×R)->Bool
 |[]=>true
 |(i,_)::u=> !keyB i u&&ndB u
def dOk(as:List A)(r:Rt)(u:List (Nat×R)):Bool:=(A.hsL as).isEmpty&&(ndB u&&(r.hs.all (λi=>keyB i u)&&u.all λp=>p.2.noIt&&p.2.hs.all λi=>keyB i u))
theorem keyB_of{i:Nat}:∀{m:List (Nat×R)},(∃p∈m,p.1=i)->keyB i m=true
 |[],⟨p,hp,_⟩=>by simp at hp
 |(j,r)::m,⟨p,hp,e⟩=>by
  simp only[keyB]
  cases hb:Nat.beq i j with
  |true=>rfl
  |false=>
   simp only[List.mem_cons]at hp
   rcases hp with rfl|hp
   ·subst e;simp at hb
   ·exact keyB_of (m:=m) ⟨p,hp,e⟩
theorem ndB_nodup:∀{u:List (Nat×R)},ndB u=true->(u.map (·.1)).Nodup
 |[],_=>by simp
 |(i,r)::u,h=>by
  simp only[ndB,Bool.and_eq_true,Bool.not_eq_true']at h
  simp only[List.map_cons,List.nodup_cons]
  refine⟨λe=>?_,ndB_nodup h.2⟩
  obtain⟨p,hp,e⟩:=List.mem_map.1 e
  rw[keyB_of ⟨p,hp,e⟩]at h
  cases h.1
theorem frU_mem{t:Tr R}:∀{u:List (Nat×R)},frU t u=true->∀p∈u,t.get p.1=none
 |[],_,p,hp=>by simp at hp
 |(i,r)::u,h,p,hp=>by
  simp only[frU,Bool.and_eq_true]at h
  simp only[List.mem_cons]at hp
  rcases hp with rfl|hp
  ·exact freeB_eq h.1
  ·exact frU_mem h.2 p hp
theorem CallT.shift{P:Program}{f:FuncId}{as:List A}{r:Rt}{u:List (Nat×R)}(h:CallT P f as (λ_=>none) r (applyU (λ_=>none) u))(hd:dOk as r u=true)(d:Nat)(t:Mem)(hf:∀p∈shU d u,t p.1=none):CallT P f as t (r.ren (· +d)) (applyU t (shU d u)):=by
 unfold dOk at hd
 simp only[Bool.and_eq_true,List.all_eq_true,List.isEmpty_iff]at hd
 obtain⟨h0,hn,hr,hu⟩:=hd
 have hnd:=ndB_nodup hn
 obtain⟨g,gi,g1,g2,g3,_⟩:=exists_perm (u.map λp=>(p.1,p.1+d)) (by simpa [Function.comp_def]using hnd) (by
  have e:((u.map λp=>(p.1,p.1+d)).map (·.2))=(u.map (·.1)).map (· +d):=by simp[Function.comp_def]
  rw[e]
  rw[List.Nodup,List.pairwise_map]
  exact List.Pairwise.imp (λh e=>h (by omega)) hnd)
 have hg:∀i,keyB i u=true->g i=i+d:=by
  intro i hi
  obtain⟨p,hp,rfl⟩:=keyB_mem hi
  exact g3 (p.1,p.1+d) (List.mem_map.2 ⟨p,hp,rfl⟩)
 have k:=CallT.ren h g1 g2
 rw[<-memO_nil,applyU_ren g1 g2,renM_memO g1 g2]at k
 have e1:A.renL g as=as:=by
  rw[A.renL_congr (g:=λi=>i) as (λi hi=>by rw[h0]at hi;simp at hi)]
  exact A.renL_id as
 have e2:renP g u=shU d u:=by
  unfold renP shU
  refine List.map_congr_left λp hp=>?_
  rw[hg p.1 (keyB_of ⟨p,hp,rfl⟩),R.ren_congr p.2 (hu p hp).1 (λj hj=>hg j ((hu p hp).2 j hj))]
 have e3:r.ren g=r.ren (· +d):=Rt.ren_congr r λi hi=>hg i (hr i hi)
 rw[e1,e2,e3]at k
 exact CallT.frame k (λi hi=>by rw[h0]at hi;simp at hi) (λi r hi=>by cases hi) (λi r hi=>by cases hi) (λp hp _=>hf p hp)
theorem hitD_ok{P:Program}{f0:Nat}{as0:List A}{r0:Rt}{u0:List (Nat×R)}{b0 n0:Nat}{g:Hd}(hg:HdOk P g)(hc:CallT P f0 as0 (λ_=>none) r0 (applyU (λ_=>none) u0))(hd:dOk as0 r0 u0=true):HdOk P (hitD f0 as0 r0 u0 b0 n0 g):=by
 refine⟨λf xs t nx outs nx' h=>?_,λi xs t nx outs nx' h=>hg.yl _ _ _ _ _ _ h,λf xs t nx outs nx' h=>hg.ex _ _ _ _ _ _ h⟩
 replace h:cond (Nat.beq f f0) (cond (A.eqbL xs as0&&(Nat.ble b0 nx&&frU t (shU (nx -b0) u0))) (some ([(r0.ren (· +(nx -b0)),shU (nx -b0) u0)],n0+(nx -b0))) (g (.fn f) xs t nx)) (g (.fn f) xs t nx)=some (outs,nx'):=h
 cases hf:Nat.beq f f0 with
 |false=>rw[hf]at h;exact hg.fn _ _ _ _ _ _ h
 |true=>
  rw[hf]at h
  simp only[cond_true]at h
  have hf:=Nat.eq_of_beq_eq_true hf;subst hf
  cases hq:A.eqbL xs as0&&(Nat.ble b0 nx&&frU t (shU (nx -b0) u0))with
  |false=>rw[hq]at h;exact hg.fn _ _ _ _ _ _ h
  |true=>
   rw[hq]at h
   simp only[cond_true,Option.some.injEq,Prod.mk.injEq]at h
   obtain⟨rfl,rfl⟩:=h
   simp only[Bool.and_eq_true]at hq
   rw[A.eqbL_eq _ _ hq.1]
   exact⟨_,_,rfl,CallT.shift hc hd _ _ (frU_mem hq.2.2)⟩
theorem dat_of{P:Program}{f0:Nat}{as0:List A}{r0:Rt}{u0:List (Nat×R)}{g0:Hd}{nx0 n0:Nat}(h0:HdOk P g0)(he:g0 (.fn f0) as0 .nil nx0=some ([(r0,u0)],n0)):CallT P f0 as0 (λ_=>none) r0 (applyU (λ_=>none) u0):=by
 obtain⟨r,u,e,hcall⟩:=h0.fn _ _ _ _ _ _ he
 simp only[List.cons.injEq,Prod.mk.injEq,and_true]at e
 obtain⟨rfl,rfl⟩:=e
 have hn:(Tr.nil:Tr R).get=λ_=>none:=funext λn=>Tr.get_nil n
 rw[hn]at hcall
 exact hcall
theorem pure_of_run{P:Program}{f0:Nat}{as0:List A}{v:A}{g0:Hd}{nx0 n0:Nat}(h0:HdOk P g0)(hx:(A.hsL as0).isEmpty=true)(he:g0 (.fn f0) as0 .nil nx0=some ([(.ok v,[])],n0)):∀m,CallT P f0 as0 m (.ok v) m:=λm=>by
 have hx:=List.isEmpty_iff.1 hx
 exact CallT.frame (m:=m) (ups:=[]) (dat_of h0 he) (by simp[hx]) (by simp) (by simp) (by simp)
end Go.Pv
namespace Go.Pv
open Go.RowKit
inductive LdL(m:Mem):List A->List A->Prop
 |nil:LdL m [] []
 |x {a:A} {l l':List A}:LdL m l l'->LdL m (a::l) (.x::l')
 |cv {a a':A} {l l':List A}:Cv m a a'->LdL m l l'->LdL m (a::l) (a'::l')
theorem LdL.allX(m:Mem):∀l:List A,LdL m l (l.map λ_=>A.x)
 |[]=>.nil
 |_::r=>.x (LdL.allX m r)
theorem ldL_den{M0 S0:Nat->Prop}{w0:World}{N:Fr}{T:Nat->A}{m mF m':Mem}{ρ:Nat->Value}{a:Act}{w:World}(s:SatAt M0 S0 w0 N T m ρ a w)(hf:Frz m mF m'):∀{l l':List A}{ys:List Value},LdL mF l l'->(∀i∈A.hsL l',Sh m m' i)->A.DenL w (Mut M0 m ρ) m ρ l ys->A.DenL w (Mut M0 m' ρ) m' ρ l' ys
 |_,_,ys,.nil,_,hd=>by simpa only[A.DenL]using hd
 |_,_,ys,.x h,hi,hd=>by
  simp only[A.DenL]at hd⊢
  obtain⟨y,yr,e,_,h2⟩:=hd
  exact⟨y,yr,e,by simp only[A.Den],ldL_den s hf h (λi q=>hi i (by simp[A.hsL,q])) h2⟩
 |_,_,ys,.cv hc h,hi,hd=>by
  simp only[A.DenL]at hd⊢
  obtain⟨y,yr,e,h1,h2⟩:=hd
  exact⟨y,yr,e,cvA_den s hf hc (λi q=>hi i (by simp[A.hsL,q])) h1,ldL_den s hf h (λi q=>hi i (by simp[A.hsL,q])) h2⟩
theorem applyU_key_eq:∀{u:List (Nat×R)}{m m':Mem}{i:Nat},(∃p∈u,p.1=i)->applyU m u i=applyU m' u i
 |[],_,_,i,⟨p,hp,_⟩=>by simp at hp
 |(j,q)::t,m,m',i,⟨p,hp,e⟩=>by
  simp only[applyU]
  by_cases ht:∃p∈t,p.1=i
  ·exact applyU_key_eq ht
  ·have hk:∀(m:Mem),applyU m t i=m i:=by
    intro m
    cases hq:applyU m t i with
    |none=>exact((applyU_none t hq).1).symm
    |some r=>
     rcases applyU_cases' hq with e'|⟨e',_⟩
     ·exact absurd ⟨_,e',rfl⟩ ht
     ·exact e'.symm
   rw[hk,hk]
   simp only[List.mem_cons]at hp
   rcases hp with rfl|hp
   ·unfold setM;rw[if_pos e.symm,if_pos e.symm]
   ·exact absurd ⟨p,hp,e⟩ ht
theorem CallT.lend{P:Program}{f:FuncId}{as:List A}{m1 m mF:Mem}{v:A}{ups:List (Nat×R)}(h:CallT P f as m1 (.ok v) (applyU m1 ups))(hv:v.plainA=true)(hF:∀i r,mF i=some r->m i=some r/\m1 i=none)
 (hm:∀i r,m1 i=some r->∃l l1,r=.cells true l1/\m i=some (.cells false l)/\LdL mF l l1)(has:∀i∈A.hsL as,m1 i≠none)(hcl:∀i r,m1 i=some r->∀j∈r.hs,m1 j≠none)(hfresh:∀p∈ups,m1 p.1=none/\m p.1=none)(hfl:∀p∈ups,p.2.FlatR):CallT P f as m (.ok v) (applyU m ups):=by
 refine⟨h.1,?_⟩
 intro N T M0 S0 w0 ρ a w hs hlt vs hvs
 have hfr:Frz m mF m1:=⟨hF,λi r h1 h2=>by obtain⟨l,l1,rfl,_⟩:=hm i r h1;cases h2⟩
 have hsh:∀j,m1 j≠none->Sh m m1 j:=by
  intro j hj
  cases hq:m1 j with
  |none=>exact absurd hq hj
  |some r=>
   obtain⟨l,l1,rfl,q,_⟩:=hm j r hq
   exact⟨hj,λ_=>⟨by rw[q];simp,λfz t es l2 e=>by rw[q]at e;cases e⟩⟩
 have hM:∀b,Mut M0 m1 ρ b->M0 b:=by
  rintro b (e|⟨i,r,h1,h2,_⟩)
  ·exact e
  ·obtain⟨l,l1,rfl,_⟩:=hm i r h1;cases h2
 have hlt1:∀b,M0 b->b<w.heap.size:=λb hb=>Nat.lt_of_lt_of_le (hlt b hb) hs.keeps.size
 have h0:SatAt M0 (λ_=>False) w ⟨N.n,none⟩ (λ_=>.x) m1 ρ a w:=
  {keeps:=Keeps.refl _ _,size:=hs.size,defers:=λds e=>by cases e
   tmps:=λn=>by simp only[A.Den]
   res:=λi r hi=>by
    obtain⟨l,l1,rfl,q,hl⟩:=hm i r hi
    obtain⟨b,cs,t,e,h1,h2,h3,h4⟩:=hs.res i _ q
    refine⟨b,cs,t,e,h1,ldL_den hs hfr hl (λj hj=>hsh j (hcl i _ hi j (by simpa [R.hs]using hj))) h2,λ_ hb=>?_,h4⟩
    exact(hs.own i _ b q rfl (by rw[e];rfl)).2.1 (hM b hb)
   own:=λi r b hi hl hb=>by obtain⟨l,l1,rfl,_⟩:=hm i r hi;cases hl
   apart:=λi j r s b hi l1=>by obtain⟨l,l2,rfl,_⟩:=hm i r hi;cases l1}
 have hvs1:A.DenL w (Mut M0 m1 ρ) m1 ρ as vs:=A.DenL_sh (λb hb=>.inl (hM b hb)) _ _ (λi hi=>hsh i (has i hi)) hvs
 refine(h.2 ⟨N.n,none⟩ (λ_=>.x) M0 (λ_=>False) w ρ a w h0 hlt1 vs hvs1).mono ?_
 rintro e w' ⟨ρ',h1,hO,y,rfl,hy⟩
 have kk:=h1.keeps
 let ρ2:Nat->Value:=λi=>if(applyU m1 ups i).isSome then ρ' i else ρ i
 have hnew:∀{i:Nat}{r:R},applyU m1 ups i=some r->m1 i=none->applyU m ups i=some r/\ρ2 i=ρ' i/\m i=none/\r.FlatR:=by
  intro i r hi hn
  have hk:=applyU_new ups hn (by rw[hi];simp)
  refine⟨by rw[<-hi];exact applyU_key_eq hk,by simp[ρ2,hi],?_,?_⟩
  ·obtain⟨p,hp,rfl⟩:=hk;exact(hfresh p hp).2
  ·rcases applyU_cases' hi with q|⟨q,_⟩
   ·exact hfl _ q
   ·rw[hn]at q;cases q
 have hold:∀{i:Nat},m i≠none->applyU m ups i=m i/\ρ2 i=ρ i:=by
  intro i hi
  have hno:∀p∈ups,p.1≠i:=λp hp e=>hi (by rw[<-e];exact(hfresh p hp).2)
  have hk:∀mm:Mem,applyU mm ups i=mm i:=by
   intro mm
   cases hq:applyU mm ups i with
   |none=>exact((applyU_none ups hq).1).symm
   |some r=>
    rcases applyU_cases' hq with q|⟨q,_⟩
    ·exact absurd rfl (hno _ q)
    ·exact q.symm
  refine⟨hk m,?_⟩
  show(if(applyU m1 ups i).isSome then ρ' i else ρ i)=ρ i
  rw[hk m1]
  cases hq:m1 i with
  |none=>simp
  |some r=>
   obtain⟨l,l1,rfl,_⟩:=hm i r hq
   simp only[Option.isSome_some,if_true]
   exact((hO i (by rw[hq];simp)).2 (by rw[hk m1,hq];simp)).2.1
 have hcase:∀{i:Nat}{r:R},applyU m ups i=some r->(applyU m1 ups i=some r/\m1 i=none/\m i=none)\/m i=some r:=by
  intro i r hi
  by_cases hn:m i=none
  ·left
   have hk:=applyU_new ups hn (by rw[hi];simp)
   obtain⟨p,hp,e⟩:=hk
   refine⟨by rw[<-hi];exact applyU_key_eq ⟨p,hp,e⟩,by rw[<-e];exact(hfresh p hp).1,hn⟩
  ·right;rw[<-hi];exact(hold hn).1.symm
 have hon:Onto m (applyU m ups) ρ ρ2:=by
  intro i hi
  obtain⟨e1,e2⟩:=hold hi
  rw[e1]
  exact⟨hi,λhd=>⟨hd,e2,λfz t es l e=>⟨fz,t,l,e,rfl⟩⟩⟩
 have hon2:Onto (applyU m1 ups) (applyU m ups) ρ' ρ2:=by
  intro i hi
  cases h':applyU m1 ups i with
  |none=>exact absurd h' hi
  |some r=>
   by_cases hn:m1 i=none
   ·obtain⟨e1,e2,_⟩:=hnew h' hn
    rw[e1]
    exact⟨by simp,λhd=>⟨hd,e2,λfz t es l e=>⟨fz,t,l,e,rfl⟩⟩⟩
   ·cases hq:m1 i with
    |none=>exact absurd hq hn
    |some r0=>
     obtain⟨l,l1,rfl,q,_⟩:=hm i r0 hq
     obtain⟨e1,e2⟩:=hold (i:=i) (by rw[q];simp)
     have hr:r=.cells true l1:=by
      rcases applyU_cases' h' with q2|⟨q2,_⟩
      ·rw[(hfresh _ q2).1]at hq;cases hq
      ·rw[hq]at q2;exact(Option.some.inj q2).symm
     subst hr
     rw[e1,q]
     refine⟨by simp,λ_=>⟨by simp,?_,λfz t es l e=>by cases e⟩⟩
     simp[ρ2,h']
 have hst:Stays (Mut M0 m ρ) w w':=kk.stays λb _ e=>e.elim
 have hsub:∀b,Mut M0 (applyU m ups) ρ2 b->b<w.heap.size->Mut M0 m ρ b:=by
  rintro b (e|⟨i,r,hi,hl,hb⟩) hbl
  ·exact .inl e
  ·rcases hcase hi with⟨q1,q2,q3⟩|q
   ·rw[(hnew q1 q2).2.1]at hb
    rcases(h1.own i r b q1 hl hb).1 with q|q
    ·omega
    ·exact q.elim
   ·rw[(hold (by rw[q];simp)).2]at hb
    exact .inr ⟨i,r,q,hl,hb⟩
 have hnb:∀{i:Nat}{r:R}{b:Nat},applyU m1 ups i=some r->m1 i=none->r.live=true->blk (ρ2 i)=some b->w.heap.size<=b/\blk (ρ' i)=some b:=by
  intro i r b q1 q2 hl hb
  rw[(hnew q1 q2).2.1]at hb
  rcases(h1.own i r b q1 hl hb).1 with q|q
  ·exact⟨q,hb⟩
  ·exact q.elim
 refine⟨ρ2,?_,hon,y,rfl,plain_den hon2 hv hy⟩
 exact{keeps:=hs.keeps.trans kk λb _ e=>e.elim,size:=h1.size,defers:=λds e=>DefsDen_mono hst hsub hon _ _ (hs.defers ds e)
       tmps:=λn=>A.Den_mono hst hsub hon _ _ (hs.tmps n)
       res:=λi r hi=>by
        rcases hcase hi with⟨q1,q2,q3⟩|q
        · obtain⟨_,e2,_,e3⟩:=hnew q1 q2
          rw[e2]
          exact plainR_ok hon2 e3 (h1.res i r q1)
        · rw[(hold (by rw[q];simp)).2]
          by_cases hd:r=.dead
          · subst hd;trivial
          · exact R.Ok_mono hst hsub hon (λb hb hlt'=>kk.block b hlt' (λe=>e)) (hs.res i r q)
       own:=λi r b hi hl hb=>by
        rcases hcase hi with⟨q1,q2,q3⟩|q
        · obtain⟨x,hb'⟩:=hnb q1 q2 hl hb
          obtain⟨_,y,z⟩:=h1.own i r b q1 hl hb'
          exact⟨.inl (Nat.le_trans hs.keeps.size x),y,z⟩
        · rw[(hold (by rw[q];simp)).2]at hb
          obtain⟨x,y,z⟩:=hs.own i r b q hl hb
          exact⟨x,y,Nat.lt_of_lt_of_le z kk.size⟩
       apart:=λi j r s b hi l1 hj l2 b1 b2=>by
        rcases hcase hi with⟨q1,q2,q3⟩|q
        · obtain⟨x,hb'⟩:=hnb q1 q2 l1 b1
          rcases hcase hj with⟨p1,p2,p3⟩|p
          · exact h1.apart i j r s b q1 l1 p1 l2 hb' (hnb p1 p2 l2 b2).2
          · rw[(hold (by rw[p];simp)).2]at b2
            have:=(hs.own j s b p l2 b2).2.2
            omega
        · rw[(hold (by rw[q];simp)).2]at b1
          rcases hcase hj with⟨p1,p2,p3⟩|p
          · obtain⟨x,hb'⟩:=hnb p1 p2 l2 b2
            have:=(hs.own i r b q l1 b1).2.2
            omega
          · rw[(hold (by rw[p];simp)).2]at b2
            exact hs.apart i j r s b q l1 p l2 b1 b2}
end Go.Pv
namespace Go.Pv
open Go.RowKit
theorem CallT.toData{P:Program}{f:FuncId}{as:List A}{a:A}{c:C}{m':Mem}(h:CallT P f as (λ_=>none) (.ok a) m')(hx:(A.hsL as).isEmpty=true)(hr:Rd m' a c):∀m,CallT P f as m (.ok (.d c)) m:=by
 intro m
 refine⟨h.1,?_⟩
 intro N T M0 S0 w0 ρ ac w hs hlt vs hvs
 have hM:Mut (Mut M0 m ρ) (λ_=>none) ρ=Mut M0 m ρ:=by
  funext b
  refine propext ⟨?_,.inl⟩
  rintro(e|⟨i,r,hi,_⟩)
  ·exact e
  ·cases hi
 have hlt1:∀b,Mut M0 m ρ b->b<w.heap.size:=mut_lt hs hlt
 have h0:SatAt (Mut M0 m ρ) (λ_=>False) w ⟨N.n,none⟩ (λ_=>.x) (λ_=>none) ρ ac w:=
  {keeps:=Keeps.refl _ _,size:=hs.size,defers:=λds e=>by cases e
   tmps:=λn=>by simp only[A.Den]
   res:=λi r hi=>by cases hi
   own:=λi r b hi=>by cases hi
   apart:=λi j r s b hi=>by cases hi}
 have hx:=List.isEmpty_iff.1 hx
 have hvs1:A.DenL w (Mut (Mut M0 m ρ) (λ_=>none) ρ) (λ_=>none) ρ as vs:=by
  rw[hM]
  exact A.DenL_sh (λb hb=>hb) _ _ (λi hi=>by rw[hx]at hi;simp at hi) hvs
 refine(h.2 ⟨N.n,none⟩ (λ_=>.x) (Mut M0 m ρ) (λ_=>False) w ρ ac w h0 hlt1 vs hvs1).mono ?_
 rintro e w' ⟨ρ',h1,hO,y,rfl,hy⟩
 have hk:=h1.keeps
 have hst:Stays (Mut M0 m ρ) w w':=hk.stays λb _ e=>e.elim
 have hid:∀b,Mut M0 m ρ b->b<w.heap.size->Mut M0 m ρ b:=λb hb _=>hb
 refine⟨ρ,?_,Onto.refl m ρ,y,rfl,?_⟩
 ·exact{keeps:=hs.keeps.trans hk λb _ e=>e.elim,size:=h1.size
        defers:=λds e=>DefsDen_mono hst hid (Onto.refl m ρ) _ _ (hs.defers ds e)
        tmps:=λn=>A.Den_mono hst hid (Onto.refl m ρ) _ _ (hs.tmps n)
        res:=λi r hi=>by
         by_cases hd:r=.dead
         · subst hd;trivial
         · exact R.Ok_mono hst hid (Onto.refl m ρ) (λb hb hlt'=>hk.block b hlt' (λe=>e)) (hs.res i r hi)
        own:=λi r b hi hl hb=>let⟨x,y,z⟩:=hs.own i r b hi hl hb;⟨x,y,Nat.lt_of_lt_of_le z hk.size⟩
        apart:=hs.apart}
 ·simp only[A.Den]
  exact rd_den h1 hr hy
def isD(r:Option (List Ot×Nat))(c:C):Bool:=match r with
 |some ([(.ok a,u)],_)=>match rdA (trU u) 40 a with
  |some c'=>C.eqb c' c
  |none=>false
 |_=>false
theorem data_of_run{P:Program}{f0:Nat}{as0:List A}{c:C}{g0:Hd}{nx0:Nat}(h0:HdOk P g0)(h:isD (g0 (.fn f0) as0 .nil nx0) c=true)(hx:(A.hsL as0).isEmpty=true):∀m,CallT P f0 as0 m (.ok (.d c)) m:=by
 unfold isD at h
 split at h
 ·rename_i a u n he
  split at h
  ·rename_i c' hc
   have:=C.eqb_eq _ _ h
   subst this
   refine CallT.toData (dat_of h0 he) hx ?_
   rw[<-trU_get]
   exact rdA_ok 40 _ _ hc
  ·cases h
 ·cases h
end Go.Pv
namespace Go.Pv
open Go.RowKit
section
variable{w:World}{M M':Nat->Prop}
theorem C.DenAt_nr{b:Nat}:∀(l:List C)(off:Nat),C.nrL l=true->C.DenAt w M b off l->C.DenAt w M' b off l
 |[],_,_,_=>by simp only[C.DenAt]
 |c::r,off,hz,hd=>by
  simp only[C.nrL,Bool.and_eq_true]at hz
  simp only[C.DenAt]at hd⊢
  obtain⟨⟨y,hy,h0,h1⟩,h2⟩:=hd
  exact⟨⟨y,hy,h0,C.nr_den c _ hz.1 h1⟩,C.DenAt_nr r _ hz.2 h2⟩
theorem C.DenRow_nr{b es:Nat}:∀(l:List (List C))(off:Nat),(l.all C.nrL)=true->C.DenRow w M b es off l->C.DenRow w M' b es off l
 |[],_,_,_=>by simp only[C.DenRow]
 |e::r,off,hz,hd=>by
  simp only[List.all_cons,Bool.and_eq_true]at hz
  simp only[C.DenRow]at hd⊢
  obtain⟨h0,h1,h2⟩:=hd
  exact⟨h0,C.DenAt_nr e _ hz.1 h1,C.DenRow_nr r _ hz.2 h2⟩
end
theorem CallT.viewB{P:Program}{f:FuncId}{as:List A}{cs:List C}{i te es:Nat}{L:List (List C)}{m m':Mem}(h:CallT P f (cs.map A.d) (λ_=>none) (.ok (.h i)) m')(hi:m' i=some (.osl false te es (rowsD L)))(hL:(L.all C.nrL)=true)(hr:RdL m as cs):CallT P f as m (.ok (.d (.sl es L))) m:=by
 refine⟨h.1,?_⟩
 intro N T M0 S0 w0 ρ ac w hs hlt vs hvs
 have hM:Mut M0 (λ_=>none) ρ=M0:=by
  funext b
  refine propext ⟨?_,.inl⟩
  rintro(e|⟨i,r,hi,_⟩)
  ·exact e
  ·cases hi
 have h0:SatAt M0 (λ_=>False) w ⟨N.n,none⟩ (λ_=>.x) (λ_=>none) ρ ac w:=
  {keeps:=Keeps.refl _ _,size:=hs.size,defers:=λds e=>by cases e
   tmps:=λn=>by simp only[A.Den]
   res:=λi r hi=>by cases hi
   own:=λi r b hi=>by cases hi
   apart:=λi j r s b hi=>by cases hi}
 have hlt1:∀b,M0 b->b<w.heap.size:=λb hb=>Nat.lt_of_lt_of_le (hlt b hb) hs.keeps.size
 refine(h.2 ⟨N.n,none⟩ (λ_=>.x) M0 (λ_=>False) w ρ ac w h0 hlt1 vs (by rw[hM];exact denL_data (rdL_den hs hr hvs))).mono ?_
 rintro e w' ⟨ρ',h1,hO,y,rfl,hy⟩
 have hk:=h1.keeps
 have hst:Stays (Mut M0 m ρ) w w':=hk.stays λb _ e=>e.elim
 have hid:∀b,Mut M0 m ρ b->b<w.heap.size->Mut M0 m ρ b:=λb hb _=>hb
 have hmt:=mut_lt hs hlt
 refine⟨ρ,?_,Onto.refl m ρ,y,rfl,?_⟩
 ·exact{keeps:=hs.keeps.trans hk λb _ e=>e.elim,size:=h1.size
        defers:=λds e=>DefsDen_mono hst hid (Onto.refl m ρ) _ _ (hs.defers ds e)
        tmps:=λn=>A.Den_mono hst hid (Onto.refl m ρ) _ _ (hs.tmps n)
        res:=λi r hi=>by
         by_cases hd:r=.dead
         · subst hd;trivial
         · exact R.Ok_mono hst hid (Onto.refl m ρ) (λb hb hlt'=>hk.block b hlt' (λe=>e)) (hs.res i r hi)
        own:=λi r b hi hl hb=>let⟨x,y,z⟩:=hs.own i r b hi hl hb;⟨x,y,Nat.lt_of_lt_of_le z hk.size⟩
        apart:=hs.apart}
 ·have hd:=rd_den h1 (Rd.os (l:=L) hi (RdLL.data m' L)) hy
  simp only[A.Den,C.Den]at hd hy⊢
  have hyi:=has_of hy hi (by simp)
  obtain⟨a,cap,rfl,hc,hl⟩:=hd
  refine⟨a,cap,rfl,hc,?_⟩
  rcases hl with hl|⟨b,off,rfl,hb1,hb2,hb3⟩
  ·exact .inl hl
  ·by_cases hn:L=[]
   ·exact .inl hn
   ·refine .inr ⟨b,off,rfl,λhm=>?_,hb2,C.DenRow_nr L off hL hb3⟩
    have hcap:cap≠0:=by
     have:0<L.length:=List.length_pos_iff.2 hn
     omega
    rcases(h1.own i _ b hi rfl (by rw[<-hyi];simp[blk,hcap])).1 with q|q
    ·have:=hmt b hm;omega
    ·exact q.elim
def hitB(f0:Nat)(cs:List C)(c:C)(g:Hd):Hd:=λk xs t nx=>match k with
 |.fn f=>cond (Nat.beq f f0) (match optM (rdA t 40) xs with
   |some l=>cond (C.eqbL l cs) (some ([(.ok (.d c),[])],nx)) (g k xs t nx)
   |none=>g k xs t nx) (g k xs t nx)
 |_=>g k xs t nx
theorem hitB_ok{P:Program}{f0:Nat}{cs:List C}{c:C}{g:Hd}(hg:HdOk P g)(h:∀(as:List A)(m:Mem),RdL m as cs->CallT P f0 as m (.ok (.d c)) m):HdOk P (hitB f0 cs c g):=by
 refine⟨λf xs t nx outs nx' h'=>?_,λi xs t nx outs nx' h'=>hg.yl _ _ _ _ _ _ h',λf xs t nx outs nx' h'=>hg.ex _ _ _ _ _ _ h'⟩
 replace h':cond (Nat.beq f f0) (match optM (rdA t 40) xs with
  |some l=>cond (C.eqbL l cs) (some ([(.ok (.d c),[])],nx)) (g (.fn f) xs t nx)
  |none=>g (.fn f) xs t nx) (g (.fn f) xs t nx)=some (outs,nx'):=h'
 cases hf:Nat.beq f f0 with
 |false=>rw[hf]at h';exact hg.fn _ _ _ _ _ _ h'
 |true=>
  rw[hf]at h'
  simp only[cond_true]at h'
  have hf:=Nat.eq_of_beq_eq_true hf;subst hf
  split at h'
  ·rename_i l hl
   cases hq:C.eqbL l cs with
   |false=>rw[hq]at h';exact hg.fn _ _ _ _ _ _ h'
   |true=>
    rw[hq]at h'
    simp only[cond_true,Option.some.injEq,Prod.mk.injEq]at h'
    obtain⟨rfl,rfl⟩:=h'
    have:=C.eqbL_eq _ _ hq
    subst this
    exact⟨_,_,rfl,h xs t.get (optM_rd (rdA_ok 40) hl)⟩
  ·exact hg.fn _ _ _ _ _ _ h'
theorem CallT.toDataT{P:Program}{f:FuncId}{as:List A}{l:List A}{cs:List C}{m':Mem}(h:CallT P f as (λ_=>none) (.ok (.tup l)) m')(hx:(A.hsL as).isEmpty=true)(hr:RdL m' l cs):∀m,CallT P f as m (.ok (.tup (cs.map A.d))) m:=by
 intro m
 refine⟨h.1,?_⟩
 intro N T M0 S0 w0 ρ ac w hs hlt vs hvs
 have hM:Mut (Mut M0 m ρ) (λ_=>none) ρ=Mut M0 m ρ:=by
  funext b
  refine propext ⟨?_,.inl⟩
  rintro(e|⟨i,r,hi,_⟩)
  ·exact e
  ·cases hi
 have hlt1:∀b,Mut M0 m ρ b->b<w.heap.size:=mut_lt hs hlt
 have h0:SatAt (Mut M0 m ρ) (λ_=>False) w ⟨N.n,none⟩ (λ_=>.x) (λ_=>none) ρ ac w:=
  {keeps:=Keeps.refl _ _,size:=hs.size,defers:=λds e=>by cases e
   tmps:=λn=>by simp only[A.Den]
   res:=λi r hi=>by cases hi
   own:=λi r b hi=>by cases hi
   apart:=λi j r s b hi=>by cases hi}
 have hx:=List.isEmpty_iff.1 hx
 have hvs1:A.DenL w (Mut (Mut M0 m ρ) (λ_=>none) ρ) (λ_=>none) ρ as vs:=by
  rw[hM]
  exact A.DenL_sh (λb hb=>hb) _ _ (λi hi=>by rw[hx]at hi;simp at hi) hvs
 refine(h.2 ⟨N.n,none⟩ (λ_=>.x) (Mut M0 m ρ) (λ_=>False) w ρ ac w h0 hlt1 vs hvs1).mono ?_
 rintro e w' ⟨ρ',h1,hO,y,rfl,hy⟩
 have hk:=h1.keeps
 have hst:Stays (Mut M0 m ρ) w w':=hk.stays λb _ e=>e.elim
 have hid:∀b,Mut M0 m ρ b->b<w.heap.size->Mut M0 m ρ b:=λb hb _=>hb
 refine⟨ρ,?_,Onto.refl m ρ,y,rfl,?_⟩
 ·exact{keeps:=hs.keeps.trans hk λb _ e=>e.elim,size:=h1.size
        defers:=λds e=>DefsDen_mono hst hid (Onto.refl m ρ) _ _ (hs.defers ds e)
        tmps:=λn=>A.Den_mono hst hid (Onto.refl m ρ) _ _ (hs.tmps n)
        res:=λi r hi=>by
         by_cases hd:r=.dead
         · subst hd;trivial
         · exact R.Ok_mono hst hid (Onto.refl m ρ) (λb hb hlt'=>hk.block b hlt' (λe=>e)) (hs.res i r hi)
        own:=λi r b hi hl hb=>let⟨x,y,z⟩:=hs.own i r b hi hl hb;⟨x,y,Nat.lt_of_lt_of_le z hk.size⟩
        apart:=hs.apart}
 ·simp only[A.Den]at hy⊢
  obtain⟨vs,e,h2⟩:=hy
  exact⟨vs,e,denL_data (rdL_den h1 hr h2)⟩
def isDT(r:Option (List Ot×Nat))(cs:List C):Bool:=match r with
 |some ([(.ok (.tup l),u)],_)=>match optM (rdA (trU u) 40) l with
  |some cs'=>C.eqbL cs' cs
  |none=>false
 |_=>false
theorem dataT_of_run{P:Program}{f0:Nat}{as0:List A}{cs:List C}{g0:Hd}{nx0:Nat}(h0:HdOk P g0)(h:isDT (g0 (.fn f0) as0 .nil nx0) cs=true)(hx:(A.hsL as0).isEmpty=true):∀m,CallT P f0 as0 m (.ok (.tup (cs.map A.d))) m:=by
 unfold isDT at h
 split at h
 ·rename_i l u n he
  split at h
  ·rename_i c' hc
   have:=C.eqbL_eq _ _ h
   subst this
   refine CallT.toDataT (dat_of h0 he) hx ?_
   rw[<-trU_get]
   exact optM_rd (rdA_ok 40) hc
  ·cases h
 ·cases h
def isM(r:Option (List Ot×Nat))(v:A):Bool:=match r with
 |some ([(r,[])],_)=>rtEqb r (.ok v)
 |_=>false
theorem mem_of_run{P:Program}{f0:Nat}{as0:List A}{v:A}{m0:List (Nat×R)}{g0:Hd}{nx0:Nat}(h0:HdOk P g0)(h:isM (g0 (.fn f0) as0 (trU m0) nx0) v=true):CallT P f0 as0 (applyU (λ_=>none) m0) (.ok v) (applyU (applyU (λ_=>none) m0) []):=by
 unfold isM at h
 split at h
 ·rename_i r n he
  obtain⟨r',u,e,hcall⟩:=h0.fn _ _ _ _ _ _ he
  simp only[List.cons.injEq,Prod.mk.injEq,and_true]at e
  obtain⟨rfl,rfl⟩:=e
  rw[rtEqb_eq h,trU_get]at hcall
  exact hcall
 ·cases h
theorem pure_of_isM{P:Program}{f0:Nat}{as0:List A}{v:A}{g0:Hd}{nx0:Nat}(h0:HdOk P g0)(hx:(A.hsL as0).isEmpty=true)(h:isM (g0 (.fn f0) as0 .nil nx0) v=true):∀m,CallT P f0 as0 m (.ok v) m:=by
 unfold isM at h
 split at h
 ·rename_i r n he
  rw[rtEqb_eq h]at he
  exact pure_of_run h0 hx he
 ·cases h
def anyA(xs:List A):List (List A)->Bool
 |[]=>false
 |l::r=>cond (A.eqbL xs l) true (anyA xs r)
theorem anyA_mem{xs:List A}:∀{L:List (List A)},anyA xs L=true->xs∈L
 |[],h=>by cases h
 |l::r,h=>by
  simp only[anyA]at h
  cases hq:A.eqbL xs l with
  |true=>rw[A.eqbL_eq _ _ hq];simp
  |false=>rw[hq]at h;exact List.mem_cons_of_mem _ (anyA_mem h)
def hitT(f0:Nat)(L:List (List A))(m0:List (Nat×R))(v:A)(g:Hd):Hd:=λc xs t nx=>match c with
 |.fn f=>cond (Nat.beq f f0) (cond (anyA xs L&&subB t m0) (some ([(.ok v,[])],nx)) (g c xs t nx)) (g c xs t nx)
 |_=>g c xs t nx
theorem hitT_ok{P:Program}{f0:Nat}{L:List (List A)}{m0:List (Nat×R)}{v:A}{g g0:Hd}{nx0:Nat}(hg:HdOk P g)(h0:HdOk P g0)(hc:(L.all λas=>clB as m0)=true)(h:(L.all λas=>isM (g0 (.fn f0) as (trU m0) nx0) v)=true):HdOk P (hitT f0 L m0 v g):=by
 refine⟨λf xs t nx outs nx' h'=>?_,λi xs t nx outs nx' h'=>hg.yl _ _ _ _ _ _ h',λf xs t nx outs nx' h'=>hg.ex _ _ _ _ _ _ h'⟩
 replace h':cond (Nat.beq f f0) (cond (anyA xs L&&subB t m0) (some ([(.ok v,[])],nx)) (g (.fn f) xs t nx)) (g (.fn f) xs t nx)=some (outs,nx'):=h'
 cases hf:Nat.beq f f0 with
 |false=>rw[hf]at h';exact hg.fn _ _ _ _ _ _ h'
 |true=>
  rw[hf]at h'
  simp only[cond_true]at h'
  have hf:=Nat.eq_of_beq_eq_true hf;subst hf
  cases hq:anyA xs L&&subB t m0 with
  |false=>rw[hq]at h';exact hg.fn _ _ _ _ _ _ h'
  |true=>
   rw[hq]at h'
   simp only[cond_true,Option.some.injEq,Prod.mk.injEq]at h'
   obtain⟨rfl,rfl⟩:=h'
   rw[Bool.and_eq_true]at hq
   have hx:=anyA_mem hq.1
   have hcall:=mem_of_run h0 (List.all_eq_true.1 h xs hx)
   have hc:=List.all_eq_true.1 hc xs hx
   unfold clB at hc
   simp only[Bool.and_eq_true,List.all_eq_true]at hc
   have hs:=subB_mem hq.2
   have key:∀i r,applyU (λ_=>none) m0 i=some r->(i,r)∈m0:=by
    intro i r hi
    rcases applyU_cases' hi with e|⟨e,_⟩
    ·exact e
    ·cases e
   exact⟨_,_,rfl,CallT.frame (ups:=[]) hcall (λi hi=>keyB_ne (hc.1 i hi)) (λi r hi=>hs (i,r) (key i r hi)) (λi r hi j hj=>keyB_ne (hc.2 _ (key i r hi) j hj)) (λp hp=>by simp at hp)⟩
end Go.Pv
