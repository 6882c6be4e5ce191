import Derived.Test.YtpdcbahjjmooiaaGreatQ7
/- Contracts of functions that the law reaches, and their logic. No conditions. -/
set_option linter.all false
set_option maxRecDepth 100000
set_option maxHeartbeats 8000000
open Go
namespace Go.Pv
open Go.RowKit
variable{n i:Nat}{P:Program}{mb ml:List (Nat×R)}{l:List (Nat×A)}{X Y:Prop}
def bC.a6V{M0 S0:Nat->Prop}{w0:World}{ds0:Option (List DA)}{T:Nat->A}{m:Mem}{ρ:Nat->Value}{a:Act}{w:World}(h:bC M0 S0 w0 ⟨n,ds0⟩ T m ρ a w){m1:Mem}{M1:Nat->Prop}{ds1:List DA}(hM:∀x,M1 x->dD M0 m ρ x)
 (hMo:∀i r x,m1 i=some r->r.live=true->blk (ρ i)=some x->¬M1 x)(hm:∀i r,m1 i=some r->m i=some r)(hT:∀n,∀i∈(T n).hs,m1 i≠none)(hd:iM w (dD M1 m1 ρ) m1 ρ ds1 a.defers)(n0:∀i r,m1 i=some r->∀j∈r.hs,m1 j≠none):bC M1 (oO m1 ρ) w ⟨n,some ds1⟩ T m1 ρ a w:=by
 have Q2:∀b,dD M1 m1 ρ b->b<w.heap.size->dD M0 m ρ b:=by
  rintro b (e|⟨i,r,h1,h2,h3⟩) _
  ·exact hM b e
  ·exact .inr ⟨i,r,hm i r h1,h2,h3⟩
 have aZT:∀{x:A}{y:Value},x.Den w (dD M0 m ρ) m1 ρ y->x.Den w (dD M1 m1 ρ) m1 ρ y:=λ{x y}hd=>A.dC (dV.refl _ w) Q2 (gL.refl m1 ρ) _ _ hd
 exact{keeps:=iF.refl _ _,size:=h.size
       defers:=λds e=>by simp only[aA]at e;subst e;exact hd
       tmps:=λn=>aZT (A.kU hm _ _ (hT n) (h.tmps n))
       res:=λi r hi=>R.hU (dV.refl _ w) Q2 (gL.refl m1 ρ) (λ_ _ _=>rfl) (R.rY hm (n0 i r hi) (h.res i r (hm i r hi)))
       own:=λi r b hi hl hb=>⟨.inr ⟨i,r,hi,hl,hb⟩,hMo i r b hi hl hb,(h.own i r b (hm i r hi) hl hb).2.2⟩
       apart:=λi j r s b hi l1 hj l2 b1 b2=>h.apart i j r s b (hm i r hi) l1 (hm j s hj) l2 b1 b2}
def a3I(i j:Nat)(ml2:List (Nat×R)):List (Nat×R)->Prop
 |[]=>True
 |p::r=>(Nat.beq p.1 i=false/\Nat.beq p.1 j=false/\aK ml2 p.1=some p.2)/\a3I i j ml2 r
def a2T{a b:Nat}(h:Nat.beq a b=false):a≠b:=λe=>by subst e;simp at h
def a3I.at{i j:Nat}{ml2:List (Nat×R)}:∀{ml3:List (Nat×R)},a3I i j ml2 ml3->∀k q,aK ml3 k=some q->k≠i/\k≠j/\aK ml2 k=some q
 |[],_,k,q,h=>by simp[aK]at h
 |p::r,h,k,q,hq=>by
  simp only[aK]at hq;cases hb:Nat.beq p.1 k with
  |true=>
   rw[hb]at hq;simp only[cond_true,aA]at hq;have:=bB hb;subst this;subst hq;exact⟨a2T h.1.1,a2T h.1.2.1,h.1.2.2⟩
  |false=>rw[hb]at hq;exact h.2.at k q hq
def a5B(i:Nat):List (Nat×R)->Prop
 |[]=>True
 |p::r=>Nat.beq p.1 i=false/\a5B i r
def a5B.at{i:Nat}:∀{u:List (Nat×R)},a5B i u->∀p∈u,p.1≠i
 |[],_,p,h=>by simp at h
 |q::r,h,p,hp=>by
  simp[aO]at hp;rcases hp with rfl|hp
  ·exact a2T h.1
  ·exact h.2.at p hp
def aQW{i:Nat}:∀{u:List (Nat×R)}{m:Mem},(∀p∈u,p.1≠i)->aH m u i=m i
 |[],m,_=>rfl
 |p::r,m,h=>by
  simp[aH];rw[aQW λq hq=>h q (by simp[hq])];unfold aX;rw[aT7 (λe=>h p sM e.symm)]
def a65{g:Operand}{ps:Array Tmp}{asg bod:Code}{K:KT}(i j nx:Nat){gf:FuncId}{us vs:List A}{u ml3:List (Nat×R)}{v:A}{ts':List A}{ps':Array Tmp}{asg' bod':Code}
 (hg:dN (lT l) g=.fn (.func gf) us vs\/∃cu cv,dN (lT l) g=.d (.fn (.func gf) cu cv)/\us=cu.map A.d/\vs=cv.map A.d)(hi:aK ml i=none)(hj:aK ml j=none)(hij:Nat.beq i j=false)
 (aVN:aJ P gf (us++([.h j]++vs)) (aK ((j,.lo .ready none (mY n (lT l)) ps asg bod)::ml)) (.ok v) (aH (aK ((j,.lo .ready none (mY n (lT l)) ps asg bod)::ml)) u))
 (hus:rB ((j,.lo .ready none (mY n (lT l)) ps asg bod)::ml) (A.lQ (us++([.h j]++vs))))(n0:H9 ((j,.lo .ready none (mY n (lT l)) ps asg bod)::ml) ((j,.lo .ready none (mY n (lT l)) ps asg bod)::ml))(hui:a5B i u)
 (hj2:aK (u.reverse++(j,.lo .ready none (mY n (lT l)) ps asg bod)::ml) j=some (.lo .ready none ts' ps' asg' bod'))
 (hl3:a3I i j (u.reverse++(j,.lo .ready none (mY n (lT l)) ps asg bod)::ml) ml3)(h1:GF ml3 l)(h2:H9 ml3 ml3)(hb:IW ml3 mb)(hK:K .nm l ml3 nx):RfK P mb n g ps asg bod l ml K:=by
 refine⟨λro wB b ρb ρ a w hs hob cX Q hQ=>?_⟩;have wB:ro=none:=wB.resolve_right (by simp[sC]);subst wB;have a6M:i≠j:=a2T hij;generalize hlo:R.lo .ready none (mY n (lT l)) ps asg bod=lo at aVN hus n0 hj2 hl3;let mS:Mem:=aX (aX (aK ml) i (.df false)) j lo;have aVM:∀k r,aK ((j,lo)::ml) k=some r->mS k=some r:=by
  intro k r hk;rw[lR]at hk;simp only[mS,aX]at hk⊢;split at hk
  ·rename_i e;rw[aUF e];exact hk
  ·rename_i e;rw[aT7 e];split
   ·rename_i e2;subst e2;rw[hi]at hk;cases hk
   ·exact hk
 have a6L:aJ P gf (us++([.h j]++vs)) mS (.ok v) (aH mS u):=by
  refine aJ.frame aVN hus.at aVM (λk r hk=>n0.at k r hk) (λp hp hk=>?_);rw[lR]at hk;simp only[mS,aX]at hk⊢;split at hk
  ·cases hk
  ·rename_i e;rw[aT7 e,aT7 (hui.at p hp)];exact hk
 have PE:aH mS u i=some (.df false):=by
  rw[aQW hui.at];simp[mS,aX,a6M]
 have hm3:∀k q,aK ml3 k=some q->k≠i/\k≠j/\aH mS u k=some q:=by
  intro k q hk;obtain⟨e1,e2,e3⟩:=hl3.at k q hk;refine⟨e1,e2,?_⟩;rw[<-hY]at e3;exact pN u aVM k q e3
 have hjj:aH mS u j=some (.lo .ready none ts' ps' asg' bod'):=by
  rw[<-hY]at hj2;exact pN u aVM j _ hj2
 subst hlo;have h:=eU.rangeFunc (P:=P) (n:=n) (T:=lT l) (m:=aK ml) (ds:=b.das) (g:=g) (ps:=ps) (asg:=asg) (bod:=bod) (Post:=λex T m ds'=>ex=.nm/\T=lT l/\ds'=.s4 i::b.das/\m=aX (aH mS u) j (.lo .exhausted none ts' ps' asg' bod')) hg hi hj a6M a6L
  (λv' e=>⟨.ready,none,ts',ps',asg',bod',hjj,eD,rfl,rfl,rfl,rfl⟩) (λv' e=>by cases e)
 refine h none b.M b.S b.w ρ a w rfl hs cX Q ?_;rintro ex e T' m' ds' ρ' a' w' ⟨rfl,rfl,rfl,rfl⟩ s o d;obtain⟨D,dr,e1,hh,hr⟩:=s.defers _ rfl;have aYF:aX (aH mS u) j (.lo .exhausted none ts' ps' asg' bod') i=some (.df false):=by
  unfold aX;rw[aT7 a6M];exact PE
 have hρ:=eH hh aYF sM;obtain⟨D',hD',hw⟩:=s.res i _ aYF;rw[hρ]at hD';simp only[oN,aA,rX,and_true]at hD';subst hD';have aX2:∀k q,aK ml3 k=some q->aX (aH mS u) j (.lo .exhausted none ts' ps' asg' bod') k=some q:=by
  intro k q hk;obtain⟨_,e2,e3⟩:=hm3 k q hk;unfold aX;rw[aT7 e2];exact e3
 have hDown:=s.own i _ D aYF rfl (by rw[hρ];rfl);have hDl:∀k r x,aK ml3 k=some r->r.live=true->blk (ρ' k)=some x->x≠D:=by
  rintro k r x q1 q2 q3 rfl;have:=s.apart i k _ r x aYF rfl (aX2 k r q1) q2 (by rw[hρ];rfl) q3;exact(hm3 k r q1).1 this.symm
 let b':Bs:=⟨λx=>b.M x\/x=D,oO (aK ml3) ρ',w',D::b.ds⟩;have hs':I1 b' n (lT l) (aK ml3) ρ' a' w':=by
  refine s.a6V (λx hx=>?_) (λk r x q1 q2 q3=>?_) aX2 h1.at ?_ (λk q hk=>h2.at k q hk)
  ·rcases hx with hx|rfl
   ·exact .inl hx
   ·exact .inr ⟨i,_,aYF,rfl,by rw[hρ];rfl⟩
  ·rintro(q|q)
   ·exact(s.own k r x (aX2 k r q1) q2 q3).2.1 q
   ·exact hDl k r x q1 q2 q3 q
  ·exact⟨dr,e1,IL hr⟩
 refine hQ .nm e _ _ b' ρ' a' w' ⟨l,ml3,nx,rfl,rfl,hK⟩ ?_ (by simp[sC]) ?_ hs' ?_ d
 ·refine⟨⟨[D],rfl,λx=>by simp[b'],sM,λx hx=>?_⟩,s.keeps,λx hx=>?_⟩
  ·simp only[aR]at hx;subst hx;refine⟨hDown.1,hDown.2.1,hDown.2.2,?_,by simpa using hw⟩;rintro⟨k,r,q1,q2,q3⟩;exact hDl k r x q1 q2 q3 rfl
  ·obtain⟨k,r,q1,q2,q3⟩:=hx;exact(s.own k r x (aX2 k r q1) q2 q3).1
 ·rintro x (q|rfl)
  ·exact cG (cX x q) s.keeps.size
  ·exact hDown.2.2
 ·have ho:=hob.trans o;intro k hk;obtain⟨k1,k2⟩:=ho k hk;have hZ:=hb.at k hk;cases hq:aK ml3 k with
  |none=>exact absurd hq hZ
  |some r=>
   rw[aX2 k r hq]at k2;exact⟨sM,k2⟩
def WkT(T:Nat->A):List (Nat×A)->Prop
 |[]=>True
 |p::r=>T p.1=p.2/\WkT T r
def WkT.at{T:Nat->A}:∀{l:List (Nat×A)},WkT T l->∀n,lT l n=.x\/lT l n=T n
 |[],_,n=>.inl rfl
 |p::r,h,n=>by
  simp only[lT];cases hb:Nat.beq p.1 n with
  |true=>have:=bB hb;subst this;exact .inr h.1.symm
  |false=>exact h.2.at n
def a3L(hm:P.follows .mixedOrders=true){n:Nat}{c:Code}{T:Nat->A}{l:List (Nat×A)}{ml:List (Nat×R)}{nx:Nat}{K:KT}(hc:sC c=true)(hT:∀k,lT l k=.x\/lT l k=T k)(h:vc P ml n c l ml nx K):eU P true n c T (aK ml) [] λex T' m' ds'=>ds'=[]/\PK K ex T' m':=by
 intro ro M0 S0 w0 ρ a w wB hs cX Q hQ;have hs0:I1 ⟨M0,S0,w0,[]⟩ n (lT l) (aK ml) ρ a w:=
  {keeps:=hs.keeps,size:=hs.size,defers:=hs.defers,res:=hs.res,own:=hs.own,apart:=hs.apart
   tmps:=λk=>by
    rcases hT k with e|e
    · rw[e];simp[A.Den]
    · rw[e];exact hs.tmps k}
 refine uX hm c l ml nx K h ro (.inr hc) ⟨M0,S0,w0,[]⟩ ρ ρ a w hs0 (gL.refl _ ρ) cX Q ?_;intro ex e T' m' b' ρ' a' w' hp hE hb aVU s o d;have:=hb hc;subst this;exact hQ ex e T' m' [] ρ' a' w' ⟨rfl,hp⟩ s o d
def a54(hm:P.follows .mixedOrders=true){o:Oper}{l:List (Nat×A)}{ml:List (Nat×R)}{c:Call}{fo:Operand}{i n:Nat}{ts:List A}{ps:Array Tmp}{asg bod:Code}{u:List (Nat×R)}(l0:List (Nat×A))(nx:Nat)
 (ho:o.op=.call c)(hc:c.callee=.value fo)(hf:dN (lT l) fo=.h i)(hi:aK ml i=some (.lo .ready none ts ps asg bod))(hlen:c.args.size=ps.size)(hps:∀p∈ps.toList,p<n)(hn:ts.length=n)(P0:sC asg=true)(hn2:sC bod=true)
 (hT:WkT (AX (ps.toList.zip (c.args.toList.map (dN (lT l)))) (uA ts)) l0)
 (hA:vc P ml n asg l0 ml nx λex l1 ml1 nx1=>ex=.nm/\aK ml1 i=some (.lo .ready none ts ps asg bod)/\vc P ((i,.lo .busy none ts ps asg bod)::ml1) n bod l1 ((i,.lo .busy none ts ps asg bod)::ml1) nx1 λex l2 ml2 nx2=>ex=.nm/\aK ml2 i=some (.lo .busy none ts ps asg bod)/\I2 ((i,.lo .ready none ts ps asg bod)::ml2) [] (u.reverse++ml))
 (n0:H9 (u.reverse++ml) u):o8 P o (lT l) (aK ml) [(.ok (.d (.v (.bool true))),u)]:=by
 subst hn;refine o8.yield (PostA:=λex T' m' ds'=>ds'=[]/\PK (λex l1 ml1 nx1=>ex=.nm/\aK ml1 i=some (.lo .ready none ts ps asg bod)/\vc P ((i,.lo .busy none ts ps asg bod)::ml1) ts.length bod l1 ((i,.lo .busy none ts ps asg bod)::ml1) nx1 λex l2 ml2 nx2=>ex=.nm/\aK ml2 i=some (.lo .busy none ts ps asg bod)/\I2 ((i,.lo .ready none ts ps asg bod)::ml2) [] (u.reverse++ml)) ex T' m')
  (PostB:=λex T' m' ds'=>ds'=[]/\PK (λex l2 ml2 nx2=>ex=.nm/\aK ml2 i=some (.lo .busy none ts ps asg bod)/\I2 ((i,.lo .ready none ts ps asg bod)::ml2) [] (u.reverse++ml)) ex T' m')
  ho hc hf hi hlen hps (a3L hm P0 hT.at hA) ?_ ?_
 ·rintro ex T1 m1 ds1 ⟨rfl,l1,ml1,nx1,rfl,rfl,rfl,e2,hB⟩;refine⟨rfl,rfl,none,ts,ps,asg,bod,e2,?_⟩;rw[<-lR];exact a3L hm hn2 (λk=>.inr rfl) hB
 ·rintro ex T2 m2 ds2 ⟨rfl,l2,ml2,nx2,rfl,rfl,rfl,e2,hS⟩;refine⟨true,.ready,none,rfl,.busy,none,ts,ps,asg,bod,e2,_,aR.2 rfl,rfl,λj q hq=>?_,λp hp j hj=>?_⟩
  ·rw[hY]at hq;rw[<-lR];exact hS.at j q rfl hq
  ·rw[hY];have:∀{l:List (Nat×R)},H9 (u.reverse++ml) l->p∈l->∀j∈p.2.hs,aK (u.reverse++ml) j≠none:=by
    intro l;induction l with
    |nil=>intro _ h;simp at h
    |cons q l ih=>
     intro h hp;simp[aO]at hp;rcases hp with rfl|hp
     ·exact h.1.at
     ·exact ih h.2 hp
   exact this n0 hp j hj
def ZW(ex:Ex)(id:Nat)(X Y Z:Prop):Prop:=match ex with
 |.nm=>X
 |.ext i=>bK (Nat.beq i id) Y Z
 |.ret=>Z
 |.sE _=>Z
def wj{id:Nat}{Z:Prop}(h:X):ZW .nm id X Y Z:=h
def wk{id:Nat}{Z:Prop}(h:Y):ZW (.ext id) id X Y Z:=by
 have e:Nat.beq id id=true:=sM;simp[ZW,e];exact h
def wl{id:Nat}{Z:Prop}(h:Z):ZW .ret id X Y Z:=h
def cY(hm:P.follows .mixedOrders=true){mb:List (Nat×R)}{n:Nat}{c:Code}{l:List (Nat×A)}{ml:List (Nat×R)}{K:KT}{α β:Type}(Inv:α->Prop)(I:α->List (Nat×A))(J:α->List (Nat×R))(μ:α->Nat)(nx:Nat)(a0:α)(id:Nat)(Exi:β->Prop)(I':β->List (Nat×A))(J':β->List (Nat×R))(nx2:Nat)(hi:Inv a0)(h0:cN mb n l ml (I a0) (J a0))
 (step:∀a,Inv a->vc P mb n c (I a) (J a) nx (λex l' ml' nx'=>ZW ex id (∃a',μ a'<μ a/\Inv a'/\cN mb n l' ml' (I a') (J a')) (∃b,Exi b/\cN mb n l' ml' (I' b) (J' b)) (K ex l' ml' nx')))
 (cont:∀b,Exi b->K (.ext id) (I' b) (J' b) nx2):XB P mb n c l ml K:=by
 refine⟨λro wB b ρb ρ a w hs hob cX Q hQ=>?_⟩;have⟨ρ1,hs1,ho1⟩:=h0 b ρb ρ a w hs hob;refine wpIn_loop_ghost (λj a' w'=>∃x ρ' b',μ x=j/\Inv x/\b.Ext b'/\(sC c=true->b'=b)/\(∀x,b'.M x->x<b'.w.heap.size)/\I1 b' n (lT (I x)) (aK (J x)) ρ' a' w'/\gL (aK mb) (aK (J x)) ρb ρ') (μ a0) ⟨a0,ρ1,b,rfl,hi,.refl b,λ_=>rfl,cX,hs1,ho1⟩ ?_;rintro j a' w' ⟨x,ρ',b1,rfl,hix,hE1,P0,aYE,hs',VV⟩;refine uX hm c _ _ nx _ (step x hix) ro wB b1 ρb ρ' a' w' hs' VV aYE _ ?_;rintro ex e T' m' b2 ρ2 a2 w2 ⟨l',ml',nx',rfl,rfl,h⟩ hE2 hn2 aW3 hs2 ho2 hd;cases hx:ex.MQ with
 |true=>
  obtain⟨rfl,rfl⟩:=(BX hd).1 hx;have⟨x',q1,q2,q3⟩:=h;have⟨ρ3,hs3,ho3⟩:=q3 b2 ρb ρ2 a2 w2 hs2 ho2;exact⟨μ x',q1,x',ρ3,b2,rfl,q2,hE1.trans hE2,λq=>(hn2 q).trans (P0 q),aW3,hs3,ho3⟩
 |false=>
  have hZ:=(BX hd).2 hx;have out:PK K ex (lT l') (aK ml')->Exit.then (λa' w'=>∃i,i<μ x/\∃x ρ' b',μ x=i/\Inv x/\b.Ext b'/\(sC c=true->b'=b)/\(∀x,b'.M x->x<b'.w.heap.size)/\I1 b' n (lT (I x)) (aK (J x)) ρ' a' w'/\gL (aK mb) (aK (J x)) ρb ρ') Q e a2 w2:=λhk=>by
   have:=hQ ex e _ _ b2 ρ2 a2 w2 hk (hE1.trans hE2) (λq=>(hn2 q).trans (P0 q)) aW3 hs2 ho2 hd;cases e<;>first|exact this|exact absurd rfl hZ
  cases ex with
  |nm=>cases hx
  |ret=>exact out ⟨l',ml',nx',rfl,rfl,h⟩
  |sE v=>exact out ⟨l',ml',nx',rfl,rfl,h⟩
  |ext i=>
   simp[ZW]at h;cases hb:Nat.beq i id with
   |false=>rw[hb]at h;exact out ⟨l',ml',nx',rfl,rfl,h⟩
   |true=>
    rw[hb]at h;have:=bB hb;subst this;have⟨y,q2,q3⟩:=h;have⟨ρ3,hs3,ho3⟩:=q3 b2 ρb ρ2 a2 w2 hs2 ho2;have hd':(Ex.ext i).Den w2 (dD b2.M (aK (J' y)) ρ3) (aK (J' y)) ρ3 e:=hd;have:=hQ (.ext i) e _ _ b2 ρ3 a2 w2 ⟨_,_,nx2,rfl,rfl,cont y q2⟩ (hE1.trans hE2) (λq=>(hn2 q).trans (P0 q)) aW3 hs3 ho3 hd';cases e<;>first|exact this|exact absurd rfl hZ
def cN.sub{l':List (Nat×A)}{ml':List (Nat×R)}(hb:IW ml' mb)(hl:YY l l')(hm:I2 ml [] ml')(h1:GF ml' l')(h2:H9 ml' ml'):cN mb n l ml l' ml':=by
 intro b ρb ρ a w hs ho;have hs0:bC b.M b.S b.w ⟨n,some b.das⟩ (lT l') (aK ml) ρ a w:=
  {keeps:=hs.keeps,size:=hs.size,defers:=hs.defers,res:=hs.res,own:=hs.own,apart:=hs.apart
   tmps:=λk=>by
    rcases hl.at k with e|e
    · rw[e];simp[A.Den]
    · rw[e];exact hs.tmps k}
 refine⟨ρ,hs0.drop (λk q hq=>hm.at k q rfl hq) h1.at (λds e d hd i hi=>by simp[aA]at e;subst e;exact(aEF d hd i hi).elim) (λk q hq=>h2.at k q hq),?_⟩;intro k hk;have⟨k1,k2⟩:=ho k hk;have hZ:=hb.at k hk;cases hq:aK ml' k with
 |none=>exact absurd hq hZ
 |some q=>
  rw[hm.at k q rfl hq]at k2;exact⟨sM,k2⟩
def aNQ{g:Nat->Nat}{r:R}(h:aK ml i=some r)(hr:r.eZ g=r):(aK ml i).map (R.eZ g)=some r:=by
 rw[h];show some (r.eZ g)=some r;rw[hr]
def wz{nx:Nat}{g:Operand}{ps:Array Tmp}{asg bod:Code}{K:KT}(h:RfK P mb n g ps asg bod l ml K):vc P mb n (.rangeFunc g ps asg bod) l ml nx K:=h
def a4F{g:Operand}{ps:Array Tmp}{asg bod:Code}{K:KT}(i j nx:Nat){gf:FuncId}{us vs:List A}(u ml3:List (Nat×R)){v:A}
 (hg:dN (lT l) g=.fn (.func gf) us vs\/∃cu cv,dN (lT l) g=.d (.fn (.func gf) cu cv)/\us=cu.map A.d/\vs=cv.map A.d)(hi:aK ml i=none)(hj:aK ml j=none)(hij:Nat.beq i j=false)
 (aVN:aJ P gf (us++([.h j]++vs)) (aK ((j,.lo .ready none (mY n (lT l)) ps asg bod)::ml)) (.ok v) (aH (aK ((j,.lo .ready none (mY n (lT l)) ps asg bod)::ml)) u))
 (hus:rB ((j,.lo .ready none (mY n (lT l)) ps asg bod)::ml) (A.lQ (us++([.h j]++vs))))(n0:H9 ((j,.lo .ready none (mY n (lT l)) ps asg bod)::ml) ((j,.lo .ready none (mY n (lT l)) ps asg bod)::ml))(hui:a5B i u)
 (hj2:aK (u.reverse++(j,.lo .ready none (mY n (lT l)) ps asg bod)::ml) j=some (.lo .ready none (mY n (lT l)) ps asg bod))
 (hl3:a3I i j (u.reverse++(j,.lo .ready none (mY n (lT l)) ps asg bod)::ml) ml3)(h1:GF ml3 l)(h2:H9 ml3 ml3)(hb:IW ml3 mb)(hK:K .nm l ml3 nx):RfK P mb n g ps asg bod l ml K:=a65 i j nx hg hi hj hij aVN hus n0 hui hj2 hl3 h1 h2 hb hK
def a2Q(hm:P.follows .mixedOrders=true){o:Oper}{l:List (Nat×A)}{ml:List (Nat×R)}{c:Call}{fo:Operand}{i n:Nat}{ts:List A}{ps:Array Tmp}{asg bod:Code}{u:List (Nat×R)}(l0:List (Nat×A))(nx:Nat)(mlf:R->List (Nat×R))
 (ho:o.op=.call c)(hc:c.callee=.value fo)(hf:dN (lT l) fo=.h i)(hml:ml=mlf (.lo .ready none ts ps asg bod))(hi:∀L,aK (mlf L) i=some L)(hlen:c.args.size=ps.size)(hps:∀p∈ps.toList,p<n)(hn:ts.length=n)(P0:sC asg=true)(hn2:sC bod=true)
 (hT:WkT (AX (ps.toList.zip (c.args.toList.map (dN (lT l)))) (uA ts)) l0)
 (hA:∀LR LB:R,LR.hs=A.lQ ts->LB.hs=A.lQ ts->vc P (mlf LR) n asg l0 (mlf LR) nx λex l1 ml1 nx1=>ex=.nm/\aK ml1 i=some LR/\vc P ((i,LB)::ml1) n bod l1 ((i,LB)::ml1) nx1 λex l2 ml2 nx2=>ex=.nm/\aK ml2 i=some LB/\I2 ((i,LR)::ml2) [] (u.reverse++mlf LR))
 (n0:H9 (u.reverse++ml) u):o8 P o (lT l) (aK ml) [(.ok (.d (.v (.bool true))),u)]:=by
 subst hml;exact a54 hm l0 nx ho hc hf (hi _) hlen hps hn P0 hn2 hT (hA _ _ rfl rfl) n0
def a6S{fz:Bool}{kv kv':List (Ky×A)}(h:aK ml i=some (.mp fz kv []))(he:kv=kv'):aK ml i=some (.mp fz kv' []):=by rw[h,he]
structure Hid(Q:Prop):Prop where
 h:Q
def bl{P Q:Prop}(q:Q)(h:Hid Q->P:=by
 intro q
 first
 |with_reducible (first|refine w9 ?_|refine nN.mk ?_|refine w1 ?_|refine w4 ?_|refine w2 ?_|refine w5 ?_|refine O8.f rfl ?_|refine wc ?_|refine O8.t rfl ?_|refine w3 ?_|refine wa ?_|refine we ?_|refine wb ?_|refine w8 ?_|refine wd ?_|refine wj ?_|refine wk ?_|refine wl ?_|refine w6 ?_|refine w7 ?_|refine wf rfl ?_|refine wm rfl ?_)
 |((with_reducible (first|refine wr ?_|refine wi ?_|refine wx ?_|refine wh ?_|refine wg ?_|refine wy ?_));(conv=>whnf))
 |((with_reducible refine wu ?_);(conv=>whnf))
 |(with_reducible refine aJH.mk (by kernel_rfl) ?_)
 |(refine fZ.mk _ rfl ?_;(conv=>whnf))
 |((with_reducible refine FC.mk (RG (by(try dsimp only);omega) (by(try dsimp only);omega)) ?_);(conv=>whnf))
 repeat'(first
  |with_reducible (first|refine w9 ?_|refine nN.mk ?_|refine w1 ?_|refine w4 ?_|refine w2 ?_|refine w5 ?_|refine O8.f rfl ?_|refine wc ?_|refine O8.t rfl ?_|refine w3 ?_|refine wa ?_|refine we ?_|refine wb ?_|refine w8 ?_|refine wd ?_|refine wj ?_|refine wk ?_|refine wl ?_|refine w6 ?_|refine w7 ?_|refine wf rfl ?_|refine wm rfl ?_)
  |((with_reducible (first|refine wr ?_|refine wi ?_|refine wx ?_|refine wh ?_|refine wg ?_|refine wy ?_));(conv=>whnf))
  |((with_reducible refine wu ?_);(conv=>whnf))
  |(with_reducible refine aJH.mk (by kernel_rfl) ?_)
  |(refine fZ.mk _ rfl ?_;(conv=>whnf))
  |((with_reducible refine FC.mk (RG (by(try dsimp only);omega) (by(try dsimp only);omega)) ?_);(conv=>whnf)))
 exact q.h):P:=h ⟨q⟩
def bS{b:Bool}{X' Y' p q:Prop}(h1:p->X')(h2:q->Y')(e1:b=true->p:=by intro h;conv at h=>{simp};exact h)(e2:b=false->q:=by intro h;conv at h=>{simp};exact h)
 (f1:b=true->X'->X:=by intro h q;(try rw[h]);exact q)(f2:b=false->Y'->Y:=by intro h q;(try rw[h]);exact q):O8 b X Y:=
 nQ (λh=>f1 h (h1 (e1 h))) λh=>f2 h (h2 (e2 h))
def mv(i j:Nat){mb:List (Nat×R)}{n:Nat}{l l':List (Nat×A)}{ml ml':List (Nat×R)}
 (h:M3 i j ml' mb/\KP (swp i j) l l'/\I8 (swp i j) ml ml'/\GF ml' l'/\H9 ml' ml':=by repeat'(first|exact aW|exact rfl|exact sn|exact aZ|exact wW|exact IK rfl|exact cO rfl rfl|exact aD4 rfl|exact KS rfl rfl|exact aEP|exact aNQ rfl (by assumption)|exact hlo _ sn sn sn sn sn|exact hlo _ sn sn|(refine qD ?_;simp only[aB,bE];done)|(refine aDO ?_;(try dsimp only);omega)|refine bI ?_ ?_)):cN mb n l ml l' ml':=
 cN.swap i j h.1 h.2.1 h.2.2.1 h.2.2.2.1 h.2.2.2.2
def em{u:List (Nat×R)}{r v:A}(h1:v=r:=by exact rfl)(h2:I2 ml [] (u.reverse++mb):=by repeat'(first|exact aW|exact rS rfl|exact eV rfl|refine bI ?_ ?_)):U8 mb r u v ml:=dA h1 h2
def bw{P Q:Prop}(q:Q)(h:Hid Q->P:=by intro q;(conv=>whnf);exact q.h):P:=h ⟨q⟩
def iC(hm:P.follows .mixedOrders=true){f:FuncId}{fn:Func}{c:Code}{as:List A}{r:A}(hf:P.funcs[f]?=some fn)
 (h:vc P [] fn.ntmps c (C9 0 as) [] 1 (JS P fn λv ml=>A1 (aK ml) v r))
 (hb:fn.body=some c:=by exact rfl)(n0:kW P f=true:=by kernel_rfl)(hn:as.length<=fn.ntmps:=by exact bD rfl)(has:A.lQ as=[]:=by exact rfl)(m:Mem):aJ P f as m (.ok r) m:=
 CV hm hf hb n0 hn has h m
def wE(hm:P.follows .mixedOrders=true){f:FuncId}{fn:Func}{c:Code}{as:List A}{r:A}{mb u:List (Nat×R)}(nx:Nat)(hf:P.funcs[f]?=some fn)
 (hv:rB (u.reverse++mb) r.hs)(hc:H9 (u.reverse++mb) u)(h:vc P mb fn.ntmps c (C9 0 as) mb nx (JS P fn (U8 mb r u)))
 (hb:fn.body=some c:=by exact rfl)(n0:kW P f=true:=by kernel_rfl)(hn:as.length<=fn.ntmps:=by exact bD rfl):aJ P f as (aK mb) (.ok r) (aH (aK mb) u):=
 V6 hm nx hf hb n0 hn hv hc h
def ow{n:Int}{len:Nat}{K:Nat->Prop}(j:Nat)(k:K j)(h:n=j:=by exact rfl)(cX:j<len:=by simp only[bE,cE,aB,aAH];omega):lG n len K:=.mk j h cX k
def ow2{n:Int}{len:Nat}{K:Nat->Prop}(j:Nat)(k:K j)(h:n=j:=by omega)(cX:j<len:=by simp only[bE,cE,aB,aAH];omega):lG n len K:=.mk j h cX k
def mq(i j:Nat){mb:List (Nat×R)}{n:Nat}{l l':List (Nat×A)}{ml ml':List (Nat×R)}{Q:Prop}(q:Q)
 (h:Hid Q->M3 i j ml' mb/\KP (swp i j) l l'/\I8 (swp i j) ml ml'/\GF ml' l'/\H9 ml' ml':=by intro q;repeat'(first|exact aW|exact rfl|exact sn|exact aZ|exact wW|exact IK rfl|exact cO rfl rfl|exact aD4 rfl|exact KS rfl rfl|exact aEP|exact aNQ rfl (by assumption)|exact hlo _ sn sn sn sn sn|exact hlo _ sn sn|exact rS sn|exact eV rfl|(refine qD ?_;simp only[aB,bE];done)|(refine aDO ?_;(try dsimp only);omega)|refine bI ?_ ?_|exact q.h)):cN mb n l ml l' ml':=
 have a:=h ⟨q⟩
 cN.swap i j a.1 a.2.1 a.2.2.1 a.2.2.2.1 a.2.2.2.2
def mZ{l':List (Nat×A)}{ml':List (Nat×R)}(h:cN mb n l ml l' ml':=by exact mv 5000 5001):cN mb n l ml l' ml':=h
end Go.Pv
