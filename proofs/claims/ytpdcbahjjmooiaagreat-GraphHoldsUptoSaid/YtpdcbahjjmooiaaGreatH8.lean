import Derived.Test.YtpdcbahjjmooiaaGreatH7
/- A program logic over the model, contracts of the functions that the law reaches: part 8. (Names and blanks were shortened by program.) -/
set_option linter.unusedVariables false
set_option linter.unusedSimpArgs false
set_option linter.constructorNameAsVariable false
set_option linter.unusedSectionVars false
set_option linter.deprecated false
set_option maxRecDepth 100000
set_option maxHeartbeats 8000000
open Go
namespace Go.Pv
open Go.RowKit
variable{o:Oper}{v:A}{m' m:Mem}{pre:Bool}{d:Nat}{P:Program}{T:Nat->A}{outs:List (Ot×Nat)}
structure Q4(α:Type)where
 a:α
 b:α
 c:α
 d:α
structure wN(S B:Type)where
 get:S->B
 set:B->S->S
def q4(α:Type)(i:Nat):wN (Q4 α) α:=
 Nat.casesOn (motive:=λ_=>wN (Q4 α) α) i ⟨λq=>Q4.casesOn (motive:=λ_=>α) q λa _ _ _=>a,λx q=>Q4.casesOn (motive:=λ_=>Q4 α) q λ_ b c d=>⟨x,b,c,d⟩⟩
  λi=>Nat.casesOn (motive:=λ_=>wN (Q4 α) α) i ⟨λq=>Q4.casesOn (motive:=λ_=>α) q λ_ b _ _=>b,λx q=>Q4.casesOn (motive:=λ_=>Q4 α) q λa _ c d=>⟨a,x,c,d⟩⟩
   λi=>Nat.casesOn (motive:=λ_=>wN (Q4 α) α) i ⟨λq=>Q4.casesOn (motive:=λ_=>α) q λ_ _ c _=>c,λx q=>Q4.casesOn (motive:=λ_=>Q4 α) q λa b _ d=>⟨a,b,x,d⟩⟩
    λ_=>⟨λq=>Q4.casesOn (motive:=λ_=>α) q λ_ _ _ d=>d,λx q=>Q4.casesOn (motive:=λ_=>Q4 α) q λa b c _=>⟨a,b,c,x⟩⟩
def wN.comp{S B C:Type}(l1:wN S B)(l2:wN B C):wN S C:=
 wN.casesOn (motive:=λ_=>wN S C) l1 λg1 s1=>wN.casesOn (motive:=λ_=>wN S C) l2 λg2 s2=>⟨λs=>g2 (g1 s),λx s=>s1 (s2 x (g1 s)) s⟩
def Sep{S B:Type}(k:Nat)(L:Nat->wN S B):Prop:=∀i j x s,i<k->j<k->(L j).get ((L i).set x s)=if j=i then x else(L j).get s
theorem QZ(α:Type):Sep 4 (q4 α):=by
 intro i j x s hi hj;obtain⟨a,b,c,d⟩:=s
 match i,j,hi,hj with
 |0,0,_,_=>rfl
 |0,1,_,_=>rfl
 |0,2,_,_=>rfl
 |0,3,_,_=>rfl
 |1,0,_,_=>rfl
 |1,1,_,_=>rfl
 |1,2,_,_=>rfl
 |1,3,_,_=>rfl
 |2,0,_,_=>rfl
 |2,1,_,_=>rfl
 |2,2,_,_=>rfl
 |2,3,_,_=>rfl
 |3,0,_,_=>rfl
 |3,1,_,_=>rfl
 |3,2,_,_=>rfl
 |3,3,_,_=>rfl
 |i+4,_,h,_=>exact absurd h oM
 |_,j+4,_,h=>exact absurd h oM
theorem LM{S B C:Type}{k:Nat}{L:Nat->wN S B}{M:Nat->wN B C}(hk:0<k)(hL:Sep 4 L)(hM:Sep k M):Sep (4*k) (λn=>(L (n/k)).comp (M (n %k))):=by
 intro i j x s hi hj;have h1:i/k<4:=(nA hk).2 hi;have h2:j/k<4:=(nA hk).2 hj;have h3:=u5 i hk;have h4:=u5 j hk;show(M (j %k)).get ((L (j/k)).get ((L (i/k)).set ((M (i %k)).set x ((L (i/k)).get s)) s))=if j=i then x else(M (j %k)).get ((L (j/k)).get s)
 rw[hL _ _ _ _ h1 h2];by_cases e:j/k=i/k
 ·rw[aUF e,hM _ _ _ _ h3 h4,e];by_cases e2:j %k=i %k
  ·have:j=i:=by rw[<-Nat.div_add_mod j k,<-Nat.div_add_mod i k,e,e2]
   rw[aUF e2,aUF this]
  ·have:j≠i:=λq=>e2 (by rw[q]);rw[aT7 e2,aT7 this]
 ·have:j≠i:=λq=>e (by rw[q]);rw[aT7 e,aT7 this]
abbrev WT:=Q4 (Q4 A)
abbrev XJ:=Q4 (Q4 (Q4 A))
abbrev aLK:=Q4 (Q4 (Q4 (Q4 A)))
def l16(n:Nat):wN WT A:=(q4 (Q4 A) (n/4)).comp (q4 A (n %4))
def l64(n:Nat):wN XJ A:=(q4 WT (n/16)).comp (l16 (n %16))
def aDX(n:Nat):wN aLK A:=(q4 XJ (n/64)).comp (l64 (n %64))
theorem aK6:Sep 256 aDX:=LM (k:=64) eD (QZ _) (LM (k:=16) eD (QZ _) (LM (k:=4) eD (QZ _) (QZ _)))
structure Tb where
 t:aLK
 o:Tr A
def aEA:Q4 A:=⟨.x,.x,.x,.x⟩
def TP:WT:=⟨aEA,aEA,aEA,aEA⟩
def EF:XJ:=⟨TP,TP,TP,TP⟩
def Tb.nil:Tb:=⟨⟨EF,EF,EF,EF⟩,.nil⟩
def Tb.fn(t:Tb)(n:Nat):A:=Bool.casesOn (motive:=λ_=>A) (Nat.blt n 256) (t.o.fn n) (wN.casesOn (motive:=λ_=>A) (aDX n) λg _=>g t.t)
def Tb.set(t:Tb)(n:Nat)(x:A):Tb:=Tb.casesOn (motive:=λ_=>Tb) t λq o=>Bool.casesOn (motive:=λ_=>Tb) (Nat.blt n 256) ⟨q,Tr.set 0 o n x⟩ (wN.casesOn (motive:=λ_=>Tb) (aDX n) λ_ s=>⟨s x q,o⟩)
def Tb.put(t:Tb)(d:Option Nat)(x:A):Tb:=Option.casesOn (motive:=λ_=>Tb) d t λn=>t.set n x
theorem Tb.SQ(t:Tb){n:Nat}(h:n<256):t.fn n=(aDX n).get t.t:=by
 have e:Nat.blt n 256=true:=by simpa [rR]using h
 unfold Tb.fn;rw[e]
theorem Tb.SP(t:Tb){n:Nat}(h:¬n<256):t.fn n=t.o.fn n:=by
 have e:Nat.blt n 256=false:=by
  cases q:Nat.blt n 256 with
  |false=>rfl
  |true=>exact absurd (by simpa [rR]using q) h
 unfold Tb.fn;rw[e]
theorem Tb.FU(t:Tb)(n:Nat)(x:A):(t.set n x).fn=lI t.fn (some n) x:=by
 funext k;obtain⟨q,o⟩:=t;by_cases hn:n<256
 ·have e:Nat.blt n 256=true:=by simpa [rR]using hn
  have hs:(Tb.mk q o).set n x=⟨(aDX n).set x q,o⟩:=by unfold Tb.set;rw[e]
  rw[hs];by_cases hk:k<256
  ·rw[Tb.SQ _ hk];simp only[lI];rw[aK6 n k x q hn hk];by_cases q1:k=n
   ·subst q1;simp
   ·rw[aT7 q1,aT7 (λe=>q1 (by simpa using e.symm)),Tb.SQ _ hk]
  ·rw[Tb.SP _ hk];simp only[lI];rw[aT7 (λe=>hk (by simp only[aA]at e;omega)),Tb.SP _ hk]
 ·have e:Nat.blt n 256=false:=by
   cases q:Nat.blt n 256 with
   |false=>rfl
   |true=>exact absurd (by simpa [rR]using q) hn
  have hs:(Tb.mk q o).set n x=⟨q,Tr.set 0 o n x⟩:=by unfold Tb.set;rw[e]
  rw[hs];by_cases hk:k<256
  ·rw[Tb.SQ _ hk];simp only[lI];rw[aT7 (λe=>hn (by simp only[aA]at e;omega)),Tb.SQ _ hk]
  ·rw[Tb.SP _ hk,Tr.FU];simp only[lI];rw[Tb.SP _ hk]
theorem Tb.VU(t:Tb)(d:Option Nat)(x:A):(t.put d x).fn=lI t.fn d x:=by
 cases d with
 |none=>funext k;simp[Tb.put,lI]
 |some n=>exact Tb.FU t n x
theorem IM{α:Type}(x:α):∀i,(q4 α i).get ⟨x,x,x,x⟩=x
 |0=>rfl
 |1=>rfl
 |2=>rfl
 |_+3=>rfl
theorem Tb.aCX(n:Nat):Tb.nil.fn n=.x:=by
 by_cases hn:n<256
 ·rw[Tb.SQ _ hn];show(q4 A (n %64 %16 %4)).get ((q4 (Q4 A) (n %64 %16/4)).get ((q4 WT (n %64/16)).get ((q4 XJ (n/64)).get ⟨EF,EF,EF,EF⟩)))=.x;rw[IM];unfold EF;rw[IM];unfold TP;rw[IM];unfold aEA;rw[IM]
 ·rw[Tb.SP _ hn];show Tr.fn .nil n=.x;rw[Tr.aCW,Tr.get_nil];rfl
def zL(m:Mem):A->Option (List (Nat×R)×Nat×List (List A))
 |.sv i lo n=>match m i with
  |some (.fW fz t es l)=>some (if fz then []else [(i,.fW true t es l)],es,(l.drop lo).take n)
  |_=>none
 |.d (.sl es l)=>some ([],es,l.map (·.map A.d))
 |.d (.nl es)=>some ([],es,[])
 |_=>none
def gV(P:Program)(m:Mem)(T:Nat->A)(d:Nat)(o:Oper):Option E:=
 match o.op with
 |.slice t x lo (some hi) (some mx)=>match dN T hi,dN T mx with
  |.d (.v (.int k a)),.d (.v (.int k' b))=>match jW P m t (dN T x) (lo.map (dN T)) (some (.d (.v (.int k a)))) (some (.d (.v (.int k' b))))with
   |some (pre,v,_)=>match zL m v with
    |some (u,es,rows)=>cond (decide (a=b)) (some (pre&&(jN m d&&decide (es=P.cellsOf ((j8 P t).getD 0))),.h d,u++[(d,.cu v es rows)])) none
    |none=>none
   |none=>none
  |_,_=>none
 |.call c=>match c.callee,c.args.toList,c.argTypes.toList with
  |.builtin .append,[x,y],[t,t']=>match dN T x with
   |.h i=>match m i with
    |some (.cu src es l)=>match dO m (dN T y),j8 P t with
     |some l2,some e=>match o5 P e with
      |some z=>match l2 with
       |[]=>some (decide (t=t'/\0<P.cellsOf e),.h i,[])
       |_=>some (decide (t=t'/\es=P.cellsOf e/\z.length=es/\0<es/\0<P.bytesOf e/\(l.length+l2.length)*P.bytesOf e<=140737488355328)&&(qW m es (dN T y)&&jN m d),.h d,[(d,.fW false e es (l++l2))])
      |none=>none
     |_,_=>none
    |_=>none
   |.sv i lo n=>match m i with
    |some (.fW false te es l)=>match Nat.beq (lo+n) l.length with
     |true=>match dO m (dN T y),j8 P t with
      |some l2,some e=>match o5 P e with
       |some z=>match l2 with
        |[]=>none
        |_=>some (decide (t=t'/\te=e/\es=P.cellsOf e/\z.length=es/\0<es/\0<P.bytesOf e/\((l.drop lo).length+l2.length)*P.bytesOf e<=140737488355328)&&(qW m es (dN T y)&&jN m d),.h d,[(i,.dead),(d,.fW false e es (l.drop lo++l2))])
       |none=>none
      |_,_=>none
     |false=>none
    |_=>none
   |_=>none
  |_,_,_=>none
 |_=>none
def yW(m:Mem):A->A
 |.h i=>match m i with
  |some (.cu src _ _)=>src
  |_=>.h i
 |x=>x
section
variable{M0 S0:Nat->Prop}{w0:World}{N:Fr}{T:Nat->A}{m:Mem}{ρ:Nat->Value}{a:Act}{w:World}{P:Program}
theorem W5(h:bC M0 S0 w0 N T m ρ a w){x:A}{y:Value}(hx:x.Den w (dD M0 m ρ) m ρ y):(yW m x).Den w (dD M0 m ρ) m ρ y:=by
 unfold yW;split
 ·rename_i i;split
  ·rename_i src es l hm;simp only[A.Den]at hx;have hv:=eH hx hm sM;obtain⟨_,_,h1,_⟩:=h.res i _ hm;rw[hv];exact h1
  ·exact hx
 ·exact hx
theorem qT.yW{o:Oper}{v:A}{m':Mem}(I5:qT P o (λt=>yW m (T t)) m v m'):qT P o T m v m':=by
 intro ro N M0 S0 w0 ρ a w h cX next Q hn
 have h':bC M0 (oO m ρ) w N (λt=>Pv.yW m (T t)) m ρ a w:=
  {h.now with tmps:=λt=>W5 h (h.tmps t)}
 refine I5 ro N M0 (oO m ρ) w ρ a w h' (λb hb=>cG (cX b hb) h.keeps.size) next Q ?_
 intro y w' ρ' hs hO hv;exact hn y w' ρ' (h.back hs hO) hO hv
theorem ZV(h:bC M0 S0 w0 N T m ρ a w){v:A}{y:Value}{u:List (Nat×R)}{es:Nat}{rows:List (List A)}(hv:v.Den w (dD M0 m ρ) m ρ y)(hc:zL m v=some (u,es,rows)):
 dO m v=some rows/\(∀e∈rows,e.length=es)/\((u=[])\/∃i lo n t l,v=.sv i lo n/\m i=some (.fW false t es l)/\u=[(i,.fW true t es l)]):=by
 unfold zL at hc;split at hc
 ·rename_i i lo n;split at hc
  ·rename_i fz t es' l hm;simp only[aA,aD]at hc;obtain⟨rfl,rfl,rfl⟩:=hc;obtain⟨_,_,_,h3,_⟩:=h.res i _ hm;refine⟨by simp[dO,hm],λe he=>h3 e (dI (dJ he)),?_⟩;cases fz with
   |true=>exact .inl rfl
   |false=>exact .inr ⟨i,lo,n,t,l,rfl,hm,rfl⟩
  ·cases hc
 ·rename_i es' l;simp only[aA,aD]at hc;obtain⟨rfl,rfl,rfl⟩:=hc;simp only[A.Den,C.Den]at hv;obtain⟨ad,cap,rfl,_,hl⟩:=hv;refine⟨rfl,?_,.inl rfl⟩;rcases hl with rfl|⟨b,off,_,_,_,hr⟩
  ·simp
  ·intro e he;obtain⟨c,hc,rfl⟩:=aA4.1 he;obtain⟨k,hk⟩:=List.getElem?_of_mem hc;have:=(C.tX.1 hr k c hk).1;simpa using this
 ·simp only[aA,aD]at hc;obtain⟨rfl,rfl,rfl⟩:=hc;exact⟨rfl,sM,.inl rfl⟩
 ·cases hc
theorem aCD(h:bC M0 S0 w0 N T m ρ a w){v:A}{y:Value}{es:Nat}{rows:List (List A)}(wP:0<es)(hv:v.Den w (dD M0 m ρ) m ρ y)(hs:dO m v=some rows)(hr:∀e∈rows,e.length=es)
 (hfz:∀i lo n,v=.sv i lo n->∃t l,m i=some (.fW true t es l))(hnh:∀i,v≠.h i)(a1B:∃a n,y=.slice a n n):
 ∃ad,y=.slice ad rows.length rows.length/\(rows=[]\/∃b off xs,ad=some ⟨b,off,none⟩/\¬dD M0 m ρ b/\b<w.heap.size/\A.bR w (dD M0 m ρ) m ρ rows.flatten xs/\(∀u∈xs,u.oneCell'=true)/\∀(j:Nat)(z:Value),xs[j]?=some z->w.cell? ⟨b,off+j,none⟩=some z):=by
 obtain⟨ad,cap,news,rfl,E0,h1,h2,h3⟩:=IT h hv hs hr;obtain⟨a',n',e⟩:=a1B;simp only[Value.slice.injEq]at e;obtain⟨rfl,rfl,rfl⟩:=e;refine⟨ad,rfl,?_⟩;by_cases hn:rows=[]
 ·exact .inl hn
 have aWU:0<rows.length:=gH.2 hn;right;obtain⟨dd,rfl,aW7⟩:=h3.resolve_left λ⟨_,e⟩=>hn e;have key:∃b off,dd=⟨b,off,none⟩/\¬dD M0 m ρ b/\b<w.heap.size:=by
  cases v with
  |h i=>exact absurd rfl (hnh i)
  |sv i lo n=>
   obtain⟨t,l,hm⟩:=hfz i lo n rfl;simp only[A.Den]at hv;obtain⟨ad2,cap2,e1,_,es2,fz2,t2,l2,e2,e3,e4⟩:=eH hv hm sM;rw[hm]at e2;simp at e2;obtain⟨rfl,rfl,rfl,rfl⟩:=e2;simp at e1;obtain⟨rfl,rfl,rfl⟩:=e1;obtain⟨b,og,n',cap',e5,e6,_⟩:=e4.resolve_left oM;simp at e6;subst e6;obtain⟨xs,g1,g2,g3,g4,g5⟩:=h.res i _ hm;rw[e5]at g1 g4;rcases g1 with⟨_,_,_,q⟩|⟨_,g,og,c,cur,q,hp,hg,_⟩
   ·simp at q;omega
   ·simp at q;obtain⟨⟨rfl,rfl⟩,rfl,rfl⟩:=q;exact⟨b,_,rfl,g4 rfl b (by simp[jK];omega),(aL.1 hg).1⟩
  |d c=>
   cases c with
   |sl es' l'=>
    simp only[A.Den,C.Den]at hv;obtain⟨ad2,cap2,e1,_,e2⟩:=hv;simp only[dO,aA]at hs;subst hs;simp at e1;obtain⟨rfl,_⟩:=e1;obtain⟨b,off,e3,e4,e5,_⟩:=e2.resolve_left (by rintro rfl;simp at aWU);simp at e3;exact⟨b,off,e3,e4,e5⟩
   |nl es'=>simp only[dO,aA]at hs;subst hs;exact absurd rfl hn
   |_=>simp[dO]at hs
  |_=>simp[dO]at hs
 obtain⟨b,off,rfl,hM,hb⟩:=key;exact⟨b,off,news,rfl,hM,hb,h2,h1,λj z hj=>by have:=aW7 j z hj;rwa [eP]at this⟩
theorem bC.aLM(h:bC M0 S0 w0 N T m ρ a w){d:Nat}(hd:m d=none){r:R}{v:Value}(hl:r.live=false)(mS:gL m (aX m d r) ρ (dW ρ d v)->(∀b,dD M0 (aX m d r) (dW ρ d v) b->dD M0 m ρ b)->R.Ok w (dD M0 (aX m d r) (dW ρ d v)) (aX m d r) (dW ρ d v) v r):
 bC M0 S0 w0 N T (aX m d r) (dW ρ d v) a w:=by
 have hO:gL m (aX m d r) ρ (dW ρ d v):=gL.new r v hd;have hm:∀b,dD M0 (aX m d r) (dW ρ d v) b->dD M0 m ρ b:=by
  rintro b (e|⟨i,r1,hi,BB,hb⟩)
  ·exact .inl e
  ·by_cases e:i=d
   ·subst e;simp[aX]at hi;subst hi;rw[hl]at BB;cases BB
   ·exact .inr ⟨i,r1,by simpa [aX,e]using hi,BB,by simpa [dW,e]using hb⟩
 have zI:∀b,dD M0 (aX m d r) (dW ρ d v) b->b<w.heap.size->dD M0 m ρ b:=λb hb _=>hm b hb;have liv:∀j r1,aX m d r j=some r1->r1.live=true->j≠d/\m j=some r1:=by
  intro j r1 hj BB;have e:j≠d:=by rintro rfl;simp[aX]at hj;subst hj;rw[hl]at BB;cases BB
  exact⟨e,by simpa [aX,e]using hj⟩
 have hH:∀j,j≠d->dW ρ d v j=ρ j:=λj e=>by simp[dW,e]
 refine{keeps:=h.keeps,size:=h.size,defers:=λds e=>eJ (dV.refl _ w) zI hO _ _ (h.defers ds e)
        tmps:=λn=>A.dC (dV.refl _ w) zI hO _ _ (h.tmps n)
        res:=λj r1 hj=>?_,own:=λj r1 b hj BB hb=>?_,apart:=λj k r1 r2 b h1 l1 h2 l2 b1 b2=>?_}
 ·by_cases e:j=d
  ·subst e;have e1:dW ρ j v j=v:=by simp[dW]
   simp[aX]at hj;subst hj;rw[e1];exact mS hO hm
  ·rw[hH j e];exact R.hU (dV.refl _ w) zI hO (λ_ _ _=>rfl) (h.res j r1 (by simpa [aX,e]using hj))
 ·obtain⟨e,e1⟩:=liv j r1 hj BB;rw[hH j e]at hb;exact h.own j r1 b e1 BB hb
 ·obtain⟨e,e1⟩:=liv j r1 h1 l1;obtain⟨f,f1⟩:=liv k r2 h2 l2;rw[hH j e]at b1;rw[hH k f]at b2;exact h.apart j k r1 r2 b e1 l1 f1 l2 b1 b2
theorem UO{t:TypeId}{x:A}{lo hi mx:Option A}{u:List (Nat×R)}(he:jW P m t x lo hi mx=some (pre,v,u)):∀i,v≠.h i:=by
 intro i e;subst e;unfold jW at he;split at he
 ·split at he
  ·simp at he
  ·cases he
 ·split at he
  ·split at he
   ·split at he<;>simp at he
   ·cases he
  ·cases he
theorem aID(h:bC M0 S0 w0 N T m ρ a w)(cX:∀b,M0 b->b<w0.heap.size){o:Oper}{d:Nat}{pre:Bool}{v:A}{ups:List (Nat×R)}(he:gV P m T d o=some (pre,v,ups))(hp:pre=true):G1 P M0 S0 w0 N T m ρ a w o v (aH m ups):=by
 unfold gV at he;split at he
 ·rename_i t x lo hi mx ho;split at he
  ·rename_i k p k' q hhi hmx;split at he
   ·rename_i pre' v' u' LB;split at he
    ·rename_i u es rows n0;rw[Bool.cond_eq_ite]at he;split at he
     ·rename_i hpq;have hpq:=aUL hpq;subst hpq;simp only[aA,aD]at he;obtain⟨rfl,rfl,rfl⟩:=he;simp only[aE,aUA]at hp;obtain⟨hp1,hp2,hp3⟩:=hp;have hd:=hG hp2;have olo:vU w (dD M0 m ρ) m ρ (lo.map (dN T)) (lo.map a.eval):=by
       cases lo with
       |none=>exact .inl ⟨rfl,rfl⟩
       |some l=>exact .inr ⟨_,_,rfl,rfl,cU h l⟩
      have ohi:vU w (dD M0 m ρ) m ρ (some (.d (.v (.int k p)))) (some (a.eval hi)):=.inr ⟨_,_,rfl,rfl,by rw[<-hhi];exact cU h hi⟩;have omx:vU w (dD M0 m ρ) m ρ (some (.d (.v (.int k' p)))) (some (a.eval mx)):=.inr ⟨_,_,rfl,rfl,by rw[<-hmx];exact cU h mx⟩;obtain⟨_,z,hr,hz,aZ6⟩:=OQ (P:=P) h (cU h x) olo ohi omx LB hp1;obtain⟨ca,cn,hcz⟩:=aZ6 ⟨k,k',p,rfl,rfl⟩;obtain⟨g1,g2,g3⟩:=ZV h hz n0;have hnh:=UO LB;have aVL:(execOp a.eval o).run P w=.ok (.value z) w:=by simp[execOp,ho];rw[hr];simp
      have hfz:∃m1,aH m u=m1/\bC M0 S0 w0 N T m1 ρ a w/\gL m m1 ρ ρ/\m1 d=none/\v'.Den w (dD M0 m1 ρ) m1 ρ z/\dO m1 v'=some rows/\(∀i lo n,v'=.sv i lo n->∃t l,m1 i=some (.fW true t es l)):=by
       rcases g3 with rfl|⟨i,lo',n',t',l',rfl,hm,rfl⟩
       ·refine⟨m,rfl,h,gL.refl m ρ,hd,hz,g1,?_⟩;rintro i lo' n' rfl;unfold zL at n0;simp only at n0;split at n0
        ·rename_i fz t' es' l' hm;simp only[aA,aD]at n0;obtain⟨q1,rfl,rfl⟩:=n0;cases fz with
         |true=>exact⟨t',l',hm⟩
         |false=>simp at q1
        ·cases n0
       ·have hO:gL m (aX m i (.fW true t' es l')) ρ ρ:=by
         have:=gL.set (m:=m) (ρ:=ρ) i (.fW true t' es l') (ρ i) (λ_ _=>⟨by rw[hm];simp,rfl,λfz t es l e=>⟨true,t',l',by rw[hm]at e;simp at e;rw[e.2.2.1],by rw[hm]at e;simp at e;rw[e.2.2.2]⟩⟩)
         rwa [jP]at this
        have hs1:bC M0 S0 w0 N T (aX m i (.fW true t' es l')) ρ a w:=h.freeze hm rfl;have hdi:d≠i:=by rintro rfl;rw[hd]at hm;cases hm
        refine⟨aX m i (.fW true t' es l'),rfl,hs1,hO,by simp[aX,hdi,hd],?_,?_,?_⟩
        ·refine A.dC (dV.refl _ w) (λb hb _=>?_) hO _ _ hz;rcases hb with e|⟨j,r1,hj,BB,hb⟩
         ·exact .inl e
         ·by_cases e:j=i
          ·subst e;simp[aX]at hj;subst hj;simp[R.live]at BB
          ·exact .inr ⟨j,r1,by simpa [aX,e]using hj,BB,hb⟩
        ·simp only[dO,aX,if_true]at g1⊢;rw[hm]at g1;exact g1
        ·intro i2 lo2 n2 e;simp only[A.sv.injEq]at e;obtain⟨rfl,_,_⟩:=e;exact⟨t',l',by simp[aX]⟩
      obtain⟨m1,hm1,hs1,hO1,hd1,XN,hr1,hf1⟩:=hfz;have wP:0<es\/rows=[]:=by
       by_cases hn:rows=[]
       ·exact .inr hn
       ·left;cases es with
        |succ _=>omega
        |zero=>
         exfalso;unfold jW at LB;split at LB
         ·split at LB
          ·simp only[aA,aD]at LB;obtain⟨_,rfl,_⟩:=LB;simp[zL]at n0
          ·cases LB
         ·split at LB
          ·rename_i L e hs O2;rw[O2]at hp3;simp only[gZ]at hp3;split at LB
           ·split at LB
            ·simp only[aA,aD]at LB;obtain⟨rfl,_⟩:=LB;have:=(tF hp1).2.2.1;omega
            ·simp only[aA,aD]at LB;obtain⟨rfl,_⟩:=LB;have:=(tF hp1).2.2.1;omega
            ·simp only[aA,aD]at LB;obtain⟨rfl,_⟩:=LB;have:=aUL hp1;omega
            ·simp only[aA,aD]at LB;obtain⟨rfl,_⟩:=LB;have:=aUL hp1;omega
            ·cases LB
           ·cases LB
          ·cases LB
      obtain⟨ad,hzv,aWE⟩:∃ad,z=.slice ad rows.length rows.length/\(rows=[]\/∃b off xs,ad=some ⟨b,off,none⟩/\¬dD M0 m1 ρ b/\b<w.heap.size/\A.bR w (dD M0 m1 ρ) m1 ρ rows.flatten xs/\(∀u∈xs,u.oneCell'=true)/\∀(j:Nat)(z:Value),xs[j]?=some z->w.cell? ⟨b,off+j,none⟩=some z):=by
       rcases wP with wP|hn
       ·exact aCD hs1 wP XN hr1 g2 hf1 hnh ⟨ca,cn,hcz⟩
       ·subst hn;obtain⟨ad,cap,e,_⟩:=EZ hs1 XN hr1;rw[hcz]at e;simp at e;obtain⟨rfl,rfl,rfl⟩:=e;exact⟨ca,hcz,.inl rfl⟩
      have key:bC M0 S0 w0 N T (aX m1 d (.cu v' es rows)) (dW ρ d z) a w:=by
       refine hs1.aLM hd1 rfl λhO hM=>?_;have hM':∀b,dD M0 (aX m1 d (.cu v' es rows)) (dW ρ d z) b->b<w.heap.size->dD M0 m1 ρ b:=λb hb _=>hM b hb;refine⟨ad,hzv,A.dC (dV.refl _ w) hM' hO _ _ XN,g2,aWE.imp id ?_⟩;rintro⟨b,off,xs,e,f1,f2,f3,f4,f5⟩;exact⟨b,off,xs,e,λq=>f1 (hM b q),f2,A.dK (dV.refl _ w) hM' hO _ _ f3,f4,f5⟩
      have hap:aH m (u++[(d,.cu v' es rows)])=aX m1 d (.cu v' es rows):=by
       rw[<-hm1];rcases g3 with rfl|⟨i,lo',n',t',l',rfl,hm,rfl⟩<;>rfl
      rw[hap];refine⟨z,w,dW ρ d z,_,aVL,.inl rfl,key,hO1.trans (gL.new _ _ hd1),?_⟩;simp only[A.Den];exact⟨by simp[aX],λ_=>by simp[dW]⟩
     ·cases he
    ·cases he
   ·cases he
  ·cases he
 ·rename_i c ho;obtain⟨callee,args,tys⟩:=c;simp only at he;split at he
  ·rename_i x y t t' h1 h2;have e1:=ME h1;have e2:=ME h2;subst e1;subst e2;split at he
   ·rename_i i hx;split at he
    ·rename_i src es l hm;split at he
     ·rename_i l2 e hs O2;split at he
      ·rename_i z hz;have v8:=cU h x;rw[hx]at v8;simp only[A.Den]at v8;have hxv:=eH v8 hm sM;obtain⟨ad,hρ,a2V,hrl,aW7⟩:=h.res i _ hm;have ht:=nU O2;split at he
       ·simp only[aA,aD]at he;obtain⟨rfl,rfl,rfl⟩:=he;obtain⟨rfl,p2⟩:=aUL hp;obtain⟨ad2,cap2,hy,_⟩:=EZ h (cU h y) hs;obtain⟨inf,hi⟩:=sA p2;have aVL:(Builtin.append_ #[t,t] o.type #[.slice ad l.length l.length,.slice ad2 0 cap2]).run P w=.ok (.slice ad l.length l.length) w:=by
         cases ad2 with
         |none=>cases ad<;>simp[Builtin.append_,run_underlying ht,run_sizeOf hi,Builtin.lenOf,Builtin.firstCells,storeCells]
         |some dd=>
          have hl:=run_firstCells_some (P:=P) w (P.cellsOf e) 0 dd 0 cap2 [] sM sM;cases ad<;>simp[Builtin.append_,run_underlying ht,run_sizeOf hi,Builtin.lenOf,hl,storeCells]
        refine⟨.slice ad l.length l.length,w,ρ,_,by simp[execOp,ho,resolve,invoke,builtin,hxv,hρ,hy,aVL],.inl rfl,h,gL.refl m ρ,?_⟩;simp only[A.Den];exact⟨by simp only[aH];rw[hm];simp,λ_=>hρ.symm⟩
       ·rename_i hZ;simp only[aA,aD]at he;obtain⟨rfl,rfl,rfl⟩:=he;simp only[aE]at hp;obtain⟨hp1,hp2,hp3⟩:=hp;obtain⟨rfl,rfl,p2,p3,p4,p5⟩:=aUL hp1;have hd:=hG hp3;have hl2:=CQ h (cU h y) hs hp2;obtain⟨zv,_,XO,⟨inf,hi,hzi⟩,_⟩:=qA hz w;have hzs:zv.cells.size=P.cellsOf e:=by have:=(C.c9.1 (XO w (λ_=>False))).1;rw[p2]at this;simpa using this.symm
        have vZ:inf.size=P.cellsOf e:=by simp[Program.cellsOf,hi]
        have hbz:inf.bytes=P.bytesOf e:=by simp[Program.bytesOf,hi]
        obtain⟨ad2,cap2,news,hy,E0,P0,y4,aZ2⟩:=IT h (cU h y) hs hl2;have aWU:0<l2.length:=gH.2 λe=>hZ e;obtain⟨dd,rfl,hnc⟩:=aZ2.resolve_left λ⟨_,e⟩=>hZ e;have fin:∀{v':Value}{w':World}{xs:List Value},(Builtin.append_ #[t,t] o.type #[.slice ad l.length l.length,.slice (some dd) l2.length cap2]).run P w=.ok v' w'->vV w' e (P.cellsOf e) v' (l.length+l2.length) (xs++news)->iF (λ_=>False) w w'->
         (∀b,jK v'=some b->w.heap.size<=b/\b<w'.heap.size)->A.bR w (dD M0 m ρ) m ρ l.flatten xs->(∀u∈xs,u.oneCell'=true)->
         G1 P M0 S0 w0 N T m ρ a w o (.h d) (aH m [(d,.fW false e (P.cellsOf e) (l++l2))]):=by
         intro v' w' xs aVL aWZ hk a12 hxs R2;have hs':bC M0 S0 w0 N T (aX m d (.fW false e (P.cellsOf e) (l++l2))) (dW ρ d v') a w':=by
          refine h.rG cX hk hd rfl a12 λhO eB hM=>?_;refine⟨xs++news,by rw[aU];exact aWZ,?_,?_,sM,?_⟩
          ·rw[fJ];exact A.iH (A.dK eB hM hO _ _ hxs) (A.dK eB hM hO _ _ y4)
          ·intro r hr;simp at hr;exact hr.elim (hrl r) (hl2 r)
          ·intro u hu;simp at hu;exact hu.elim (R2 u) (P0 u)
         refine⟨v',w',dW ρ d v',_,by simp[execOp,ho,resolve,invoke,builtin,hxv,hρ,hy,aVL],.inl rfl,hs',gL.new _ _ hd,?_⟩;simp only[A.Den,aH];exact⟨by simp[aX],λ_=>by simp[dW]⟩
        rcases aW7 with rfl|⟨b,off,xs,rfl,c1,c2,c3,c4,c5⟩
        ·have aZD:vV w e (P.cellsOf e) (.slice ad 0 0) 0 []\/(Value.slice ad 0 0=.slice none 0 0/\0=0/\([]:List Value)=[]/\0<l2.length):=by
          cases ad with
          |none=>exact .inr ⟨rfl,rfl,rfl,aWU⟩
          |some a=>exact .inl (.inl ⟨rfl,rfl,a,rfl⟩)
         obtain⟨v',w',aVL,aZX,aW2,aX8,a07⟩:=LC P w (ty:=o.type) (cap:=cap2) ht hi hzi vZ hbz hzs p3 p4 aZD E0 P0 (.inr ⟨dd,rfl,hnc⟩) (by simpa using p5);have hnb:jK (.slice ad 0 0)=none:=by cases ad<;>simp[jK]
         refine fin (xs:=[]) (by simpa using aVL) (by simpa using aZX) ⟨aW2.os,aW2.tape,aW2.output,aW2.size,λb hb _=>aW2.block b hb (by rw[hnb];simp)⟩ (λb hb=>⟨?_,a07 b hb⟩) (by simp[A.bR]) sM;rcases aX8 b hb with q|q
         ·rw[hnb]at q;cases q
         ·exact q
        ·have LR:xs.length=l.length*P.cellsOf e:=by rw[<-(A.c9.1 c3).1,fI hrl]
         have hmx:l.length+l2.length<=maxLen:=by
          have:(l.length+l2.length)*1<=(l.length+l2.length)*P.bytesOf e:=sX _ p4;unfold maxLen;omega
         have a1M:l.length+l2.length<=9223372036854775807:=by unfold maxLen at hmx;omega
         have aVL:=run_append_grow (P:=P) (ty:=o.type) w t e inf zv ht hi hzi ⟨b,off,none⟩ l.length l.length xs (by rw[LR,vZ]) (λj u hu=>by rw[eP];exact c5 j u hu) dd l2.length cap2 news (by rw[E0,vZ]) hnc oM oM (growslice_fits oM (by rw[hbz];exact p5));have hge:=grownCap_ge w (l.length+l2.length) l.length e;refine fin (xs:=xs) aVL ?_ ⟨rfl,rfl,rfl,sM,λb hb _=>by rw[Below.heap_alloc w.drew _ b (by simpa using hb)];rfl⟩ (λb hb=>?_) c3 c4
         ·refine .inr ⟨by rw[aU,LR,E0,fS],w.heap.size,0,_,_,rfl,oM,heap_alloc_new w.drew _,hge,grownCap_le_maxLen w (l.length+l2.length) l.length e hmx,?_,?_⟩
          ·rw[fF];simp only[Array.size_append,nJ,size_zeroCells,hzs,LR,E0,<-Nat.add_mul];refine Nat.le_of_eq ?_;congr 1;omega
          ·simp only[Array.toList_append,n6];rw[bG,<-List.append_assoc,List.take_left' (by rw[aU,LR,E0,fS])]
         ·simp[jK]at hb;simp;omega
      ·cases he
     ·cases he
    ·cases he
   ·rename_i i lo n hx;split at he
    ·rename_i te es l hm;split at he
     ·rename_i hln;split at he
      ·rename_i l2 e hs O2;split at he
       ·rename_i z hz;split at he
        ·cases he
        ·rename_i hZ;simp only[aA,aD]at he;obtain⟨rfl,rfl,rfl⟩:=he;simp only[aE]at hp;obtain⟨hp1,hp2,hp3⟩:=hp;obtain⟨rfl,rfl,wP,p2,p3,p4,p5⟩:=aUL hp1;subst wP;have hd:=hG hp3;have hln:=bB hln;have hl2:=CQ h (cU h y) hs hp2;have aWU:0<l2.length:=gH.2 λe=>hZ e;have v8:=cU h x;rw[hx]at v8;simp only[A.Den]at v8;obtain⟨ad,cap,hev,hnc,es2,fz2,t2,l2',q1,q2,q3⟩:=eH v8 hm sM;rw[hm]at q1;simp at q1;obtain⟨rfl,rfl,rfl,rfl⟩:=q1;obtain⟨xs,g1,g2,g3,g4,g5⟩:=h.res i _ hm;have hdl:(l.drop lo).length=n:=by rw[l4];omega
         have aWZ:∃ys,(vV w te (P.cellsOf te) (.slice ad n cap) n ys\/(Value.slice ad n cap=.slice none 0 0/\n=0/\ys=[]/\0<l2.length))/\A.bR w (dD M0 m ρ) m ρ (l.drop lo).flatten ys/\(∀u∈ys,u.oneCell'=true)/\(∀b,jK (.slice ad n cap)=some b->jK (ρ i)=some b):=by
          rcases q3 with⟨rfl,rfl,q4⟩|⟨b,og,n',cap',e5,rfl,hcc⟩
          ·have hl0:l.drop lo=[]:=bL hdl;refine⟨[],?_,by rw[hl0];simp[A.bR],sM,by cases ad<;>simp[jK]⟩;cases ad with
           |none=>exact .inr ⟨rfl,rfl,rfl,aWU⟩
           |some ad=>exact .inl (.inl ⟨rfl,rfl,ad,rfl⟩)
          ·rw[e5]at g1;have a1F:A.bR w (dD M0 m ρ) m ρ (l.drop lo).flatten (xs.drop (lo*P.cellsOf te)):=by
            have e1:l.flatten=(l.take lo).flatten++(l.drop lo).flatten:=by rw[<-List.flatten_append,gJ]
            have e2:((l.take lo).flatten).length=lo*P.cellsOf te:=by
             rw[fI (λr hr=>g3 r (dJ hr)),cW];congr 1;omega
            have e3:(l.drop lo).flatten=l.flatten.drop (lo*P.cellsOf te):=by rw[e1,List.drop_left' e2]
            rw[e3];exact A.lL _ g2
           refine⟨xs.drop (lo*P.cellsOf te),?_,a1F,λu hu=>g5 u (dI hu),?_⟩
           ·rcases g1 with⟨a2R,_,aa,qq⟩|⟨LR,g,og',c',cur,qq,hp0,hg,a2Z,hcm,aXM,htk⟩
            ·simp at qq;obtain⟨_,hq1,WI⟩:=qq;have hc0:cap=0:=oM;have hn0:n=0:=oM;subst hc0;subst hn0;subst a2R;exact .inl (.inl ⟨sM,rfl,_,rfl⟩)
            ·simp at qq;obtain⟨⟨rfl,rfl⟩,rfl,rfl⟩:=qq;by_cases hc0:cap=0
             ·subst hc0;have hn0:n=0:=oM;subst hn0;refine .inl (.inl ⟨?_,rfl,_,rfl⟩);apply bL;rw[l4,LR];have:l.length=lo:=oM;rw[this];omega
             ·refine .inl (.inr ⟨?_,b,og+lo*P.cellsOf te,cap,cur,rfl,oM,hg,hnc,oM,?_,?_⟩)
              ·rw[l4,LR,<-hln,fS];omega
              ·have:=fE (P.cellsOf te) hcc;rw[fS]at this;omega
              ·rw[<-htk,<-hln,fS,List.drop_take,lY,Nat.add_sub_cancel_left]
           ·intro b' hb';rw[e5];simp only[jK]at hb'⊢;split at hb'
            ·cases hb'
            ·rw[aT7 oM];exact hb'
         obtain⟨ys,aWZ,hyd,hy1,hyb⟩:=aWZ;obtain⟨ρ',v',w',aVL,hs',hO,hv'⟩:=LI (P:=P) (ty:=o.type) (k:=some i) (l:=l.drop lo) h cX hs O2 hz p2 p3 rfl rfl p4 (λr hr=>g3 r (dI hr)) hl2 (λj e=>by cases e;exact⟨l,hm⟩) hd p5 hev (by rw[hdl];exact aWZ) hyd hy1 (λb hb=>⟨i,_,rfl,hm,rfl,hyb b hb⟩) (λj e=>by cases e;exact⟨_,hm,rfl⟩);refine⟨v',w',ρ',_,by simp[execOp,ho,resolve,invoke,builtin,aVL],.inl rfl,hs',hO,hv'⟩
       ·cases he
      ·cases he
     ·cases he
    ·cases he
   ·cases he
  ·cases he
 ·cases he
theorem H0{e:E}(h:gV P m T d o=some e):jO o=true:=by
 unfold jO;split
 ·rename_i c ho;simp[gV,ho]at h
 ·rfl
theorem qT.YZ{ups:List (Nat×R)}(he:gV P m T d o=some (pre,v,ups))(hp:pre=true):qT P o T m v (aH m ups):=by
 intro ro N M0 S0 w0 ρ a w h cX next Q hn
 obtain⟨y,w',ρ',res,hr,aX0,hs,hO,hv⟩:=aID h cX he hp;exact qQ (H0 he) hr aX0 (hn y w' ρ' hs hO hv)
def eM(P:Program)(m:Mem)(T:Nat->A)(d:Nat)(o:Oper):Option E:=match gV P m T d o with
 |some e=>some e
 |none=>kT P m T d o
theorem qT.sD{ups:List (Nat×R)}(he:eM P m T d o=some (pre,v,ups))(hp:pre=true):qT P o T m v (aH m ups):=by
 unfold eM at he;split at he
 ·rename_i e hc;simp only[aA]at he;subst he;exact qT.YZ hc hp
 ·exact qT.WC he hp
theorem SC{t:TypeId}{x:A}{lo hi mx:Option A}{u:List (Nat×R)}(he:jW P m t x lo hi mx=some (pre,v,u)):∀i∈v.hs,i∈x.hs:=by
 unfold jW at he;split at he
 ·split at he
  ·simp only[aA,aD]at he;obtain⟨_,rfl,_⟩:=he;simp[A.hs]
  ·cases he
 ·split at he
  ·split at he
   ·split at he
    ·simp only[aA,aD]at he;obtain⟨_,rfl,_⟩:=he;simp[A.hs]
    ·simp only[aA,aD]at he;obtain⟨_,rfl,_⟩:=he;simp[A.hs]
    ·simp only[aA,aD]at he;obtain⟨_,rfl,_⟩:=he;simp[A.hs]
    ·simp only[aA,aD]at he;obtain⟨_,rfl,_⟩:=he;simp[A.hs]
    ·cases he
   ·cases he
  ·cases he
theorem ZU(h:zH m m' v):zL m v=zL m' v:=by
 cases v with
 |sv i lo n=>simp only[zL,h.sv]
 |d c=>cases c<;>simp only[zL]
 |_=>simp only[zL]
theorem R8{T':Nat->A}(h:MB o T T' m m')(hd:m d=m' d):gV P m T d o=gV P m' T' d o:=by
 obtain⟨hT,hm⟩:=h;unfold gV;cases ho:o.op with
 |slice t x lo hi mx=>
  cases hi with
  |none=>rfl
  |some hi=>
   cases mx with
   |none=>rfl
   |some mx=>
    have e1:dN T hi=dN T' hi:=hT hi (by simp[ho,Op.operands]);have e2:dN T mx=dN T' mx:=hT mx (by simp[ho,Op.operands]);have e3:dN T x=dN T' x:=hT x (by simp[ho,Op.operands]);have e4:lo.map (dN T)=lo.map (dN T'):=by
     cases lo with
     |none=>rfl
     |some l=>simp only[dF];rw[hT l (by simp[ho,Op.operands])]
    have ax:=hm x (by simp[ho,Op.operands]);simp only[<-e1,<-e2,<-e3,<-e4];split
    ·rename_i k p k' q h1 h2;rw[<-DN ax];split
     ·rename_i pre v u hs;have av:zH m m' v:=λi hi=>ax i (SC hs i hi);rw[<-ZU av,oA hd]
     ·rfl
    ·rfl
 |call c=>
  obtain⟨callee,args,tys⟩:=c;simp only;cases callee with
  |value f=>rfl
  |invoke r n=>rfl
  |builtin b=>
   have mem:∀x∈args.toList,x∈o.op.operands.toList:=by
    intro x hx;rw[ho];simp[Op.operands,Call.operands];simpa using hx
   cases b with
   |append=>
    cases h1:args.toList with
    |nil=>rfl
    |cons x r=>
     cases r with
     |nil=>cases tys.toList<;>rfl
     |cons y r=>
      cases r with
      |cons _ _=>cases tys.toList<;>rfl
      |nil=>
       cases h2:tys.toList with
       |nil=>rfl
       |cons t r=>
        cases r with
        |nil=>rfl
        |cons t' r=>
         cases r with
         |cons _ _=>rfl
         |nil=>
          have hx:=mem x (by rw[h1];simp);have hy:=mem y (by rw[h1];simp);simp only[<-hT x hx,<-hT y hy,<-pZ (hm y hy),<-GV (hm y hy),oA hd];cases BF:dN T x with
          |h i=>
           have:m i=m' i:=hm x hx i (by rw[BF];simp[A.hs]);simp only[this]
          |sv i lo n=>
           have:m i=m' i:=hm x hx i (by rw[BF];simp[A.hs]);simp only[this]
          |_=>rfl
   |_=>rfl
 |_=>rfl
theorem FO{T':Nat->A}(h:MB o T T' m m')(hd:m d=m' d)(hs:shallow o=true):eM P m T d o=eM P m' T' d o:=by
 unfold eM;rw[R8 h hd,VN h hd hs]
end
inductive Cal where
 |fn(f:FuncId)
 |yl(i:Nat)
structure St where
 T:Tb
 m:Tr R
 b:Tr R
 log:List Nat
abbrev Hd:=Cal->List A->Tr R->Nat->Option (List Ot×Nat)
abbrev Oc:=Ex×St×List DA×Nat
def fM:Nat:=64
def fK:Nat:=1048576
def s9(i:Nat):List Nat->Bool
 |[]=>false
 |j::r=>cond (Nat.beq i j) true (s9 i r)
def KF(b:Tr R):List (Nat×R)->List Nat->List Nat
 |[],l=>l
 |(i,_)::r,l=>KF b r (match b.get i with
  |none=>l
  |some _=>cond (s9 i l) l (i::l))
def St.O0(st:St)(d:Option Nat)(v:A)(u:List (Nat×R)):St:=
 St.casesOn (motive:=λ_=>St) st λT m b log=>List.casesOn (motive:=λ_=>St) u {T:=T.put d v,m:=m,b:=b,log:=log} (λp q=>{T:=T.put d v,m:=Tr.MW fM m (p::q),b:=b,log:=KF b (p::q) log})
def St.go{β:Type}(st:St)(k:St->β):β:=St.casesOn (motive:=λ_=>β) st λT m b log=>Tb.casesOn (motive:=λ_=>β) T λq o=>Q4.casesOn (motive:=λ_=>β) q λq0 q1 q2 q3=>k {T:={t:={a:=q0,b:=q1,c:=q2,d:=q3},o:=o},m:=m,b:=b,log:=log}
theorem St.go_eq{β:Type}(st:St)(k:St->β):st.go k=k st:=by cases st;rfl
theorem St.BM(st:St)(d:Option Nat)(v:A)(u:List (Nat×R)):st.O0 d v u={T:=st.T.put d v,m:=Tr.MW fM st.m u,b:=st.b,log:=KF st.b u st.log}:=by cases u<;>rfl
def St.u9(st:St)(u:List (Nat×R)):St:={T:=st.T,m:=Tr.MW fM st.m u,b:=st.b,log:=KF st.b u st.log}
def vC{α β:Type}(f:α->Option (List β)):List α->Option (List β)
 |[]=>some []
 |[x]=>f x
 |x::r=>match f x,vC f r with
  |some a,some b=>some (a++b)
  |_,_=>none
def vE(n:Nat):Option Nat->Bool
 |none=>true
 |some d=>Nat.blt d n
def yY(e:Option E)(nx:Nat):Option (List (Ot×Nat)):=
 match e with
 |some (true,v,u)=>some [((.ok v,u),nx+u.length+1)]
 |_=>none
def P6:Option (List Ot×Nat)->Option (List (Ot×Nat))
 |some (l,nx)=>some (l.map λu=>(u,nx))
 |none=>none
def aFX:Nat:=16384
def aKH(m:Nat->Option R)(x:A)(nx:Nat)(u:List (Nat×R)):Nat:=
 match x with
 |.h d=>match u with
  |[(_,.it _ _ start (s::_))]=>d+64+start.length+(s -d -2)*aFX
  |_=>match m d with
   |some (.it _ _ start _)=>d+64+start.length+start.length*aFX
   |_=>nx
 |_=>nx
def CF(P:Program)(H:Hd)(st:St)(nx:Nat)(c:Call):Option (List (Ot×Nat)):=
 match mO st.T.fn c with
 |some (f,as)=>P6 (H (.fn f) as st.m nx)
 |none=>match c.callee with
  |.value fo=>match dN st.T.fn fo with
   |.h i=>P6 (H (.yl i) (c.args.toList.map (dN st.T.fn)) st.m nx)
   |_=>none
  |_=>none
def SH(P:Program)(H:Hd)(st:St)(nx:Nat)(o:Oper):Option (List (Ot×Nat)):=
 match o.op with
 |.next x b=>match IE st.m.get (dN st.T.fn x) b with
  |some (true,outs)=>some (outs.map λu=>((.ok u.1,u.2),aKH st.m.get (dN st.T.fn x) nx u.2))
  |_=>none
 |.call c=>match gV P st.m.get st.T.fn nx o with
  |some e=>yY (some e) nx
  |none=>match kT P st.m.get st.T.fn nx o with
   |some e=>yY (some e) nx
   |none=>match CF P H st nx c with
    |some r=>some r
    |none=>match kT P st.m.get (λt=>yW st.m.get (st.T.fn t)) nx o with
     |some e=>yY (some e) nx
     |none=>none
 |_=>match gV P st.m.get st.T.fn nx o with
  |some e=>yY (some e) nx
  |none=>match kT P st.m.get st.T.fn nx o with
   |some e=>yY (some e) nx
   |none=>match kT P st.m.get (λt=>yW st.m.get (st.T.fn t)) nx o with
     |some e=>yY (some e) nx
     |none=>none
inductive KO where
 |ND(f:Program->Mem->(Nat->A)->Nat->Option E)
 |call(c:Call)
 |other
def P8:Callee->Bool
 |.builtin _=>false
 |_=>true
def VL(x:A)(i:Nat):Option E:=match x with
 |.eL l=>some (decide (i<l.length),l.getD i .x,[])
 |_=>none
theorem JN{x:Operand}{i:Nat}(h:o.op=.extract x i):kT P m T d o=VL (dN T x) i:=by
 unfold kT kG jZ j9 qI;simp only[h];unfold VL;cases dN T x<;>rfl
def comp(o:Oper):KO:=
 match o.guard with
 |some _=>.other
 |none=>match o.op with
  |.move x=>.ND λP m T d=>some (true,B0 P o.type (dN T x),[])
  |.assign x=>.ND λP m T d=>some (true,B0 P o.type (dN T x),[])
  |.load t x=>.ND λP m T d=>jM P m t (dN T x)
  |.store t x y=>.ND λP m T d=>j3 P m T t x y
  |.nilCheck x=>.ND λP m T d=>nT m (dN T x)
  |.unOp op _ x=>.ND λP m T d=>NF op (dN T x)
  |.fieldAddr t x f=>.ND λP m T d=>mG P m t (dN T x) f
  |.field t x f=>.ND λP m T d=>uF P m t (dN T x) f
  |.indexAddr t x i=>.ND λP m T d=>j7 P m t (dN T x) (dN T i)
  |.index t x ix=>.ND λP m T d=>zY P t (dN T x) (dN T ix)
  |.lookup t x ix ok=>.ND λP m T d=>lO P m t (dN T x) (dN T ix) ok
  |.binOp op t x y _=>.ND λP m T d=>xZ P m op t (dN T x) (dN T y)
  |.makeFunc f first caps=>.ND λP m T d=>some (true,.fn f (first.toList.map (dN T)) (caps.toList.map (dN T)),[])
  |.extract x i=>.ND λP m T d=>VL (dN T x) i
  |.slice t x lo hi none=>.ND λP m T d=>jW P m t (dN T x) (lo.map (dN T)) (hi.map (dN T)) none
  |.alloc t=>.ND λP m T d=>(o5 P t).map λl=>(jN m d,.lp d 0,[(d,.cells false (l.map .d))])
  |.call c=>cond (P8 c.callee) (.call c) .other
  |_=>.other
def JV(P:Program)(H:Hd)(rd:Bool)(rec:List DA->St->Nat->Option (List Oc))(o:Oper)(ds:List DA)(st:St)(nx:Nat)(us:Option (List (Ot×Nat))):Option (List Oc):=
 match us with
 |some us=>vC (λu=>match u.1.1 with
  |.ok v=>St.go (st.O0 o.dst v u.1.2) λst'=>rec ds st' u.2
  |.sE v=>some [(.sE v,st.u9 u.1.2,ds,u.2)]) us
 |none=>none
def z6(P:Program)(H:Hd)(rd:Bool)(n:Nat)(ops:Array Oper)(rec:List DA->St->Nat->Option (List Oc))(o:Oper)(ds:List DA)(st:St)(nx:Nat):Option (List Oc):=
 if vE n o.dst then match kO ops st.T.fn o with
  |some true=>JV P H rd rec o ds st nx (SH P H st nx o)
  |some false=>St.go (st.O0 o.dst (.eL []) []) λst'=>rec ds st' nx
  |none=>none
  else none
def P1(P:Program)(H:Hd)(rd:Bool)(n:Nat)(ops:Array Oper)(rec:List DA->St->Nat->Option (List Oc))(o:Oper)(ds:List DA)(st:St)(nx:Nat)(e:Option E):Option (List Oc):=
 Option.casesOn (motive:=λ_=>Option (List Oc)) e (z6 P H rd n ops rec o ds st nx) λe=>Prod.casesOn (motive:=λ_=>Option (List Oc)) e λpre r=>Bool.casesOn (motive:=λ_=>Option (List Oc)) pre (z6 P H rd n ops rec o ds st nx)
  (Prod.casesOn (motive:=λ_=>Option (List Oc)) r λv u=>Bool.casesOn (motive:=λ_=>Option (List Oc)) (vE n o.dst) none (St.go (st.O0 o.dst v u) λst'=>rec ds st' (nx+u.length+1)))
def vI(P:Program)(H:Hd)(rd:Bool)(n:Nat)(ops:Array Oper):List Oper->List DA->St->Nat->Option (List Oc)
 |[],ds,st,nx=>some [(.nm,st,ds,nx)]
 |o::r,ds,st,nx=>KO.casesOn (motive:=λ_=>Option (List Oc)) (comp o) (λf=>P1 P H rd n ops (vI P H rd n ops r) o ds st nx (f P st.m.get st.T.fn nx))
  (λc=>Bool.casesOn (motive:=λ_=>Option (List Oc)) (vE n o.dst) none (JV P H rd (vI P H rd n ops r) o ds st nx (CF P H st nx c)))
  (z6 P H rd n ops (vI P H rd n ops r) o ds st nx)
theorem ZZ{f:Program->Mem->(Nat->A)->Nat->Option E}{u:List (Nat×R)}(h:comp o=.ND f)(hf:f P m T d=some (true,v,u)):
 o.guard=none/\kT P m T d o=some (true,v,u)/\gV P m T d o=none/\(∀x b,o.op≠.next x b)/\∀c,o.op≠.call c:=by
 unfold comp at h;split at h
 ·cases h
 ·rename_i hg;refine⟨hg,?_⟩;split at h<;>first
   |(rename_i ho
     simp only[KO.ND.injEq]at h;subst h
     exact⟨(JN ho).trans hf,by simp[gV,ho],λx b e=>(by rw[ho]at e;cases e),λc e=>(by rw[ho]at e;cases e)⟩)
   |(rename_i ho
     simp only[KO.ND.injEq]at h;subst h;refine⟨?_,by simp[gV,ho],λx b e=>(by rw[ho]at e;cases e),λc e=>(by rw[ho]at e;cases e)⟩;unfold kT kG jZ j9;simp only[ho]at hf⊢
     first|(rw[hf];done)|(simp only[hf];done)|(simp[hf];done))
   |(exfalso;unfold cond at h;split at h<;>cases h;done)
   |(cases h;done)
theorem aGQ{c:Call}(h:comp o=.call c):o.guard=none/\o.op=.call c/\P8 c.callee=true:=by
 unfold comp at h;split at h
 ·cases h
 ·rename_i hg;refine⟨hg,?_⟩;split at h<;>first
   |(rename_i c' ho
     rw[Bool.cond_eq_ite]at h;split at h
     · rename_i hv
       simp only[KO.call.injEq]at h;subst h;exact⟨ho,hv⟩
     · cases h)
   |(cases h;done)
theorem SB{c:Call}(h:o.op=.call c)(hv:P8 c.callee=true):kT P m T d o=none:=by
 obtain⟨callee,args,tys⟩:=c;cases callee with
 |builtin b=>cases hv
 |value f=>simp[kT,kG,jZ,j9,qI,h]
 |invoke x nm=>simp[kT,kG,jZ,j9,qI,h]
theorem PT{c:Call}(h:o.op=.call c)(hv:P8 c.callee=true):gV P m T d o=none:=by
 obtain⟨callee,args,tys⟩:=c;cases callee with
 |builtin b=>cases hv
 |value f=>simp[gV,h]
 |invoke x nm=>simp[gV,h]
theorem VP(P:Program)(H:Hd)(rd:Bool)(n:Nat)(ops:Array Oper)(o:Oper)(r:List Oper)(ds:List DA)(st:St)(nx:Nat):vI P H rd n ops (o::r) ds st nx=z6 P H rd n ops (vI P H rd n ops r) o ds st nx:=by
 have e:vI P H rd n ops (o::r) ds st nx=KO.casesOn (motive:=λ_=>Option (List Oc)) (comp o) (λf=>P1 P H rd n ops (vI P H rd n ops r) o ds st nx (f P st.m.get st.T.fn nx))
  (λc=>Bool.casesOn (motive:=λ_=>Option (List Oc)) (vE n o.dst) none (JV P H rd (vI P H rd n ops r) o ds st nx (CF P H st nx c)))
  (z6 P H rd n ops (vI P H rd n ops r) o ds st nx):=rfl
 rw[e];cases hc:comp o with
 |other=>rfl
 |call c=>
  obtain⟨hg,ho,hv⟩:=aGQ hc;have hw:kO ops st.T.fn o=some true:=by unfold kO;rw[hg]
  have he:SH P H st nx o=CF P H st nx c:=by
   unfold SH;simp only[ho,SB ho hv,PT ho hv];cases CF P H st nx c<;>rfl
  unfold z6;rw[hw,he];cases vE n o.dst<;>rfl
 |ND f=>
  show P1 P H rd n ops (vI P H rd n ops r) o ds st nx (f P st.m.get st.T.fn nx)=_;cases hf:f P st.m.get st.T.fn nx with
  |none=>rfl
  |some q=>
   obtain⟨pre,v,u⟩:=q;cases pre with
   |false=>rfl
   |true=>
    obtain⟨hg,hn,h0,h1,h2⟩:=ZZ hc hf;have hw:kO ops st.T.fn o=some true:=by unfold kO;rw[hg]
    have he:SH P H st nx o=some [((.ok v,u),nx+u.length+1)]:=by
     unfold SH;split
     ·rename_i x b ho;exact absurd ho (h1 x b)
     ·rename_i c ho;exact absurd ho (h2 c)
     ·rw[h0,hn];rfl
    unfold z6;rw[hw,he];cases hd:vE n o.dst<;>simp[P1,JV,vC,hd]
def VC(m:Tr R):Nat->List Nat->Tr R->List Nat->Option (Tr R×List Nat)
 |0,_,_,_=>none
 |f+1,[],m1,l=>some (m1,l)
 |f+1,i::w,m1,l=>match m1.get i with
  |some _=>VC m f w m1 l
  |none=>match m.get i with
   |some r=>VC m f (r.hs++w) (Tr.set fM m1 i r) (i::l)
   |none=>none
structure qC where
 r:Rec
 looks:List Nat
 F:List Nat
 anc:Nat
def P5(m1 m:Tr R):List (Nat×R)->Bool
 |[]=>true
 |(i,_)::u=>(match m1.get i with
  |some _=>true
  |none=>jN m.get i)&&P5 m1 m u
def kX(ancs:List qC)(k:Nat):List Edge->Option Nat
 |[]=>some 0
 |e::r=>match kX ancs k r with
  |none=>none
  |some s=>if Region.binds .any e then(if e.on<k then match ancs[k -1 -e.on]? with
   |some d=>some (s|||2^e.on|||d.anc)
   |none=>none
   else none)else some s
def WN(T:Nat->A)(looks:List Nat):Tb:=looks.foldl (λt n=>Tb.set t n (T n)) Tb.nil
def ML(P:Program)(H:Hd)(n:Nat)(ops:Array Oper):List Oper->Nat->List qC->St->Nat->Option (List qC×St×Nat)
 |[],_,acc,st,nx=>some (acc,st,nx)
 |o::r,k,acc,st,nx=>if vE n o.dst then match kX acc k o.after.toList with
  |none=>none
  |some an=>match kO ops st.T.fn o with
   |some false=>St.go (st.O0 o.dst (.eL []) []) λst'=>ML P H n ops r (k+1) (⟨⟨o.dst,.eL [],[]⟩,o.looksAt ops,[],an⟩::acc) st' nx
   |some true=>match aEN P st.T.fn o with
    |some v=>St.go (st.O0 o.dst v []) λst'=>ML P H n ops r (k+1) (⟨⟨o.dst,v,[]⟩,o.looksAt ops,[],an⟩::acc) st' nx
    |none=>cond (shallow o) (match eM P st.m.get st.T.fn nx o with
      |some (true,v,u)=>St.go (st.O0 o.dst v u) λst'=>ML P H n ops r (k+1) (⟨⟨o.dst,v,u⟩,o.looksAt ops,nx::(u.map (·.1)++(o.looksAt ops).flatMap λt=>(st.T.fn t).hs),an⟩::acc) st' (nx+u.length+1)
      |_=>none)
      (match VC st.m fK ((o.looksAt ops).flatMap λt=>(st.T.fn t).hs) .nil []with
      |some (m1,l)=>match SH P H ⟨WN st.T.fn (o.looksAt ops),m1,.nil,[]⟩ nx o with
       |some [((.ok v,u),nx')]=>if P5 m1 st.m u then St.go (st.O0 o.dst v u) λst'=>ML P H n ops r (k+1) (⟨⟨o.dst,v,u⟩,o.looksAt ops,u.map (·.1)++l,an⟩::acc) st' nx' else none
       |_=>none
      |none=>none)
   |none=>none
  else none
def VH:List (Nat×R)->List Nat->Bool
 |[],_=>true
 |(i,_)::u,l=>cond (s9 i l) false (VH u l)
def qH(p q:qC):Bool:=
 match p.r.dst with
 |none=>true
 |some d=>cond (s9 d q.looks) false (match q.r.dst with
  |none=>true
  |some e=> !(Nat.beq d e))
def B9(p:qC):List qC->Bool
 |[]=>true
 |q::r=>(cond (p.anc.testBit r.length) true (qH p q&&(qH q p&&(VH p.r.u q.F&&VH q.r.u p.F))))&&B9 p r
def nO:List qC->Bool
 |[]=>true
 |p::r=>B9 p r&&nO r
def aJG(P:Program)(H:Hd)(n:Nat)(ops:Array Oper)(ds:List DA)(st:St)(nx:Nat):Option (List Oc):=
 match ML P H n ops ops.toList 0 [] st nx with
 |some (acc,st',nx')=>if nO acc then some [(.nm,st',ds,nx')]else none
 |none=>none
def aJ5:LoopState->Bool
 |.busy=>true
 |_=>false
def yL(st:St)(ds:List DA)(nx:Nat):Option Code->Option (List Oc)
 |none=>some [(.nm,st,ds,nx)]
 |some .ret=>some [(.ret,st,ds,nx)]
 |some (.exit id)=>some [(.ext id,st,ds,nx)]
 |_=>none
def aJ2:A->Option (FuncId×List A×List A)
 |.fn (.func f) us vs=>some (f,us,vs)
 |.d (.fn (.func f) us vs)=>some (f,us.map A.d,vs.map A.d)
 |_=>none
def aG3(H:Hd)(n:Nat)(g:Operand)(ps:Array Tmp)(asg bod:Code)(st:St)(ds:List DA)(nx:Nat):Option (List Oc):=
 match aJ2 (dN st.T.fn g)with
 |some (gf,us,vs)=>if jN st.m.get nx&&jN st.m.get (nx+1)then
   match H (.fn gf) (us++([.h (nx+1)]++vs)) (Tr.set fM (Tr.set fM st.m nx (.df false)) (nx+1) (.lo .ready none (mY n st.T.fn) ps asg bod)) (nx+2)with
   |some ([(.ok v,u)],nx')=>match Tr.MW fM (Tr.set fM (Tr.set fM st.m nx (.df false)) (nx+1) (.lo .ready none (mY n st.T.fn) ps asg bod)) u with
    |m2=>match m2.get (nx+1)with
     |some (.lo ls pe ts' ps' asg' bod')=>if aJ5 ls then none else yL {T:=st.T,m:=Tr.set fM m2 (nx+1) (.lo .exhausted pe ts' ps' asg' bod'),b:=st.b,log:=KF st.b u st.log} (.s4 nx::ds) nx' pe
     |_=>none
   |_=>none
  else none
 |none=>none
def uH(P:Program)(H:Hd)(rd:Bool)(n:Nat)(k:Nat):Code->St->List DA->Nat->Option (List Oc):=
 Nat.rec (motive:=λ_=>Code->St->List DA->Nat->Option (List Oc)) (λ_ _ _ _=>none) (λ_ ev c st ds nx=>match c with
  |.skip=>some [(.nm,st,ds,nx)]
  |.label _=>some [(.nm,st,ds,nx)]
  |.exit id=>some [(.ext id,st,ds,nx)]
  |.ret=>some [(.ret,st,ds,nx)]
  |.seq x y=>match ev x st ds nx with
   |some outs=>vC (λo=>match o.1 with
    |.nm=>ev y o.2.1 o.2.2.1 o.2.2.2
    |_=>some [o]) outs
   |none=>none
  |.cond cc x y=>match dN st.T.fn cc with
   |.d (.v (.bool b))=>ev (cond b x y) st ds nx
   |_=>none
  |.block id x=>match ev x st ds nx with
   |some outs=>some (outs.map λo=>(u6 id o.1,o.2))
   |none=>none
  |.loop x=>match ev x st ds nx with
   |some outs=>vC (λo=>match o.1 with
    |.nm=>ev (.loop x) o.2.1 o.2.2.1 o.2.2.2
    |_=>some [o]) outs
   |none=>none
  |.scope x=>ev x st ds nx
  |.region _ ops draw=>cond draw (aJG P H n ops ds st nx) (vI P H rd n ops ops.toList ds st nx)
  |.rangeFunc g ps asg bod=>cond rd none (aG3 H n g ps asg bod st ds nx)
  |_=>none) k
def CB:List A->Nat->Tb->Tb
 |[],_,t=>t
 |a::r,k,t=>CB r (k+1) (Tb.set t k a)
def aEC(g:R->R)(m:Tr R):List Nat->Option (List (Nat×R))
 |[]=>some []
 |i::l=>match m.get i,aEC g m l with
  |some r,some u=>some ((i,g r)::u)
  |_,_=>none
def reach(g:R->R)(b m:Tr R):Nat->List Nat->Tr Unit->List (Nat×R)->Option (List (Nat×R))
 |0,_,_,_=>none
 |f+1,[],_,acc=>some acc
 |f+1,i::w,vis,acc=>match b.get i with
  |some _=>reach g b m f w vis acc
  |none=>match vis.get i with
   |some _=>reach g b m f w vis acc
   |none=>match m.get i with
    |some r=>reach g b m f ((g r).hs++w) (Tr.set fM vis i ()) ((i,g r)::acc)
    |none=>none
def hsU:List (Nat×R)->List Nat
 |[]=>[]
 |(_,r)::u=>r.hs++hsU u
def RY(g:R->R)(st:St)(r:Rt):Option (List (Nat×R)):=
 match aEC g st.m st.log with
 |some u0=>reach g st.b st.m fK (r.hs++hsU u0) .nil u0
 |none=>none
def Y6:Rt->Rt->Bool
 |.ok a,.ok b=>A.A6 a b
 |.sE a,.sE b=>A.A6 a b
 |_,_=>false
def aIR:List (Nat×R)->List (Nat×R)->Bool
 |[],[]=>true
 |(i,r)::u,(j,s)::v=>Nat.beq i j&&(R.A6 r s&&aIR u v)
 |_,_=>false
def yE(P:Program)(H:Hd)(rs:List ResultVar):List DA->Md->St->Nat->Option (Rt×St×Nat)
 |[],.ret,st,nx=>match GO P st.m.get st.T.fn rs with
  |some v=>some (.ok v,st,nx)
  |none=>none
 |[],.sE v,st,nx=>some (.sE v,st,nx)
 |.s4 i::ds,md,st,nx=>match st.m.get i with
  |some (.df false)=>yE P H rs ds md (st.u9 [(i,.df true)]) nx
  |_=>none
 |_::_,_,_,_=>none
def FJ(b:Tr R):List (Nat×R)->Nat->Tr Nat->Option (Tr Nat)
 |[],_,t=>some t
 |(i,r)::u,c,t=>cond r.aKG (match b.get i with
  |some _=>FJ b u c t
  |none=>match t.get i with
   |some _=>none
   |none=>match b.get c with
    |some _=>none
    |none=>FJ b u (c+1) (Tr.set fM t i c)) none
def H7(t:Tr Nat)(i:Nat):Nat:=match t.get i with
 |some c=>c
 |none=>i
def canon(b:Tr R)(base:Nat)(r:Rt)(u:List (Nat×R)):Option (Rt×List (Nat×R)):=match FJ b u base .nil with
 |some t=>some (r.eZ (H7 t),u.map λp=>(H7 t p.1,p.2.eZ (H7 t)))
 |none=>none
def PX(cb:Option Nat)(st:St)(r:Rt):Option (Rt×List (Nat×R)):=match RY id st r with
 |none=>none
 |some u=>match cb with
  |none=>some (r,u)
  |some base=>canon st.b base r u
def PW(P:Program)(H:Hd)(rs:List ResultVar)(cb:Option Nat):List Oc->Option (Rt×List (Nat×R)×Nat)
 |[]=>none
 |(ex,st,ds,nx)::r=>match SI ex with
  |none=>none
  |some md=>match yE P H rs ds md st nx with
   |none=>none
   |some (rt,st',nx1)=>match PX cb st' rt with
    |none=>none
    |some (rt,u)=>match r with
     |[]=>some (rt,u,nx1)
     |_=>match PW P H rs cb r with
      |some (rt2,u2,nx2)=>if Y6 rt rt2&&aIR u u2 then some (rt,u,Nat.max nx1 nx2)else none
      |none=>none
def aNJ{α:Type}:List α->Bool
 |[_]=>true
 |_=>false
def aG1(P:Program)(H:Hd)(f:FuncId)(as:List A)(t:Tr R)(nx:Nat):Option (List Ot×Nat):=
 match P.funcs[f]? with
 |some fn=>match fn.body with
  |some c=>if kW P f&&Nat.ble as.length fn.ntmps then
    match uH P H false fn.ntmps fK c ⟨CB as 0 Tb.nil,t,t,[]⟩ [] nx with
    |some outs=>match PW P H fn.results.toList (cond (aNJ outs) none (some nx)) outs with
     |some (rt,u,nx')=>some ([(rt,u)],nx')
     |none=>none
    |none=>none
   else none
  |none=>none
 |none=>none
def IQ:List (Tmp×A)->Tb->Tb
 |[],t=>t
 |p::r,t=>IQ r (Tb.set t p.1 p.2)
def YK(n:Nat):List Tmp->Bool
 |[]=>true
 |p::r=>Nat.blt p n&&YK n r
def XZ(i:Nat):List Oc->Option (List Ot×Nat)
 |[]=>some ([],0)
 |(ex,st,ds,nx)::r=>match Z3 ex,st.m.get i,XZ i r with
  |some (b,ls,pe),some (.lo _ _ ts ps asg bod),some (os,nx2)=>match st.u9 [(i,.lo ls pe ts ps asg bod)]with
   |st'=>match RY id st' (.ok (.d (.v (.bool b))))with
    |some u=>some ((.ok (.d (.v (.bool b))),u)::os,Nat.max nx nx2)
    |none=>none
  |_,_,_=>none
def aG5(P:Program)(H:Hd)(i:Nat)(as:List A)(t:Tr R)(nx:Nat):Option (List Ot×Nat):=
 match t.get i with
 |some (.lo .ready none ts ps asg bod)=>if Nat.beq as.length ps.size&&YK ts.length ps.toList then
   match uH P H true ts.length fK asg ⟨IQ (ps.toList.zip as) (CB ts 0 Tb.nil),t,t,[]⟩ [] nx with
   |some [(.nm,pV,[],nx1)]=>match pV.m.get i with
    |some (.lo .ready pe1 ts1 ps1 asg1 bod1)=>match uH P H true ts.length fK bod (pV.u9 [(i,.lo .busy pe1 ts1 ps1 asg1 bod1)]) [] nx1 with
     |some outs=>XZ i outs
     |none=>none
    |_=>none
   |_=>none
  else none
 |_=>none
def yI(P:Program)(ct:Hd)(d:Nat):Hd:=
 Nat.rec (motive:=λ_=>Hd) (λ_ _ _ _=>none) (λ_ ev c as t nx=>match ct c as t nx with
  |some r=>some r
  |none=>match c with
   |.fn f=>aG1 P ev f as t nx
   |.yl i=>aG5 P ev i as t nx) d
structure FB(P:Program)(H:Hd):Prop where
 fn:∀f as t nx outs nx',H (.fn f) as t nx=some (outs,nx')->∃r u,outs=[(r,u)]/\aJ P f as t.get r (aH t.get u)
 yl:∀i as t nx outs nx',H (.yl i) as t nx=some (outs,nx')->∀(o:Oper)(T:Nat->A)(c:Call)(fo:Operand),o.op=.call c->c.callee=.value fo->dN T fo=.h i->c.args.toList.map (dN T)=as->o8 P o T t.get outs
theorem AP{i:Nat}:∀{l:List Nat},s9 i l=true↔i∈l
 |[]=>by simp[s9]
 |j::r=>by
  simp only[s9,aO];cases h:Nat.beq i j with
  |true=>simp[bB h]
  |false=>simp only[cond_false];rw[AP (l:=r)];exact⟨.inr,λq=>q.resolve_left (λe=>by subst e;simp at h)⟩
theorem A8(b:Tr R):∀(u:List (Nat×R))(l:List Nat)(i:Nat),i∈l->i∈KF b u l
 |[],l,i,h=>h
 |(j,q)::r,l,i,h=>by
  simp only[KF];refine A8 b r _ i ?_;cases b.get j with
  |none=>exact h
  |some _=>simp only;cases s9 j l with
   |true=>exact h
   |false=>exact uE _ h
theorem KG(b:Tr R):∀(u:List (Nat×R))(l:List Nat)(p:Nat×R),p∈u->b.get p.1≠none->p.1∈KF b u l
 |[],l,p,h,_=>by simp at h
 |(j,q)::r,l,p,h,hb=>by
  simp only[KF];simp only[aO]at h;rcases h with rfl|h
  ·refine A8 b r _ _ ?_;simp only at hb⊢;cases hq:b.get j with
   |none=>exact absurd hq hb
   |some _=>
    simp only;cases hm:s9 j l with
    |true=>exact AP.1 hm
    |false=>simp
  ·exact KG b r _ p h hb
def Inv(st:St):Prop:=∀i q,st.b.get i=some q->i∉st.log->st.m.get i=some q
theorem Inv.set{b m:Tr R}{log:List Nat}(h:∀i q,b.get i=some q->i∉log->m.get i=some q)(u:List (Nat×R)):∀i q,b.get i=some q->i∉KF b u log->(Tr.MW fM m u).get i=some q:=by
 intro i q hb hl;have h1:∀p∈u,p.1≠i:=by
  rintro p hp rfl;exact hl (KG b u log p hp (by rw[hb];simp))
 rw[Tr.nV,n9 u m.get h1];exact h i q hb λe=>hl (A8 b u log i e)
theorem Inv.O0{st:St}(h:Inv st)(d:Option Nat)(v:A)(u:List (Nat×R)):Inv (st.O0 d v u):=by rw[St.BM];exact Inv.set h u
theorem St.aJD(st:St)(d:Option Nat)(v:A)(u:List (Nat×R)):(st.O0 d v u).b=st.b:=by rw[St.BM]
theorem Inv.u9{st:St}(h:Inv st)(u:List (Nat×R)):Inv (st.u9 u):=Inv.set h u
section
variable{P:Program}{H:Hd}
theorem SG{nx:Nat}(h:yY (kT P m T d o) nx=some outs):o8 P o T m (outs.map (·.1)):=by
 unfold yY at h;split at h
 ·rename_i v u he;simp only[aA]at h;subst h;exact o8.one (qT.WC he rfl)
 ·cases h
theorem HJ{x:Option (List Ot×Nat)}(h:P6 x=some outs):∃l nx,x=some (l,nx)/\outs.map (·.1)=l:=by
 unfold P6 at h;split at h
 ·rename_i l nx;simp only[aA]at h;subst h;exact⟨l,nx,rfl,by rw[bH];exact qB l⟩
 ·cases h
theorem Z1(hH:FB P H){st:St}{nx:Nat}{o:Oper}{c:Call}{outs:List (Ot×Nat)}(ho:o.op=.call c)(h:CF P H st nx c=some outs):o8 P o st.T.fn st.m.get (outs.map (·.1)):=by
 unfold CF at h;split at h
 ·rename_i f as hc;obtain⟨l,nx',h1,e⟩:=HJ h;obtain⟨r,u,e2,aVN⟩:=hH.fn _ _ _ _ _ _ h1;rw[e,e2];exact o8.call ho hc aVN
 ·split at h
  ·rename_i fo a13;split at h
   ·rename_i i hi;obtain⟨l,nx',h1,rfl⟩:=HJ h;exact hH.yl _ _ _ _ _ _ h1 o _ c fo ho a13 hi rfl
   ·cases h
  ·cases h
theorem JU{st:St}{nx:Nat}(h:yY (gV P st.m.get st.T.fn nx o) nx=some outs):o8 P o st.T.fn st.m.get (outs.map (·.1)):=by
 unfold yY at h;split at h
 ·rename_i v u he;simp only[aA]at h;subst h;exact o8.one (qT.YZ he rfl)
 ·cases h
theorem DO{st:St}{nx:Nat}(h:yY (kT P st.m.get (λt=>yW st.m.get (st.T.fn t)) nx o) nx=some outs):o8 P o st.T.fn st.m.get (outs.map (·.1)):=by
 unfold yY at h;split at h
 ·rename_i v u he;simp only[aA]at h;subst h;exact o8.one (qT.yW (qT.WC he rfl))
 ·cases h
theorem X3(hH:FB P H){st:St}{nx:Nat}{o:Oper}{outs:List (Ot×Nat)}(h:SH P H st nx o=some outs):o8 P o st.T.fn st.m.get (outs.map (·.1)):=by
 unfold SH at h;split at h
 ·rename_i x b ho;split at h
  ·rename_i outs' he;simp only[aA]at h;subst h;have:=o8.next (P:=P) ho he;rw[bH];exact this
  ·cases h
 ·rename_i c ho;split at h
  ·rename_i e he;rw[<-he]at h;exact JU h
  ·split at h
   ·rename_i e he;rw[<-he]at h;exact SG h
   ·split at h
    ·rename_i r hr;simp only[aA]at h;subst h;exact Z1 hH ho hr
    ·split at h
     ·rename_i e he;rw[<-he]at h;exact DO h
     ·cases h
 ·split at h
  ·rename_i e he;rw[<-he]at h;exact JU h
  ·split at h
   ·rename_i e he;rw[<-he]at h;exact SG h
   ·split at h
    ·rename_i e he;rw[<-he]at h;exact DO h
    ·cases h
theorem tI{α β:Type}{f:α->Option (List β)}:∀{l:List α}{out:List β},vC f l=some out->∀x∈l,∃a,f x=some a/\∀y∈a,y∈out
 |[],out,_,x,hx=>by simp at hx
 |[z],out,h,x,hx=>by
  simp only[vC]at h;simp only[aR]at hx;subst hx;exact⟨out,h,λy hy=>hy⟩
 |z::z2::r,out,h,x,hx=>by
  simp only[vC]at h;split at h
  ·rename_i a b h1 h2;simp only[aA]at h;subst h;simp only[aO]at hx;rcases hx with rfl|hx
   ·exact⟨a,h1,λy hy=>by simp[hy]⟩
   ·obtain⟨c,h3,h4⟩:=tI h2 x (by simpa using hx);exact⟨c,h3,λy hy=>by simp[h4 y hy]⟩
  ·cases h
theorem A4{α β:Type}{f:α->Option (List β)}:∀{l:List α}{out:List β},vC f l=some out->∀y∈out,∃x∈l,∃a,f x=some a/\y∈a
 |[],out,h,y,hy=>by simp only[vC,aA]at h;subst h;simp at hy
 |[z],out,h,y,hy=>by
  simp only[vC]at h;exact⟨z,sM,out,h,hy⟩
 |z::z2::r,out,h,y,hy=>by
  simp only[vC]at h;split at h
  ·rename_i a b h1 h2;simp only[aA]at h;subst h;simp only[bN]at hy;rcases hy with hy|hy
   ·exact⟨z,sM,a,h1,hy⟩
   ·obtain⟨x,hx,c,h3,h4⟩:=A4 h2 y hy;exact⟨x,by simp at hx⊢;exact .inr hx,c,h3,h4⟩
  ·cases h
theorem nS{n:Nat}{d:Option Nat}(h:vE n d=true):∀k,d=some k->k<n:=by
 rintro k rfl;simpa [vE,rR]using h
def HL(outs:List Oc):qU:=λex T m ds=>∃o∈outs,o.1=ex/\T=o.2.1.T.fn/\m=o.2.1.m.get/\ds=o.2.2.1
theorem wO.mono{rd:Bool}{n:Nat}{ops:Array Oper}{Post1 Post:qU}(hp:∀ex T m ds,Post1 ex T m ds->Post ex T m ds):∀(l:List Nat)(T:Nat->A)(m:Mem)(ds:List DA),wO P rd n ops Post1 l T m ds->wO P rd n ops Post l T m ds
 |[],T,m,ds,h=>hp _ _ _ _ h
 |i::r,T,m,ds,h=>by
  simp only[wO]at h⊢;cases ho:ops[i]? with
  |none=>rw[ho]at h;exact wO.mono hp r T m ds h
  |some o=>
   rw[ho]at h;obtain⟨hd,h⟩:=h;refine⟨hd,?_⟩;cases hw:kO ops T o with
   |none=>rw[hw]at h;exact h.elim
   |some b=>
    rw[hw]at h;cases b with
    |true=>
     rcases h with⟨outs,h1,h2⟩|⟨h0,da,h1,h2⟩
     ·exact .inl ⟨outs,h1,λu hu=>⟨λv e=>wO.mono hp r _ _ _ ((h2 u hu).1 v e),λv e=>hp _ _ _ _ ((h2 u hu).2 v e)⟩⟩
     ·exact .inr ⟨h0,da,h1,wO.mono hp r _ _ _ h2⟩
    |false=>exact wO.mono hp r _ _ _ h
theorem DP(hH:FB P H){rd:Bool}{n:Nat}{ops:Array Oper}:∀(l:List Oper)(k:Nat)(ds:List DA)(st:St)(nx:Nat)(outs:List Oc),ops.toList.drop k=l->vI P H rd n ops l ds st nx=some outs->Inv st->
 wO P rd n ops (HL outs) (List.range' k l.length) st.T.fn st.m.get ds/\∀o∈outs,Inv o.2.1/\o.2.1.b=st.b
 |[],k,ds,st,nx,outs,hk,h,hi=>by
  simp only[vI,aA]at h;subst h;exact⟨⟨_,aR.2 rfl,rfl,rfl,rfl,rfl⟩,λo ho=>by simp only[aR]at ho;subst ho;exact⟨hi,rfl⟩⟩
 |o::r,k,ds,st,nx,outs,hk,h,hi=>by
  have QS:ops[k]?=some o:=by
   have:ops.toList[k]?=some o:=by
    have:=congrArg List.head? hk;simpa [pA]using this
   simpa using this
  have hkr:ops.toList.drop (k+1)=r:=by
   have:(ops.toList.drop k).drop 1=r:=by rw[hk];rfl
   simpa [lY]using this
  simp only[VP,z6,JV,St.go_eq]at h;rw[aQ,List.range'_succ];simp only[wO,QS];split at h
  ·rename_i hd;split at h
   ·rename_i hw;rw[hw];split at h
    ·rename_i us he;refine⟨⟨nS hd,.inl ⟨us.map (·.1),X3 hH he,λu0 hu0=>?_⟩⟩,λy hy=>?_⟩
     ·obtain⟨u,hu,rfl⟩:=aA4.1 hu0;obtain⟨a,h1,h2⟩:=tI h u hu;refine⟨λv e=>?_,λv e=>?_⟩
      ·rw[e]at h1;have:=(DP hH r (k+1) ds (st.O0 o.dst v u.1.2) u.2 a hkr h1 (hi.O0 _ _ _)).1;simp only[St.BM,Tb.VU,Tr.nV]at this;exact wO.mono (λex T m ds⟨q,hq,z⟩=>⟨q,h2 q hq,z⟩) _ _ _ _ this
      ·rw[e]at h1;simp only[aA]at h1;subst h1;exact⟨(.sE v,st.u9 u.1.2,ds,u.2),h2 _ sM,rfl,rfl,by simp only[St.u9,Tr.nV],rfl⟩
     ·obtain⟨u,hu,a,h1,h2⟩:=A4 h y hy;cases hr:u.1.1 with
      |ok v=>
       rw[hr]at h1;have:=(DP hH r (k+1) ds (st.O0 o.dst v u.1.2) u.2 a hkr h1 (hi.O0 _ _ _)).2 y h2;rw[St.aJD]at this;exact this
      |sE v=>
       rw[hr]at h1;simp only[aA]at h1;subst h1;simp only[aR]at h2;subst h2;exact⟨hi.u9 _,rfl⟩
    ·cases h
   ·rename_i hw;rw[hw];have:=DP hH r (k+1) ds _ nx outs hkr h (hi.O0 _ _ _);simp only[St.BM,Tb.VU,Tr.nV,aH]at this;exact⟨⟨nS hd,this.1⟩,this.2⟩
   ·cases h
  ·cases h
end
end Go.Pv
