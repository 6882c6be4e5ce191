import Derived.Test.YtpdcbahjjmooiaaGreatQ4
/- Contracts of functions that the law reaches, and their logic. No conditions. -/
set_option linter.all false
set_option maxRecDepth 100000
set_option maxHeartbeats 8000000
open Go
namespace Go.Pv
open Go.RowKit
variable{o:Oper}{v:A}{m' m:Mem}{pre:Bool}{u:List (Nat×R)}{d i n:Nat}{T' T:Nat->A}{P:Program}{x:Operand}{outs:List (Ot×Nat)}{c:Code}{g:R->R}{r:Rt}
def zL(m:Mem):A->Option (List (Nat×R)×Nat×List (List A))
 |.sv i lo n=>match m i with
  |some (.fW fz t es l)=>some (if fz then []else [(i,.fW true t es l)],es,(l.drop lo).take n)
  |_=>none
 |.d (.sl es l)=>some ([],es,l.map (·.map A.d))
 |.d (.nl es)=>some ([],es,[])
 |_=>none
def gV(P:Program)(m:Mem)(T:Nat->A)(d:Nat)(o:Oper):Option E:=
 match o.op with
 |.slice t x lo (some hi) (some mx)=>match dN T hi,dN T mx with
  |.d (.v (.int k a)),.d (.v (.int k' b))=>match jW P m t (dN T x) (lo.map (dN T)) (some (.d (.v (.int k a)))) (some (.d (.v (.int k' b))))with
   |some (pre,v,_)=>match zL m v with
    |some (u,es,rows)=>cond (decide (a=b)) (some (pre&&(jN m d&&decide (es=P.cellsOf ((j8 P t).getD 0))),.h d,u++[(d,.cu v es rows)])) none
    |none=>none
   |none=>none
  |_,_=>none
 |.call c=>match c.callee,c.args.toList,c.argTypes.toList with
  |.builtin .append,[x,y],[t,t']=>match dN T x with
   |.h i=>match m i with
    |some (.cu src es l)=>match dO m (dN T y),j8 P t with
     |some l2,some e=>match o5 P e with
      |some z=>match l2 with
       |[]=>some (decide (t=t'/\0<P.cellsOf e),.h i,[])
       |_=>some (decide (t=t'/\es=P.cellsOf e/\z.length=es/\0<es/\0<P.bytesOf e/\(l.length+l2.length)*P.bytesOf e<=140737488355328)&&(qW m es (dN T y)&&jN m d),.h d,[(d,.fW false e es (l++l2))])
      |none=>none
     |_,_=>none
    |_=>none
   |.sv i lo n=>match m i with
    |some (.fW false te es l)=>match Nat.beq (lo+n) l.length with
     |true=>match dO m (dN T y),j8 P t with
      |some l2,some e=>match o5 P e with
       |some z=>match l2 with
        |[]=>none
        |_=>some (decide (t=t'/\te=e/\es=P.cellsOf e/\z.length=es/\0<es/\0<P.bytesOf e/\((l.drop lo).length+l2.length)*P.bytesOf e<=140737488355328)&&(qW m es (dN T y)&&jN m d),.h d,[(i,.dead),(d,.fW false e es (l.drop lo++l2))])
       |none=>none
      |_,_=>none
     |false=>none
    |_=>none
   |_=>none
  |_,_,_=>none
 |_=>none
def yW(m:Mem):A->A
 |.h i=>match m i with
  |some (.cu src _ _)=>src
  |_=>.h i
 |x=>x
section
variable{M0 S0:Nat->Prop}{w0:World}{N:Fr}{T:Nat->A}{m:Mem}{ρ:Nat->Value}{a:Act}{w:World}{P:Program}
def W5(h:bC M0 S0 w0 N T m ρ a w){x:A}{y:Value}(hx:x.Den w (dD M0 m ρ) m ρ y):(yW m x).Den w (dD M0 m ρ) m ρ y:=by
 unfold yW;split
 ·rename_i i;split
  ·rename_i src es l hm;simp[A.Den]at hx;have hv:=eH hx hm sM;have⟨_,_,h1,_⟩:=h.res i _ hm;rw[hv];exact h1
  ·exact hx
 ·exact hx
def qT.yW{o:Oper}{v:A}{m':Mem}(I5:qT P o (λt=>yW m (T t)) m v m'):qT P o T m v m':=by
 intro ro N M0 S0 w0 ρ a w h cX next Q hn
 have h':bC M0 (oO m ρ) w N (λt=>Pv.yW m (T t)) m ρ a w:=
  {h.now with tmps:=λt=>W5 h (h.tmps t)}
 refine I5 ro N M0 (oO m ρ) w ρ a w h' (λb hb=>cG (cX b hb) h.keeps.size) next Q ?_
 intro y w' ρ' hs hO hv;exact hn y w' ρ' (h.back hs hO) hO hv
def ZV(h:bC M0 S0 w0 N T m ρ a w){v:A}{y:Value}{u:List (Nat×R)}{es:Nat}{rows:List (List A)}(hv:v.Den w (dD M0 m ρ) m ρ y)(hc:zL m v=some (u,es,rows)):
 dO m v=some rows/\(∀e∈rows,e.length=es)/\((u=[])\/∃i lo n t l,v=.sv i lo n/\m i=some (.fW false t es l)/\u=[(i,.fW true t es l)]):=by
 unfold zL at hc;split at hc
 ·rename_i i lo n;split at hc
  ·rename_i fz t es' l hm;simp[aA,aD]at hc;have⟨rfl,rfl,rfl⟩:=hc;have⟨_,_,_,h3,_⟩:=h.res i _ hm;refine⟨by simp[dO,hm],λe he=>h3 e (dI (dJ he)),?_⟩;cases fz with
   |true=>exact .inl rfl
   |false=>exact .inr ⟨i,lo,n,t,l,rfl,hm,rfl⟩
  ·cases hc
 ·rename_i es' l;simp[aA,aD]at hc;have⟨rfl,rfl,rfl⟩:=hc;simp[A.Den,C.Den]at hv;obtain⟨ad,cap,rfl,_,hl⟩:=hv;refine⟨rfl,?_,.inl rfl⟩;rcases hl with rfl|⟨b,off,_,_,_,hr⟩
  ·simp
  ·intro e he;obtain⟨c,hc,rfl⟩:=aA4.1 he;have⟨k,hk⟩:=List.getElem?_of_mem hc;have:=(C.tX.1 hr k c hk).1;simpa using this
 ·simp[aA,aD]at hc;obtain⟨rfl,rfl,rfl⟩:=hc;exact⟨rfl,sM,.inl rfl⟩
 ·cases hc
def aCD(h:bC M0 S0 w0 N T m ρ a w){v:A}{y:Value}{es:Nat}{rows:List (List A)}(wP:0<es)(hv:v.Den w (dD M0 m ρ) m ρ y)(hs:dO m v=some rows)(hr:∀e∈rows,e.length=es)
 (hfz:∀i lo n,v=.sv i lo n->∃t l,m i=some (.fW true t es l))(hnh:∀i,v≠.h i)(a1B:∃a n,y=.slice a n n):
 ∃ad,y=.slice ad rows.length rows.length/\(rows=[]\/∃b off xs,ad=some ⟨b,off,none⟩/\¬dD M0 m ρ b/\b<w.heap.size/\A.bR w (dD M0 m ρ) m ρ rows.flatten xs/\(∀u∈xs,u.oneCell'=true)/\∀(j:Nat)(z:Value),xs[j]?=some z->w.cell? ⟨b,off+j,none⟩=some z):=by
 obtain⟨ad,cap,news,rfl,E0,h1,h2,h3⟩:=IT h hv hs hr;obtain⟨a',n',e⟩:=a1B;simp only[Value.slice.injEq]at e;obtain⟨rfl,rfl,rfl⟩:=e;refine⟨ad,rfl,?_⟩;by_cases hn:rows=[]
 ·exact .inl hn
 have aWU:0<rows.length:=gH.2 hn;right;obtain⟨dd,rfl,aW7⟩:=h3.resolve_left λ⟨_,e⟩=>hn e;have key:∃b off,dd=⟨b,off,none⟩/\¬dD M0 m ρ b/\b<w.heap.size:=by
  cases v with
  |h i=>exact absurd rfl (hnh i)
  |sv i lo n=>
   obtain⟨t,l,hm⟩:=hfz i lo n rfl;simp only[A.Den]at hv;obtain⟨ad2,cap2,e1,_,es2,fz2,t2,l2,e2,e3,e4⟩:=eH hv hm sM;rw[hm]at e2;simp at e2;obtain⟨rfl,rfl,rfl,rfl⟩:=e2;simp at e1;obtain⟨rfl,rfl,rfl⟩:=e1;obtain⟨b,og,n',cap',e5,e6,_⟩:=e4.resolve_left oM;simp at e6;subst e6;obtain⟨xs,g1,g2,g3,g4,g5⟩:=h.res i _ hm;rw[e5]at g1 g4;rcases g1 with⟨_,_,_,q⟩|⟨_,g,og,c,cur,q,hp,hg,_⟩
   ·simp at q;omega
   ·simp at q;obtain⟨⟨rfl,rfl⟩,rfl,rfl⟩:=q;exact⟨b,_,rfl,g4 rfl b (by simp[blk];omega),(aL.1 hg).1⟩
  |d c=>
   cases c with
   |sl es' l'=>
    simp only[A.Den,C.Den]at hv;obtain⟨ad2,cap2,e1,_,e2⟩:=hv;simp only[dO,aA]at hs;subst hs;simp at e1;obtain⟨rfl,_⟩:=e1;obtain⟨b,off,e3,e4,e5,_⟩:=e2.resolve_left (by rintro rfl;simp at aWU);simp at e3;exact⟨b,off,e3,e4,e5⟩
   |nl es'=>simp only[dO,aA]at hs;subst hs;exact absurd rfl hn
   |_=>simp[dO]at hs
  |_=>simp[dO]at hs
 obtain⟨b,off,rfl,hM,hb⟩:=key;exact⟨b,off,news,rfl,hM,hb,h2,h1,λj z hj=>by have:=aW7 j z hj;rwa [eP]at this⟩
def bC.aLM(h:bC M0 S0 w0 N T m ρ a w){d:Nat}(hd:m d=none){r:R}{v:Value}(hl:r.live=false)(hok:gL m (aX m d r) ρ (dW ρ d v)->(∀b,dD M0 (aX m d r) (dW ρ d v) b->dD M0 m ρ b)->R.Ok w (dD M0 (aX m d r) (dW ρ d v)) (aX m d r) (dW ρ d v) v r):
 bC M0 S0 w0 N T (aX m d r) (dW ρ d v) a w:=by
 have hO:gL m (aX m d r) ρ (dW ρ d v):=gL.new r v hd;have hm:∀b,dD M0 (aX m d r) (dW ρ d v) b->dD M0 m ρ b:=by
  rintro b (e|⟨i,r1,hi,BB,hb⟩)
  ·exact .inl e
  ·by_cases e:i=d
   ·subst e;simp[aX]at hi;subst hi;rw[hl]at BB;cases BB
   ·exact .inr ⟨i,r1,by simpa [aX,e]using hi,BB,by simpa [dW,e]using hb⟩
 have zI:∀b,dD M0 (aX m d r) (dW ρ d v) b->b<w.heap.size->dD M0 m ρ b:=λb hb _=>hm b hb;have liv:∀j r1,aX m d r j=some r1->r1.live=true->j≠d/\m j=some r1:=by
  intro j r1 hj BB;have e:j≠d:=by rintro rfl;simp[aX]at hj;subst hj;rw[hl]at BB;cases BB
  exact⟨e,by simpa [aX,e]using hj⟩
 have hH:∀j,j≠d->dW ρ d v j=ρ j:=λj e=>by simp[dW,e]
 refine{keeps:=h.keeps,size:=h.size,defers:=λds e=>eJ (dV.refl _ w) zI hO _ _ (h.defers ds e)
        tmps:=λn=>A.dC (dV.refl _ w) zI hO _ _ (h.tmps n)
        res:=λj r1 hj=>?_,own:=λj r1 b hj BB hb=>?_,apart:=λj k r1 r2 b h1 l1 h2 l2 b1 b2=>?_}
 ·by_cases e:j=d
  ·subst e;have e1:dW ρ j v j=v:=by simp[dW]
   simp[aX]at hj;subst hj;rw[e1];exact hok hO hm
  ·rw[hH j e];exact R.hU (dV.refl _ w) zI hO (λ_ _ _=>rfl) (h.res j r1 (by simpa [aX,e]using hj))
 ·have⟨e,e1⟩:=liv j r1 hj BB;rw[hH j e]at hb;exact h.own j r1 b e1 BB hb
 ·have⟨e,e1⟩:=liv j r1 h1 l1;have⟨f,f1⟩:=liv k r2 h2 l2;rw[hH j e]at b1;rw[hH k f]at b2;exact h.apart j k r1 r2 b e1 l1 f1 l2 b1 b2
def UO{t:TypeId}{x:A}{lo hi mx:Option A}(he:jW P m t x lo hi mx=some (pre,v,u)):∀i,v≠.h i:=by
 intro i e;subst e;unfold jW at he;split at he
 ·split at he
  ·simp at he
  ·cases he
 ·split at he
  ·split at he
   ·split at he<;>simp at he
   ·cases he
  ·cases he
def aID(h:bC M0 S0 w0 N T m ρ a w)(cX:∀b,M0 b->b<w0.heap.size){o:Oper}{d:Nat}{pre:Bool}{v:A}{ups:List (Nat×R)}(he:gV P m T d o=some (pre,v,ups))(hp:pre=true):G1 P M0 S0 w0 N T m ρ a w o v (aH m ups):=by
 unfold gV at he;split at he
 ·rename_i t x lo hi mx ho;split at he
  ·rename_i k p k' q hhi hmx;split at he
   ·rename_i pre' v' u' hsl;split at he
    ·rename_i u es rows n0;rw[Bool.cond_eq_ite]at he;split at he
     ·rename_i hpq;have hpq:=aUL hpq;subst hpq;simp only[aA,aD]at he;obtain⟨rfl,rfl,rfl⟩:=he;simp only[aE,aUA]at hp;obtain⟨hp1,hp2,hp3⟩:=hp;have hd:=hG hp2;have olo:vU w (dD M0 m ρ) m ρ (lo.map (dN T)) (lo.map a.eval):=by
       cases lo with
       |none=>exact .inl ⟨rfl,rfl⟩
       |some l=>exact .inr ⟨_,_,rfl,rfl,cU h l⟩
      have ohi:vU w (dD M0 m ρ) m ρ (some (.d (.v (.int k p)))) (some (a.eval hi)):=.inr ⟨_,_,rfl,rfl,by rw[<-hhi];exact cU h hi⟩;have omx:vU w (dD M0 m ρ) m ρ (some (.d (.v (.int k' p)))) (some (a.eval mx)):=.inr ⟨_,_,rfl,rfl,by rw[<-hmx];exact cU h mx⟩;obtain⟨_,z,hr,hz,aZ6⟩:=OQ (P:=P) h (cU h x) olo ohi omx hsl hp1;obtain⟨ca,cn,hcz⟩:=aZ6 ⟨k,k',p,rfl,rfl⟩;obtain⟨g1,g2,g3⟩:=ZV h hz n0;have hnh:=UO hsl;have aVL:(execOp a.eval o).run P w=.ok (.value z) w:=by simp[execOp,ho];rw[hr];simp
      have hfz:∃m1,aH m u=m1/\bC M0 S0 w0 N T m1 ρ a w/\gL m m1 ρ ρ/\m1 d=none/\v'.Den w (dD M0 m1 ρ) m1 ρ z/\dO m1 v'=some rows/\(∀i lo n,v'=.sv i lo n->∃t l,m1 i=some (.fW true t es l)):=by
       rcases g3 with rfl|⟨i,lo',n',t',l',rfl,hm,rfl⟩
       ·refine⟨m,rfl,h,gL.refl m ρ,hd,hz,g1,?_⟩;rintro i lo' n' rfl;unfold zL at n0;simp only at n0;split at n0
        ·rename_i fz t' es' l' hm;simp only[aA,aD]at n0;obtain⟨q1,rfl,rfl⟩:=n0;cases fz with
         |true=>exact⟨t',l',hm⟩
         |false=>simp at q1
        ·cases n0
       ·have hO:gL m (aX m i (.fW true t' es l')) ρ ρ:=by
         have:=gL.set (m:=m) (ρ:=ρ) i (.fW true t' es l') (ρ i) (λ_ _=>⟨by rw[hm];simp,rfl,λfz t es l e=>⟨true,t',l',by rw[hm]at e;simp at e;rw[e.2.2.1],by rw[hm]at e;simp at e;rw[e.2.2.2]⟩⟩)
         rwa [jP]at this
        have hs1:bC M0 S0 w0 N T (aX m i (.fW true t' es l')) ρ a w:=h.freeze hm rfl;have hdi:d≠i:=by rintro rfl;rw[hd]at hm;cases hm
        refine⟨aX m i (.fW true t' es l'),rfl,hs1,hO,by simp[aX,hdi,hd],?_,?_,?_⟩
        ·refine A.dC (dV.refl _ w) (λb hb _=>?_) hO _ _ hz;rcases hb with e|⟨j,r1,hj,BB,hb⟩
         ·exact .inl e
         ·by_cases e:j=i
          ·subst e;simp[aX]at hj;subst hj;simp[R.live]at BB
          ·exact .inr ⟨j,r1,by simpa [aX,e]using hj,BB,hb⟩
        ·simp only[dO,aX,if_true]at g1⊢;rw[hm]at g1;exact g1
        ·intro i2 lo2 n2 e;simp only[A.sv.injEq]at e;obtain⟨rfl,_,_⟩:=e;exact⟨t',l',by simp[aX]⟩
      obtain⟨m1,hm1,hs1,hO1,hd1,XN,hr1,hf1⟩:=hfz;have wP:0<es\/rows=[]:=by
       by_cases hn:rows=[]
       ·exact .inr hn
       ·left;cases es with
        |succ _=>omega
        |zero=>
         exfalso;unfold jW at hsl;split at hsl
         ·split at hsl
          ·simp only[aA,aD]at hsl;obtain⟨_,rfl,_⟩:=hsl;simp[zL]at n0
          ·cases hsl
         ·split at hsl
          ·rename_i L e hs O2;rw[O2]at hp3;simp only[gZ]at hp3;split at hsl
           ·split at hsl
            ·simp only[aA,aD]at hsl;obtain⟨rfl,_⟩:=hsl;have:=(tF hp1).2.2.1;omega
            ·simp only[aA,aD]at hsl;obtain⟨rfl,_⟩:=hsl;have:=(tF hp1).2.2.1;omega
            ·simp only[aA,aD]at hsl;obtain⟨rfl,_⟩:=hsl;have:=aUL hp1;omega
            ·simp only[aA,aD]at hsl;obtain⟨rfl,_⟩:=hsl;have:=aUL hp1;omega
            ·cases hsl
           ·cases hsl
          ·cases hsl
      obtain⟨ad,hzv,aWE⟩:∃ad,z=.slice ad rows.length rows.length/\(rows=[]\/∃b off xs,ad=some ⟨b,off,none⟩/\¬dD M0 m1 ρ b/\b<w.heap.size/\A.bR w (dD M0 m1 ρ) m1 ρ rows.flatten xs/\(∀u∈xs,u.oneCell'=true)/\∀(j:Nat)(z:Value),xs[j]?=some z->w.cell? ⟨b,off+j,none⟩=some z):=by
       rcases wP with wP|hn
       ·exact aCD hs1 wP XN hr1 g2 hf1 hnh ⟨ca,cn,hcz⟩
       ·subst hn;obtain⟨ad,cap,e,_⟩:=EZ hs1 XN hr1;rw[hcz]at e;simp at e;obtain⟨rfl,rfl,rfl⟩:=e;exact⟨ca,hcz,.inl rfl⟩
      have key:bC M0 S0 w0 N T (aX m1 d (.cu v' es rows)) (dW ρ d z) a w:=by
       refine hs1.aLM hd1 rfl λhO hM=>?_;have hM':∀b,dD M0 (aX m1 d (.cu v' es rows)) (dW ρ d z) b->b<w.heap.size->dD M0 m1 ρ b:=λb hb _=>hM b hb;refine⟨ad,hzv,A.dC (dV.refl _ w) hM' hO _ _ XN,g2,aWE.imp id ?_⟩;rintro⟨b,off,xs,e,f1,f2,f3,f4,f5⟩;exact⟨b,off,xs,e,λq=>f1 (hM b q),f2,A.dK (dV.refl _ w) hM' hO _ _ f3,f4,f5⟩
      have hap:aH m (u++[(d,.cu v' es rows)])=aX m1 d (.cu v' es rows):=by
       rw[<-hm1];rcases g3 with rfl|⟨i,lo',n',t',l',rfl,hm,rfl⟩<;>rfl
      rw[hap];refine⟨z,w,dW ρ d z,_,aVL,.inl rfl,key,hO1.trans (gL.new _ _ hd1),?_⟩;simp only[A.Den];exact⟨by simp[aX],λ_=>by simp[dW]⟩
     ·cases he
    ·cases he
   ·cases he
  ·cases he
 ·rename_i c ho;obtain⟨callee,args,tys⟩:=c;simp only at he;split at he
  ·rename_i x y t t' h1 h2;have e1:=ME h1;have e2:=ME h2;subst e1;subst e2;split at he
   ·rename_i i hx;split at he
    ·rename_i src es l hm;split at he
     ·rename_i l2 e hs O2;split at he
      ·rename_i z hz;have v8:=cU h x;rw[hx]at v8;simp only[A.Den]at v8;have hxv:=eH v8 hm sM;obtain⟨ad,hρ,a2V,hrl,aW7⟩:=h.res i _ hm;have ht:=nU O2;split at he
       ·simp only[aA,aD]at he;obtain⟨rfl,rfl,rfl⟩:=he;obtain⟨rfl,p2⟩:=aUL hp;obtain⟨ad2,cap2,hy,_⟩:=EZ h (cU h y) hs;obtain⟨inf,hi⟩:=sA p2;have aVL:(Builtin.append_ #[t,t] o.type #[.slice ad l.length l.length,.slice ad2 0 cap2]).run P w=.ok (.slice ad l.length l.length) w:=by
         cases ad2 with
         |none=>cases ad<;>simp[Builtin.append_,run_underlying ht,run_sizeOf hi,Builtin.lenOf,Builtin.firstCells,storeCells]
         |some dd=>
          have hl:=run_firstCells_some (P:=P) w (P.cellsOf e) 0 dd 0 cap2 [] sM sM;cases ad<;>simp[Builtin.append_,run_underlying ht,run_sizeOf hi,Builtin.lenOf,hl,storeCells]
        refine⟨.slice ad l.length l.length,w,ρ,_,by simp[execOp,ho,resolve,invoke,builtin,hxv,hρ,hy,aVL],.inl rfl,h,gL.refl m ρ,?_⟩;simp only[A.Den];exact⟨by simp only[aH];rw[hm];simp,λ_=>hρ.symm⟩
       ·rename_i hZ;simp only[aA,aD]at he;obtain⟨rfl,rfl,rfl⟩:=he;simp only[aE]at hp;obtain⟨hp1,hp2,hp3⟩:=hp;obtain⟨rfl,rfl,p2,p3,p4,p5⟩:=aUL hp1;have hd:=hG hp3;have hl2:=CQ h (cU h y) hs hp2;obtain⟨zv,_,XO,⟨inf,hi,hzi⟩,_⟩:=qA hz w;have hzs:zv.cells.size=P.cellsOf e:=by have:=(C.xJ.1 (XO w (λ_=>False))).1;rw[p2]at this;simpa using this.symm
        have vZ:inf.size=P.cellsOf e:=by simp[Program.cellsOf,hi]
        have hbz:inf.bytes=P.bytesOf e:=by simp[Program.bytesOf,hi]
        obtain⟨ad2,cap2,news,hy,E0,P0,y4,aZ2⟩:=IT h (cU h y) hs hl2;have aWU:0<l2.length:=gH.2 λe=>hZ e;obtain⟨dd,rfl,hnc⟩:=aZ2.resolve_left λ⟨_,e⟩=>hZ e;have fin:∀{v':Value}{w':World}{xs:List Value},(Builtin.append_ #[t,t] o.type #[.slice ad l.length l.length,.slice (some dd) l2.length cap2]).run P w=.ok v' w'->vV w' e (P.cellsOf e) v' (l.length+l2.length) (xs++news)->iF (λ_=>False) w w'->
         (∀b,blk v'=some b->w.heap.size<=b/\b<w'.heap.size)->A.bR w (dD M0 m ρ) m ρ l.flatten xs->(∀u∈xs,u.oneCell'=true)->
         G1 P M0 S0 w0 N T m ρ a w o (.h d) (aH m [(d,.fW false e (P.cellsOf e) (l++l2))]):=by
         intro v' w' xs aVL aWZ hk a12 hxs R2;have hs':bC M0 S0 w0 N T (aX m d (.fW false e (P.cellsOf e) (l++l2))) (dW ρ d v') a w':=by
          refine h.rG cX hk hd rfl a12 λhO HG hM=>?_;refine⟨xs++news,by rw[aU];exact aWZ,?_,?_,sM,?_⟩
          ·rw[fJ];exact A.iH (A.dK HG hM hO _ _ hxs) (A.dK HG hM hO _ _ y4)
          ·intro r hr;simp at hr;exact hr.elim (hrl r) (hl2 r)
          ·intro u hu;simp at hu;exact hu.elim (R2 u) (P0 u)
         refine⟨v',w',dW ρ d v',_,by simp[execOp,ho,resolve,invoke,builtin,hxv,hρ,hy,aVL],.inl rfl,hs',gL.new _ _ hd,?_⟩;simp only[A.Den,aH];exact⟨by simp[aX],λ_=>by simp[dW]⟩
        rcases aW7 with rfl|⟨b,off,xs,rfl,c1,c2,c3,c4,c5⟩
        ·have aZD:vV w e (P.cellsOf e) (.slice ad 0 0) 0 []\/(Value.slice ad 0 0=.slice none 0 0/\0=0/\([]:List Value)=[]/\0<l2.length):=by
          cases ad with
          |none=>exact .inr ⟨rfl,rfl,rfl,aWU⟩
          |some a=>exact .inl (.inl ⟨rfl,rfl,a,rfl⟩)
         obtain⟨v',w',aVL,aZX,aW2,aX8,a07⟩:=LC P w (ty:=o.type) (cap:=cap2) ht hi hzi vZ hbz hzs p3 p4 aZD E0 P0 (.inr ⟨dd,rfl,hnc⟩) (by simpa using p5);have hnb:blk (.slice ad 0 0)=none:=by cases ad<;>simp[blk]
         refine fin (xs:=[]) (by simpa using aVL) (by simpa using aZX) ⟨aW2.os,aW2.tape,aW2.output,aW2.size,λb hb _=>aW2.block b hb (by rw[hnb];simp)⟩ (λb hb=>⟨?_,a07 b hb⟩) (by simp[A.bR]) sM;rcases aX8 b hb with q|q
         ·rw[hnb]at q;cases q
         ·exact q
        ·have hxl:xs.length=l.length*P.cellsOf e:=by rw[<-(A.xJ.1 c3).1,fI hrl]
         have hmx:l.length+l2.length<=maxLen:=by
          have:(l.length+l2.length)*1<=(l.length+l2.length)*P.bytesOf e:=sX _ p4;unfold maxLen;omega
         have a1M:l.length+l2.length<=9223372036854775807:=by unfold maxLen at hmx;omega
         have aVL:=run_append_grow (P:=P) (ty:=o.type) w t e inf zv ht hi hzi ⟨b,off,none⟩ l.length l.length xs (by rw[hxl,vZ]) (λj u hu=>by rw[eP];exact c5 j u hu) dd l2.length cap2 news (by rw[E0,vZ]) hnc oM oM (growslice_fits oM (by rw[hbz];exact p5));have hge:=grownCap_ge w (l.length+l2.length) l.length e;refine fin (xs:=xs) aVL ?_ ⟨rfl,rfl,rfl,sM,λb hb _=>by rw[Below.heap_alloc w.drew _ b (by simpa using hb)];rfl⟩ (λb hb=>?_) c3 c4
         ·refine .inr ⟨by rw[aU,hxl,E0,fS],w.heap.size,0,_,_,rfl,oM,heap_alloc_new w.drew _,hge,grownCap_le_maxLen w (l.length+l2.length) l.length e hmx,?_,?_⟩
          ·rw[fF];simp only[Array.size_append,nJ,size_zeroCells,hzs,hxl,E0,<-Nat.add_mul];refine Nat.le_of_eq ?_;congr 1;omega
          ·simp only[Array.toList_append,n6];rw[bG,<-List.append_assoc,List.take_left' (by rw[aU,hxl,E0,fS])]
         ·simp[blk]at hb;simp;omega
      ·cases he
     ·cases he
    ·cases he
   ·rename_i i lo n hx;split at he
    ·rename_i te es l hm;split at he
     ·rename_i hln;split at he
      ·rename_i l2 e hs O2;split at he
       ·rename_i z hz;split at he
        ·cases he
        ·rename_i hZ;simp only[aA,aD]at he;obtain⟨rfl,rfl,rfl⟩:=he;simp only[aE]at hp;obtain⟨hp1,hp2,hp3⟩:=hp;obtain⟨rfl,rfl,wP,p2,p3,p4,p5⟩:=aUL hp1;subst wP;have hd:=hG hp3;have hln:=bB hln;have hl2:=CQ h (cU h y) hs hp2;have aWU:0<l2.length:=gH.2 λe=>hZ e;have v8:=cU h x;rw[hx]at v8;simp only[A.Den]at v8;obtain⟨ad,cap,hev,hnc,es2,fz2,t2,l2',q1,q2,q3⟩:=eH v8 hm sM;rw[hm]at q1;simp at q1;obtain⟨rfl,rfl,rfl,rfl⟩:=q1;obtain⟨xs,g1,g2,g3,g4,g5⟩:=h.res i _ hm;have hdl:(l.drop lo).length=n:=by rw[l4];omega
         have aWZ:∃ys,(vV w te (P.cellsOf te) (.slice ad n cap) n ys\/(Value.slice ad n cap=.slice none 0 0/\n=0/\ys=[]/\0<l2.length))/\A.bR w (dD M0 m ρ) m ρ (l.drop lo).flatten ys/\(∀u∈ys,u.oneCell'=true)/\(∀b,blk (.slice ad n cap)=some b->blk (ρ i)=some b):=by
          rcases q3 with⟨rfl,rfl,q4⟩|⟨b,og,n',cap',e5,rfl,hcc⟩
          ·have hl0:l.drop lo=[]:=bL hdl;refine⟨[],?_,by rw[hl0];simp[A.bR],sM,by cases ad<;>simp[blk]⟩;cases ad with
           |none=>exact .inr ⟨rfl,rfl,rfl,aWU⟩
           |some ad=>exact .inl (.inl ⟨rfl,rfl,ad,rfl⟩)
          ·rw[e5]at g1;have a1F:A.bR w (dD M0 m ρ) m ρ (l.drop lo).flatten (xs.drop (lo*P.cellsOf te)):=by
            have e1:l.flatten=(l.take lo).flatten++(l.drop lo).flatten:=by rw[<-List.flatten_append,gJ]
            have e2:((l.take lo).flatten).length=lo*P.cellsOf te:=by
             rw[fI (λr hr=>g3 r (dJ hr)),cW];congr 1;omega
            have e3:(l.drop lo).flatten=l.flatten.drop (lo*P.cellsOf te):=by rw[e1,List.drop_left' e2]
            rw[e3];exact A.lL _ g2
           refine⟨xs.drop (lo*P.cellsOf te),?_,a1F,λu hu=>g5 u (dI hu),?_⟩
           ·rcases g1 with⟨a2R,_,aa,qq⟩|⟨hxl,g,og',c',cur,qq,hp0,hg,a2Z,hcm,aXM,htk⟩
            ·simp at qq;obtain⟨_,hq1,WI⟩:=qq;have hc0:cap=0:=oM;have hn0:n=0:=oM;subst hc0;subst hn0;subst a2R;exact .inl (.inl ⟨sM,rfl,_,rfl⟩)
            ·simp at qq;obtain⟨⟨rfl,rfl⟩,rfl,rfl⟩:=qq;by_cases hc0:cap=0
             ·subst hc0;have hn0:n=0:=oM;subst hn0;refine .inl (.inl ⟨?_,rfl,_,rfl⟩);apply bL;rw[l4,hxl];have:l.length=lo:=oM;rw[this];omega
             ·refine .inl (.inr ⟨?_,b,og+lo*P.cellsOf te,cap,cur,rfl,oM,hg,hnc,oM,?_,?_⟩)
              ·rw[l4,hxl,<-hln,fS];omega
              ·have:=fE (P.cellsOf te) hcc;rw[fS]at this;omega
              ·rw[<-htk,<-hln,fS,List.drop_take,lY,Nat.add_sub_cancel_left]
           ·intro b' hb';rw[e5];simp only[blk]at hb'⊢;split at hb'
            ·cases hb'
            ·rw[aT7 oM];exact hb'
         obtain⟨ys,aWZ,hyd,hy1,hyb⟩:=aWZ;obtain⟨ρ',v',w',aVL,hs',hO,hv'⟩:=LI (P:=P) (ty:=o.type) (k:=some i) (l:=l.drop lo) h cX hs O2 hz p2 p3 rfl rfl p4 (λr hr=>g3 r (dI hr)) hl2 (λj e=>by cases e;exact⟨l,hm⟩) hd p5 hev (by rw[hdl];exact aWZ) hyd hy1 (λb hb=>⟨i,_,rfl,hm,rfl,hyb b hb⟩) (λj e=>by cases e;exact⟨_,hm,rfl⟩);refine⟨v',w',ρ',_,by simp[execOp,ho,resolve,invoke,builtin,aVL],.inl rfl,hs',hO,hv'⟩
       ·cases he
      ·cases he
     ·cases he
    ·cases he
   ·cases he
  ·cases he
 ·cases he
def H0{e:E}(h:gV P m T d o=some e):jO o=true:=by
 unfold jO;split
 ·rename_i c ho;simp[gV,ho]at h
 ·rfl
def qT.YZ{ups:List (Nat×R)}(he:gV P m T d o=some (pre,v,ups))(hp:pre=true):qT P o T m v (aH m ups):=by
 intro ro N M0 S0 w0 ρ a w h cX next Q hn
 have⟨y,w',ρ',res,hr,aX0,hs,hO,hv⟩:=aID h cX he hp;exact qQ (H0 he) hr aX0 (hn y w' ρ' hs hO hv)
def eM(P:Program)(m:Mem)(T:Nat->A)(d:Nat)(o:Oper):Option E:=match gV P m T d o with
 |some e=>some e
 |none=>kT P m T d o
def qT.sD{ups:List (Nat×R)}(he:eM P m T d o=some (pre,v,ups))(hp:pre=true):qT P o T m v (aH m ups):=by
 unfold eM at he;split at he
 ·rename_i e hc;simp[aA]at he;subst he;exact qT.YZ hc hp
 ·exact qT.WC he hp
def SC{t:TypeId}{x:A}{lo hi mx:Option A}(he:jW P m t x lo hi mx=some (pre,v,u)):∀i∈v.hs,i∈x.hs:=by
 unfold jW at he;split at he
 ·split at he
  ·simp[aA,aD]at he;have⟨_,rfl,_⟩:=he;simp[A.hs]
  ·cases he
 ·split at he
  ·split at he
   ·split at he
    ·simp[aA,aD]at he;have⟨_,rfl,_⟩:=he;simp[A.hs]
    ·simp[aA,aD]at he;have⟨_,rfl,_⟩:=he;simp[A.hs]
    ·simp[aA,aD]at he;have⟨_,rfl,_⟩:=he;simp[A.hs]
    ·simp[aA,aD]at he;have⟨_,rfl,_⟩:=he;simp[A.hs]
    ·cases he
   ·cases he
  ·cases he
def ZU(h:zH m m' v):zL m v=zL m' v:=by
 cases v with
 |sv i lo n=>simp[zL,h.sv]
 |d c=>cases c<;>simp[zL]
 |_=>simp[zL]
def R8(h:MB o T T' m m')(hd:m d=m' d):gV P m T d o=gV P m' T' d o:=by
 have⟨hT,hm⟩:=h;unfold gV;cases ho:o.op with
 |slice t x lo hi mx=>
  cases hi with
  |none=>rfl
  |some hi=>
   cases mx with
   |none=>rfl
   |some mx=>
    have e1:dN T hi=dN T' hi:=hT hi (by simp[ho,Op.operands]);have e2:dN T mx=dN T' mx:=hT mx (by simp[ho,Op.operands]);have e3:dN T x=dN T' x:=hT x (by simp[ho,Op.operands]);have e4:lo.map (dN T)=lo.map (dN T'):=by
     cases lo with
     |none=>rfl
     |some l=>simp[dF];rw[hT l (by simp[ho,Op.operands])]
    have ax:=hm x (by simp[ho,Op.operands]);simp[<-e1,<-e2,<-e3,<-e4];split
    ·rename_i k p k' q h1 h2;rw[<-DN ax];split
     ·rename_i pre v u hs;have av:zH m m' v:=λi hi=>ax i (SC hs i hi);rw[<-ZU av,oA hd]
     ·rfl
    ·rfl
 |call c=>
  have⟨callee,args,tys⟩:=c;simp only;cases callee with
  |value f=>rfl
  |invoke r n=>rfl
  |builtin b=>
   have mem:∀x∈args.toList,x∈o.op.operands.toList:=by
    intro x hx;rw[ho];simp[Op.operands,Call.operands];simpa using hx
   cases b with
   |append=>
    cases h1:args.toList with
    |nil=>rfl
    |cons x r=>
     cases r with
     |nil=>cases tys.toList<;>rfl
     |cons y r=>
      cases r with
      |cons _ _=>cases tys.toList<;>rfl
      |nil=>
       cases h2:tys.toList with
       |nil=>rfl
       |cons t r=>
        cases r with
        |nil=>rfl
        |cons t' r=>
         cases r with
         |cons _ _=>rfl
         |nil=>
          have hx:=mem x (by rw[h1];simp);have hy:=mem y (by rw[h1];simp);simp[<-hT x hx,<-hT y hy,<-pZ (hm y hy),<-GV (hm y hy),oA hd];cases BF:dN T x with
          |h i=>
           have:m i=m' i:=hm x hx i (by rw[BF];simp[A.hs]);simp[this]
          |sv i lo n=>
           have:m i=m' i:=hm x hx i (by rw[BF];simp[A.hs]);simp[this]
          |_=>rfl
   |_=>rfl
 |_=>rfl
def FO(h:MB o T T' m m')(hd:m d=m' d)(hs:shallow o=true):eM P m T d o=eM P m' T' d o:=by
 unfold eM;rw[R8 h hd,VN h hd hs]
end
inductive Cal where
 |fn(f:FuncId)
 |yl(i:Nat)
structure St where
 T:Tb
 m:Tr R
 b:Tr R
 log:List Nat
abbrev Hd:=Cal->List A->Tr R->Nat->Option (List Ot×Nat)
abbrev Oc:=Ex×St×List DA×Nat
def fM:Nat:=64
def fK:Nat:=1048576
def s9(i:Nat):List Nat->Bool
 |[]=>false
 |j::r=>cond (Nat.beq i j) true (s9 i r)
def KF(b:Tr R):List (Nat×R)->List Nat->List Nat
 |[],l=>l
 |(i,_)::r,l=>KF b r (match b.get i with
  |none=>l
  |some _=>cond (s9 i l) l (i::l))
def St.O0(st:St)(d:Option Nat)(v:A)(u:List (Nat×R)):St:=
 St.casesOn (motive:=λ_=>St) st λT m b log=>List.casesOn (motive:=λ_=>St) u {T:=T.put d v,m:=m,b:=b,log:=log} (λp q=>{T:=T.put d v,m:=Tr.MW fM m (p::q),b:=b,log:=KF b (p::q) log})
def St.go{β:Type}(st:St)(k:St->β):β:=St.casesOn (motive:=λ_=>β) st λT m b log=>Tb.casesOn (motive:=λ_=>β) T λq o=>Q4.casesOn (motive:=λ_=>β) q λq0 q1 q2 q3=>k {T:={t:={a:=q0,b:=q1,c:=q2,d:=q3},o:=o},m:=m,b:=b,log:=log}
def St.go_eq{β:Type}(st:St)(k:St->β):st.go k=k st:=by cases st;rfl
def St.BM(st:St)(d:Option Nat)(v:A)(u:List (Nat×R)):st.O0 d v u={T:=st.T.put d v,m:=Tr.MW fM st.m u,b:=st.b,log:=KF st.b u st.log}:=by cases u<;>rfl
def St.u9(st:St)(u:List (Nat×R)):St:={T:=st.T,m:=Tr.MW fM st.m u,b:=st.b,log:=KF st.b u st.log}
def vC{α β:Type}(f:α->Option (List β)):List α->Option (List β)
 |[]=>some []
 |[x]=>f x
 |x::r=>match f x,vC f r with
  |some a,some b=>some (a++b)
  |_,_=>none
def vE(n:Nat):Option Nat->Bool
 |none=>true
 |some d=>Nat.blt d n
def yY(e:Option E)(nx:Nat):Option (List (Ot×Nat)):=
 match e with
 |some (true,v,u)=>some [((.ok v,u),nx+u.length+1)]
 |_=>none
def P6:Option (List Ot×Nat)->Option (List (Ot×Nat))
 |some (l,nx)=>some (l.map λu=>(u,nx))
 |none=>none
def aFX:Nat:=16384
def aKH(m:Nat->Option R)(x:A)(nx:Nat)(u:List (Nat×R)):Nat:=
 match x with
 |.h d=>match u with
  |[(_,.it _ _ start (s::_))]=>d+64+start.length+(s -d -2)*aFX
  |_=>match m d with
   |some (.it _ _ start _)=>d+64+start.length+start.length*aFX
   |_=>nx
 |_=>nx
def CF(P:Program)(H:Hd)(st:St)(nx:Nat)(c:Call):Option (List (Ot×Nat)):=
 match mO st.T.fn c with
 |some (f,as)=>P6 (H (.fn f) as st.m nx)
 |none=>match c.callee with
  |.value fo=>match dN st.T.fn fo with
   |.h i=>P6 (H (.yl i) (c.args.toList.map (dN st.T.fn)) st.m nx)
   |_=>none
  |_=>none
def SH(P:Program)(H:Hd)(st:St)(nx:Nat)(o:Oper):Option (List (Ot×Nat)):=
 match o.op with
 |.next x b=>match IE st.m.get (dN st.T.fn x) b with
  |some (true,outs)=>some (outs.map λu=>((.ok u.1,u.2),aKH st.m.get (dN st.T.fn x) nx u.2))
  |_=>none
 |.call c=>match gV P st.m.get st.T.fn nx o with
  |some e=>yY (some e) nx
  |none=>match kT P st.m.get st.T.fn nx o with
   |some e=>yY (some e) nx
   |none=>match CF P H st nx c with
    |some r=>some r
    |none=>match kT P st.m.get (λt=>yW st.m.get (st.T.fn t)) nx o with
     |some e=>yY (some e) nx
     |none=>none
 |_=>match gV P st.m.get st.T.fn nx o with
  |some e=>yY (some e) nx
  |none=>match kT P st.m.get st.T.fn nx o with
   |some e=>yY (some e) nx
   |none=>match kT P st.m.get (λt=>yW st.m.get (st.T.fn t)) nx o with
     |some e=>yY (some e) nx
     |none=>none
inductive KO where
 |ND(f:Program->Mem->(Nat->A)->Nat->Option E)
 |call(c:Call)
 |other
def P8:Callee->Bool
 |.builtin _=>false
 |_=>true
def VL(x:A)(i:Nat):Option E:=match x with
 |.eL l=>some (decide (i<l.length),l.getD i .x,[])
 |_=>none
def JN(h:o.op=.extract x i):kT P m T d o=VL (dN T x) i:=by
 unfold kT kG jZ j9 qI;simp[h];unfold VL;cases dN T x<;>rfl
def comp(o:Oper):KO:=
 match o.guard with
 |some _=>.other
 |none=>match o.op with
  |.move x=>.ND λP m T d=>some (true,B0 P o.type (dN T x),[])
  |.assign x=>.ND λP m T d=>some (true,B0 P o.type (dN T x),[])
  |.load t x=>.ND λP m T d=>jM P m t (dN T x)
  |.store t x y=>.ND λP m T d=>j3 P m T t x y
  |.nilCheck x=>.ND λP m T d=>nT m (dN T x)
  |.unOp op _ x=>.ND λP m T d=>NF op (dN T x)
  |.fieldAddr t x f=>.ND λP m T d=>mG P m t (dN T x) f
  |.field t x f=>.ND λP m T d=>uF P m t (dN T x) f
  |.indexAddr t x i=>.ND λP m T d=>j7 P m t (dN T x) (dN T i)
  |.index t x ix=>.ND λP m T d=>zY P t (dN T x) (dN T ix)
  |.lookup t x ix ok=>.ND λP m T d=>lO P m t (dN T x) (dN T ix) ok
  |.binOp op t x y _=>.ND λP m T d=>xZ P m op t (dN T x) (dN T y)
  |.makeFunc f first caps=>.ND λP m T d=>some (true,.fn f (first.toList.map (dN T)) (caps.toList.map (dN T)),[])
  |.extract x i=>.ND λP m T d=>VL (dN T x) i
  |.slice t x lo hi none=>.ND λP m T d=>jW P m t (dN T x) (lo.map (dN T)) (hi.map (dN T)) none
  |.alloc t=>.ND λP m T d=>(o5 P t).map λl=>(jN m d,.lp d 0,[(d,.cells false (l.map .d))])
  |.call c=>cond (P8 c.callee) (.call c) .other
  |_=>.other
def JV(P:Program)(H:Hd)(rd:Bool)(rec:List DA->St->Nat->Option (List Oc))(o:Oper)(ds:List DA)(st:St)(nx:Nat)(us:Option (List (Ot×Nat))):Option (List Oc):=
 match us with
 |some us=>vC (λu=>match u.1.1 with
  |.ok v=>St.go (st.O0 o.dst v u.1.2) λst'=>rec ds st' u.2
  |.sE v=>some [(.sE v,st.u9 u.1.2,ds,u.2)]) us
 |none=>none
def z6(P:Program)(H:Hd)(rd:Bool)(n:Nat)(ops:Array Oper)(rec:List DA->St->Nat->Option (List Oc))(o:Oper)(ds:List DA)(st:St)(nx:Nat):Option (List Oc):=
 if vE n o.dst then match kO ops st.T.fn o with
  |some true=>JV P H rd rec o ds st nx (SH P H st nx o)
  |some false=>St.go (st.O0 o.dst (.eL []) []) λst'=>rec ds st' nx
  |none=>none
  else none
def P1(P:Program)(H:Hd)(rd:Bool)(n:Nat)(ops:Array Oper)(rec:List DA->St->Nat->Option (List Oc))(o:Oper)(ds:List DA)(st:St)(nx:Nat)(e:Option E):Option (List Oc):=
 Option.casesOn (motive:=λ_=>Option (List Oc)) e (z6 P H rd n ops rec o ds st nx) λe=>Prod.casesOn (motive:=λ_=>Option (List Oc)) e λpre r=>Bool.casesOn (motive:=λ_=>Option (List Oc)) pre (z6 P H rd n ops rec o ds st nx)
  (Prod.casesOn (motive:=λ_=>Option (List Oc)) r λv u=>Bool.casesOn (motive:=λ_=>Option (List Oc)) (vE n o.dst) none (St.go (st.O0 o.dst v u) λst'=>rec ds st' (nx+u.length+1)))
def vI(P:Program)(H:Hd)(rd:Bool)(n:Nat)(ops:Array Oper):List Oper->List DA->St->Nat->Option (List Oc)
 |[],ds,st,nx=>some [(.nm,st,ds,nx)]
 |o::r,ds,st,nx=>KO.casesOn (motive:=λ_=>Option (List Oc)) (comp o) (λf=>P1 P H rd n ops (vI P H rd n ops r) o ds st nx (f P st.m.get st.T.fn nx))
  (λc=>Bool.casesOn (motive:=λ_=>Option (List Oc)) (vE n o.dst) none (JV P H rd (vI P H rd n ops r) o ds st nx (CF P H st nx c)))
  (z6 P H rd n ops (vI P H rd n ops r) o ds st nx)
def ZZ{f:Program->Mem->(Nat->A)->Nat->Option E}(h:comp o=.ND f)(hf:f P m T d=some (true,v,u)):
 o.guard=none/\kT P m T d o=some (true,v,u)/\gV P m T d o=none/\(∀x b,o.op≠.next x b)/\∀c,o.op≠.call c:=by
 unfold comp at h;split at h
 ·cases h
 ·rename_i hg;refine⟨hg,?_⟩;split at h<;>first
   |(rename_i ho
     simp[KO.ND.injEq]at h;subst h
     exact⟨(JN ho).trans hf,by simp[gV,ho],λx b e=>(by rw[ho]at e;cases e),λc e=>(by rw[ho]at e;cases e)⟩)
   |(rename_i ho
     simp[KO.ND.injEq]at h;subst h;refine⟨?_,by simp[gV,ho],λx b e=>(by rw[ho]at e;cases e),λc e=>(by rw[ho]at e;cases e)⟩;unfold kT kG jZ j9;simp only[ho]at hf⊢
     first|(rw[hf];done)|(simp[hf];done)|(simp[hf];done))
   |(exfalso;unfold cond at h;split at h<;>cases h;done)
   |(cases h;done)
def aGQ{c:Call}(h:comp o=.call c):o.guard=none/\o.op=.call c/\P8 c.callee=true:=by
 unfold comp at h;split at h
 ·cases h
 ·rename_i hg;refine⟨hg,?_⟩;split at h<;>first
   |(rename_i c' ho
     rw[Bool.cond_eq_ite]at h;split at h
     · rename_i hv
       simp[KO.call.injEq]at h;subst h;exact⟨ho,hv⟩
     · cases h)
   |(cases h;done)
def SB{c:Call}(h:o.op=.call c)(hv:P8 c.callee=true):kT P m T d o=none:=by
 have⟨callee,args,tys⟩:=c;cases callee with
 |builtin b=>cases hv
 |value f=>simp[kT,kG,jZ,j9,qI,h]
 |invoke x nm=>simp[kT,kG,jZ,j9,qI,h]
def PT{c:Call}(h:o.op=.call c)(hv:P8 c.callee=true):gV P m T d o=none:=by
 have⟨callee,args,tys⟩:=c;cases callee with
 |builtin b=>cases hv
 |value f=>simp[gV,h]
 |invoke x nm=>simp[gV,h]
def VP(P:Program)(H:Hd)(rd:Bool)(n:Nat)(ops:Array Oper)(o:Oper)(r:List Oper)(ds:List DA)(st:St)(nx:Nat):vI P H rd n ops (o::r) ds st nx=z6 P H rd n ops (vI P H rd n ops r) o ds st nx:=by
 have e:vI P H rd n ops (o::r) ds st nx=KO.casesOn (motive:=λ_=>Option (List Oc)) (comp o) (λf=>P1 P H rd n ops (vI P H rd n ops r) o ds st nx (f P st.m.get st.T.fn nx))
  (λc=>Bool.casesOn (motive:=λ_=>Option (List Oc)) (vE n o.dst) none (JV P H rd (vI P H rd n ops r) o ds st nx (CF P H st nx c)))
  (z6 P H rd n ops (vI P H rd n ops r) o ds st nx):=rfl
 rw[e];cases hc:comp o with
 |other=>rfl
 |call c=>
  have⟨hg,ho,hv⟩:=aGQ hc;have hw:kO ops st.T.fn o=some true:=by unfold kO;rw[hg]
  have he:SH P H st nx o=CF P H st nx c:=by
   unfold SH;simp[ho,SB ho hv,PT ho hv];cases CF P H st nx c<;>rfl
  unfold z6;rw[hw,he];cases vE n o.dst<;>rfl
 |ND f=>
  show P1 P H rd n ops (vI P H rd n ops r) o ds st nx (f P st.m.get st.T.fn nx)=_;cases hf:f P st.m.get st.T.fn nx with
  |none=>rfl
  |some q=>
   have⟨pre,v,u⟩:=q;cases pre with
   |false=>rfl
   |true=>
    have⟨hg,hn,h0,h1,h2⟩:=ZZ hc hf;have hw:kO ops st.T.fn o=some true:=by unfold kO;rw[hg]
    have he:SH P H st nx o=some [((.ok v,u),nx+u.length+1)]:=by
     unfold SH;split
     ·rename_i x b ho;exact absurd ho (h1 x b)
     ·rename_i c ho;exact absurd ho (h2 c)
     ·rw[h0,hn];rfl
    unfold z6;rw[hw,he];cases hd:vE n o.dst<;>simp[P1,JV,vC,hd]
def VC(m:Tr R):Nat->List Nat->Tr R->List Nat->Option (Tr R×List Nat)
 |0,_,_,_=>none
 |f+1,[],m1,l=>some (m1,l)
 |f+1,i::w,m1,l=>match m1.get i with
  |some _=>VC m f w m1 l
  |none=>match m.get i with
   |some r=>VC m f (r.hs++w) (Tr.set fM m1 i r) (i::l)
   |none=>none
structure qC where
 r:Rec
 looks:List Nat
 F:List Nat
 anc:Nat
def P5(m1 m:Tr R):List (Nat×R)->Bool
 |[]=>true
 |(i,_)::u=>(match m1.get i with
  |some _=>true
  |none=>jN m.get i)&&P5 m1 m u
def kX(ancs:List qC)(k:Nat):List Edge->Option Nat
 |[]=>some 0
 |e::r=>match kX ancs k r with
  |none=>none
  |some s=>if Region.binds .any e then(if e.on<k then match ancs[k -1 -e.on]? with
   |some d=>some (s|||2^e.on|||d.anc)
   |none=>none
   else none)else some s
def WN(T:Nat->A)(looks:List Nat):Tb:=looks.foldl (λt n=>Tb.set t n (T n)) Tb.nil
def ML(P:Program)(H:Hd)(n:Nat)(ops:Array Oper):List Oper->Nat->List qC->St->Nat->Option (List qC×St×Nat)
 |[],_,acc,st,nx=>some (acc,st,nx)
 |o::r,k,acc,st,nx=>if vE n o.dst then match kX acc k o.after.toList with
  |none=>none
  |some an=>match kO ops st.T.fn o with
   |some false=>St.go (st.O0 o.dst (.eL []) []) λst'=>ML P H n ops r (k+1) (⟨⟨o.dst,.eL [],[]⟩,o.looksAt ops,[],an⟩::acc) st' nx
   |some true=>match aEN P st.T.fn o with
    |some v=>St.go (st.O0 o.dst v []) λst'=>ML P H n ops r (k+1) (⟨⟨o.dst,v,[]⟩,o.looksAt ops,[],an⟩::acc) st' nx
    |none=>cond (shallow o) (match eM P st.m.get st.T.fn nx o with
      |some (true,v,u)=>St.go (st.O0 o.dst v u) λst'=>ML P H n ops r (k+1) (⟨⟨o.dst,v,u⟩,o.looksAt ops,nx::(u.map (·.1)++(o.looksAt ops).flatMap λt=>(st.T.fn t).hs),an⟩::acc) st' (nx+u.length+1)
      |_=>none)
      (match VC st.m fK ((o.looksAt ops).flatMap λt=>(st.T.fn t).hs) .nil []with
      |some (m1,l)=>match SH P H ⟨WN st.T.fn (o.looksAt ops),m1,.nil,[]⟩ nx o with
       |some [((.ok v,u),nx')]=>if P5 m1 st.m u then St.go (st.O0 o.dst v u) λst'=>ML P H n ops r (k+1) (⟨⟨o.dst,v,u⟩,o.looksAt ops,u.map (·.1)++l,an⟩::acc) st' nx' else none
       |_=>none
      |none=>none)
   |none=>none
  else none
def VH:List (Nat×R)->List Nat->Bool
 |[],_=>true
 |(i,_)::u,l=>cond (s9 i l) false (VH u l)
def qH(p q:qC):Bool:=
 match p.r.dst with
 |none=>true
 |some d=>cond (s9 d q.looks) false (match q.r.dst with
  |none=>true
  |some e=> !(Nat.beq d e))
def B9(p:qC):List qC->Bool
 |[]=>true
 |q::r=>(cond (p.anc.testBit r.length) true (qH p q&&(qH q p&&(VH p.r.u q.F&&VH q.r.u p.F))))&&B9 p r
def nO:List qC->Bool
 |[]=>true
 |p::r=>B9 p r&&nO r
def aJG(P:Program)(H:Hd)(n:Nat)(ops:Array Oper)(ds:List DA)(st:St)(nx:Nat):Option (List Oc):=
 match ML P H n ops ops.toList 0 [] st nx with
 |some (acc,st',nx')=>if nO acc then some [(.nm,st',ds,nx')]else none
 |none=>none
def aJ5:LoopState->Bool
 |.busy=>true
 |_=>false
def yL(st:St)(ds:List DA)(nx:Nat):Option Code->Option (List Oc)
 |none=>some [(.nm,st,ds,nx)]
 |some .ret=>some [(.ret,st,ds,nx)]
 |some (.exit id)=>some [(.ext id,st,ds,nx)]
 |_=>none
def aJ2:A->Option (FuncId×List A×List A)
 |.fn (.func f) us vs=>some (f,us,vs)
 |.d (.fn (.func f) us vs)=>some (f,us.map A.d,vs.map A.d)
 |_=>none
def aG3(H:Hd)(n:Nat)(g:Operand)(ps:Array Tmp)(asg bod:Code)(st:St)(ds:List DA)(nx:Nat):Option (List Oc):=
 match aJ2 (dN st.T.fn g)with
 |some (gf,us,vs)=>if jN st.m.get nx&&jN st.m.get (nx+1)then
   match H (.fn gf) (us++([.h (nx+1)]++vs)) (Tr.set fM (Tr.set fM st.m nx (.df false)) (nx+1) (.lo .ready none (mY n st.T.fn) ps asg bod)) (nx+2)with
   |some ([(.ok v,u)],nx')=>match Tr.MW fM (Tr.set fM (Tr.set fM st.m nx (.df false)) (nx+1) (.lo .ready none (mY n st.T.fn) ps asg bod)) u with
    |m2=>match m2.get (nx+1)with
     |some (.lo ls pe ts' ps' asg' bod')=>if aJ5 ls then none else yL {T:=st.T,m:=Tr.set fM m2 (nx+1) (.lo .exhausted pe ts' ps' asg' bod'),b:=st.b,log:=KF st.b u st.log} (.s4 nx::ds) nx' pe
     |_=>none
   |_=>none
  else none
 |none=>none
def uH(P:Program)(H:Hd)(rd:Bool)(n:Nat)(k:Nat):Code->St->List DA->Nat->Option (List Oc):=
 Nat.rec (motive:=λ_=>Code->St->List DA->Nat->Option (List Oc)) (λ_ _ _ _=>none) (λ_ ev c st ds nx=>match c with
  |.skip=>some [(.nm,st,ds,nx)]
  |.label _=>some [(.nm,st,ds,nx)]
  |.exit id=>some [(.ext id,st,ds,nx)]
  |.ret=>some [(.ret,st,ds,nx)]
  |.seq x y=>match ev x st ds nx with
   |some outs=>vC (λo=>match o.1 with
    |.nm=>ev y o.2.1 o.2.2.1 o.2.2.2
    |_=>some [o]) outs
   |none=>none
  |.cond cc x y=>match dN st.T.fn cc with
   |.d (.v (.bool b))=>ev (cond b x y) st ds nx
   |_=>none
  |.block id x=>match ev x st ds nx with
   |some outs=>some (outs.map λo=>(u6 id o.1,o.2))
   |none=>none
  |.loop x=>match ev x st ds nx with
   |some outs=>vC (λo=>match o.1 with
    |.nm=>ev (.loop x) o.2.1 o.2.2.1 o.2.2.2
    |_=>some [o]) outs
   |none=>none
  |.scope x=>ev x st ds nx
  |.region _ ops draw=>cond draw (aJG P H n ops ds st nx) (vI P H rd n ops ops.toList ds st nx)
  |.rangeFunc g ps asg bod=>cond rd none (aG3 H n g ps asg bod st ds nx)
  |_=>none) k
def CB:List A->Nat->Tb->Tb
 |[],_,t=>t
 |a::r,k,t=>CB r (k+1) (Tb.set t k a)
def aEC(g:R->R)(m:Tr R):List Nat->Option (List (Nat×R))
 |[]=>some []
 |i::l=>match m.get i,aEC g m l with
  |some r,some u=>some ((i,g r)::u)
  |_,_=>none
def reach(g:R->R)(b m:Tr R):Nat->List Nat->Tr Unit->List (Nat×R)->Option (List (Nat×R))
 |0,_,_,_=>none
 |f+1,[],_,acc=>some acc
 |f+1,i::w,vis,acc=>match b.get i with
  |some _=>reach g b m f w vis acc
  |none=>match vis.get i with
   |some _=>reach g b m f w vis acc
   |none=>match m.get i with
    |some r=>reach g b m f ((g r).hs++w) (Tr.set fM vis i ()) ((i,g r)::acc)
    |none=>none
def hsU:List (Nat×R)->List Nat
 |[]=>[]
 |(_,r)::u=>r.hs++hsU u
def RY(g:R->R)(st:St)(r:Rt):Option (List (Nat×R)):=
 match aEC g st.m st.log with
 |some u0=>reach g st.b st.m fK (r.hs++hsU u0) .nil u0
 |none=>none
def Y6:Rt->Rt->Bool
 |.ok a,.ok b=>A.A6 a b
 |.sE a,.sE b=>A.A6 a b
 |_,_=>false
def aIR:List (Nat×R)->List (Nat×R)->Bool
 |[],[]=>true
 |(i,r)::u,(j,s)::v=>Nat.beq i j&&(R.A6 r s&&aIR u v)
 |_,_=>false
def yE(P:Program)(H:Hd)(rs:List ResultVar):List DA->Md->St->Nat->Option (Rt×St×Nat)
 |[],.ret,st,nx=>match GO P st.m.get st.T.fn rs with
  |some v=>some (.ok v,st,nx)
  |none=>none
 |[],.sE v,st,nx=>some (.sE v,st,nx)
 |.s4 i::ds,md,st,nx=>match st.m.get i with
  |some (.df false)=>yE P H rs ds md (st.u9 [(i,.df true)]) nx
  |_=>none
 |_::_,_,_,_=>none
def FJ(b:Tr R):List (Nat×R)->Nat->Tr Nat->Option (Tr Nat)
 |[],_,t=>some t
 |(i,r)::u,c,t=>cond r.aKG (match b.get i with
  |some _=>FJ b u c t
  |none=>match t.get i with
   |some _=>none
   |none=>match b.get c with
    |some _=>none
    |none=>FJ b u (c+1) (Tr.set fM t i c)) none
def H7(t:Tr Nat)(i:Nat):Nat:=match t.get i with
 |some c=>c
 |none=>i
def canon(b:Tr R)(base:Nat)(r:Rt)(u:List (Nat×R)):Option (Rt×List (Nat×R)):=match FJ b u base .nil with
 |some t=>some (r.eZ (H7 t),u.map λp=>(H7 t p.1,p.2.eZ (H7 t)))
 |none=>none
def PX(cb:Option Nat)(st:St)(r:Rt):Option (Rt×List (Nat×R)):=match RY id st r with
 |none=>none
 |some u=>match cb with
  |none=>some (r,u)
  |some base=>canon st.b base r u
def PW(P:Program)(H:Hd)(rs:List ResultVar)(cb:Option Nat):List Oc->Option (Rt×List (Nat×R)×Nat)
 |[]=>none
 |(ex,st,ds,nx)::r=>match SI ex with
  |none=>none
  |some md=>match yE P H rs ds md st nx with
   |none=>none
   |some (rt,st',nx1)=>match PX cb st' rt with
    |none=>none
    |some (rt,u)=>match r with
     |[]=>some (rt,u,nx1)
     |_=>match PW P H rs cb r with
      |some (rt2,u2,nx2)=>if Y6 rt rt2&&aIR u u2 then some (rt,u,Nat.max nx1 nx2)else none
      |none=>none
def aNJ{α:Type}:List α->Bool
 |[_]=>true
 |_=>false
def aG1(P:Program)(H:Hd)(f:FuncId)(as:List A)(t:Tr R)(nx:Nat):Option (List Ot×Nat):=
 match P.funcs[f]? with
 |some fn=>match fn.body with
  |some c=>if kW P f&&Nat.ble as.length fn.ntmps then
    match uH P H false fn.ntmps fK c ⟨CB as 0 Tb.nil,t,t,[]⟩ [] nx with
    |some outs=>match PW P H fn.results.toList (cond (aNJ outs) none (some nx)) outs with
     |some (rt,u,nx')=>some ([(rt,u)],nx')
     |none=>none
    |none=>none
   else none
  |none=>none
 |none=>none
def IQ:List (Tmp×A)->Tb->Tb
 |[],t=>t
 |p::r,t=>IQ r (Tb.set t p.1 p.2)
def YK(n:Nat):List Tmp->Bool
 |[]=>true
 |p::r=>Nat.blt p n&&YK n r
def XZ(i:Nat):List Oc->Option (List Ot×Nat)
 |[]=>some ([],0)
 |(ex,st,ds,nx)::r=>match Z3 ex,st.m.get i,XZ i r with
  |some (b,ls,pe),some (.lo _ _ ts ps asg bod),some (os,nx2)=>match st.u9 [(i,.lo ls pe ts ps asg bod)]with
   |st'=>match RY id st' (.ok (.d (.v (.bool b))))with
    |some u=>some ((.ok (.d (.v (.bool b))),u)::os,Nat.max nx nx2)
    |none=>none
  |_,_,_=>none
def aG5(P:Program)(H:Hd)(i:Nat)(as:List A)(t:Tr R)(nx:Nat):Option (List Ot×Nat):=
 match t.get i with
 |some (.lo .ready none ts ps asg bod)=>if Nat.beq as.length ps.size&&YK ts.length ps.toList then
   match uH P H true ts.length fK asg ⟨IQ (ps.toList.zip as) (CB ts 0 Tb.nil),t,t,[]⟩ [] nx with
   |some [(.nm,pV,[],nx1)]=>match pV.m.get i with
    |some (.lo .ready pe1 ts1 ps1 asg1 bod1)=>match uH P H true ts.length fK bod (pV.u9 [(i,.lo .busy pe1 ts1 ps1 asg1 bod1)]) [] nx1 with
     |some outs=>XZ i outs
     |none=>none
    |_=>none
   |_=>none
  else none
 |_=>none
def yI(P:Program)(ct:Hd)(d:Nat):Hd:=
 Nat.rec (motive:=λ_=>Hd) (λ_ _ _ _=>none) (λ_ ev c as t nx=>match ct c as t nx with
  |some r=>some r
  |none=>match c with
   |.fn f=>aG1 P ev f as t nx
   |.yl i=>aG5 P ev i as t nx) d
structure FB(P:Program)(H:Hd):Prop where
 fn:∀f as t nx outs nx',H (.fn f) as t nx=some (outs,nx')->∃r u,outs=[(r,u)]/\aJ P f as t.get r (aH t.get u)
 yl:∀i as t nx outs nx',H (.yl i) as t nx=some (outs,nx')->∀(o:Oper)(T:Nat->A)(c:Call)(fo:Operand),o.op=.call c->c.callee=.value fo->dN T fo=.h i->c.args.toList.map (dN T)=as->o8 P o T t.get outs
def AP{i:Nat}:∀{l:List Nat},s9 i l=true↔i∈l
 |[]=>by simp[s9]
 |j::r=>by
  simp only[s9,aO];cases h:Nat.beq i j with
  |true=>simp[bB h]
  |false=>simp only[cond_false];rw[AP (l:=r)];exact⟨.inr,λq=>q.resolve_left (λe=>by subst e;simp at h)⟩
def A8(b:Tr R):∀(u:List (Nat×R))(l:List Nat)(i:Nat),i∈l->i∈KF b u l
 |[],l,i,h=>h
 |(j,q)::r,l,i,h=>by
  simp[KF];refine A8 b r _ i ?_;cases b.get j with
  |none=>exact h
  |some _=>simp only;cases s9 j l with
   |true=>exact h
   |false=>exact uE _ h
def KG(b:Tr R):∀(u:List (Nat×R))(l:List Nat)(p:Nat×R),p∈u->b.get p.1≠none->p.1∈KF b u l
 |[],l,p,h,_=>by simp at h
 |(j,q)::r,l,p,h,hb=>by
  simp[KF];simp[aO]at h;rcases h with rfl|h
  ·refine A8 b r _ _ ?_;simp only at hb⊢;cases hq:b.get j with
   |none=>exact absurd hq hb
   |some _=>
    simp only;cases hm:s9 j l with
    |true=>exact AP.1 hm
    |false=>simp
  ·exact KG b r _ p h hb
def Inv(st:St):Prop:=∀i q,st.b.get i=some q->i∉st.log->st.m.get i=some q
def Inv.set{b m:Tr R}{log:List Nat}(h:∀i q,b.get i=some q->i∉log->m.get i=some q)(u:List (Nat×R)):∀i q,b.get i=some q->i∉KF b u log->(Tr.MW fM m u).get i=some q:=by
 intro i q hb hl;have h1:∀p∈u,p.1≠i:=by
  rintro p hp rfl;exact hl (KG b u log p hp (by rw[hb];simp))
 rw[Tr.nV,n9 u m.get h1];exact h i q hb λe=>hl (A8 b u log i e)
def Inv.O0{st:St}(h:Inv st)(d:Option Nat)(v:A)(u:List (Nat×R)):Inv (st.O0 d v u):=by rw[St.BM];exact Inv.set h u
def St.aJD(st:St)(d:Option Nat)(v:A)(u:List (Nat×R)):(st.O0 d v u).b=st.b:=by rw[St.BM]
def Inv.u9{st:St}(h:Inv st)(u:List (Nat×R)):Inv (st.u9 u):=Inv.set h u
section
variable{P:Program}{H:Hd}
def SG{nx:Nat}(h:yY (kT P m T d o) nx=some outs):o8 P o T m (outs.map (·.1)):=by
 unfold yY at h;split at h
 ·rename_i v u he;simp[aA]at h;subst h;exact o8.one (qT.WC he rfl)
 ·cases h
def HJ{x:Option (List Ot×Nat)}(h:P6 x=some outs):∃l nx,x=some (l,nx)/\outs.map (·.1)=l:=by
 unfold P6 at h;split at h
 ·rename_i l nx;simp[aA]at h;subst h;exact⟨l,nx,rfl,by rw[bH];exact qB l⟩
 ·cases h
def Z1(hH:FB P H){st:St}{nx:Nat}{o:Oper}{c:Call}{outs:List (Ot×Nat)}(ho:o.op=.call c)(h:CF P H st nx c=some outs):o8 P o st.T.fn st.m.get (outs.map (·.1)):=by
 unfold CF at h;split at h
 ·rename_i f as hc;have⟨l,nx',h1,e⟩:=HJ h;have⟨r,u,e2,aVN⟩:=hH.fn _ _ _ _ _ _ h1;rw[e,e2];exact o8.call ho hc aVN
 ·split at h
  ·rename_i fo a13;split at h
   ·rename_i i hi;obtain⟨l,nx',h1,rfl⟩:=HJ h;exact hH.yl _ _ _ _ _ _ h1 o _ c fo ho a13 hi rfl
   ·cases h
  ·cases h
def JU{st:St}{nx:Nat}(h:yY (gV P st.m.get st.T.fn nx o) nx=some outs):o8 P o st.T.fn st.m.get (outs.map (·.1)):=by
 unfold yY at h;split at h
 ·rename_i v u he;simp[aA]at h;subst h;exact o8.one (qT.YZ he rfl)
 ·cases h
def DO{st:St}{nx:Nat}(h:yY (kT P st.m.get (λt=>yW st.m.get (st.T.fn t)) nx o) nx=some outs):o8 P o st.T.fn st.m.get (outs.map (·.1)):=by
 unfold yY at h;split at h
 ·rename_i v u he;simp[aA]at h;subst h;exact o8.one (qT.yW (qT.WC he rfl))
 ·cases h
def X3(hH:FB P H){st:St}{nx:Nat}{o:Oper}{outs:List (Ot×Nat)}(h:SH P H st nx o=some outs):o8 P o st.T.fn st.m.get (outs.map (·.1)):=by
 unfold SH at h;split at h
 ·rename_i x b ho;split at h
  ·rename_i outs' he;simp[aA]at h;subst h;have:=o8.next (P:=P) ho he;rw[bH];exact this
  ·cases h
 ·rename_i c ho;split at h
  ·rename_i e he;rw[<-he]at h;exact JU h
  ·split at h
   ·rename_i e he;rw[<-he]at h;exact SG h
   ·split at h
    ·rename_i r hr;simp[aA]at h;subst h;exact Z1 hH ho hr
    ·split at h
     ·rename_i e he;rw[<-he]at h;exact DO h
     ·cases h
 ·split at h
  ·rename_i e he;rw[<-he]at h;exact JU h
  ·split at h
   ·rename_i e he;rw[<-he]at h;exact SG h
   ·split at h
    ·rename_i e he;rw[<-he]at h;exact DO h
    ·cases h
def tI{α β:Type}{f:α->Option (List β)}:∀{l:List α}{out:List β},vC f l=some out->∀x∈l,∃a,f x=some a/\∀y∈a,y∈out
 |[],out,_,x,hx=>by simp at hx
 |[z],out,h,x,hx=>by
  simp only[vC]at h;simp only[aR]at hx;subst hx;exact⟨out,h,λy hy=>hy⟩
 |z::z2::r,out,h,x,hx=>by
  simp only[vC]at h;split at h
  ·rename_i a b h1 h2;simp only[aA]at h;subst h;simp only[aO]at hx;rcases hx with rfl|hx
   ·exact⟨a,h1,λy hy=>by simp[hy]⟩
   ·obtain⟨c,h3,h4⟩:=tI h2 x (by simpa using hx);exact⟨c,h3,λy hy=>by simp[h4 y hy]⟩
  ·cases h
def A4{α β:Type}{f:α->Option (List β)}:∀{l:List α}{out:List β},vC f l=some out->∀y∈out,∃x∈l,∃a,f x=some a/\y∈a
 |[],out,h,y,hy=>by simp only[vC,aA]at h;subst h;simp at hy
 |[z],out,h,y,hy=>by
  simp only[vC]at h;exact⟨z,sM,out,h,hy⟩
 |z::z2::r,out,h,y,hy=>by
  simp only[vC]at h;split at h
  ·rename_i a b h1 h2;simp only[aA]at h;subst h;simp only[bN]at hy;rcases hy with hy|hy
   ·exact⟨z,sM,a,h1,hy⟩
   ·obtain⟨x,hx,c,h3,h4⟩:=A4 h2 y hy;exact⟨x,by simp at hx⊢;exact .inr hx,c,h3,h4⟩
  ·cases h
def nS{d:Option Nat}(h:vE n d=true):∀k,d=some k->k<n:=by
 rintro k rfl;simpa [vE,rR]using h
def HL(outs:List Oc):qU:=λex T m ds=>∃o∈outs,o.1=ex/\T=o.2.1.T.fn/\m=o.2.1.m.get/\ds=o.2.2.1
def wO.mono{rd:Bool}{n:Nat}{ops:Array Oper}{Post1 Post:qU}(hp:∀ex T m ds,Post1 ex T m ds->Post ex T m ds):∀(l:List Nat)(T:Nat->A)(m:Mem)(ds:List DA),wO P rd n ops Post1 l T m ds->wO P rd n ops Post l T m ds
 |[],T,m,ds,h=>hp _ _ _ _ h
 |i::r,T,m,ds,h=>by
  simp only[wO]at h⊢;cases ho:ops[i]? with
  |none=>rw[ho]at h;exact wO.mono hp r T m ds h
  |some o=>
   rw[ho]at h;obtain⟨hd,h⟩:=h;refine⟨hd,?_⟩;cases hw:kO ops T o with
   |none=>rw[hw]at h;exact h.elim
   |some b=>
    rw[hw]at h;cases b with
    |true=>
     rcases h with⟨outs,h1,h2⟩|⟨h0,da,h1,h2⟩
     ·exact .inl ⟨outs,h1,λu hu=>⟨λv e=>wO.mono hp r _ _ _ ((h2 u hu).1 v e),λv e=>hp _ _ _ _ ((h2 u hu).2 v e)⟩⟩
     ·exact .inr ⟨h0,da,h1,wO.mono hp r _ _ _ h2⟩
    |false=>exact wO.mono hp r _ _ _ h
def DP(hH:FB P H){rd:Bool}{n:Nat}{ops:Array Oper}:∀(l:List Oper)(k:Nat)(ds:List DA)(st:St)(nx:Nat)(outs:List Oc),ops.toList.drop k=l->vI P H rd n ops l ds st nx=some outs->Inv st->
 wO P rd n ops (HL outs) (List.range' k l.length) st.T.fn st.m.get ds/\∀o∈outs,Inv o.2.1/\o.2.1.b=st.b
 |[],k,ds,st,nx,outs,hk,h,hi=>by
  simp only[vI,aA]at h;subst h;exact⟨⟨_,aR.2 rfl,rfl,rfl,rfl,rfl⟩,λo ho=>by simp only[aR]at ho;subst ho;exact⟨hi,rfl⟩⟩
 |o::r,k,ds,st,nx,outs,hk,h,hi=>by
  have QS:ops[k]?=some o:=by
   have:ops.toList[k]?=some o:=by
    have:=congrArg List.head? hk;simpa [pA]using this
   simpa using this
  have hkr:ops.toList.drop (k+1)=r:=by
   have:(ops.toList.drop k).drop 1=r:=by rw[hk];rfl
   simpa [lY]using this
  simp only[VP,z6,JV,St.go_eq]at h;rw[aQ,List.range'_succ];simp only[wO,QS];split at h
  ·rename_i hd;split at h
   ·rename_i hw;rw[hw];split at h
    ·rename_i us he;refine⟨⟨nS hd,.inl ⟨us.map (·.1),X3 hH he,λu0 hu0=>?_⟩⟩,λy hy=>?_⟩
     ·obtain⟨u,hu,rfl⟩:=aA4.1 hu0;have⟨a,h1,h2⟩:=tI h u hu;refine⟨λv e=>?_,λv e=>?_⟩
      ·rw[e]at h1;have:=(DP hH r (k+1) ds (st.O0 o.dst v u.1.2) u.2 a hkr h1 (hi.O0 _ _ _)).1;simp[St.BM,Tb.VU,Tr.nV]at this;exact wO.mono (λex T m ds⟨q,hq,z⟩=>⟨q,h2 q hq,z⟩) _ _ _ _ this
      ·rw[e]at h1;simp[aA]at h1;subst h1;exact⟨(.sE v,st.u9 u.1.2,ds,u.2),h2 _ sM,rfl,rfl,by simp[St.u9,Tr.nV],rfl⟩
     ·have⟨u,hu,a,h1,h2⟩:=A4 h y hy;cases hr:u.1.1 with
      |ok v=>
       rw[hr]at h1;have:=(DP hH r (k+1) ds (st.O0 o.dst v u.1.2) u.2 a hkr h1 (hi.O0 _ _ _)).2 y h2;rw[St.aJD]at this;exact this
      |sE v=>
       rw[hr]at h1;simp[aA]at h1;subst h1;simp[aR]at h2;subst h2;exact⟨hi.u9 _,rfl⟩
    ·cases h
   ·rename_i hw;rw[hw];have:=DP hH r (k+1) ds _ nx outs hkr h (hi.O0 _ _ _);simp only[St.BM,Tb.VU,Tr.nV,aH]at this;exact⟨⟨nS hd,this.1⟩,this.2⟩
   ·cases h
  ·cases h
end
def PI{m:Tr R}:∀(f:Nat)(w:List Nat)(m1:Tr R)(l:List Nat)(m2:Tr R)(l2:List Nat),VC m f w m1 l=some (m2,l2)->(∀i r,m1.get i=some r->m.get i=some r)->(∀i r,m1.get i=some r->∀j∈r.hs,m1.get j≠none\/j∈w)->(∀i,m1.get i≠none->i∈l)->
 (∀i r,m2.get i=some r->m.get i=some r)/\(∀i r,m2.get i=some r->∀j∈r.hs,m2.get j≠none)/\(∀i,m2.get i≠none->i∈l2)/\(∀i,m1.get i≠none\/i∈w->m2.get i≠none)
 |0,w,m1,l,m2,l2,h,_,_,_=>by simp[VC]at h
 |f+1,[],m1,l,m2,l2,h,h1,h2,h3=>by
  simp only[VC,aA,aD]at h;obtain⟨rfl,rfl⟩:=h;exact⟨h1,λi r e j hj=>(h2 i r e j hj).resolve_right sM,h3,λi e=>e.resolve_right sM⟩
 |f+1,i::w,m1,l,m2,l2,h,h1,h2,h3=>by
  simp[VC]at h;split at h
  ·rename_i q hq
   have⟨g1,g2,g3,g4⟩:=PI f w m1 l m2 l2 h h1 (λj r e k hk=>by
    rcases h2 j r e k hk with x|x
    · exact .inl x
    · simp[aO]at x
      rcases x with rfl|x
      · exact .inl (by rw[hq];simp)
      · exact .inr x) h3
   refine⟨g1,g2,g3,λj e=>g4 j ?_⟩;rcases e with e|e
   ·exact .inl e
   ·simp[aO]at e;rcases e with rfl|e
    ·exact .inl (by rw[hq];simp)
    ·exact .inr e
  ·rename_i hq;split at h
   ·rename_i r hr
    have⟨g1,g2,g3,g4⟩:=PI f (r.hs++w) (Tr.set fM m1 i r) (i::l) m2 l2 h (λj s e=>by
     rw[Tr.rV]at e;split at e
     · rename_i e2;subst e2;simp[aA]at e;subst e;exact hr
     · exact h1 j s e) (λj s e k hk=>by
     rw[Tr.rV]at e⊢;split at e
     · simp[aA]at e;subst e
       exact .inr (by simp[hk])
     · rcases h2 j s e k hk with x|x
       · split
         · exact .inl sM
         · exact .inl x
       · simp[aO]at x
         rcases x with rfl|x
         · exact .inl sM
         · exact .inr (by simp[x])) (λj e=>by
     rw[Tr.rV]at e;split at e
     · rename_i e2;subst e2;simp
     · simp[h3 j e])
    refine⟨g1,g2,g3,λj e=>g4 j ?_⟩;rcases e with e|e
    ·exact .inl (by rw[Tr.rV];split<;>simp[e])
    ·simp[aO]at e;rcases e with rfl|e
     ·exact .inl (by rw[Tr.rV];simp)
     ·exact .inr (by simp[e])
   ·cases h
def ON(T:Nat->A):∀(l:List Nat)(t:Tb)(n:Nat),(l.foldl (λt n=>Tb.set t n (T n)) t).fn n=if n∈l then T n else t.fn n
 |[],t,n=>sM
 |k::l,t,n=>by
  simp[fX];rw[ON T l,Tb.FU];simp[lI,aO];by_cases h:n∈l
  ·simp[h]
  ·by_cases e:k=n
   ·subst e;simp
   ·simp[h,e,Ne.symm e]
def HF{m1 m:Tr R}:∀{u:List (Nat×R)},P5 m1 m u=true->∀p∈u,m1.get p.1=none->m.get p.1=none
 |[],_,p,hp=>by simp at hp
 |(i,r)::u,h,p,hp=>by
  simp[P5,aE]at h;simp[aO]at hp;rcases hp with rfl|hp
  ·intro e;simp only at e;rw[e]at h;exact hG h.1
  ·exact HF h.2 p hp
def aIA{α:Type}(acc:List α){k i:Nat}(hk:acc.length=k)(hi:i<k):acc[k -1 -i]?=acc.reverse[i]?:=by
 subst hk;rw[List.getElem?_reverse hi]
def zU{acc:List qC}{k:Nat}(hk:acc.length=k):∀{es:List Edge}{s:Nat},kX acc k es=some s->
 (∀e∈es,Region.binds .any e=true->e.on<k)/\∀j,s.testBit j=true↔∃e∈es,Region.binds .any e=true/\(e.on=j\/∃D,acc.reverse[e.on]?=some D/\D.anc.testBit j=true)
 |[],s,h=>by
  simp only[kX,aA]at h;subst h;exact⟨λe he=>by simp at he,λj=>sM⟩
 |e::r,s,h=>by
  simp only[kX]at h;split at h
  ·cases h
  ·rename_i s' hs;obtain⟨h1,h2⟩:=zU hk hs;split at h
   ·rename_i hb;split at h
    ·rename_i cX;split at h
     ·rename_i D hD;simp[aA]at h;subst h;rw[aIA acc hk cX]at hD;refine⟨λq hq hqb=>?_,λj=>?_⟩
      ·simp[aO]at hq;rcases hq with rfl|hq
       ·exact cX
       ·exact h1 q hq hqb
      ·rw[Nat.testBit_or,Nat.testBit_or,Nat.testBit_two_pow,gP,gP,h2 j,aUA];constructor
       ·rintro((⟨q,hq,x⟩|x)|x)
        ·exact⟨q,by simp[hq],x⟩
        ·exact⟨e,sM,hb,.inl x⟩
        ·exact⟨e,sM,hb,.inr ⟨D,hD,x⟩⟩
       ·rintro⟨q,hq,hqb,x⟩;simp[aO]at hq;rcases hq with rfl|hq
        ·rcases x with x|⟨D',hD',x⟩
         ·exact .inl (.inr x)
         ·rw[hD]at hD';simp[aA]at hD';subst hD';exact .inr x
        ·exact .inl (.inl ⟨q,hq,hqb,x⟩)
     ·cases h
    ·cases h
   ·rename_i hb;simp[aA]at h;subst h;refine⟨λq hq hqb=>?_,λj=>?_⟩
    ·simp[aO]at hq;rcases hq with rfl|hq
     ·exact absurd hqb hb
     ·exact h1 q hq hqb
    ·rw[h2 j];constructor
     ·rintro⟨q,hq,x⟩;exact⟨q,by simp[hq],x⟩
     ·rintro⟨q,hq,hqb,x⟩;simp[aO]at hq;rcases hq with rfl|hq
      ·exact absurd hqb hb
      ·exact⟨q,hq,hqb,x⟩
def tJ{F:List Nat}(h:VH u F=true):∀p∈u,p.1∉F:=by
 induction u with
 |nil=>intro p hp;simp at hp
 |cons q u ih=>
  have⟨i,r⟩:=q;intro p hp;simp only[VH]at h;cases hm:s9 i F with
  |true=>rw[hm]at h;cases h
  |false=>
   rw[hm]at h;simp[aO]at hp;rcases hp with rfl|hp
   ·exact λe=>by rw[AP.2 e]at hm;cases hm
   ·exact ih h p hp
def rU{p q:qC}(h:qH p q=true):∀d,p.r.dst=some d->d∉q.looks/\q.r.dst≠some d:=by
 intro d e;simp only[qH,e]at h;cases hm:s9 d q.looks with
 |true=>rw[hm]at h;cases h
 |false=>
  rw[hm]at h;refine⟨λe=>(by rw[AP.2 e]at hm;exact Bool.noConfusion hm),λe2=>?_⟩;rw[e2]at h;simp at h
def QP(p q:qC):Prop:=qH p q=true/\qH q p=true/\VH p.r.u q.F=true/\VH q.r.u p.F=true
def G3{p:qC}:∀{l:List qC},B9 p l=true->∀i q,l.reverse[i]?=some q->p.anc.testBit i=false->QP p q
 |[],_,i,q,hq,_=>by simp at hq
 |q0::r,h,i,q,hq,hb=>by
  simp only[B9,aE]at h;rw[fC,iJ]at hq;split at hq
  ·exact G3 h.2 i q hq hb
  ·rename_i cX;have hi:i=r.length:=by
    rcases eQ (i -r.reverse.length) 1 with x|x
    ·simp at cX x;omega
    ·rw[lD (by simpa using x)]at hq;cases hq
   subst hi;simp at hq;subst hq;have h1:=h.1;rw[hb]at h1;simp[cond_false,aE]at h1;exact⟨h1.1,h1.2.1,h1.2.2.1,h1.2.2.2⟩
def oQ:∀{acc:List qC},nO acc=true->∀i j q p,i<j->acc.reverse[i]?=some q->acc.reverse[j]?=some p->p.anc.testBit i=false->QP p q
 |[],_,i,j,q,p,_,hq,_,_=>by simp at hq
 |p0::r,h,i,j,q,p,hij,hq,hp,hb=>by
  simp only[nO,aE]at h;rw[fC,iJ]at hp hq;split at hp
  ·rename_i hj;rw[aUF oM]at hq;exact oQ h.2 i j q p hij hq hp hb
  ·rename_i cX;have hi:j=r.length:=by
    rcases eQ (j -r.reverse.length) 1 with x|x
    ·simp at cX x;omega
    ·rw[lD (by simpa using x)]at hp;cases hp
   subst hi;simp at hp;subst hp;rw[aUF zM]at hq;exact G3 h.1 i q hq hb
def HX{ops:Array Oper}(h:∀x∈o.looksAt ops,T x=T' x):kO ops T o=kO ops T' o:=by
 unfold kO;cases hg:o.guard with
 |none=>rfl
 |some p=>
  have⟨j,want⟩:=p;simp only;cases hd:(ops[j]?).bind (·.dst)with
  |none=>rfl
  |some d=>
   simp only;rw[h d (by unfold Oper.looksAt;rw[hg];simp[hd])]
def y7(h:∀n,x=.tmp n->T n=T' n):dN T x=dN T' x:=by
 cases x<;>simp[dN]
 rename_i t;exact h t rfl
def VQ(h:i∈(dN T x).hs):∃n,x=.tmp n/\i∈(T n).hs:=by
 cases x with
 |tmp t=>exact⟨t,rfl,h⟩
 |_=>simp[dN,A.hs,A.lQ]at h
def mX{ops:Array Oper}(hx:x∈o.op.operands.toList)(e:x=.tmp n):n∈o.looksAt ops:=by
 unfold Oper.looksAt;rw[bN];left;rw[List.mem_filterMap];exact⟨x,hx,by rw[e]⟩
structure Good(P:Program)(n:Nat)(ops:Array Oper)(T:Nat->A)(m:Mem)(o:Oper)(D:qC):Prop where
 dst:D.r.dst=o.dst
 lt:∀d,o.dst=some d->d<n
 looks:D.looks=o.looksAt ops
 inF:∀p∈D.r.u,p.1∈D.F
 gA:(kO ops T o=some false/\D.r.v=.eL []/\D.r.u=[])\/(kO ops T o=some true/\∀(T':Nat->A)(m':Mem),(∀x∈o.looksAt ops,T' x=T x)->(∀i∈D.F,m' i=m i)->(∀p∈D.r.u,m p.1=none->m' p.1=none)->qT P o T' m' D.r.v (aH m' D.r.u))
def GM(m:Mem):∀(l:List Rec)(r:Rec),kZ m (l++[r])=aH (kZ m l) r.u
 |[],r=>rfl
 |q::l,r=>by simp[bW,kZ];exact GM _ l r
def GN(T:Nat->A):∀(l:List Rec)(r:Rec),mK T (l++[r])=lI (mK T l) r.dst r.v
 |[],r=>rfl
 |q::l,r=>by simp[bW,mK];exact GN _ l r
section
variable{P:Program}{H:Hd}{n:Nat}{ops:Array Oper}{T0:Nat->A}{m0:Mem}
end
structure sQ(P:Program)(n:Nat)(ops:Array Oper)(T0:Nat->A)(m0:Mem)(acc:List qC)(T:Nat->A)(m:Mem):Prop where
 T:T=mK T0 (acc.reverse.map (·.r))
 m:m=kZ m0 (acc.reverse.map (·.r))
 gA:∀i o D,ops[i]?=some o->acc.reverse[i]?=some D->Good P n ops (mK T0 ((acc.reverse.map (·.r)).take i)) (kZ m0 ((acc.reverse.map (·.r)).take i)) o D
 down:∀i o D,ops[i]?=some o->acc.reverse[i]?=some D->(∀e∈o.after,Region.binds .any e=true->e.on<i)/\∀j,D.anc.testBit j=true↔∃e∈o.after,Region.binds .any e=true/\(e.on=j\/∃D',acc.reverse[e.on]?=some D'/\D'.anc.testBit j=true)
section
variable{P:Program}{n:Nat}{ops:Array Oper}{T0:Nat->A}{m0:Mem}
def sQ.push{acc:List qC}(h:sQ P n ops T0 m0 acc T m){o:Oper}{D:qC}(ho:ops[acc.length]?=some o)(hT:T'=lI T D.r.dst D.r.v)(hm:m'=aH m D.r.u)
 (hg:Good P n ops T m o D){an:Nat}(han:kX acc acc.length o.after.toList=some an)(hD:D.anc=an):sQ P n ops T0 m0 (D::acc) T' m':=by
 have e1:((D::acc).reverse.map (·.r))=acc.reverse.map (·.r)++[D.r]:=sM;have hlen:(acc.reverse.map (·.r)).length=acc.length:=sM;have⟨q1,q2⟩:=zU rfl han;have aXT:∀i,(D::acc).reverse[i]?=if i<acc.length then acc.reverse[i]? else if i=acc.length then some D else none:=by
  intro i;rw[fC,iJ];by_cases hi:i<acc.length
  ·simp[hi]
  ·simp[List.length_reverse,hi,if_false];by_cases e:i=acc.length
   ·subst e;simp
   ·have:1<=i -acc.length:=oM;rw[lD (by simpa using this)];simp[e]
 refine⟨by rw[hT,e1,GN,h.T],by rw[hm,e1,GM,h.m],?_,?_⟩
 ·intro i o' D' VV hD';rw[aXT]at hD';rw[e1];by_cases hi:i<acc.length
  ·rw[aUF hi]at hD';rw[jJ oM];exact h.gA i o' D' VV hD'
  ·rw[aT7 hi]at hD';by_cases e:i=acc.length
   ·subst e;simp[if_true,aA]at hD';subst hD';rw[ho]at VV;simp[aA]at VV;subst VV;rw[jJ oM,aI oM,<-h.T,<-h.m];exact hg
   ·rw[aT7 e]at hD';cases hD'
 ·intro i o' D' VV hD';rw[aXT]at hD';have hup:∀{k:Nat}{D2:qC},acc.reverse[k]?=some D2->(D::acc).reverse[k]?=some D2:=by
   intro k D2 hk;have:=(bA.1 hk).1;rw[aXT,aUF (by simpa using this)];exact hk
  by_cases hi:i<acc.length
  ·rw[aUF hi]at hD';have⟨g1,g2⟩:=h.down i o' D' VV hD';refine⟨g1,λj=>?_⟩;rw[g2 j];constructor
   ·rintro⟨e,he,hb,x⟩;exact⟨e,he,hb,x.imp id λ⟨D2,k1,k2⟩=>⟨D2,hup k1,k2⟩⟩
   ·rintro⟨e,he,hb,x⟩;refine⟨e,he,hb,x.imp id λ⟨D2,k1,k2⟩=>⟨D2,?_,k2⟩⟩;have:=g1 e he hb;rw[aXT,aUF oM]at k1;exact k1
  ·rw[aT7 hi]at hD';by_cases e:i=acc.length
   ·subst e;simp[if_true,aA]at hD';subst hD';rw[ho]at VV;simp[aA]at VV;subst VV;refine⟨λe he hb=>q1 e (by simpa using he) hb,λj=>?_⟩;rw[hD,q2 j];constructor
    ·rintro⟨e,he,hb,x⟩;exact⟨e,by simpa using he,hb,x.imp id λ⟨D2,k1,k2⟩=>⟨D2,hup k1,k2⟩⟩
    ·rintro⟨e,he,hb,x⟩;refine⟨e,by simpa using he,hb,x.imp id λ⟨D2,k1,k2⟩=>⟨D2,?_,k2⟩⟩;have:=q1 e (by simpa using he) hb;rw[aXT,aUF this]at k1;exact k1
   ·rw[aT7 e]at hD';cases hD'
def NC(hm:P.follows .mixedOrders=true){rd:Bool}{id:Nat}{ds:List DA}{acc:List qC}{T:Nat->A}{m:Mem}(g1:sQ P n ops T0 m0 acc T m)(hlen:acc.length=ops.size)(hap:nO acc=true){Post:qU}(aYH:Post .nm T m ds):
 eU P rd n (.region id ops true) T0 m0 ds Post:=by
 let recs:=acc.reverse.map (·.r);let anc:Nat->Nat->Bool:=λi j=>match acc.reverse[i]? with
  |some D=>D.anc.testBit j
  |none=>false
 let F:Nat->Nat->Prop:=λk i=>∃D,acc.reverse[k]?=some D/\i∈D.F;have aXZ:∀{i:Nat}{r:Rec},recs[i]?=some r->∃D,acc.reverse[i]?=some D/\D.r=r:=by
  intro i r hr;simp only[recs,cK,bU]at hr;exact hr
 have aXQ:∀{i:Nat}{D:qC},acc.reverse[i]?=some D->∀j,anc i j=D.anc.testBit j:=by
  intro i D hD j;simp[anc,hD]
 have aYL:∀{i:Nat}{o:Oper}{D:qC},ops[i]?=some o->acc.reverse[i]?=some D->∀j,D.anc.testBit j=true->j<i:=by
  intro i;induction i using Nat.strongRecOn with
  |_ i ih=>
   intro o D ho hD j hj;have⟨k1,k2⟩:=g1.down i o D ho hD;have⟨e,he,hb,x⟩:=(k2 j).1 hj;have cX:=k1 e he hb;rcases x with rfl|⟨D',hD',x⟩
   ·exact cX
   ·have hio:i<ops.size:=(aL.1 ho).1;exact Nat.lt_trans (ih e.on cX (cF oM) hD' j x) cX
 have aYV:∀(i j:Nat)(Di Dj:qC),i≠j->acc.reverse[i]?=some Di->acc.reverse[j]?=some Dj->anc i j=false->anc j i=false->QP Di Dj:=by
  intro i j Di Dj hZ hi hj h1 h2;rw[aXQ hi]at h1;rw[aXQ hj]at h2;rcases u4 hZ with cX|cX
  ·have⟨a,b,c,d⟩:=oQ hap i j Di Dj cX hi hj h2;exact⟨b,a,d,c⟩
  ·exact oQ hap j i Dj Di cX hj hi h1
 let Rq:Nat->Mem->Prop:=λ_ _=>True;have hok:RL P ops recs anc F Rq n T0 m0:=by
  have aYB:∀k,nM (λi=>decide (i<k)) 0 recs=recs.take k:=by
   have:∀(l:List Rec)(s k:Nat),nM (λi=>decide (i<s+k)) s l=l.take k:=by
    intro l;induction l with
    |nil=>intro s k;simp[nM]
    |cons r l ih=>
     intro s k;cases k with
     |zero=>
      simp[nM,iE,Nat.lt_irrefl,decide_false,bY,if_false,fD];exact sel_none' l (s+1) (λi=>decide (i<s)) (λi hi=>zM)
     |succ k=>
      simp only[nM,cC];rw[aUF sM];rw[show s+(k+1)=s+1+k by omega,ih (s+1) k]
   intro k;have:=this recs 0 k;simpa using this
  have hTk:∀k o D,ops[k]?=some o->acc.reverse[k]?=some D->(∀x∈o.looksAt ops,mK T0 (recs.take k) x=mK T0 (nM (anc k) 0 recs) x)/\∀i∈D.F,kZ m0 (recs.take k) i=kZ m0 (nM (anc k) 0 recs) i:=by
   intro k o D ho hD;have hg:=g1.gA k o D ho hD;have aYD:∀i q,recs[i]?=some q->(decide (0+i<k))≠anc k (0+i)->∃Di,acc.reverse[i]?=some Di/\Di.r=q/\QP Di D:=by
    intro i q hq hZ;obtain⟨Di,hDi,rfl⟩:=aXZ hq;rw[fF]at hZ;have cX:i<k/\anc k i=false:=by
     cases h2:anc k i with
     |true=>
      rw[h2]at hZ;have:=aYL ho hD i (by rw[<-aXQ hD];exact h2);simp[this]at hZ
     |false=>
      rw[h2]at hZ;simp at hZ;exact⟨hZ,rfl⟩
    refine⟨Di,hDi,rfl,aYV i k Di D oM hDi hD ?_ cX.2⟩;cases h3:anc i k with
    |false=>rfl
    |true=>
     have hio:i<ops.size:=by have:=(bA.1 hDi).1;simp at this;omega
     have:=aYL (cF hio) hDi k (by rw[<-aXQ hDi];exact h3);omega
   refine⟨λx hx=>?_,λi hi=>?_⟩
   ·rw[<-aYB k];refine pI recs 0 _ _ (λi q hq hZ e=>?_) rfl;obtain⟨Di,_,rfl,hA⟩:=aYD i q hq hZ;have:=(rU hA.1 x e).1;rw[hg.looks]at this;exact this hx
   ·rw[<-aYB k];refine nZ recs 0 _ _ (λj q hq hZ p hp e=>?_) rfl;obtain⟨Dj,_,rfl,hA⟩:=aYD j q hq hZ;exact tJ hA.2.2.1 p hp (e▸hi)
  refine⟨by simp[recs,hlen],?_,?_,?_,?_,?_,?_,?_,?_⟩
  ·intro k o r ho hr;obtain⟨D,hD,rfl⟩:=aXZ hr;have hg:=g1.gA k o D ho hD;exact⟨hg.dst,hg.lt⟩
  ·intro k o r ho hr;obtain⟨D,hD,rfl⟩:=aXZ hr;have hg:=g1.gA k o D ho hD;have⟨q1,q2⟩:=hTk k o D ho hD;have hwc:kO ops (mK T0 ((acc.reverse.map (·.r)).take k)) o=kO ops (mK T0 (nM (anc k) 0 recs)) o:=HX q1;rcases hg.gA with⟨x,y,z⟩|⟨x,y⟩
   ·exact .inl ⟨hwc▸x,y,z⟩
   ·refine .inr ⟨hwc▸x,λT' m' hT' zI hrq hfr=>y T' m' (λt ht=>(hT' t ht).trans (q1 t ht).symm) (λi hi=>(zI i ⟨D,hD,hi⟩).trans (q2 i hi).symm) (λp hp e=>hfr p hp ((q2 p.1 (hg.inF p hp))▸e))⟩
  ·intro k o X ho hXk aYD;trivial
  ·intro k o j b ho hg d hd;unfold Oper.looksAt;rw[hg];simp[hd]
  ·intro k r hr p hp _;obtain⟨D,hD,rfl⟩:=aXZ hr;have hio:k<ops.size:=by have:=(bA.1 hD).1;simp at this;omega
   exact⟨D,hD,(g1.gA k _ D (cF hio) hD).inF p hp⟩
  ·intro i j p q o hZ hp hq ho h1 h2;obtain⟨Di,hDi,rfl⟩:=aXZ hp;obtain⟨Dj,hDj,rfl⟩:=aXZ hq;have hA:=aYV i j Di Dj hZ hDi hDj h1 h2;have hg:=g1.gA j o Dj ho hDj;refine⟨λd e=>?_,λx hx=>⟨?_,λy hy e=>?_⟩⟩
   ·have:=rU hA.1 d e;rw[hg.looks]at this;exact this
   ·rintro⟨D,hD,hin⟩;rw[hDj]at hD;simp[aA]at hD;subst hD;exact tJ hA.2.2.1 x hx hin
   ·exact tJ hA.2.2.1 x hx (e▸hg.inF y hy)
  ·intro k o ho e he hb;have hk:k<acc.reverse.length:=by
    have:=(aL.1 ho).1;simp;omega
   exact(g1.down k o _ ho (aC hk)).1 e he hb
  ·intro k o j ho hj;have hk:k<acc.reverse.length:=by
    have:=(aL.1 ho).1;simp;omega
   have hD:=aC hk;rw[aXQ hD]at hj;have⟨e,he,hb,x⟩:=((g1.down k o _ ho hD).2 j).1 hj;refine⟨e,he,hb,x.imp (λq=>q) λ⟨D',hD',y⟩=>?_⟩;rw[aXQ hD'];exact y
 refine eU.draw hm hok ?_;rw[<-g1.T,<-g1.m];exact aYH
where sel_none':∀(l:List Rec)(s:Nat)(X:Nat->Bool),(∀i,s<=i+1->i+1<=i+1->s<=i->X i=false)->nM X s l=[]
 |[],_,_,_=>rfl
 |r::l,s,X,h=>by
  simp[nM];rw[h s oM (bT _) (bT _)];simp[bY,if_false];exact sel_none' l (s+1) X λi a b c=>h i oM b oM
end
section
variable{P:Program}{H:Hd}{n:Nat}{ops:Array Oper}{T0:Nat->A}{m0:Mem}
def X2(hH:FB P H):∀(l:List Oper)(acc:List qC)(st:St)(nx:Nat)(acc':List qC)(st':St)(nx':Nat),ops.toList.drop acc.length=l->ML P H n ops l acc.length acc st nx=some (acc',st',nx')->sQ P n ops T0 m0 acc st.T.fn st.m.get->Inv st->
 sQ P n ops T0 m0 acc' st'.T.fn st'.m.get/\acc'.length=acc.length+l.length/\Inv st'/\st'.b=st.b
 |[],acc,st,nx,acc',st',nx',hk,h,hi,hI=>by
  simp only[ML,aA,aD]at h;obtain⟨rfl,rfl,_⟩:=h;exact⟨hi,sM,hI,rfl⟩
 |o::r,acc,st,nx,acc',st',nx',hk,h,hi,hI=>by
  have QS:ops[acc.length]?=some o:=by
   have:ops.toList[acc.length]?=some o:=by
    have:=congrArg List.head? hk;simpa [pA]using this
   simpa using this
  have hkr:ops.toList.drop (acc.length+1)=r:=by
   have:(ops.toList.drop acc.length).drop 1=r:=by rw[hk];rfl
   simpa [lY]using this
  have step:∀(D:qC)(an nx1:Nat),kX acc acc.length o.after.toList=some an->D.anc=an->D.r.dst=o.dst->Good P n ops st.T.fn st.m.get o D->ML P H n ops r (acc.length+1) (D::acc) (st.O0 o.dst D.r.v D.r.u) nx1=some (acc',st',nx')->
   sQ P n ops T0 m0 acc' st'.T.fn st'.m.get/\acc'.length=acc.length+(o::r).length/\Inv st'/\st'.b=st.b:=by
   intro D an nx1 han hD aXY hg hev;have hp:=hi.push (T':=(st.O0 o.dst D.r.v D.r.u).T.fn) (m':=(st.O0 o.dst D.r.v D.r.u).m.get) (D:=D) QS (by simp[St.BM,Tb.VU,aXY]) (by simp[St.BM,Tr.nV]) hg han hD;have⟨g1,g2,g3,g4⟩:=X2 hH r (D::acc) _ nx1 acc' st' nx' hkr hev hp (hI.O0 _ _ _);exact⟨g1,by rw[g2];simp;omega,g3,g4.trans (St.aJD _ _ _ _)⟩
  simp only[ML,St.go_eq]at h;split at h
  ·rename_i hd;have cX:=nS hd;split at h
   ·cases h
   ·rename_i an han;split at h
    ·rename_i hw;exact step _ an _ han rfl rfl ⟨rfl,cX,rfl,sM,.inl ⟨hw,rfl,rfl⟩⟩ h
    ·rename_i hw;split at h
     ·rename_i v hpu;refine step ⟨⟨o.dst,v,[]⟩,o.looksAt ops,[],an⟩ an _ han rfl rfl ⟨rfl,cX,rfl,sM,.inr ⟨hw,λT' m' hT' _ _=>?_⟩⟩ h;have a2J:aEN P T' o=some v:=by
       rw[<-hpu];have ev:∀x∈o.op.operands.toList,dN T' x=dN st.T.fn x:=λx hx=>y7 λn e=>hT' n (mX hx e);unfold aEN;cases ho:o.op with
       |move x=>simp[ev x (by simp[ho,Op.operands])]
       |assign x=>simp[ev x (by simp[ho,Op.operands])]
       |pick c a b=>simp[ev c (by simp[ho,Op.operands]),ev a (by simp[ho,Op.operands]),ev b (by simp[ho,Op.operands])]
       |binOp op t x y yt=>simp[ev x (by simp[ho,Op.operands]),ev y (by simp[ho,Op.operands])]
       |unOp op t x=>simp[ev x (by simp[ho,Op.operands])]
       |extract x i=>simp[ev x (by simp[ho,Op.operands])]
       |field t x f=>simp[ev x (by simp[ho,Op.operands])]
       |_=>rfl
      exact qT.aKI (d:=0) (aEO a2J m') rfl
     ·cases rQ:shallow o with
      |true=>
       rw[rQ]at h;simp[cond_true]at h;split at h
       ·rename_i v u he;refine step ⟨⟨o.dst,v,u⟩,o.looksAt ops,nx::(u.map (·.1)++(o.looksAt ops).flatMap λt=>(st.T.fn t).hs),an⟩ an _ han rfl rfl ⟨rfl,cX,rfl,λp hp=>by simp;exact .inr (.inl ⟨p.2,hp⟩),.inr ⟨hw,λT' m' hT' zI _=>?_⟩⟩ h;have hag:MB o st.T.fn T' st.m.get m':=by
         refine⟨λx hx=>y7 λn e=>(hT' n (mX hx e)).symm,λx hx i hi=>?_⟩;have⟨t,e,CL⟩:=VQ hi;refine(zI i ?_).symm;simp[aO,bN,rP];exact .inr (.inr ⟨t,mX hx e,CL⟩)
        have aYX:=FO (P:=P) (d:=nx) hag (zI nx sM).symm rQ;rw[he]at aYX;exact qT.sD aYX.symm rfl
       ·cases h
      |false=>
       rw[rQ]at h;simp[cond_false]at h;split at h
       ·rename_i m1 l n0;have⟨c1,c2,c3,c4⟩:=PI _ _ _ _ _ _ n0 (by intro i r e;simp[Tr.get_nil]at e) (by intro i r e;simp[Tr.get_nil]at e) (by intro i e;simp[Tr.get_nil]at e);split at h
        ·rename_i v u nx1 he;split at h
         ·rename_i hfr;refine step ⟨⟨o.dst,v,u⟩,o.looksAt ops,u.map (·.1)++l,an⟩ an _ han rfl rfl ⟨rfl,cX,rfl,λp hp=>by simp;exact .inl ⟨p.2,hp⟩,.inr ⟨hw,λT' m' hT' zI aXW=>?_⟩⟩ h;have I5:=X3 hH he;have hOT:qT P o (WN st.T.fn (o.looksAt ops)).fn m1.get v (aH m1.get u):=by
           intro ro N M0 S0 w0 ρ a w h cX next Q hn
           refine I5 ro N M0 S0 w0 ρ a w h cX next Q ?_
           intro u' y w' ρ' hu' h1 h2;have hu':u'=(.ok v,u):=by simpa using hu'
           subst hu';exact⟨λv' e h3=>by simp[Rt.ok.injEq]at e;subst e;exact hn y w' ρ' h1 h2 h3,λv' e=>by cases e⟩
          have hr:=ON st.T.fn (o.looksAt ops) Tb.nil;refine hOT.frame (λk=>?_) (λi r e=>?_) c2 (λp hp e=>?_)
          ·unfold WN;rw[hr k];by_cases hk:k∈o.looksAt ops
           ·rw[aUF hk];refine .inr ⟨(hT' k hk).symm,λi hi=>c4 i (.inr ?_)⟩;rw[hT' k hk]at hi;exact rP.2 ⟨k,hk,hi⟩
           ·rw[aT7 hk];exact .inl (Tb.aCX _)
          ·rw[zI i (by simp[bN];exact .inr (c3 i (by rw[e];simp)))];exact c1 i r e
          ·exact aXW p hp (HF hfr p hp e)
         ·cases h
        ·cases h
       ·cases h
    ·cases h
  ·cases h
def Z2(hm:P.follows .mixedOrders=true)(hH:FB P H){rd:Bool}{id:Nat}{ds:List DA}{st:St}{nx:Nat}{outs:List Oc}(h:aJG P H n ops ds st nx=some outs)(hI:Inv st):
 eU P rd n (.region id ops true) st.T.fn st.m.get ds (HL outs)/\∀o∈outs,Inv o.2.1/\o.2.1.b=st.b:=by
 unfold aJG at h;split at h
 ·rename_i acc st' nx' he;split at h
  ·rename_i hap;simp[aA]at h;subst h;have he':ML P H n ops ops.toList ([]:List qC).length [] st nx=some (acc,st',nx'):=he;have⟨g1,g2,g3,g4⟩:=X2 (T0:=st.T.fn) (m0:=st.m.get) hH ops.toList [] st nx acc st' nx' sM he' ⟨rfl,rfl,λi o D _ hD=>by simp at hD,λi o D _ hD=>by simp at hD⟩ hI;exact⟨NC hm g1 (by simpa using g2) hap ⟨_,aR.2 rfl,rfl,rfl,rfl,rfl⟩,λo ho=>by simp[aR]at ho;subst ho;exact⟨g3,g4⟩⟩
  ·cases h
 ·cases h
end
def jE{b:Frame}{a:Act}{k:List Item}{cs:List Frame}{w:World}:step P (lone (b.atR a (.code (.scope c)::k)) cs w)=.next (lone (b.atR a (.code c::.inScope c::k)) cs w):=
 step_lone_go (by simp[stepG,stepG.exec,Frame.atR])
def AY{b:Frame}{a:Act}{k:List Item}{cs:List Frame}{w:World}:step P (lone (b.atR a (.inScope c::k)) cs w)=.next (lone (b.atR a k) cs w):=
 step_lone_go (by simp[stepG,stepG.exec,Frame.atR])
def eU.scope{P:Program}{rd:Bool}{n:Nat}{T:Nat->A}{m:Mem}{ds:List DA}{Post:qU}{c:Code}(h:eU P rd n c T m ds Post):eU P rd n (.scope c) T m ds Post:=by
 intro ro M0 S0 w0 ρ a w wB hs cX Q hQ;have h1:=h ro M0 S0 w0 ρ a w wB hs cX (λe a' w'=>(∀l,e≠.goto l)/\e≠.outgrown/\Q e a' w') (λex e T' m' ds' ρ' a' w' hp hs' hO hd=>⟨λl=>by cases ex<;>first|(simp[Ex.Den]at hd;rw[hd];simp)|(have⟨y,hd,_⟩:=hd;rw[hd];simp),by cases ex<;>first|(simp[Ex.Den]at hd;rw[hd];simp)|(have⟨y,hd,_⟩:=hd;rw[hd];simp),hQ ex e T' m' ds' ρ' a' w' hp hs' hO hd⟩);intro b k cs hrb hb hr;have h0:(lone (b.atR a (.code (.scope c)::k)) cs w).fenced P (FW ro):=fenced_calm hb hr rfl;have⟨e,a₁,w₁,⟨hg,ho,hq⟩,aWS⟩:=h1 b (.inScope c::k) cs hrb hb hr;have hx:∀id,exitTo id (.inScope c::k)=exitTo id k:=λid=>by simp[exitTo]
 cases e with
 |normal=>exact⟨.normal,a₁,w₁,hq,.head h0 jE (StepsIn.trans aWS (.one (fenced_calm hb hr rfl) AY))⟩
 |exit id=>exact⟨_,a₁,w₁,hq,λk' hk=>.head h0 jE (aWS.1 k' (by rw[hx];exact hk)),λhr' hk=>let⟨k₁,h1,h2⟩:=aWS.2 hr' (by rw[hx];exact hk);⟨k₁,h1,.head h0 jE h2⟩⟩
 |goto l=>exact absurd rfl (hg l)
 |ret=>exact⟨_,a₁,w₁,hq,.of_steps (.one h0 jE) aWS⟩
 |panic ch=>exact⟨_,a₁,w₁,hq,.of_steps (.one h0 jE) aWS⟩
 |outgrown=>exact absurd rfl ho
section
variable{P:Program}{H:Hd}
def aAB{a:A}{gf:FuncId}{us vs:List A}(h:aJ2 a=some (gf,us,vs)):a=.fn (.func gf) us vs\/∃cu cv,a=.d (.fn (.func gf) cu cv)/\us=cu.map A.d/\vs=cv.map A.d:=by
 unfold aJ2 at h;split at h
 ·simp[aA,aD]at h;have⟨rfl,rfl,rfl⟩:=h;exact .inl rfl
 ·simp[aA,aD]at h;have⟨rfl,rfl,rfl⟩:=h;exact .inr ⟨_,_,rfl,rfl,rfl⟩
 ·cases h
def oU(f:Nat)(t:Tr R)(i:Nat)(r:R):(Tr.set f t i r).get=aX t.get i r:=by
 funext k;rw[Tr.rV];rfl
def aG4(hH:FB P H){n:Nat}{g:Operand}{ps:Array Tmp}{asg bod:Code}{st:St}{ds:List DA}{nx:Nat}{outs:List Oc}(h:aG3 H n g ps asg bod st ds nx=some outs)(hI:Inv st):
 eU P false n (.rangeFunc g ps asg bod) st.T.fn st.m.get ds (HL outs)/\∀o∈outs,Inv o.2.1/\o.2.1.b=st.b:=by
 unfold aG3 at h;split at h
 ·rename_i gf us vs hf;split at h
  ·rename_i hfr;simp[aE]at hfr;have hfi:=hG hfr.1;have hfj:=hG hfr.2;split at h
   ·rename_i v u nx' he;simp only at h;split at h
    ·rename_i ls pe ts' ps' asg' bod' hlo;split at h
     ·cases h
     ·rename_i hb;have⟨r,u',e1,aVN⟩:=hH.fn _ _ _ _ _ _ he;simp[iX,aD,and_true]at e1;have⟨rfl,rfl⟩:=e1;have hInv:∀i q,st.b.get i=some q->i∉KF st.b u st.log->(Tr.set fM (Tr.MW fM (Tr.set fM (Tr.set fM st.m nx (.df false)) (nx+1) (.lo .ready none (mY n st.T.fn) ps asg bod)) u) (nx+1) (.lo .exhausted pe ts' ps' asg' bod')).get i=some q:=by
       intro i q hbi hl;have hm:=hI i q hbi λe=>hl (A8 _ _ _ _ e);have h1:i≠nx:=by rintro rfl;rw[hfi]at hm;cases hm
       have h2:i≠nx+1:=by rintro rfl;rw[hfj]at hm;cases hm
       have h3:∀p∈u,p.1≠i:=by rintro p hp rfl;exact hl (KG _ _ _ p hp (by rw[hbi];simp))
       rw[oU,aX,aT7 h2,Tr.nV,n9 u _ h3,oU,aX,aT7 h2,oU,aX,aT7 h1];exact hm
      have a1O:∀(o:Oc),o∈outs->Inv o.2.1/\o.2.1.b=st.b:=by
       intro o ho;cases pe with
       |none=>simp[yL,aA]at h;subst h;simp[aR]at ho;subst ho;exact⟨hInv,rfl⟩
       |some c=>cases c with
        |ret=>simp[yL,aA]at h;subst h;simp[aR]at ho;subst ho;exact⟨hInv,rfl⟩
        |exit id=>simp[yL,aA]at h;subst h;simp[aR]at ho;subst ho;exact⟨hInv,rfl⟩
        |_=>simp[yL]at h
      refine⟨?_,a1O⟩;refine eU.rangeFunc (i:=nx) (j:=nx+1) (r:=.ok v) (m2:=(Tr.MW fM (Tr.set fM (Tr.set fM st.m nx (.df false)) (nx+1) (.lo .ready none (mY n st.T.fn) ps asg bod)) u).get) (aAB hf) hfi hfj oM ?_ ?_ (λv e=>by cases e)
      ·rw[oU,oU]at aVN;rw[Tr.nV,oU,oU];exact aVN
      ·intro v' _;refine⟨ls,pe,ts',ps',asg',bod',hlo,λe=>by subst e;exact hb rfl,?_⟩;cases pe with
       |none=>
        simp[yL,aA]at h;subst h;exact⟨_,aR.2 rfl,rfl,rfl,by simp[oU],rfl⟩
       |some c=>cases c with
        |ret=>
         simp[yL,aA]at h;subst h;exact⟨_,aR.2 rfl,rfl,rfl,by simp[oU],rfl⟩
        |exit id=>
         simp[yL,aA]at h;subst h;exact⟨_,aR.2 rfl,rfl,rfl,by simp[oU],rfl⟩
        |_=>simp[yL]at h
    ·cases h
   ·cases h
  ·cases h
 ·cases h
def HL.sub{outs outs':List Oc}(h:∀o∈outs,o∈outs'):∀ex T m ds,HL outs ex T m ds->HL outs' ex T m ds:=λex T m ds⟨o,ho,z⟩=>⟨o,h o ho,z⟩
def BT.mono{rd:Bool}{n:Nat}{c:Code}{Post1 Post:qU}(hp:∀ex T m ds,Post1 ex T m ds->Post ex T m ds):∀(j:Nat)(T:Nat->A)(m:Mem)(ds:List DA),BT P rd n c Post1 j T m ds->BT P rd n c Post j T m ds
 |0,_,_,_,h=>h
 |j+1,T,m,ds,⟨Q1,g1,g2,g3⟩=>⟨Q1,g1,λT' m' ds' q=>BT.mono hp j T' m' ds' (g2 T' m' ds' q),λex T' m' ds' hZ q=>hp _ _ _ _ (g3 ex T' m' ds' hZ q)⟩
def FT(aXX:P.follows .mixedOrders=true)(hH:FB P H){rd:Bool}{n:Nat}:∀(k:Nat)(c:Code)(st:St)(ds:List DA)(nx:Nat)(outs:List Oc),uH P H rd n k c st ds nx=some outs->Inv st->
 (eU P rd n c st.T.fn st.m.get ds (HL outs)/\∀o∈outs,Inv o.2.1/\o.2.1.b=st.b)/\∀c',c=.loop c'->BT P rd n c' (HL outs) k st.T.fn st.m.get ds:=by
 intro k;induction k with
 |zero=>intro c st ds nx outs h;cases h
 |succ k ih=>
  intro c st ds nx outs h hI;have one:∀{ex:Ex},some [(ex,st,ds,nx)]=some outs->HL outs ex st.T.fn st.m.get ds/\∀o∈outs,Inv o.2.1/\o.2.1.b=st.b:=by
   intro ex h;simp[aA]at h;subst h;exact⟨⟨_,aR.2 rfl,rfl,rfl,rfl,rfl⟩,λo ho=>by simp[aR]at ho;subst ho;exact⟨hI,rfl⟩⟩
  cases c with
  |skip=>
   have h:some [(Ex.nm,st,ds,nx)]=some outs:=h;exact⟨⟨eU.skip (one h).1,(one h).2⟩,λc' e=>by cases e⟩
  |label l=>
   have h:some [(Ex.nm,st,ds,nx)]=some outs:=h;exact⟨⟨eU.label (one h).1,(one h).2⟩,λc' e=>by cases e⟩
  |exit id=>
   have h:some [(Ex.ext id,st,ds,nx)]=some outs:=h;exact⟨⟨eU.exit (one h).1,(one h).2⟩,λc' e=>by cases e⟩
  |ret=>
   have h:some [(Ex.ret,st,ds,nx)]=some outs:=h;exact⟨⟨eU.ret (one h).1,(one h).2⟩,λc' e=>by cases e⟩
  |seq x y=>
   refine⟨?_,λc' e=>by cases e⟩
   have h:(match uH P H rd n k x st ds nx with
    |some outs=>vC (λ(o:Oc)=>match o.1 with
     |.nm=>uH P H rd n k y o.2.1 o.2.2.1 o.2.2.2
     |_=>some [o]) outs
    |none=>none)=some outs:=h
   split at h
   ·rename_i os ho;have⟨⟨g1,g2⟩,_⟩:=ih x st ds nx os ho hI;refine⟨eU.seq g1 ?_ ?_,?_⟩
    ·rintro T' m' ds' ⟨o,hm,he,rfl,rfl,rfl⟩;have⟨a,h1,h2⟩:=tI h o hm;rw[he]at h1;exact((ih y _ _ _ a h1 (g2 o hm).1).1.1).mono (HL.sub h2)
    ·rintro ex T' m' ds' hZ ⟨o,hm,he,rfl,rfl,rfl⟩;have⟨a,h1,h2⟩:=tI h o hm;rw[he]at h1;cases ex with
     |nm=>cases hZ
     |_=>simp[aA]at h1;subst h1;exact⟨o,h2 _ sM,he,rfl,rfl,rfl⟩
    ·intro y' hy';have⟨o,hm,a,h1,h2⟩:=A4 h y' hy';cases he:o.1 with
     |nm=>
      rw[he]at h1;have:=(ih y _ _ _ a h1 (g2 o hm).1).1.2 y' h2;exact⟨this.1,this.2.trans (g2 o hm).2⟩
     |_=>
      rw[he]at h1;simp[aA]at h1;subst h1;simp[aR]at h2;subst h2;exact g2 _ hm
   ·cases h
  |cond cc x y=>
   refine⟨?_,λc' e=>by cases e⟩
   have h:(match dN st.T.fn cc with
    |.d (.v (.bool b))=>uH P H rd n k (cond b x y) st ds nx
    |_=>none)=some outs:=h
   split at h
   ·rename_i b hb;have:=(ih _ st ds nx outs h hI).1;refine⟨eU.cond hb ?_,this.2⟩;cases b<;>exact this.1
   ·cases h
  |block id x=>
   refine⟨?_,λc' e=>by cases e⟩
   have h:(match uH P H rd n k x st ds nx with
    |some outs=>some (outs.map λ(o:Oc)=>(u6 id o.1,o.2))
    |none=>none)=some outs:=h
   split at h
   ·rename_i os ho;simp[aA]at h;subst h;have⟨⟨g1,g2⟩,_⟩:=ih x st ds nx os ho hI;refine⟨eU.block g1 ?_,?_⟩
    ·rintro ex T' m' ds' ⟨o,hm,rfl,rfl,rfl,rfl⟩;exact⟨_,aA4.2 ⟨o,hm,rfl⟩,rfl,rfl,rfl,rfl⟩
    ·intro o' VV;obtain⟨o,hm,rfl⟩:=aA4.1 VV;exact g2 o hm
   ·cases h
  |loop x=>
   have h:(match uH P H rd n k x st ds nx with
    |some outs=>vC (λ(o:Oc)=>match o.1 with
     |.nm=>uH P H rd n k (.loop x) o.2.1 o.2.2.1 o.2.2.2
     |_=>some [o]) outs
    |none=>none)=some outs:=h
   have hL:BT P rd n x (HL outs) (k+1) st.T.fn st.m.get ds/\∀o∈outs,Inv o.2.1/\o.2.1.b=st.b:=by
    split at h
    ·rename_i os ho;have⟨⟨g1,g2⟩,_⟩:=ih x st ds nx os ho hI;refine⟨⟨HL os,g1,?_,?_⟩,?_⟩
     ·rintro T' m' ds' ⟨o,hm,he,rfl,rfl,rfl⟩;have⟨a,h1,h2⟩:=tI h o hm;rw[he]at h1;exact BT.mono (HL.sub h2) k _ _ _ ((ih (.loop x) _ _ _ a h1 (g2 o hm).1).2 x rfl)
     ·rintro ex T' m' ds' hZ ⟨o,hm,he,rfl,rfl,rfl⟩;have⟨a,h1,h2⟩:=tI h o hm;rw[he]at h1;cases ex with
      |nm=>cases hZ
      |_=>simp[aA]at h1;subst h1;exact⟨o,h2 _ sM,he,rfl,rfl,rfl⟩
     ·intro y' hy';have⟨o,hm,a,h1,h2⟩:=A4 h y' hy';cases he:o.1 with
      |nm=>
       rw[he]at h1;have:=(ih (.loop x) _ _ _ a h1 (g2 o hm).1).1.2 y' h2;exact⟨this.1,this.2.trans (g2 o hm).2⟩
      |_=>
       rw[he]at h1;simp[aA]at h1;subst h1;simp[aR]at h2;subst h2;exact g2 _ hm
    ·cases h
   exact⟨⟨eU.loop hL.1,hL.2⟩,λc' e=>by cases e;exact hL.1⟩
  |scope x=>
   refine⟨?_,λc' e=>by cases e⟩;have h:uH P H rd n k x st ds nx=some outs:=h;have:=(ih x st ds nx outs h hI).1;exact⟨eU.scope this.1,this.2⟩
  |region id ops draw=>
   refine⟨?_,λc' e=>by cases e⟩;have h:cond draw (aJG P H n ops ds st nx) (vI P H rd n ops ops.toList ds st nx)=some outs:=h;cases draw with
   |true=>exact Z2 aXX hH h hI
   |false=>
    have:=DP (rd:=rd) hH ops.toList 0 ds st nx outs sM h hI;refine⟨eU.region ?_,this.2⟩;rw[List.range_eq_range'];simpa using this.1
  |rangeFunc g ps asg bod=>
   refine⟨?_,λc' e=>by cases e⟩;have h:cond rd none (aG3 H n g ps asg bod st ds nx)=some outs:=h;cases rd with
   |true=>cases h
   |false=>exact aG4 hH h hI
  |goto l=>cases h
  |refuse s=>cases h
end
section
variable{P:Program}{H:Hd}
def M7:∀(as:List A)(k:Nat)(t:Tb)(n:Nat),(CB as k t).fn n=if k<=n/\n -k<as.length then(as[n -k]?).getD .x else t.fn n
 |[],k,t,n=>by simp[CB]
 |a::r,k,t,n=>by
  simp only[CB];rw[M7 r (k+1),Tb.FU];by_cases h1:k=n
  ·subst h1;rw[aT7 oM,aUF sM];simp[lI]
  ·by_cases h2:k+1<=n/\n -(k+1)<r.length
   ·rw[aUF h2,aUF zM];have:n -k=(n -(k+1))+1:=oM;rw[this];simp
   ·rw[aT7 h2,aT7 zM];simp[lI,h1]
def M6(as:List A):(CB as 0 Tb.nil).fn=uA as:=by
 funext n;rw[M7];unfold uA;by_cases h:n<as.length
 ·rw[aUF (by simpa using h)];simp
 ·rw[aT7 zM,lD oM,Tb.aCX];rfl
def LN:∀(ps:List (Tmp×A))(t:Tb),(IQ ps t).fn=AX ps t.fn
 |[],t=>rfl
 |p::r,t=>by simp[IQ,AX];rw[LN r,Tb.FU]
def mU:∀{u:List (Nat×R)}{m:Mem}{i:Nat}{r:R},aH m u i=some r->(i,r)∈u\/(m i=some r/\∀p∈u,p.1≠i)
 |[],m,i,r,h=>.inr ⟨h,sM⟩
 |(j,q)::t,m,i,r,h=>by
  simp[aH]at h;rcases mU h with h|⟨h,h2⟩
  ·exact .inl (by simp[h])
  ·unfold aX at h;split at h
   ·rename_i e;simp at h;subst h;subst e;exact .inl sM
   ·rename_i e;refine .inr ⟨h,λp hp=>?_⟩;simp[aO]at hp;rcases hp with rfl|hp
    ·exact Ne.symm e
    ·exact h2 p hp
def CA:∀{u:List (Nat×R)}{m:Mem}{p:Nat×R},p∈u->aH m u p.1≠none
 |[],m,p,h=>by simp at h
 |(j,q)::t,m,p,h=>by
  simp[aH];simp[aO]at h;rcases h with rfl|h
  ·exact tH (by simp[aX])
  ·exact CA h
def QM{g:R->R}{m:Tr R}:∀{l:List Nat}{u:List (Nat×R)},aEC g m l=some u->(∀p∈u,∃r,m.get p.1=some r/\p.2=g r)/\∀i∈l,∃p∈u,p.1=i
 |[],u,h=>by simp only[aEC,aA]at h;subst h;simp
 |i::l,u,h=>by
  simp only[aEC]at h;split at h
  ·rename_i r u' h1 h2;simp only[aA]at h;subst h;obtain⟨g1,g2⟩:=QM h2;refine⟨λp hp=>?_,λj hj=>?_⟩
   ·simp[aO]at hp;rcases hp with rfl|hp
    ·exact⟨r,h1,rfl⟩
    ·exact g1 p hp
   ·simp[aO]at hj;rcases hj with rfl|hj
    ·exact⟨(j,g r),sM,rfl⟩
    ·have⟨p,hp,e⟩:=g2 j hj;exact⟨p,by simp[hp],e⟩
  ·cases h
def YE{p:Nat×R}(hp:p∈u):∀j∈p.2.hs,j∈hsU u:=by
 induction u with
 |nil=>simp at hp
 |cons q u ih=>
  have⟨i,r⟩:=q;intro j hj;simp[hsU,bN];simp[aO]at hp;rcases hp with rfl|hp
  ·exact .inl hj
  ·exact .inr (ih hp j hj)
def AR{g:R->R}{b m:Tr R}:∀(f:Nat)(w:List Nat)(vis:Tr Unit)(acc acc2:List (Nat×R)),reach g b m f w vis acc=some acc2->(∀p∈acc,∃r,m.get p.1=some r/\p.2=g r)->(∀p∈acc,∀j∈p.2.hs,b.get j≠none\/(∃q∈acc,q.1=j)\/j∈w)->(∀i,vis.get i≠none->∃q∈acc,q.1=i)->
 (∀p∈acc2,∃r,m.get p.1=some r/\p.2=g r)/\(∀p∈acc,p∈acc2)/\(∀p∈acc2,∀j∈p.2.hs,b.get j≠none\/∃q∈acc2,q.1=j)/\∀j∈w,b.get j≠none\/∃q∈acc2,q.1=j
 |0,w,vis,acc,acc2,h,_,_,_=>by simp[reach]at h
 |f+1,[],vis,acc,acc2,h,h1,h2,h3=>by
  simp only[reach,aA]at h;subst h;exact⟨h1,λp hp=>hp,λp hp j hj=>(h2 p hp j hj).imp id λx=>x.resolve_right sM,sM⟩
 |f+1,i::w,vis,acc,acc2,h,h1,h2,h3=>by
  simp only[reach]at h;split at h
  ·rename_i q hq
   obtain⟨g1,g2,g3,g4⟩:=AR f w vis acc acc2 h h1 (λp hp j hj=>by
    rcases h2 p hp j hj with x|x|x
    · exact .inl x
    · exact .inr (.inl x)
    · simp[aO]at x
      rcases x with rfl|x
      · exact .inl (by rw[hq];simp)
      · exact .inr (.inr x)) h3
   refine⟨g1,g2,g3,λj hj=>?_⟩;simp[aO]at hj;rcases hj with rfl|hj
   ·exact .inl (by rw[hq];simp)
   ·exact g4 j hj
  ·split at h
   ·rename_i q hq;have hi:=h3 i (by rw[hq];simp)
    have⟨g1,g2,g3,g4⟩:=AR f w vis acc acc2 h h1 (λp hp j hj=>by
     rcases h2 p hp j hj with x|x|x
     · exact .inl x
     · exact .inr (.inl x)
     · simp[aO]at x
       rcases x with rfl|x
       · exact .inr (.inl hi)
       · exact .inr (.inr x)) h3
    refine⟨g1,g2,g3,λj hj=>?_⟩;simp[aO]at hj;rcases hj with rfl|hj
    ·have⟨q,hq,e⟩:=hi;exact .inr ⟨q,g2 q hq,e⟩
    ·exact g4 j hj
   ·split at h
    ·rename_i r hr
     have⟨g1,g2,g3,g4⟩:=AR f ((g r).hs++w) (Tr.set fM vis i ()) ((i,g r)::acc) acc2 h (λp hp=>by
      simp[aO]at hp;rcases hp with rfl|hp
      · exact⟨r,hr,rfl⟩
      · exact h1 p hp) (λp hp j hj=>by
      simp[aO]at hp;rcases hp with rfl|hp
      · exact .inr (.inr (by simp[hj]))
      · rcases h2 p hp j hj with x|⟨q,hq,e⟩|x
        · exact .inl x
        · exact .inr (.inl ⟨q,by simp[hq],e⟩)
        · simp[aO]at x
          rcases x with rfl|x
          · exact .inr (.inl ⟨(j,g r),sM,rfl⟩)
          · exact .inr (.inr (by simp[x]))) (λj e=>by
      rw[Tr.rV]at e;split at e
      · rename_i e2;subst e2;exact⟨(j,g r),sM,rfl⟩
      · have⟨q,hq,e⟩:=h3 j e
        exact⟨q,by simp[hq],e⟩)
     refine⟨g1,λp hp=>g2 p (by simp[hp]),g3,λj hj=>?_⟩;simp[aO]at hj;rcases hj with rfl|hj
     ·exact .inr ⟨(j,g r),g2 _ sM,rfl⟩
     ·exact g4 j (by simp[hj])
    ·cases h
def RZ{st:St}(h:RY g st r=some u)(hI:Inv st):(∀i q,aH st.b.get u i=some q->(∃r,st.m.get i=some r/\q=g r/\∃p∈u,p.1=i)\/(st.m.get i=some q/\∀p∈u,p.1≠i))/\(∀i∈r.hs,aH st.b.get u i≠none)/\∀p∈u,∀j∈p.2.hs,aH st.b.get u j≠none:=by
 unfold RY at h;split at h
 ·rename_i u0 hu0;have⟨k1,k2⟩:=QM hu0;have⟨g1,g2,g3,g4⟩:=AR _ _ _ _ _ h k1 (λp hp j hj=>.inr (.inr (by simp[bN];exact .inr (YE hp j hj)))) (λi e=>by simp[Tr.get_nil]at e);have key:∀j,(st.b.get j≠none\/∃q∈u,q.1=j)->aH st.b.get u j≠none:=by
   rintro j (x|⟨q,hq,rfl⟩)
   ·exact tH x
   ·exact CA hq
  refine⟨λi q hq=>?_,λi hi=>key i (g4 i (by simp[hi])),λp hp j hj=>key j (g3 p hp j hj)⟩;rcases mU hq with x|⟨x,y⟩
  ·have⟨r,e1,e2⟩:=g1 (i,q) x;exact .inl ⟨r,e1,e2,(i,q),x,rfl⟩
  ·refine .inr ⟨hI i q x λe=>?_,y⟩;have⟨p,hp,e⟩:=k2 i e;exact y p (g2 p hp) e
 ·cases h
def XS{st:St}(h:RY id st r=some u)(hI:Inv st):(∀i q,aH st.b.get u i=some q->st.m.get i=some q)/\(∀i∈r.hs,aH st.b.get u i≠none)/\∀p∈u,∀j∈p.2.hs,aH st.b.get u j≠none:=by
 have⟨g1,g2,g3⟩:=RZ h hI;refine⟨λi q hq=>?_,g2,g3⟩;rcases g1 i q hq with⟨r,e,rfl,_⟩|⟨e,_⟩
 ·exact e
 ·exact e
def aCJ{st:St}(h:RY g st r=some u):∀p∈u,∃q,st.m.get p.1=some q/\p.2=g q:=by
 unfold RY at h;split at h
 ·rename_i u0 hu0;have⟨k1,k2⟩:=QM hu0;exact(AR _ _ _ _ _ h k1 (λp hp j hj=>.inr (.inr (by simp[bN];exact .inr (YE hp j hj)))) (λi e=>by simp[Tr.get_nil]at e)).1
 ·cases h
structure aJJ(b:Tr R)(c:Nat)(t:Tr Nat)(ps:List (Nat×Nat)):Prop where
 get:∀i k,t.get i=some k↔(i,k)∈ps
 fst:(ps.map (·.1)).Nodup
 snd:(ps.map (·.2)).Nodup
 free:∀p∈ps,b.get p.1=none/\b.get p.2=none/\p.2<c
def FK{b:Tr R}:∀{u:List (Nat×R)}{c:Nat}{t t':Tr Nat}{ps:List (Nat×Nat)},FJ b u c t=some t'->aJJ b c t ps->
 ∃c' ps',aJJ b c' t' ps'/\(∀p∈ps,p∈ps')/\∀p∈u,p.2.aKG=true/\(b.get p.1≠none\/∃k,(p.1,k)∈ps')
 |[],c,t,t',ps,h,hr=>by
  simp only[FJ,aA]at h;subst h;exact⟨c,ps,hr,λ_ h=>h,sM⟩
 |(i,r)::u,c,t,t',ps,h,hr=>by
  simp only[FJ]at h;rw[Bool.cond_eq_ite]at h;split at h
  ·rename_i hn;split at h
   ·rename_i q hq;obtain⟨c',ps',h1,h2,h3⟩:=FK h hr;refine⟨c',ps',h1,h2,λp hp=>?_⟩;simp[aO]at hp;rcases hp with rfl|hp
    ·exact⟨hn,.inl (by rw[hq];simp)⟩
    ·exact h3 p hp
   ·rename_i hbi;split at h
    ·cases h
    ·rename_i J3;split at h
     ·cases h
     ·rename_i hbc;have hr':aJJ b (c+1) (Tr.set fM t i c) ((i,c)::ps):=by
       refine⟨λj k=>?_,?_,?_,?_⟩
       ·rw[Tr.rV];by_cases e:j=i
        ·subst e;simp[if_true,aA,aO,aD,true_and];constructor
         ·intro e;exact .inl e.symm
         ·rintro(e|e)
          ·exact e.symm
          ·have:=(hr.get j k).2 e;rw[J3]at this;cases this
        ·simp[aT7 e,aO,aD,e,false_and,false_or];exact hr.get j k
       ·simp only[aG,aAD];refine⟨λe=>?_,hr.fst⟩;have⟨p,hp,e⟩:=aA4.1 e;have:=(hr.get p.1 p.2).2 hp;rw[e,J3]at this;cases this
       ·simp only[aG,aAD];refine⟨λe=>?_,hr.snd⟩;have⟨p,hp,e⟩:=aA4.1 e;have:=(hr.free p hp).2.2;omega
       ·intro p hp;simp[aO]at hp;rcases hp with rfl|hp
        ·exact⟨hbi,hbc,oM⟩
        ·have:=hr.free p hp;exact⟨this.1,this.2.1,oM⟩
      have⟨c',ps',h1,h2,h3⟩:=FK h hr';refine⟨c',ps',h1,λp hp=>h2 p (by simp[hp]),λp hp=>?_⟩;simp[aO]at hp;rcases hp with rfl|hp
      ·exact⟨hn,.inr ⟨c,h2 _ sM⟩⟩
      ·exact h3 p hp
  ·cases h
def NH{cb:Option Nat}{st:St}{r0:Rt}(h:PX cb st r0=some (r,u))(hI:Inv st):
 RM st.b.get st.m.get r0 (aH st.b.get u) r/\(∀i∈r.hs,aH st.b.get u i≠none)/\∀p∈u,∀j∈p.2.hs,aH st.b.get u j≠none:=by
 unfold PX at h;split at h
 ·cases h
 ·rename_i u1 hu1;have⟨k1,k2,k3⟩:=XS hu1 hI;split at h
  ·simp[aA,aD]at h;have⟨rfl,rfl⟩:=h;exact⟨RM.refl k1,k2,k3⟩
  ·rename_i base;unfold canon at h;split at h
   ·rename_i t ht;simp[aA,aD]at h;have⟨rfl,rfl⟩:=h;have⟨c',ps,hps,_,a0V⟩:=FK ht (ps:=[]) ⟨λi k=>by simp[Tr.get_nil],sM,sM,sM⟩;have⟨g,gi,g1,g2,g3,g4⟩:=HB ps hps.fst hps.snd;have aWV:=aCJ hu1;have a2B:=(RZ hu1 hI).1;have fix:∀i,st.b.get i≠none->g i=i/\H7 t i=i:=by
     intro i hi;have n1:i∉ps.map (·.1):=λe=>by
      obtain⟨p,hp,rfl⟩:=aA4.1 e;exact hi (hps.free p hp).1
     have n2:i∉ps.map (·.2):=λe=>by
      obtain⟨p,hp,rfl⟩:=aA4.1 e;exact hi (hps.free p hp).2.1
     refine⟨g4 i n1 n2,?_⟩;unfold H7;cases e:t.get i with
     |none=>rfl
     |some k=>exact absurd (aA4.2 ⟨_,(hps.get i k).1 e,rfl⟩) n1
    have agree:∀i,(st.b.get i≠none\/∃k,(i,k)∈ps)->H7 t i=g i:=by
     rintro i (hi|⟨k,hk⟩)
     ·rw[(fix i hi).1,(fix i hi).2]
     ·have e:=(hps.get i k).2 hk;unfold H7;rw[e];exact(g3 _ hk).symm
    have dom:∀i,aH st.b.get u1 i≠none->st.b.get i≠none\/∃k,(i,k)∈ps:=by
     intro i hi;cases hq:aH st.b.get u1 i with
     |none=>exact absurd hq hi
     |some q=>
      rcases mU hq with e|⟨e,_⟩
      ·exact(a0V _ e).2
      ·exact .inl (by rw[e];simp)
    have into:∀i,aH st.b.get u1 i≠none->aH st.b.get (u1.map λp=>(H7 t p.1,p.2.eZ (H7 t))) (H7 t i)≠none:=by
     intro i hi;cases hq:aH st.b.get u1 i with
     |none=>exact absurd hq hi
     |some q=>
      rcases mU hq with e|⟨e,_⟩
      ·exact CA (p:=(H7 t i,q.eZ (H7 t))) (aA4.2 ⟨_,e,rfl⟩)
      ·have:st.b.get i≠none:=by rw[e];simp
       rw[(fix i this).2];exact tH this
    refine⟨⟨g,gi,g1,g2,λi hi=>(fix i hi).1,Rt.lU r0 λi hi=>agree i (dom i (k2 i hi)),?_⟩,?_,?_⟩
    ·intro i q hq;rcases mU hq with e|⟨e,hZ⟩
     ·have⟨p,hp,e2⟩:=aA4.1 e;simp[aD]at e2;have⟨rfl,rfl⟩:=e2;have⟨q0,m1,m2⟩:=aWV p hp;left;refine⟨p.2,?_,R.lU _ (a0V p hp).1 λj hj=>agree j (dom j (k3 p hp j hj))⟩;rw[agree p.1 (a0V p hp).2,g1];rw[m1,m2];rfl
     ·right;refine⟨e,?_⟩;have hbi:st.b.get i≠none:=by rw[e];simp
      have pG:∀p∈u1,p.1≠i:=by
       rintro p hp rfl;exact hZ _ (aA4.2 ⟨p,hp,rfl⟩) (fix p.1 hbi).2
      have hq1:aH st.b.get u1 i=some q:=by
       cases WI:aH st.b.get u1 i with
       |none=>exact absurd WI (tH hbi)
       |some q'=>
        rcases mU WI with e'|⟨e',_⟩
        ·exact absurd rfl (pG _ e')
        ·rw[e]at e';exact e'.symm
      rcases a2B i q hq1 with⟨_,_,_,p,hp,e2⟩|⟨e2,_⟩
      ·exact absurd e2 (pG p hp)
      ·exact e2
    ·intro i hi;rw[Rt.AD]at hi;obtain⟨j,hj,rfl⟩:=aA4.1 hi;exact into j (k2 j hj)
    ·intro p hp j hj;obtain⟨p0,hp0,rfl⟩:=aA4.1 hp;simp only[R.AD]at hj;obtain⟨j0,hj0,rfl⟩:=aA4.1 hj;exact into j0 (k3 p0 hp0 j0 hj0)
   ·cases h
def UA{a b:Rt}(h:Y6 a b=true):a=b:=by
 cases a<;>cases b<;>simp only[Y6]at h
 ·rw[A.aD7 _ _ h]
 ·cases h
 ·cases h
 ·rw[A.aD7 _ _ h]
def ZI:∀{a b:List (Nat×R)},aIR a b=true->a=b
 |[],[],_=>rfl
 |[],_::_,h=>by cases h
 |(i,r)::u,[],h=>by cases h
 |(i,r)::u,(j,s)::v,h=>by
  simp only[aIR,aE]at h;rw[bB h.1,R.aD7 _ _ h.2.1,ZI h.2.2]
def NY(T:Tb)(t:Tr R):Inv ⟨T,t,t,[]⟩:=λi q h _=>h
def CG(aXX:P.follows .mixedOrders=true)(hH:FB P H){fn:Func}:∀(ds:List DA)(md:Md)(st st':St)(nx nx':Nat)(r:Rt),yE P H fn.results.toList ds md st nx=some (r,st',nx')->Inv st->pB P fn st.T.fn st.m.get ds md r st'.m.get/\Inv st'/\st'.b=st.b
 |[],.ret,st,st',nx,nx',r,h,hI=>by
  simp only[yE]at h;split at h
  ·rename_i v hv;simp only[aA,aD]at h;obtain⟨rfl,rfl,_⟩:=h;exact⟨pB.ret hv,hI,rfl⟩
  ·cases h
 |[],.sE v,st,st',nx,nx',r,h,hI=>by
  simp[yE,aA,aD]at h;have⟨rfl,rfl,_⟩:=h;exact⟨pB.sE,hI,rfl⟩
 |.SK d::ds,md,st,st',nx,nx',r,h,hI=>by cases md<;>cases h
 |.s4 i::ds,md,st,st',nx,nx',r,h,hI=>by
  have h:(match st.m.get i with
   |some (.df false)=>yE P H fn.results.toList ds md (st.u9 [(i,.df true)]) nx
   |_=>none)=some (r,st',nx'):=by cases md<;>exact h
  split at h
  ·rename_i hi;have⟨g1,g2,g3⟩:=CG aXX hH ds md _ st' nx nx' r h (hI.u9 _);refine⟨pB.s4 hi ?_,g2,g3⟩;have:(st.u9 [(i,.df true)]).m.get=aX st.m.get i (.df true):=by simp[St.u9,Tr.nV,aH]
   rw[this]at g1;exact g1
  ·cases h
 |.call g as cs::ds,md,st,st',nx,nx',r,h,hI=>by cases md<;>cases h
 |.bi b tys ty bs as::ds,md,st,st',nx,nx',r,h,hI=>by cases md<;>cases h
def NG{rs:List ResultVar}{cb:Option Nat}:∀{outs:List Oc}{r:Rt}{u:List (Nat×R)}{nx:Nat},PW P H rs cb outs=some (r,u,nx)->
 ∀o∈outs,∃md st' nx1 r0,SI o.1=some md/\yE P H rs o.2.2.1 md o.2.1 o.2.2.2=some (r0,st',nx1)/\PX cb st' r0=some (r,u)
 |[],r,u,nx,h=>by cases h
 |(ex,st,ds,nx0)::os,r,u,nx,h=>by
  simp only[PW]at h;split at h
  ·cases h
  ·rename_i md T9;split at h
   ·cases h
   ·rename_i rt st' nx1 hl;split at h
    ·cases h
    ·rename_i rt1 u1 hu1;intro o ho;split at h
     ·rename_i os';simp only[aA,aD]at h;obtain⟨rfl,rfl,_⟩:=h;simp[aR]at ho;subst ho;exact⟨md,st',nx1,rt,T9,hl,hu1⟩
     ·split at h
      ·rename_i rt2 u2 nx2 he;split at h
       ·rename_i hq;simp[aE]at hq;simp[aA,aD]at h;have⟨rfl,rfl,_⟩:=h;simp[aO]at ho;rcases ho with rfl|ho
        ·exact⟨md,st',nx1,rt,T9,hl,hu1⟩
        ·have:=NG he o ho;rw[UA hq.1,ZI hq.2];exact this
       ·cases h
      ·cases h
def aG2(aXX:P.follows .mixedOrders=true)(hH:FB P H){f:FuncId}{as:List A}{t:Tr R}{nx nx':Nat}{outs:List Ot}(h:aG1 P H f as t nx=some (outs,nx')):∃r u,outs=[(r,u)]/\aJ P f as t.get r (aH t.get u):=by
 unfold aG1 at h;split at h
 ·rename_i fn hf;split at h
  ·rename_i c hb;split at h
   ·rename_i hcn;simp only[aE]at hcn;split at h
    ·rename_i os hos;split at h
     ·rename_i rt u nx1 he;simp[aA,aD]at h;have⟨rfl,_⟩:=h;have⟨⟨g1,g2⟩,_⟩:=FT aXX hH fK c _ [] nx os hos (NY _ t);rw[M6]at g1;have aZ7:=NG he;have hZ:∃o,o∈os:=by
       cases os with
       |nil=>cases he
       |cons o r=>exact⟨o,sM⟩
      have⟨o0,ho0⟩:=hZ;have⟨md0,st0,_,r00,_,hl0,hc0⟩:=aZ7 o0 ho0;have hI0:=CG aXX hH _ _ _ _ _ _ _ hl0 (g2 o0 ho0).1;have hb0:st0.b=t:=hI0.2.2.trans (g2 o0 ho0).2;have k0:=NH hc0 hI0.2.1;rw[hb0]at k0;refine⟨rt,u,rfl,MF hf hb hcn.1 (by simpa using bD hcn.2) g1 ?_ k0.2.1 k0.2.2⟩;rintro ex T' m' ds' ⟨o,ho,rfl,rfl,rfl,rfl⟩;have⟨md,st',_,r0,hm,hl,hc⟩:=aZ7 o ho;have hI':=CG aXX hH _ _ _ _ _ _ _ hl (g2 o ho).1;have k:=NH hc hI'.2.1;rw[hI'.2.2.trans (g2 o ho).2]at k;exact⟨md,st'.m.get,r0,hm,hI'.1,k.1⟩
     ·cases h
    ·cases h
   ·cases h
  ·cases h
 ·cases h
def KI{n:Nat}:∀{l:List Tmp},YK n l=true->∀p∈l,p<n
 |[],_,p,hp=>by simp at hp
 |q::r,h,p,hp=>by
  simp[YK,aE]at h;simp[aO]at hp;rcases hp with rfl|hp
  ·simpa [rR]using h.1
  ·exact KI h.2 p hp
def SF{i:Nat}:∀{outs:List Oc}{os:List Ot}{nx:Nat},XZ i outs=some (os,nx)->∀o∈outs,∃b ls pe oK pe2 ts ps asg bod u,Z3 o.1=some (b,ls,pe)/\o.2.1.m.get i=some (.lo oK pe2 ts ps asg bod)/\RY id (o.2.1.u9 [(i,.lo ls pe ts ps asg bod)]) (.ok (.d (.v (.bool b))))=some u/\(.ok (.d (.v (.bool b))),u)∈os
 |[],os,nx,_,o,ho=>by simp at ho
 |(ex,st,ds,nx0)::r,os,nx,h,o,ho=>by
  simp only[XZ]at h;split at h
  ·rename_i b ls pe oK pe2 ts ps asg bod os' nx2 h1 h2 h3;split at h
   ·rename_i u hu;simp only[aA,aD]at h;obtain⟨rfl,_⟩:=h;simp[aO]at ho;rcases ho with rfl|ho
    ·exact⟨b,ls,pe,oK,pe2,ts,ps,asg,bod,u,h1,h2,hu,sM⟩
    ·have⟨b',ls',pe',st2',pe2',ts',ps',asg',bod',u',k1,k2,k3,k4⟩:=SF h3 o ho;exact⟨b',ls',pe',st2',pe2',ts',ps',asg',bod',u',k1,k2,k3,by simp[k4]⟩
   ·cases h
  ·cases h
def aG6(aXX:P.follows .mixedOrders=true)(hH:FB P H){i:Nat}{as:List A}{t:Tr R}{nx nx':Nat}{outs:List Ot}(h:aG5 P H i as t nx=some (outs,nx')):
 ∀(o:Oper)(T:Nat->A)(c:Call)(fo:Operand),o.op=.call c->c.callee=.value fo->dN T fo=.h i->c.args.toList.map (dN T)=as->o8 P o T t.get outs:=by
 intro o T c fo ho hc hfo has;unfold aG5 at h;split at h
 ·rename_i ts ps asg bod hi;split at h
  ·rename_i hlp;simp only[aE]at hlp;have hlen:as.length=ps.size:=bB hlp.1;split at h
   ·rename_i pV nx1 h1;split at h
    ·rename_i pe1 ts1 ps1 asg1 bod1 hi1;split at h
     ·rename_i os hos;have⟨⟨g1,g2⟩,_⟩:=FT (rd:=true) aXX hH fK asg _ [] nx _ h1 (NY _ t);have aY9:=g2 _ (aR.2 rfl);simp only at aY9;have⟨⟨g3,g4⟩,_⟩:=FT (rd:=true) aXX hH fK bod _ [] nx1 os hos (aY9.1.u9 _);rw[LN,M6]at g1;refine o8.yield ho hc hfo hi (by rw[<-hlen,<-has];simp) (KI hlp.2) (by rw[has];exact g1) ?_ ?_ (PostB:=HL os)
      ·rintro ex T1 m1 ds1 ⟨q,hq,rfl,rfl,rfl,rfl⟩;simp[aR]at hq;subst hq;refine⟨rfl,rfl,pe1,ts1,ps1,asg1,bod1,hi1,?_⟩;have e:(pV.u9 [(i,.lo .busy pe1 ts1 ps1 asg1 bod1)]).m.get=aX pV.m.get i (.lo .busy pe1 ts1 ps1 asg1 bod1):=by simp[St.u9,Tr.nV,aH]
       rw[e]at g3;exact g3
      ·rintro ex T2 m2 ds2 ⟨q,hq,rfl,rfl,rfl,rfl⟩;have⟨b,ls,pe,oK,pe2,ts2,ps2,asg2,bod2,u,k1,k2,k3,k4⟩:=SF h q hq;have hIq:=g4 q hq;have kc:=XS k3 (hIq.1.u9 _);have hb:(q.2.1.u9 [(i,.lo ls pe ts2 ps2 asg2 bod2)]).b=t:=by
        have:(pV.u9 [(i,.lo .busy pe1 ts1 ps1 asg1 bod1)]).b=pV.b:=rfl;exact(show q.2.1.b=t from(hIq.2.trans this).trans aY9.2)
       rw[hb]at kc;have e:(q.2.1.u9 [(i,.lo ls pe ts2 ps2 asg2 bod2)]).m.get=aX q.2.1.m.get i (.lo ls pe ts2 ps2 asg2 bod2):=by simp[St.u9,Tr.nV,aH]
       rw[e]at kc;exact⟨b,ls,pe,k1,oK,pe2,ts2,ps2,asg2,bod2,k2,_,k4,rfl,kc.1,kc.2.2⟩
     ·cases h
    ·cases h
   ·cases h
  ·cases h
 ·cases h
def aJ0(aXX:P.follows .mixedOrders=true){ct:Hd}(hct:FB P ct):∀d,FB P (yI P ct d):=by
 intro d;induction d with
 |zero=>exact⟨λ_ _ _ _ _ _ h=>(by cases h),λ_ _ _ _ _ _ h=>(by cases h)⟩
 |succ d ih=>
  refine⟨λf as t nx outs nx' h=>?_,λi as t nx outs nx' h=>?_⟩
  ·have h:(match ct (.fn f) as t nx with
    |some r=>some r
    |none=>aG1 P (yI P ct d) f as t nx)=some (outs,nx'):=h
   split at h
   ·rename_i r hr;simp[aA]at h;subst h;exact hct.fn _ _ _ _ _ _ hr
   ·exact aG2 aXX ih h
  ·have h:(match ct (.yl i) as t nx with
    |some r=>some r
    |none=>aG5 P (yI P ct d) i as t nx)=some (outs,nx'):=h
   split at h
   ·rename_i r hr;simp[aA]at h;subst h;exact hct.yl _ _ _ _ _ _ hr
   ·exact aG6 aXX ih h
def aA0:Hd:=λ_ _ _ _=>none
def aHX:FB P aA0:=⟨λ_ _ _ _ _ _ h=>(by cases h),λ_ _ _ _ _ _ h=>(by cases h)⟩
end
end Go.Pv
