import Derived.Test.YtpdcbahjjmooiaaGreatQ8
import Derived.Test.YtpdcbahjjmooiaaGreatProg
/- Contracts of functions that the law reaches, and their logic. No conditions. -/
set_option linter.all false
set_option maxRecDepth 100000
set_option maxHeartbeats 8000000
open Go Go.Proofs
namespace Go.Pv
open Go.RowKit
variable{m:Mem}{P:Program}
def mix:Tryz.prog.follows .mixedOrders=true:=kK
abbrev Pu(f:FuncId)(a:List A)(v:A):Prop:=∀m,aJ Tryz.prog f a m (.ok v) m
abbrev ci(n:Int):C:=.v (.int .i64 n)
abbrev cb(b:Bool):C:=.v (.bool b)
abbrev aR1(L:List Int):C:=.sl 1 (L.map λx=>[ci x])
def qD{a b:Nat}(h:a=b):A.d (ci (a:Int))=A.d (ci (b:Int)):=by rw[h]
inductive V where
 |mk(kind n:Int)(s:ByteArray)(l:List V)(r:Int)
mutual
def V.row:V->List C
 |.mk k n s l r=>[.v (.int .u8 k),ci n,.v (.string s),.sl 5 (V.rows l),ci r]
def V.rows:List V->List (List C)
 |[]=>[]
 |v::r=>V.row v::V.rows r
end
def V.sG:∀l,V.rows l=l.map V.row
 |[]=>rfl
 |v::r=>by simp only[V.rows,aG,V.sG r]
def V.kind:V->Int|.mk k _ _ _ _=>k
def V.n:V->Int|.mk _ n _ _ _=>n
def V.s:V->ByteArray|.mk _ _ s _ _=>s
def V.l:V->List V|.mk _ _ _ l _=>l
def V.r:V->Int|.mk _ _ _ _ r=>r
def V.aT1(v:V):List C:=[.v (.int .u8 v.kind),ci v.n,.v (.string v.s),.sl 5 (v.l.map V.row),ci v.r]
def V.cP(v:V):V.row v=V.aT1 v:=by
 cases v;simp only[V.row,V.aT1,V.kind,V.n,V.s,V.l,V.r,V.sG]
mutual
def V.refs:V->List Int
 |.mk k n s l r=>if k=4 then [r]else V.aP l
def V.aP:List V->List Int
 |[]=>[]
 |v::r=>V.refs v++V.aP r
end
mutual
def V.cR:V->Nat
 |.mk _ _ _ l _=>1+V.dB l
def V.dB:List V->Nat
 |[]=>0
 |v::r=>V.cR v+V.dB r
end
mutual
def V.EO:∀v:V,(V.refs v).length<=V.cR v
 |.mk k n s l r=>by
  simp only[V.refs,V.cR];split
  ·simp
  ·have:=V.tT l;omega
def V.tT:∀l:List V,(V.aP l).length<=V.dB l
 |[]=>by simp[V.aP]
 |v::r=>by
  have h1:=V.EO v;have h2:=V.tT r;simp only[V.aP,V.dB,aU];omega
end
def V.PO(v:V):0<V.cR v:=by cases v;simp only[V.cR];omega
def V.eW:∀l:List V,l.length<=V.dB l
 |[]=>sM
 |v::r=>by have:=V.eW r;have:=v.PO;simp only[V.dB,aQ];omega
def V.kA:∀(l:List V)(i:Nat),V.dB (l.take i)<=V.dB l
 |[],i=>sM
 |v::r,0=>by simp[V.dB]
 |v::r,i+1=>by have:=V.kA r i;simp only[cC,V.dB];omega
def V.dG:∀(l:List V)(i:Nat)(h:i<l.length),V.cR l[i]<=V.dB l
 |[],i,h=>by simp at h
 |v::r,0,h=>by simp only[eK,V.dB];omega
 |v::r,i+1,h=>by have:=V.dG r i (by simpa using h);simp only[cJ,V.dB];omega
def V.fA(v:V):V.cR v=1+V.dB v.l:=by cases v;rfl
def RG{n:Int}(h:-9223372036854775808<=n)(h':n<=9223372036854775807):MN .i64 n:=aHK h h'
abbrev iR(L:List Int):List (List C):=L.map λx=>[ci x]
def V.uQ(l:List V)(i:Nat)(h:i<l.length):V.aP (l.take (i+1))=V.aP (l.take i)++V.refs l[i]:=by
 induction l generalizing i with
 |nil=>simp at h
 |cons v r ih=>
  cases i with
  |zero=>simp[V.aP]
  |succ i=>simp only[cC,V.aP,cJ];rw[ih i (by simpa using h)];simp
def V.sF(v:V):V.refs v=if v.kind=4 then [v.r]else V.aP v.l:=by cases v;rfl
def V.gM(v:V)(i:Nat)(h:i<v.l.length):SizeOf.sizeOf v.l[i]<SizeOf.sizeOf v:=by
 cases v with
 |mk k n s l r=>
  have:=List.sizeOf_lt_of_mem (aY h);simp only[V.l]at this⊢;simp only[V.mk.sizeOf_spec];omega
mutual
def mQ:V->Int->Int->Bool×Int×Int
 |.mk k n s l r,p,d=>if p=0 then(false,p,d)else
  if k=0 then(decide (n=0/\s.size=0/\r=0/\l.length=0),p -1,d)
  else if k=1 then(decide (s.size=0/\r=0/\l.length=0),p -1,d)
  else if k=2 then(if 256<(s.size:Int)then(false,p -1,d)else(decide (n=0/\r=0/\l.length=0),p -1,d))
  else if k=4 then(if r<1 then(false,p -1,d)else(decide (n=0/\s.size=0/\l.length=0),p -1,d))
  else if k=3 then(if d=0\/p -1<(l.length:Int)then(false,p -1,d)else
   match nG l (p -1) (d -1)with
   |(true,p,d)=>(decide (n=0/\s.size=0/\r=0),p,d+1)
   |(false,p,d)=>(false,p,d))
  else(false,p -1,d)
def nG:List V->Int->Int->Bool×Int×Int
 |[],p,d=>(true,p,d)
 |v::r,p,d=>match mQ v p d with
  |(true,p,d)=>nG r p d
  |(false,p,d)=>(false,p,d)
end
def BK(v:V)(p d:Int):mQ v p d=if p=0 then(false,p,d)else
 if v.kind=0 then(decide (v.n=0/\v.s.size=0/\v.r=0/\v.l.length=0),p -1,d)
 else if v.kind=1 then(decide (v.s.size=0/\v.r=0/\v.l.length=0),p -1,d)
 else if v.kind=2 then(if 256<(v.s.size:Int)then(false,p -1,d)else(decide (v.n=0/\v.r=0/\v.l.length=0),p -1,d))
 else if v.kind=4 then(if v.r<1 then(false,p -1,d)else(decide (v.n=0/\v.s.size=0/\v.l.length=0),p -1,d))
 else if v.kind=3 then(if d=0\/p -1<(v.l.length:Int)then(false,p -1,d)else
  match nG v.l (p -1) (d -1)with
  |(true,p,d)=>(decide (v.n=0/\v.s.size=0/\v.r=0),p,d+1)
  |(false,p,d)=>(false,p,d))
 else(false,p -1,d):=by
 cases v;rw[mQ];rfl
def EL{s:ByteArray}:s={data:= #[]}↔s.size=0:=by
 constructor
 ·rintro rfl;rfl
 ·intro h;cases s with|mk d=>congr 1;exact jA h
mutual
def LV:∀(v:V)(p d:Int),0<=p->0<=d->0<=(mQ v p d).2.1/\(mQ v p d).2.1<=p/\0<=(mQ v p d).2.2/\(mQ v p d).2.2<=d
 |.mk k n s l r,p,d,hp,hd=>by
  rw[mQ];have ih:=LS l (p -1) (d -1);generalize nG l (p -1) (d -1)=q at ih⊢;obtain⟨b,p',d'⟩:=q;by_cases h0:p=0
  ·simp[h0];omega
  ·simp only[h0,if_false];by_cases h1:d=0\/p -1<(l.length:Int)
   ·simp only[h1,if_true]
    repeat' split
    all_goals(first|(simp only;omega))
   ·have ih:=ih oM oM;simp only at ih;simp only[h1,if_false]
    repeat' split
    all_goals(first|(simp_all only;omega)|(simp_all;omega))
def LS:∀(l:List V)(p d:Int),0<=p->0<=d->0<=(nG l p d).2.1/\(nG l p d).2.1<=p/\0<=(nG l p d).2.2/\(nG l p d).2.2<=d
 |[],p,d,hp,hd=>by rw[nG];simp only;omega
 |v::r,p,d,hp,hd=>by
  rw[nG];have h1:=LV v p d hp hd;generalize mQ v p d=q at h1⊢;obtain⟨b,p',d'⟩:=q;simp only at h1;cases b with
  |false=>simp only;omega
  |true=>
   have h2:=LS r p' d' oM oM;simp only;omega
end
def LU:∀(l:List V)(i:Nat)(h:i<l.length)(p d p' d':Int),nG (l.take i) p d=(true,p',d')->nG (l.take (i+1)) p d=mQ l[i] p' d'
 |v::r,0,h,p,d,p',d',e=>by
  simp only[fD,nG,aD,true_and]at e;obtain⟨rfl,rfl⟩:=e;simp only[cC,fD,nG,eK];generalize mQ v p d=q;obtain⟨b,x,y⟩:=q;cases b<;>rfl
 |v::r,i+1,h,p,d,p',d',e=>by
  simp only[cC,nG,cJ]at e⊢;generalize mQ v p d=q at e⊢;obtain⟨b,x,y⟩:=q;cases b with
  |false=>simp at e
  |true=>exact LU r i (by simpa using h) x y p' d' e
def HW:∀(l:List V)(i:Nat)(p d p' d':Int),nG (l.take i) p d=(false,p',d')->nG l p d=(false,p',d')
 |[],i,p,d,p',d',e=>by simpa using e
 |v::r,0,p,d,p',d',e=>by simp[nG]at e
 |v::r,i+1,p,d,p',d',e=>by
  simp only[cC,nG]at e⊢;generalize mQ v p d=q at e⊢;obtain⟨b,x,y⟩:=q;cases b with
  |false=>exact e
  |true=>exact HW r i x y p' d' e
abbrev RR(p d:Int):R:=.cells false [.d (ci p),.d (ci d)]
def ZB(v:V)(hv:v.cR<=2^40)(p d:Int)(hp:0<=p)(hp':p<=2^40)(hd:0<=d)(hd':d<=2^40):aJ Tryz.prog 202 [.lp 0 0,.d (.agg v.aT1)] (aK [(0,RR p d)]) (.ok (.d (cb (mQ v p d).1))) (aH (aK [(0,RR p d)]) [(0,RR (mQ v p d).2.1 (mQ v p d).2.2)]):=by
 refine OC mix 10 Tryz.func202 rfl kK (bD rfl) (by simp[A.hs]) (by simp[R.hs,A.lQ,A.hs]) ?_
 repeat'(first|with_reducible (first|refine w1 ?_|refine w2 ?_|refine w4 ?_|refine w5 ?_|refine w8 ?_|refine w9 ?_|refine wb ?_|refine wc ?_|refine wd ?_|refine nN.mk ?_|refine O8.t rfl ?_|refine O8.f rfl ?_)|((with_reducible (first|refine wr ?_|refine wi ?_|refine wx ?_|refine wg ?_|refine wh ?_));(conv=>whnf))|((with_reducible refine wt eD kK ?_);(conv=>whnf))|((with_reducible refine FC.mk (RG (by(try dsimp only);omega) (by(try dsimp only);omega)) ?_);(conv=>whnf))|((with_reducible refine nQ (λh=>?_) (λh=>?_))<;>(try rw[h])<;>(conv at h=>{simp})))
 any_goals(with_reducible refine aCP ?_ ?_)
 any_goals((with_reducible show aK _ _=some _);(conv=>lhs;whnf);rw[BK];simp_all;try(constructor<;>split<;>first|rfl|omega))
 any_goals((with_reducible show A.d _=A.d _);rw[BK];simp_all[EL];try(split<;>first|omega|(simp_all;done)))
 have hk3:v.kind=3:=aM;have hp0:¬p=0:=aM;have hd0:¬d=0:=aM;have AZ:=v.fA;have hln:=V.eW v.l;refine bV mix (λa:Nat×Int×Int=>a.1<=v.l.length/\nG (v.l.take a.1) (p -1) (d -1)=(true,a.2.1,a.2.2))
  (I:=λa=>[(0,.lp 0 0),(3,.lp 10 0),(5,.lp 138 0),(66,.d (.sl 5 (v.l.map V.row))),(67,.d (ci v.l.length)),(68,.d (ci a.1))])
  (J:=λa=>[(0,RR a.2.1 a.2.2),(138,.cells false (v.aT1.map A.d)),(10,.cells false (v.aT1.map A.d))])
  (μ:=λa=>v.l.length -a.1) 1000 (0,p -1,d -1) ⟨oM,rfl⟩
  (cN.swap 5000 5001 ⟨⟨sM,sM,nofun⟩,tV⟩ ⟨rfl,rfl,rfl,rfl,by show A.d (ci _)=A.d (ci _);simp,rfl,tV⟩ ⟨rfl,rfl,rfl,tV⟩ ⟨⟨nofun,tV⟩,⟨nofun,tV⟩,⟨nofun,tV⟩,tV,tV,tV,tV⟩ ⟨tV,tV,tV,tV⟩) ?_
 rintro⟨i,pi,di⟩ ⟨hi,J3⟩;have hb:=LS (v.l.take i) (p -1) (d -1) oM oM;rw[J3]at hb;simp only at hi J3 hb
 repeat'(first|refine bl ?_|refine bS (λh=>?_) (λh=>?_))
 ·have uJ:i<v.l.length:=by simp_all
  refine eE V.cP rfl eD uJ ?_;conv=>whnf
  refine bl ?_;have hcn:=V.dG v.l i uJ;have vZ:=v.gM i uJ;have hc:=ZB v.l[i] oM pi di oM oM oM oM;have HG:=LU v.l i uJ _ _ _ _ J3;have hbi:=LV v.l[i] pi di oM oM;generalize hq:mQ v.l[i] pi di=q at hc HG hbi;obtain⟨b,p',d'⟩:=q;simp only at hc hbi;refine lN 0 (RR p' d') (aJ.args (xs:=[.lp 0 0,.d (.agg v.l[i].aT1)]) (hc.AK rfl (λg=>rfl) (λg=>rfl) rfl (by simp[A.lQ,A.hs]) (aK _) 0 rfl) (λw M ρ vs h=>aCL (λy h=>I3 h) h)) ?_;conv=>whnf
  cases b with
  |false=>
   refine bl ?_;have htl:=HW v.l _ _ _ _ _ HG;have htv:mQ v p d=(false,p',d'):=by
    rw[BK];have:¬(d=0\/p -1<(v.l.length:Int)):=oM;simp[hp0,hk3,this,htl]
   refine aCP ?_ ?_
   ·rw[htv]
   ·conv=>lhs;whnf
    rw[htv]
  |true=>
   refine bl ?_;refine⟨(i+1,p',d'),dM,⟨dM,HG⟩,?_⟩;exact cN.swap 5000 5001 ⟨⟨sM,sM,nofun⟩,tV⟩ ⟨rfl,rfl,rfl,rfl,rfl,rfl,tV⟩ ⟨rfl,rfl,rfl,tV⟩ ⟨⟨nofun,tV⟩,⟨nofun,tV⟩,⟨nofun,tV⟩,tV,tV,tV,tV⟩ ⟨tV,tV,tV,tV⟩
 all_goals
  have htl:nG v.l (p -1) (d -1)=(true,pi,di):=by
   have e:v.l.take i=v.l:=aI (by simp_all);rw[e]at J3;exact J3
  have htv:mQ v p d=(decide (v.n=0/\v.s.size=0/\v.r=0),pi,di+1):=by
   rw[BK];have:¬(d=0\/p -1<(v.l.length:Int)):=oM;simp[hp0,hk3,this,htl]
  refine aCP ?_ ?_
  ·rw[htv];simp_all[EL]
  ·conv=>lhs;whnf
   rw[htv]
 termination_by SizeOf.sizeOf v
def aPR(v:V)(hv:v.cR<=2^40):Pu 132 [.d (.agg (V.aT1 v))] (.d (aR1 (V.refs v))):=by
 have AZ:=v.fA;have hl:=V.eW v.l;have ih:∀i(h:i<v.l.length),Pu 132 [.d (.agg (V.aT1 v.l[i]))] (.d (aR1 (V.refs v.l[i]))):=λi h=>
  have:=v.gM i h
  aPR v.l[i] (by have:=V.dG v.l i h;omega)
 refine iC mix Tryz.func132 ?_;rw[V.sF]
 repeat'(first|refine bl ?_|refine bS (λh=>?_) (λh=>?_))
 ·rw[aUF aM];exact .one (.dU (t:=25) (l:=[[ci v.r]]) rfl)
 rw[aT7 aM];refine bV mix (λi:Nat=>i<=v.l.length) (I:=λi=>[(1,.lp 1 0),(4,.d (ci i)),(3,lv 1 7 (iR (V.aP (v.l.take i))))])
  (J:=λi=>lm 7 25 1 (iR (V.aP (v.l.take i))) [(1,.cells false (v.aT1.map A.d))]) (μ:=λi=>v.l.length -i) 20 0 oM (cN.U0 ⟨rfl,rfl,rfl,tV⟩ rfl) ?_
 intro i hi;have hk:=V.uQ v.l i;have hB:=V.tT (v.l.take i);have hB2:=V.kA v.l i;generalize hR:V.aP (v.l.take i)=R at hk hB⊢;have fin:v.l.length<=i->V.aP v.l=R:=λh=>by rw[<-hR,aI h]
 cases R with
 |nil=>
  repeat'(first|refine bl ?_|refine bS (λh=>?_) (λh=>?_))
  ·have h:i<v.l.length:=oM;refine eE V.cP rfl eD h ?_;conv=>whnf
   refine aF (ih i h) ?_;have hn:=V.dG v.l i h;have hm:=V.EO v.l[i];have hk:=hk h;conv=>whnf
   refine⟨by simp only[aB];rw[show Tryz.prog.bytesOf 25=8 from kK];omega,?_⟩;refine⟨λh0=>?_,λh0=>?_⟩
   ·conv=>whnf
    refine bl ?_;have h0:V.refs v.l[i]=[]:=by simpa using h0
    rw[h0,dS]at hk;refine⟨i+1,oM,oM,cN.U0 ⟨rfl,rfl,by rw[hk];rfl,tV⟩ (by rw[hk])⟩
   ·conv=>whnf
    refine bl ?_;have h0:V.refs v.l[i]≠[]:=by simpa using h0
    rw[bZ]at hk;refine⟨i+1,oM,oM,?_⟩;rw[hk];exact cN.aVK 116 7 (t:=25) (es:=1) (by simpa using h0) tV (by obtain⟨x,xs,hx⟩:=nL h0;rw[hx];exact⟨rfl,rfl,rfl,tV⟩) rfl ⟨rfl,tV⟩ (by obtain⟨x,xs,hx⟩:=nL h0;rw[hx];exact⟨⟨nofun,tV⟩,tV,⟨nofun,tV⟩,tV⟩) ⟨tV,tV⟩
  ·rw[fin oM];exact .one (.nl 1)
 |cons r0 R=>
  repeat'(first|refine bl ?_|refine bS (λh=>?_) (λh=>?_))
  ·have h:i<v.l.length:=oM;refine eE V.cP rfl eD h ?_;conv=>whnf
   refine aF (ih i h) ?_;have hn:=V.dG v.l i h;have hm:=V.EO v.l[i];have hk:=hk h;conv=>whnf
   refine⟨by simp only[aB,bE];rw[show Tryz.prog.bytesOf 25=8 from kK];simp only[aB,aQ]at hB⊢;omega,?_⟩;conv=>whnf
   refine bl ?_;refine⟨i+1,oM,oM,?_⟩;rw[hk];exact cN.aVK 116 7 (t:=25) (es:=1) sM tV ⟨rfl,rfl,rfl,tV⟩ (by rw[show iR (r0::R++v.l[i].refs)=iR (r0::R)++iR v.l[i].refs from bP,<-Y1];rfl) ⟨rfl,tV⟩ ⟨⟨nofun,tV⟩,tV,⟨nofun,tV⟩,tV⟩ ⟨tV,tV⟩
  ·rw[fin oM];exact .one (.lv (id:=7) (rows:=iR (r0::R)))
 termination_by SizeOf.sizeOf v
def V.aHT(v:V):Int:=match mQ v 512 16 with
 |(true,p,_)=>512 -p
 |(false,_,_)=>0
def V4(v:V)(hv:v.cR<=2^40):Pu 165 [.d (.agg v.aT1)] (.d (ci v.aHT)):=by
 refine iC mix Tryz.func165 ?_;refine bl ?_;have hc:=ZB v hv 512 16 oM oM oM oM;have hb:=LV v 512 16 oM oM;unfold V.aHT;generalize mQ v 512 16=q at hc hb⊢;obtain⟨b,p',d'⟩:=q;simp only at hc hb;refine lN 25 (RR p' d') (aJ.args (xs:=[.lp 25 0,.d (.agg v.aT1)]) (hc.AK rfl (λg=>rfl) (λg=>rfl) rfl (by simp[A.lQ,A.hs]) (aK _) 25 rfl) (λw M ρ vs h=>aCL (λy h=>I3 h) h)) ?_;conv=>whnf
 cases b with
 |false=>
  refine bl ?_;exact .one (.d _)
 |true=>
  refine bl ?_;exact .one (.d _)
def V.may(v:V):Bool:=decide (0<v.aHT)
def AL(v:V)(hv:v.cR<=2^40):Pu 120 [.d (.agg v.aT1)] (.d (cb v.may)):=by
 refine iC mix Tryz.func120 ?_;refine bl ?_;refine fT (cs:=v.aT1) (V4 v hv) ?_;conv=>whnf
 refine bl ?_;exact .one (.d _)
def dP{a b:Bool}(h:a=b):A1 m (.d (cb a)) (.d (cb b)):=by subst h;exact .one (.d _)
def oF{a b:Int}(h:a=b):A1 m (.d (ci a)) (.d (ci b)):=by subst h;exact .one (.d _)
abbrev ck(n:Int):C:=.v (.int .u8 n)
def uY(k:Int):Bool:=decide (k=14\/k=15\/k=16)
def xT(k:Int):Bool:=decide (k=6\/k=7\/k=9\/k=11)||uY k
def DB(k:Int):Bool:=decide (k=15\/k=16)
def U1(k:Int):Pu 128 [.d (ck k)] (.d (cb (uY k))):=by
 refine iC mix Tryz.func128 ?_
 repeat'(first|refine bl ?_|refine bS (λh=>?_) (λh=>?_))
 all_goals(refine dP ?_;simp_all[uY])
def ZQ(k:Int):Pu 90 [.d (ck k)] (.d (cb (DB k))):=by
 refine iC mix Tryz.func90 ?_
 repeat'(first|refine bl ?_|refine bS (λh=>?_) (λh=>?_))
 all_goals(refine dP ?_;simp_all[DB])
def ZR(k:Int):Pu 89 [.d (ck k)] (.d (cb (xT k))):=by
 refine iC mix Tryz.func89 ?_
 repeat'(first|refine bl ?_|refine bS (λh=>?_) (λh=>?_))
 any_goals refine aF (U1 k) (bw ?_)
 repeat'(first|refine bl ?_|fail)
 all_goals(refine dP ?_;simp_all[xT])
def TK(a:Int):Bool:=decide (a7O .andNot .u8 a 63=0)
def IB(a:Int):Pu 123 [.d (ck a)] (.d (cb (TK a))):=by
 refine iC mix Tryz.func123 ?_;refine bl ?_
 all_goals exact .one (.d _)
def V.blank(v:V):Bool:=decide (v.kind=0/\v.n=0/\v.s.size=0/\v.l.length=0/\v.r=0)
def I6(v:V):Pu 118 [.d (.agg v.aT1)] (.d (cb v.blank)):=by
 refine iC mix Tryz.func118 ?_
 repeat'(first|refine bl ?_|refine bS (λh=>?_) (λh=>?_))
 all_goals(refine dP ?_;simp_all[V.blank,EL])
mutual
def V.wt:V->Prop
 |.mk k _ _ l _=>0<=k/\k<256/\V.B5 l
def V.B5:List V->Prop
 |[]=>True
 |v::r=>V.wt v/\V.B5 r
end
def V.uZ(v:V)(h:v.wt):0<=v.kind/\v.kind<256/\V.B5 v.l:=by cases v;exact h
def V.nH:∀(l:List V)(h:V.B5 l)(i:Nat)(hi:i<l.length),V.wt l[i]
 |[],_,i,hi=>by simp at hi
 |v::r,h,0,hi=>h.1
 |v::r,h,i+1,hi=>V.nH r h.2 i (by simpa using hi)
def V.field(v:V):Bool:=
 if v.kind=0 then decide (v.n=0/\v.s.size=0/\v.l.length=0/\v.r=0)
 else if v.kind=1 then decide (v.s.size=0/\v.l.length=0/\v.r=0)
 else if v.kind=2 then decide (v.n=0/\(v.s.size:Int)<=256/\v.l.length=0/\v.r=0)
 else if v.kind=3 then decide (v.n=0/\v.s.size=0/\v.r=0)
 else if v.kind=4 then decide (v.n=0/\v.s.size=0/\v.l.length=0/\1<=v.r)
 else false
def aCT(v:V)(hw:v.wt):Pu 182 [.d (.agg v.aT1)] (.d (cb v.field)):=by
 have hk:=v.uZ hw;refine iC mix Tryz.func182 ?_
 repeat'(first|refine bl ?_|refine bS (λh=>?_) (λh=>?_))
 all_goals(refine dP ?_;simp_all[V.field,EL];try(intros;omega))
mutual
def V.deep:V->Int
 |.mk k _ _ l _=>if k=3 then V.kE l+1 else 0
def V.kE:List V->Int
 |[]=>0
 |v::r=>max (V.deep v) (V.kE r)
end
def V.JG(v:V):v.deep=if v.kind=3 then V.kE v.l+1 else 0:=by cases v;rw[V.deep];rfl
def V.CD(l:List V)(i:Nat)(h:i<l.length):V.kE (l.take (i+1))=(if l[i].deep>V.kE (l.take i)then l[i].deep else V.kE (l.take i)):=by
 induction l generalizing i with
 |nil=>simp at h
 |cons v r ih=>
  cases i with
  |zero=>simp only[cC,fD,V.kE,eK];omega
  |succ i=>simp only[cC,V.kE,cJ];rw[ih i (by simpa using h)];omega
mutual
def V.PS:∀v:V,0<=v.deep/\v.deep<=v.cR
 |.mk k n s l r=>by
  have:=V.uD l;simp only[V.deep,V.cR];split<;>omega
def V.uD:∀l:List V,0<=V.kE l/\V.kE l<=V.dB l
 |[]=>by simp[V.kE,V.dB]
 |v::r=>by
  have h1:=V.PS v;have h2:=V.uD r;simp only[V.kE,V.dB];omega
end
def XV(v:V)(hv:v.cR<=2^40)(hw:v.wt):Pu 143 [.d (.agg v.aT1)] (.d (ci v.deep)):=by
 have hk:=v.uZ hw;have AZ:=v.fA;have hl:=V.eW v.l;have ih:∀i(h:i<v.l.length),Pu 143 [.d (.agg (V.aT1 v.l[i]))] (.d (ci v.l[i].deep)):=λi h=>
  have:=v.gM i h
  XV v.l[i] (by have:=V.dG v.l i h;omega) (V.nH _ hk.2.2 i h)
 refine iC mix Tryz.func143 ?_;rw[V.JG]
 repeat'(first|refine bl ?_|refine bS (λh=>?_) (λh=>?_))
 ·rw[aT7 aM];exact .one (.d _)
 rw[aUF aM];refine bV mix (λi:Nat=>i<=v.l.length) (I:=λi=>[(1,.lp 1 0),(4,.d (ci i)),(3,.d (ci (V.kE (v.l.take i))))])
  (J:=λi=>[(1,.cells false (v.aT1.map A.d))]) (μ:=λi=>v.l.length -i) 20 0 oM (cN.U0 ⟨rfl,rfl,rfl,tV⟩ rfl) ?_
 intro i hi;have hb:=V.uD (v.l.take i);have uB:=V.kA v.l i;have fin:v.l.length<=i->V.kE v.l=V.kE (v.l.take i):=λh=>by rw[aI h]
 repeat'(first|refine bl ?_|refine bS (λh=>?_) (λh=>?_))
 ·have h:i<v.l.length:=oM;refine eE V.cP rfl eD h ?_;conv=>whnf
  refine aF (ih i h) ?_;conv=>whnf
  skip
  refine xR.mk (aUZ rfl) ?_;conv=>whnf
  refine bl ?_;have hs:=V.CD v.l i h;refine⟨i+1,oM,oM,cN.swap 5000 5001 tV ⟨rfl,rfl,?_,tV⟩ ⟨rfl,tV⟩ ⟨⟨nofun,tV⟩,tV,tV,tV⟩ ⟨tV,tV⟩⟩;rw[hs];rfl
 ·rw[fin oM];exact .one (.d _)
 termination_by SizeOf.sizeOf v
mutual
def V.u7:V->Bool
 |.mk k n s l r=>V.y8 l&&V.field (.mk k n s l r)
def V.y8:List V->Bool
 |[]=>true
 |v::r=>V.u7 v&&V.y8 r
end
def V.aCV(v:V):v.u7=(V.y8 v.l&&v.field):=by cases v;rw[V.u7];rfl
def V.VT(l:List V)(i:Nat)(h:i<l.length):V.y8 (l.take (i+1))=(V.y8 (l.take i)&&l[i].u7):=by
 induction l generalizing i with
 |nil=>simp at h
 |cons v r ih=>
  cases i with
  |zero=>simp[V.y8]
  |succ i=>simp only[cC,V.y8,cJ];rw[ih i (by simpa using h),yO]
def V.SO(l:List V)(i:Nat)(h:V.y8 (l.take i)=false):V.y8 l=false:=by
 induction l generalizing i with
 |nil=>simpa using h
 |cons v r ih=>
  cases i with
  |zero=>simp[V.y8]at h
  |succ i=>
   simp only[cC,V.y8,gI]at h⊢;exact h.imp id (ih i)
def NL(v:V)(hv:v.cR<=2^40)(hw:v.wt):Pu 144 [.d (.agg v.aT1)] (.d (cb v.u7)):=by
 have hk:=v.uZ hw;have AZ:=v.fA;have hl:=V.eW v.l;have ih:∀i(h:i<v.l.length),Pu 144 [.d (.agg (V.aT1 v.l[i]))] (.d (cb v.l[i].u7)):=λi h=>
  have:=v.gM i h
  NL v.l[i] (by have:=V.dG v.l i h;omega) (V.nH _ hk.2.2 i h)
 refine iC mix Tryz.func144 ?_;rw[V.aCV];refine bl ?_;refine bV mix (λi:Nat=>i<=v.l.length/\V.y8 (v.l.take i)=true) (I:=λi=>[(1,.lp 1 0),(3,.d (ci i))])
  (J:=λi=>[(1,.cells false (v.aT1.map A.d))]) (μ:=λi=>v.l.length -i) 20 0 ⟨oM,rfl⟩ (cN.U0 ⟨rfl,rfl,tV⟩ rfl) ?_
 rintro i ⟨hi,ht⟩
 repeat'(first|refine bl ?_|refine bS (λh=>?_) (λh=>?_))
 ·have h:i<v.l.length:=oM;refine eE V.cP rfl eD h ?_;conv=>whnf
  refine aF (ih i h) ?_;have hs:=V.VT v.l i h;rw[ht,cA]at hs;conv=>whnf
  generalize v.l[i].u7=q at hs⊢;cases q with
  |false=>
   refine bl ?_;rw[V.SO v.l _ hs];exact .one (.d _)
  |true=>
   refine bl ?_;exact⟨i+1,oM,⟨oM,hs⟩,cN.swap 5000 5001 tV ⟨rfl,rfl,tV⟩ ⟨rfl,tV⟩ ⟨⟨nofun,tV⟩,tV,tV⟩ ⟨tV,tV⟩⟩
 ·have e:v.l.take i=v.l:=aI oM;rw[e]at ht;rw[ht,cA];refine fT (cs:=v.aT1) (aCT v hw) ?_;conv=>whnf
  refine bl ?_;exact .one (.d _)
 termination_by SizeOf.sizeOf v
mutual
def V.GI:V->Int->Int
 |.mk _ _ _ l _,d=>if 16<d then 513 else V.pH l (d+1) 1
def V.pH:List V->Int->Int->Int
 |[],_,n=>n
 |v::r,d,n=>if n<=512 then V.pH r d (n+V.GI v d)else n
end
def aCN{w:World}{M:Nat->Prop}{ρ:Nat->Value}{b b':A}{l:List A}(hb:∀y,b'.Den w M m ρ y->b.Den w M m ρ y){vs:List Value}(h:A.bR w M m ρ (b'::l) vs):A.bR w M m ρ (b::l) vs:=by
 simp only[A.bR]at h⊢;obtain⟨z,zr,e2,h2,h3⟩:=h;exact⟨z,zr,e2,hb z h2,h3⟩
def V.QR(v:V)(d:Int):v.GI d=if 16<d then 513 else V.pH v.l (d+1) 1:=by cases v;rw[V.GI];rfl
def V.K4(l:List V)(d n:Int)(h:512<n):V.pH l d n=n:=by
 cases l with
 |nil=>rfl
 |cons v r=>rw[V.pH,aT7 oM]
def V.GJ(l:List V)(i:Nat)(h:i<l.length)(d n:Int)(hn:n<=512):V.pH (l.drop i) d n=V.pH (l.drop (i+1)) d (n+l[i].GI d):=by
 rw[dE h,V.pH,aUF hn]
mutual
def V.K5:∀(v:V)(d:Int),1<=v.GI d/\v.GI d<=513*(v.cR:Int)
 |.mk k n s l r,d=>by
  have:=V.tA l (d+1) 1 oM;simp only[V.GI,V.cR];split
  ·omega
  ·push_cast;omega
def V.tA:∀(l:List V)(d n:Int),1<=n->n<=V.pH l d n/\V.pH l d n<=n+513*(V.dB l:Int)
 |[],d,n,hn=>by simp[V.pH,V.dB]
 |v::r,d,n,hn=>by
  have h1:=V.K5 v d;have h2:=V.tA r d (n+V.GI v d) oM;simp only[V.pH,V.dB];split
  ·push_cast;omega
  ·push_cast;omega
end
def TV(v:V)(hv:v.cR<=2^40)(hw:v.wt)(d:Int)(hd:0<=d)(hd2:d<=17):Pu 142 [.d (.agg v.aT1),.d (ci d)] (.d (ci (v.GI d))):=by
 have hk:=v.uZ hw;have AZ:=v.fA;have hl:=V.eW v.l;have ih:∀i(h:i<v.l.length),d<=16->Pu 142 [.d (.agg (V.aT1 v.l[i])),.d (ci (d+1))] (.d (ci (v.l[i].GI (d+1)))):=λi h hd=>
  have:=v.gM i h
  TV v.l[i] (by have:=V.dG v.l i h;omega) (V.nH _ hk.2.2 i h) (d+1) oM oM
 refine iC mix Tryz.func142 ?_;rw[V.QR]
 repeat'(first|refine bl ?_|refine bS (λh=>?_) (λh=>?_))
 all_goals(try(exfalso;omega))
 ·rw[aUF oM];exact .one (.d _)
 ·rw[aUF oM];exact .one (.d _)
 rw[aT7 oM];refine bV mix (λa:Nat×Int=>a.1<=v.l.length/\1<=a.2/\a.2<=1+513*(2^40:Int)/\V.pH (v.l.drop a.1) (d+1) a.2=V.pH v.l (d+1) 1) (I:=λa=>[(1,.d (ci d)),(2,.lp 1 0),(5,.d (ci a.2)),(6,.d (ci a.1))])
  (J:=λi=>[(1,.cells false (v.aT1.map A.d))]) (μ:=λa=>v.l.length -a.1) 20 (0,1) ⟨oM,oM,oM,rfl⟩ (cN.U0 ⟨rfl,rfl,rfl,rfl,tV⟩ rfl) ?_
 rintro⟨i,n⟩ ⟨hi,P0,hn2,ht⟩;simp only at hi P0 hn2 ht
 repeat'(first|refine bl ?_|refine bS (λh=>?_) (λh=>?_))
 ·have h:i<v.l.length:=oM;refine eE V.cP rfl eD h ?_;conv=>whnf
  refine bl ?_;refine aF (ih i h oM) ?_;have hb:=V.K5 v.l[i] (d+1);have hc:=V.dG v.l i h;have hs:=V.GJ v.l i h (d+1) n oM;have hbd:=V.tA v.l (d+1) 1 oM;have a09:=V.tA (v.l.drop (i+1)) (d+1) (n+v.l[i].GI (d+1)) oM;conv=>whnf
  refine bl ?_;exact⟨(i+1,n+v.l[i].GI (d+1)),dM,⟨dM,dM,dM,by dsimp only;rw[<-hs,ht]⟩,cN.swap 5000 5001 tV ⟨rfl,rfl,rfl,rfl,tV⟩ ⟨rfl,tV⟩ ⟨tV,⟨nofun,tV⟩,tV,tV,tV⟩ ⟨tV,tV⟩⟩
 ·rw[<-ht,V.K4 _ _ _ oM];exact .one (.d _)
 ·have e:v.l.drop i=[]:=dT oM;rw[e,V.pH]at ht;rw[<-ht];exact .one (.d _)
 termination_by SizeOf.sizeOf v
def V.nI(v:V):Bool:=decide (v.GI 0<=512)&&(decide (v.deep<=16)&&v.u7)
def aHR(v:V)(hv:v.cR<=2^40)(hw:v.wt):Pu 87 [.d (.agg v.aT1)] (.d (cb v.nI)):=by
 refine iC mix Tryz.func87 ?_;refine bl ?_;refine aF (λm=>(TV v hv hw 0 oM oM m).args λw M ρ vs h=>aCN (λy h=>I3 (cs:=v.aT1) h) h) ?_;conv=>whnf
 repeat'(first|refine bl ?_|refine bS (λh=>?_) (λh=>?_))
 any_goals refine fT (cs:=v.aT1) (XV v hv hw) (bw ?_)
 repeat'(first|refine bl ?_|refine bS (λh=>?_) (λh=>?_))
 any_goals refine fT (cs:=v.aT1) (NL v hv hw) (bw ?_)
 refine bl ?_
 all_goals(refine dP ?_;simp_all[V.nI];try omega)
inductive E4 where
 |mk(kind n:Int)(s:ByteArray)(l:List E4)
mutual
def E4.row:E4->List C
 |.mk k n s l=>[.v (.int .u8 k),ci n,.v (.string s),.sl 4 (E4.rows l)]
def E4.rows:List E4->List (List C)
 |[]=>[]
 |v::r=>E4.row v::E4.rows r
end
def E4.sG:∀l,E4.rows l=l.map E4.row
 |[]=>rfl
 |v::r=>by simp only[E4.rows,aG,E4.sG r]
def E4.kind:E4->Int|.mk k _ _ _=>k
def E4.n:E4->Int|.mk _ n _ _=>n
def E4.s:E4->ByteArray|.mk _ _ s _=>s
def E4.l:E4->List E4|.mk _ _ _ l=>l
def E4.aT1(v:E4):List C:=[.v (.int .u8 v.kind),ci v.n,.v (.string v.s),.sl 4 (v.l.map E4.row)]
def E4.cP(v:E4):E4.row v=E4.aT1 v:=by
 cases v;simp only[E4.row,E4.aT1,E4.kind,E4.n,E4.s,E4.l,E4.sG]
mutual
def E4.cR:E4->Nat
 |.mk _ _ _ l=>1+E4.dB l
def E4.dB:List E4->Nat
 |[]=>0
 |v::r=>E4.cR v+E4.dB r
end
def E4.PO(v:E4):0<E4.cR v:=by cases v;simp only[E4.cR];omega
def E4.eW:∀l:List E4,l.length<=E4.dB l
 |[]=>sM
 |v::r=>by have:=E4.eW r;have:=v.PO;simp only[E4.dB,aQ];omega
def E4.kA:∀(l:List E4)(i:Nat),E4.dB (l.take i)<=E4.dB l
 |[],i=>sM
 |v::r,0=>by simp[E4.dB]
 |v::r,i+1=>by have:=E4.kA r i;simp only[cC,E4.dB];omega
def E4.dG:∀(l:List E4)(i:Nat)(h:i<l.length),E4.cR l[i]<=E4.dB l
 |[],i,h=>by simp at h
 |v::r,0,h=>by simp only[eK,E4.dB];omega
 |v::r,i+1,h=>by have:=E4.dG r i (by simpa using h);simp only[cJ,E4.dB];omega
def E4.fA(v:E4):E4.cR v=1+E4.dB v.l:=by cases v;rfl
def E4.gM(v:E4)(i:Nat)(h:i<v.l.length):SizeOf.sizeOf v.l[i]<SizeOf.sizeOf v:=by
 cases v with
 |mk k n s l=>
  have:=List.sizeOf_lt_of_mem (aY h);simp only[E4.l]at this⊢;simp only[E4.mk.sizeOf_spec];omega
mutual
def E4.GI:E4->Int->Int
 |.mk _ _ _ l,d=>if 16<d then 513 else E4.pH l (d+1) 1
def E4.pH:List E4->Int->Int->Int
 |[],_,n=>n
 |v::r,d,n=>if n<=512 then E4.pH r d (n+E4.GI v d)else n
end
def E4.QR(v:E4)(d:Int):v.GI d=if 16<d then 513 else E4.pH v.l (d+1) 1:=by cases v;rw[E4.GI];rfl
def E4.K4(l:List E4)(d n:Int)(h:512<n):E4.pH l d n=n:=by
 cases l with
 |nil=>rfl
 |cons v r=>rw[E4.pH,aT7 oM]
def E4.GJ(l:List E4)(i:Nat)(h:i<l.length)(d n:Int)(hn:n<=512):E4.pH (l.drop i) d n=E4.pH (l.drop (i+1)) d (n+l[i].GI d):=by
 rw[dE h,E4.pH,aUF hn]
mutual
def E4.K5:∀(v:E4)(d:Int),1<=v.GI d/\v.GI d<=513*(v.cR:Int)
 |.mk k n s l,d=>by
  have:=E4.tA l (d+1) 1 oM;simp only[E4.GI,E4.cR];split
  ·omega
  ·push_cast;omega
def E4.tA:∀(l:List E4)(d n:Int),1<=n->n<=E4.pH l d n/\E4.pH l d n<=n+513*(E4.dB l:Int)
 |[],d,n,hn=>by simp[E4.pH,E4.dB]
 |v::r,d,n,hn=>by
  have h1:=E4.K5 v d;have h2:=E4.tA r d (n+E4.GI v d) oM;simp only[E4.pH,E4.dB];split
  ·push_cast;omega
  ·push_cast;omega
end
def NI(v:E4)(hv:v.cR<=2^40)(d:Int)(hd:0<=d)(hd2:d<=17):Pu 180 [.d (.agg v.aT1),.d (ci d)] (.d (ci (v.GI d))):=by
 have AZ:=v.fA;have hl:=E4.eW v.l;have ih:∀i(h:i<v.l.length),d<=16->Pu 180 [.d (.agg (E4.aT1 v.l[i])),.d (ci (d+1))] (.d (ci (v.l[i].GI (d+1)))):=λi h hd=>
  have:=v.gM i h
  NI v.l[i] (by have:=E4.dG v.l i h;omega) (d+1) oM oM
 refine iC mix Tryz.func180 ?_;rw[E4.QR]
 repeat'(first|refine bl ?_|refine bS (λh=>?_) (λh=>?_))
 ·rw[aUF oM];exact .one (.d _)
 rw[aT7 oM];refine bV mix (λa:Nat×Int=>a.1<=v.l.length/\1<=a.2/\a.2<=1+513*(2^40:Int)/\E4.pH (v.l.drop a.1) (d+1) a.2=E4.pH v.l (d+1) 1) (I:=λa=>[(1,.d (ci d)),(2,.lp 1 0),(5,.d (ci a.2)),(6,.d (ci a.1))])
  (J:=λi=>[(1,.cells false (v.aT1.map A.d))]) (μ:=λa=>v.l.length -a.1) 20 (0,1) ⟨oM,oM,oM,rfl⟩ (cN.U0 ⟨rfl,rfl,rfl,rfl,tV⟩ rfl) ?_
 rintro⟨i,n⟩ ⟨hi,P0,hn2,ht⟩;simp only at hi P0 hn2 ht
 repeat'(first|refine bl ?_|refine bS (λh=>?_) (λh=>?_))
 ·have h:i<v.l.length:=oM;refine eE E4.cP rfl eD h ?_;conv=>whnf
  refine bl ?_;refine aF (ih i h oM) ?_;have hb:=E4.K5 v.l[i] (d+1);have hc:=E4.dG v.l i h;have hs:=E4.GJ v.l i h (d+1) n oM;have hbd:=E4.tA v.l (d+1) 1 oM;have a09:=E4.tA (v.l.drop (i+1)) (d+1) (n+v.l[i].GI (d+1)) oM;conv=>whnf
  refine bl ?_;exact⟨(i+1,n+v.l[i].GI (d+1)),dM,⟨dM,dM,dM,by dsimp only;rw[<-hs,ht]⟩,cN.swap 5000 5001 tV ⟨rfl,rfl,rfl,rfl,tV⟩ ⟨rfl,tV⟩ ⟨tV,⟨nofun,tV⟩,tV,tV,tV⟩ ⟨tV,tV⟩⟩
 ·rw[<-ht,E4.K4 _ _ _ oM];exact .one (.d _)
 ·have e:v.l.drop i=[]:=dT oM;rw[e,E4.pH]at ht;rw[<-ht];exact .one (.d _)
 termination_by SizeOf.sizeOf v
mutual
def E4.wt:E4->Prop
 |.mk k _ _ l=>0<=k/\k<256/\E4.B5 l
def E4.B5:List E4->Prop
 |[]=>True
 |v::r=>E4.wt v/\E4.B5 r
end
def E4.uZ(v:E4)(h:v.wt):0<=v.kind/\v.kind<256/\E4.B5 v.l:=by cases v;exact h
def E4.nH:∀(l:List E4)(h:E4.B5 l)(i:Nat)(hi:i<l.length),E4.wt l[i]
 |[],_,i,hi=>by simp at hi
 |v::r,h,0,hi=>h.1
 |v::r,h,i+1,hi=>E4.nH r h.2 i (by simpa using hi)
mutual
def E4.deep:E4->Int
 |.mk k _ _ l=>if k≠3/\l.length=0 then 0 else E4.kE l+1
def E4.kE:List E4->Int
 |[]=>0
 |v::r=>max (E4.deep v) (E4.kE r)
end
def E4.JG(v:E4):v.deep=if v.kind≠3/\v.l.length=0 then 0 else E4.kE v.l+1:=by cases v;rw[E4.deep];rfl
def E4.CD(l:List E4)(i:Nat)(h:i<l.length):E4.kE (l.take (i+1))=(if l[i].deep>E4.kE (l.take i)then l[i].deep else E4.kE (l.take i)):=by
 induction l generalizing i with
 |nil=>simp at h
 |cons v r ih=>
  cases i with
  |zero=>simp only[cC,fD,E4.kE,eK];omega
  |succ i=>simp only[cC,E4.kE,cJ];rw[ih i (by simpa using h)];omega
mutual
def E4.PS:∀v:E4,0<=v.deep/\v.deep<=v.cR
 |.mk k n s l=>by
  have:=E4.uD l;simp only[E4.deep,E4.cR];split<;>omega
def E4.uD:∀l:List E4,0<=E4.kE l/\E4.kE l<=E4.dB l
 |[]=>by simp[E4.kE,E4.dB]
 |v::r=>by
  have h1:=E4.PS v;have h2:=E4.uD r;simp only[E4.kE,E4.dB];omega
end
def R7(v:E4)(hv:v.cR<=2^40)(hw:v.wt):Pu 181 [.d (.agg v.aT1)] (.d (ci v.deep)):=by
 have hk:=v.uZ hw;have AZ:=v.fA;have hl:=E4.eW v.l;have ih:∀i(h:i<v.l.length),Pu 181 [.d (.agg (E4.aT1 v.l[i]))] (.d (ci v.l[i].deep)):=λi h=>
  have:=v.gM i h
  R7 v.l[i] (by have:=E4.dG v.l i h;omega) (E4.nH _ hk.2.2 i h)
 refine iC mix Tryz.func181 ?_;rw[E4.JG]
 repeat'(first|refine bl ?_|refine bS (λh=>?_) (λh=>?_))
 ·rw[aUF (by simp_all)];exact .one (.d _)
 all_goals
  rw[aT7 (by simp_all)];refine bV mix (λi:Nat=>i<=v.l.length) (I:=λi=>[(1,.lp 1 0),(4,.d (ci i)),(3,.d (ci (E4.kE (v.l.take i))))])
   (J:=λi=>[(1,.cells false (v.aT1.map A.d))]) (μ:=λi=>v.l.length -i) 20 0 oM (cN.U0 ⟨rfl,rfl,rfl,tV⟩ rfl) ?_
  intro i hi;have hb:=E4.uD (v.l.take i);have uB:=E4.kA v.l i;have fin:v.l.length<=i->E4.kE v.l=E4.kE (v.l.take i):=λh=>by rw[aI h]
  repeat'(first|refine bl ?_|refine bS (λh=>?_) (λh=>?_))
  ·have h:i<v.l.length:=oM;refine eE E4.cP rfl eD h ?_;conv=>whnf
   refine aF (ih i h) ?_;conv=>whnf
   skip
   refine xR.mk (aUZ rfl) ?_;conv=>whnf
   refine bl ?_;have hs:=E4.CD v.l i h;refine⟨i+1,oM,oM,cN.swap 5000 5001 tV ⟨rfl,rfl,?_,tV⟩ ⟨rfl,tV⟩ ⟨⟨nofun,tV⟩,tV,tV,tV⟩ ⟨tV,tV⟩⟩;rw[hs];rfl
  ·rw[fin oM];exact .one (.d _)
 termination_by SizeOf.sizeOf v
def E4.fits(v:E4):Bool:=decide (v.GI 0<=512)&&decide (v.deep<=16)
def SD(v:E4)(hv:v.cR<=2^40)(hw:v.wt):Pu 141 [.d (.agg v.aT1)] (.d (cb v.fits)):=by
 refine iC mix Tryz.func141 ?_;refine bl ?_;refine aF (λm=>(NI v hv 0 oM oM m).args λw M ρ vs h=>aCN (λy h=>I3 (cs:=v.aT1) h) h) ?_;conv=>whnf
 repeat'(first|refine bl ?_|refine bS (λh=>?_) (λh=>?_))
 any_goals refine fT (cs:=v.aT1) (R7 v hv hw) (bw ?_)
 refine bl ?_
 all_goals(refine dP ?_;simp_all[E4.fits];try omega)
inductive S4 where
 |mk(op:Int)(name second:ByteArray)(FD bQ:Int)(a b:E4)(t e c:List S4)(w:List ByteArray)
abbrev cs(s:ByteArray):C:=.v (.string s)
mutual
def S4.row:S4->List C
 |.mk op name second FD bQ a b t e c w=>[.v (.int .u8 op),cs name,cs second,.v (.int .u8 FD),.v (.int .u8 bQ),.v (.int .u8 a.kind),ci a.n,cs a.s,.sl 4 (a.l.map E4.row),.v (.int .u8 b.kind),ci b.n,cs b.s,.sl 4 (b.l.map E4.row),.sl 17 (S4.rows t),.sl 17 (S4.rows e),.sl 17 (S4.rows c),.sl 1 (w.map λs=>[cs s])]
def S4.rows:List S4->List (List C)
 |[]=>[]
 |v::r=>S4.row v::S4.rows r
end
def S4.sG:∀l,S4.rows l=l.map S4.row
 |[]=>rfl
 |v::r=>by simp only[S4.rows,aG,S4.sG r]
def S4.op:S4->Int|.mk x _ _ _ _ _ _ _ _ _ _=>x
def S4.name:S4->ByteArray|.mk _ x _ _ _ _ _ _ _ _ _=>x
def S4.second:S4->ByteArray|.mk _ _ x _ _ _ _ _ _ _ _=>x
def S4.FD:S4->Int|.mk _ _ _ x _ _ _ _ _ _ _=>x
def S4.bQ:S4->Int|.mk _ _ _ _ x _ _ _ _ _ _=>x
def S4.a:S4->E4|.mk _ _ _ _ _ x _ _ _ _ _=>x
def S4.b:S4->E4|.mk _ _ _ _ _ _ x _ _ _ _=>x
def S4.t:S4->List S4|.mk _ _ _ _ _ _ _ x _ _ _=>x
def S4.e:S4->List S4|.mk _ _ _ _ _ _ _ _ x _ _=>x
def S4.c:S4->List S4|.mk _ _ _ _ _ _ _ _ _ x _=>x
def S4.w:S4->List ByteArray|.mk _ _ _ _ _ _ _ _ _ _ x=>x
def S4.aT1(v:S4):List C:=[.v (.int .u8 v.op),cs v.name,cs v.second,.v (.int .u8 v.FD),.v (.int .u8 v.bQ),.v (.int .u8 v.a.kind),ci v.a.n,cs v.a.s,.sl 4 (v.a.l.map E4.row),.v (.int .u8 v.b.kind),ci v.b.n,cs v.b.s,.sl 4 (v.b.l.map E4.row),.sl 17 (v.t.map S4.row),.sl 17 (v.e.map S4.row),.sl 17 (v.c.map S4.row),.sl 1 (v.w.map λs=>[cs s])]
def S4.cP(v:S4):S4.row v=S4.aT1 v:=by
 cases v;simp only[S4.row,S4.aT1,S4.op,S4.name,S4.second,S4.FD,S4.bQ,S4.a,S4.b,S4.t,S4.e,S4.c,S4.w,S4.sG]
mutual
def S4.cR:S4->Nat
 |.mk _ _ _ _ _ a b t e c w=>1+a.cR+b.cR+w.length+S4.dB t+S4.dB e+S4.dB c
def S4.dB:List S4->Nat
 |[]=>0
 |v::r=>S4.cR v+S4.dB r
end
def S4.fA(v:S4):v.cR=1+v.a.cR+v.b.cR+v.w.length+S4.dB v.t+S4.dB v.e+S4.dB v.c:=by cases v;rfl
def S4.eW:∀l:List S4,l.length<=S4.dB l
 |[]=>sM
 |v::r=>by have:=S4.eW r;have:=v.fA;simp only[S4.dB,aQ];omega
def S4.dG:∀(l:List S4)(i:Nat)(h:i<l.length),S4.cR l[i]<=S4.dB l
 |[],i,h=>by simp at h
 |v::r,0,h=>by simp only[eK,S4.dB];omega
 |v::r,i+1,h=>by have:=S4.dG r i (by simpa using h);simp only[cJ,S4.dB];omega
mutual
def S4.step:S4->Int->Int
 |.mk _ _ _ _ _ _ _ t e c _,n=>
  let n2:=n+1+S4.nF t 0;let n3:=if n2<=512 then n2+S4.nF e 0 else n2
  if n3<=512 then n3+S4.nF c 0 else n3
def S4.nF:List S4->Int->Int
 |[],n=>n
 |v::r,n=>if n<=512 then S4.nF r (S4.step v n)else n
end
def S4.aFU(v:S4)(n:Int):v.step n=(let n2:=n+1+S4.nF v.t 0;let n3:=if n2<=512 then n2+S4.nF v.e 0 else n2;if n3<=512 then n3+S4.nF v.c 0 else n3):=by cases v;rw[S4.step];rfl
mutual
def S4.Y9:∀(v:S4)(n:Int),0<=n->n<=v.step n/\v.step n<=n+v.cR
 |.mk _ _ _ _ _ a b t e c w,n,hn=>by
  have h1:=S4.uU t 0 oM;have h2:=S4.uU e 0 oM;have h3:=S4.uU c 0 oM;simp only[S4.step,S4.cR]
  repeat' split
  all_goals(push_cast;omega)
def S4.uU:∀(l:List S4)(n:Int),0<=n->n<=S4.nF l n/\S4.nF l n<=n+S4.dB l
 |[],n,hn=>by simp[S4.nF,S4.dB]
 |v::r,n,hn=>by
  have h1:=S4.Y9 v n hn;have h2:=S4.uU r (v.step n) oM;simp only[S4.nF,S4.dB];split<;>(push_cast;omega)
end
def S4.aBT(l:List S4)(n:Int)(h:512<n):S4.nF l n=n:=by
 cases l with
 |nil=>rfl
 |cons v r=>rw[S4.nF,aT7 oM]
def S4.WW(l:List S4)(i:Nat)(h:i<l.length)(n:Int)(hn:n<=512):S4.nF (l.drop i) n=S4.nF (l.drop (i+1)) (l[i].step n):=by
 rw[dE h,S4.nF,aUF hn]
abbrev jX(l:List S4):C:=.sl 17 (l.map S4.row)
def IS(l:List S4)(hv:S4.dB l<=2^40):Pu 84 [.d (jX l)] (.d (ci (S4.nF l 0))):=by
 have hl:=S4.eW l;have iht:∀i(h:i<l.length),Pu 84 [.d (jX l[i].t)] (.d (ci (S4.nF l[i].t 0))):=λi h=>
  have:=S4.dG l i h;have:=l[i].fA
  IS l[i].t oM
 have ihe:∀i(h:i<l.length),Pu 84 [.d (jX l[i].e)] (.d (ci (S4.nF l[i].e 0))):=λi h=>
  have:=S4.dG l i h;have:=l[i].fA
  IS l[i].e oM
 have ihc:∀i(h:i<l.length),Pu 84 [.d (jX l[i].c)] (.d (ci (S4.nF l[i].c 0))):=λi h=>
  have:=S4.dG l i h;have:=l[i].fA
  IS l[i].c oM
 refine iC mix Tryz.func84 ?_
 repeat'(first|refine bl ?_|fail)
 refine bV mix (λa:Nat×Int=>a.1<=l.length/\0<=a.2/\a.2<=2^41/\S4.nF (l.drop a.1) a.2=S4.nF l 0) (I:=λa=>[(0,.d (jX l)),(3,.d (ci a.2)),(4,.d (ci a.1))])
  (J:=λi=>[]) (μ:=λa=>l.length -a.1) 20 (0,0) ⟨oM,oM,oM,rfl⟩ (cN.U0 ⟨rfl,rfl,rfl,tV⟩ rfl) ?_
 rintro⟨i,n⟩ ⟨hi,P0,hn2,ht⟩;simp only at hi P0 hn2 ht
 repeat'(first|refine bl ?_|refine bS (λh=>?_) (λh=>?_))
 ·have uJ:i<l.length:=oM;have hs:=S4.WW l i uJ n oM;have hsd:=l[i].aFU n;have tO:=S4.uU l[i].t 0 oM;have uB:=S4.uU l[i].e 0 oM;have hb3:=S4.uU l[i].c 0 oM;have hcg:=S4.dG l i uJ;have AZ:=l[i].fA;have HG:=S4.Y9 l[i] n P0;refine eE S4.cP rfl eD uJ ?_;conv=>whnf
  refine aF (iht i uJ) ?_;conv=>whnf
  repeat'(first|refine bl ?_|refine bS (λh=>?_) (λh=>?_))
  any_goals refine eE S4.cP rfl eD uJ ?_;(conv=>whnf);refine aF (ihe i uJ) (bw ?_)
  repeat'(first|refine bl ?_|refine bS (λh=>?_) (λh=>?_))
  any_goals refine eE S4.cP rfl eD uJ ?_;(conv=>whnf);refine aF (ihc i uJ) (bw ?_)
  repeat'(first|refine bl ?_|fail)
  all_goals
   refine⟨(i+1,l[i].step n),dM,⟨dM,dM,dM,by dsimp only;rw[<-hs,ht]⟩,cN.swap 5000 5001 tV ⟨rfl,?_,rfl,tV⟩ tV ⟨tV,tV,tV,tV⟩ tV⟩;refine congrArg (λx=>A.d (ci x)) ?_;rw[hsd];dsimp only
   repeat' split
   all_goals(first|rfl|(exfalso;omega))
 ·rw[<-ht,S4.aBT _ _ oM];exact .one (.d _)
 ·have e:l.drop i=[]:=dT oM;rw[e,S4.nF]at ht;rw[<-ht];exact .one (.d _)
 termination_by S4.dB l
mutual
def S4.wt:S4->Prop
 |.mk op _ _ FD bQ a b t e c _=>0<=op/\op<256/\0<=FD/\FD<256/\0<=bQ/\bQ<256/\a.wt/\b.wt/\S4.B5 t/\S4.B5 e/\S4.B5 c
def S4.B5:List S4->Prop
 |[]=>True
 |v::r=>S4.wt v/\S4.B5 r
end
def S4.uZ(v:S4)(h:v.wt):v.a.wt/\v.b.wt/\S4.B5 v.t/\S4.B5 v.e/\S4.B5 v.c:=by
 cases v;simp only[S4.wt]at h;exact⟨h.2.2.2.2.2.2.1,h.2.2.2.2.2.2.2.1,h.2.2.2.2.2.2.2.2.1,h.2.2.2.2.2.2.2.2.2.1,h.2.2.2.2.2.2.2.2.2.2⟩
def S4.nH:∀(l:List S4)(h:S4.B5 l)(i:Nat)(hi:i<l.length),S4.wt l[i]
 |[],_,i,hi=>by simp at hi
 |v::r,h,0,hi=>h.1
 |v::r,h,i+1,hi=>S4.nH r h.2 i (by simpa using hi)
mutual
def S4.fit:S4->Bool
 |.mk _ _ _ _ _ a b t e c w=>decide ((w.length:Int)<=64)&&a.fits&&b.fits&&S4.jD t&&S4.jD e&&S4.jD c
def S4.jD:List S4->Bool
 |[]=>true
 |v::r=>S4.fit v&&S4.jD r
end
def S4.aG7(v:S4):v.fit=(decide ((v.w.length:Int)<=64)&&v.a.fits&&v.b.fits&&S4.jD v.t&&S4.jD v.e&&S4.jD v.c):=by cases v;rw[S4.fit];rfl
def S4.Z8(l:List S4)(i:Nat)(h:i<l.length):S4.jD (l.take (i+1))=(S4.jD (l.take i)&&l[i].fit):=by
 induction l generalizing i with
 |nil=>simp at h
 |cons v r ih=>
  cases i with
  |zero=>simp[S4.jD]
  |succ i=>simp only[cC,S4.jD,cJ];rw[ih i (by simpa using h),yO]
def S4.VS(l:List S4)(i:Nat)(h:S4.jD (l.take i)=false):S4.jD l=false:=by
 induction l generalizing i with
 |nil=>simpa using h
 |cons v r ih=>
  cases i with
  |zero=>simp[S4.jD]at h
  |succ i=>
   simp only[cC,S4.jD,gI]at h⊢;exact h.imp id (ih i)
def vD(l:List S4)(hv:S4.dB l<=2^40)(hw:S4.B5 l):Pu 85 [.d (jX l)] (.d (cb (S4.jD l))):=by
 have hl:=S4.eW l;have iht:∀i(h:i<l.length),Pu 85 [.d (jX l[i].t)] (.d (cb (S4.jD l[i].t))):=λi h=>
  have:=S4.dG l i h;have:=l[i].fA
  vD l[i].t oM (S4.uZ _ (S4.nH l hw i h)).2.2.1
 have ihe:∀i(h:i<l.length),Pu 85 [.d (jX l[i].e)] (.d (cb (S4.jD l[i].e))):=λi h=>
  have:=S4.dG l i h;have:=l[i].fA
  vD l[i].e oM (S4.uZ _ (S4.nH l hw i h)).2.2.2.1
 have ihc:∀i(h:i<l.length),Pu 85 [.d (jX l[i].c)] (.d (cb (S4.jD l[i].c))):=λi h=>
  have:=S4.dG l i h;have:=l[i].fA
  vD l[i].c oM (S4.uZ _ (S4.nH l hw i h)).2.2.2.2
 refine iC mix Tryz.func85 ?_
 repeat'(first|refine bl ?_|fail)
 refine bV mix (λi:Nat=>i<=l.length/\S4.jD (l.take i)=true) (I:=λi=>[(0,.d (jX l)),(3,.d (ci i))])
  (J:=λi=>[]) (μ:=λi=>l.length -i) 20 0 ⟨oM,rfl⟩ (cN.U0 ⟨rfl,rfl,tV⟩ rfl) ?_
 rintro i ⟨hi,ht⟩
 repeat'(first|refine bl ?_|refine bS (λh=>?_) (λh=>?_))
 ·have uJ:i<l.length:=oM;have hs:=S4.Z8 l i uJ;rw[ht,cA,S4.aG7]at hs;have hcg:=S4.dG l i uJ;have AZ:=l[i].fA;have hwi:=S4.uZ _ (S4.nH l hw i uJ);refine eE S4.cP rfl eD uJ ?_;conv=>whnf
  repeat'(first|refine bl ?_|refine bS (λh=>?_) (λh=>?_))
  any_goals refine eE S4.cP rfl eD uJ (bw ?_)
  repeat'(first|refine bl ?_|fail)
  any_goals refine aF (SD l[i].a oM hwi.1) (bw ?_)
  repeat'(first|refine bl ?_|refine bS (λh=>?_) (λh=>?_))
  any_goals refine eE S4.cP rfl eD uJ (bw ?_)
  repeat'(first|refine bl ?_|fail)
  any_goals refine aF (SD l[i].b oM hwi.2.1) (bw ?_)
  repeat'(first|refine bl ?_|refine bS (λh=>?_) (λh=>?_))
  any_goals refine eE S4.cP rfl eD uJ (bw ?_)
  repeat'(first|refine bl ?_|fail)
  any_goals refine aF (iht i uJ) (bw ?_)
  repeat'(first|refine bl ?_|refine bS (λh=>?_) (λh=>?_))
  any_goals refine eE S4.cP rfl eD uJ (bw ?_)
  repeat'(first|refine bl ?_|fail)
  any_goals refine aF (ihe i uJ) (bw ?_)
  repeat'(first|refine bl ?_|refine bS (λh=>?_) (λh=>?_))
  any_goals refine eE S4.cP rfl eD uJ (bw ?_)
  repeat'(first|refine bl ?_|fail)
  any_goals refine aF (ihc i uJ) (bw ?_)
  repeat'(first|refine bl ?_|refine bS (λh=>?_) (λh=>?_))
  any_goals((with_reducible show A1 _ _ _);rw[S4.VS l (i+1) (by rw[hs];simp_all<;>omega)];exact .one (.d _))
  exact⟨i+1,oM,⟨oM,by rw[hs];simp_all⟩,cN.swap 5000 5001 tV ⟨rfl,rfl,tV⟩ tV ⟨tV,tV,tV⟩ tV⟩
 ·have e:l.take i=l:=aI oM;rw[e]at ht;rw[ht];exact .one (.d _)
 termination_by S4.dB l
structure N4 where
 name:ByteArray
 value:V
def N4.aT1(x:N4):List C:=[cs x.name,.v (.int .u8 x.value.kind),ci x.value.n,cs x.value.s,.sl 5 (x.value.l.map V.row),ci x.value.r]
structure W4 where
 kind:Int
 home:Int
 value:V
 values:List V
 n:Int
 lost:Int
 of:Int
 by_:Int
 set:Int
 full:Bool
 code:List S4
 names:List N4
def W4.aT1(x:W4):List C:=[.v (.int .u8 x.kind),ci x.home,.v (.int .u8 x.value.kind),ci x.value.n,cs x.value.s,.sl 5 (x.value.l.map V.row),ci x.value.r,.sl 5 (x.values.map V.row),ci x.n,ci x.lost,ci x.of,ci x.by_,.v (.int .u8 x.set),cb x.full,.sl 17 (x.code.map S4.row),.sl 6 (x.names.map N4.aT1)]
def W4.cR(x:W4):Nat:=x.value.cR+V.dB x.values+S4.dB x.code+x.names.length+V.dB (x.names.map (·.value))
def W4.vA(x:W4):List V:=x.value::(x.values++x.names.map (·.value))
abbrev aF5(l:List V):C:=.sl 5 (l.map V.aT1)
def W4.rows(x:W4)(i:Nat):List (List C):=([V.aT1 x.value]++x.values.map V.row)++(x.names.take i).map λn=>V.aT1 n.value
def W4.aE0(x:W4):x.rows x.names.length=x.vA.map V.aT1:=by
 have:V.row=V.aT1:=funext V.cP;rw[W4.rows,W4.vA,this,gX];simp only[aG,bP,bH,bW,bZ,Function.comp_def]
def W4.aBK(x:W4)(i:Nat)(h:i<x.names.length):x.rows (i+1)=x.rows i++[V.aT1 x.names[i].value]:=by
 rw[W4.rows,W4.rows,iT];simp only[aC h,Option.toList_some,bP,aG,bM,bG]
def W4.aBL(x:W4):x.rows 0=[V.aT1 x.value]++x.values.map V.row:=by
 rw[W4.rows,fD,bM,dS]
def W4.aE1(x:W4)(i:Nat):(x.rows i).length<=1+x.values.length+x.names.length:=by
 simp only[W4.rows,aU,aB,aQ,cS,cW];omega
def aBZ(x:W4)(hx:x.cR<=2^40):Pu 86 [.d (.agg x.aT1)] (.d (aF5 x.vA)):=by
 refine iC mix Tryz.func86 ?_;refine bl ?_;have h1:=V.eW x.values;have hc:x.cR=x.value.cR+V.dB x.values+S4.dB x.code+x.names.length+V.dB (x.names.map (·.value)):=rfl;refine⟨by simp only[cE,aS,aB];rw[show Tryz.prog.bytesOf 88=64 from kK];omega,?_⟩;conv=>whnf
 refine bl ?_;refine bV mix (λi:Nat=>i<=x.names.length) (I:=λi=>[(1,.lp 1 0),(4,.d (ci i)),(3,.h 7)])
  (J:=λi=>[(7,dU 88 5 (x.rows i)),(1,.cells false (x.aT1.map A.d))]) (μ:=λi=>x.names.length -i) 200 0 oM
  (cN.swap 73 7 tV ⟨rfl,rfl,rfl,tV⟩ ⟨?_,rfl,tV⟩ ⟨⟨nofun,tV⟩,tV,⟨nofun,tV⟩,tV⟩ ⟨by rw[oJ];trivial,tV,tV⟩) ?_
 ·rw[W4.aBL];show some ((dU 88 5 ([V.aT1 x.value]++x.values.map V.row)).eZ _)=_;rw[eT]
 intro i hi;have hrl:=x.aE1 i
 repeat'(first|refine bl ?_|refine bS (λh=>?_) (λh=>?_))
 ·have uJ:i<x.names.length:=oM;refine cD rfl eD uJ ?_;conv=>whnf
  skip
  refine⟨by simp only[cE,aS,aB,bE];rw[show Tryz.prog.bytesOf 88=64 from kK];omega,?_⟩;conv=>whnf
  refine bl ?_;refine⟨i+1,oM,oM,cN.swap 304 7 tV ⟨rfl,rfl,rfl,tV⟩ ⟨?_,rfl,tV⟩ ⟨⟨nofun,tV⟩,tV,⟨nofun,tV⟩,tV⟩ ⟨by rw[oJ];trivial,tV,tV⟩⟩;rw[x.aBK i uJ,<-Y1];show some ((R.fW false 88 5 (bE (x.rows i)++bE [V.aT1 x.names[i].value])).eZ _)=_;rw[Y1,eT]
 ·have e:i=x.names.length:=oM;subst e;rw[<-show C.sl 5 (x.rows x.names.length)=aF5 x.vA by rw[x.aE0]];exact .one (.dU (t:=88) rfl)
def V.RS:∀(l r:List V),V.dB (l++r)=V.dB l+V.dB r
 |[],r=>by simp[V.dB]
 |v::l,r=>by simp only[bW,V.dB,V.RS l r];omega
def V.ZM:∀(l r:List V),V.B5 l->V.B5 r->V.B5 (l++r)
 |[],r,_,h=>h
 |v::l,r,h1,h2=>⟨h1.1,V.ZM l r h1.2 h2⟩
structure W4.wt(x:W4):Prop where
 value:x.value.wt
 values:V.B5 x.values
 names:V.B5 (x.names.map (·.value))
 code:S4.B5 x.code
 kind:0<=x.kind/\x.kind<256
 set:0<=x.set/\x.set<256
def W4.aIT(x:W4)(h:x.wt):V.B5 x.vA:=⟨h.value,V.ZM _ _ h.values h.names⟩
def W4.aF6(x:W4):V.dB x.vA<=x.cR:=by
 have:V.dB x.vA=x.value.cR+(V.dB x.values+V.dB (x.names.map (·.value))):=by rw[W4.vA,V.dB,V.RS]
 rw[this,W4.cR];omega
def W4.fits(x:W4):Bool:=decide ((x.values.length:Int)<=1024/\(x.names.length:Int)<=128/\S4.nF x.code 0<=512)&&S4.jD x.code&&x.vA.all V.nI
def aF8(x:W4)(hx:x.cR<=2^40)(hw:x.wt):Pu 39 [.d (.agg x.aT1)] (.d (cb x.fits)):=by
 have hcc:S4.dB x.code<=x.cR:=by rw[W4.cR];omega
 have hvc:=x.aF6;have hvl:=V.eW x.vA;refine iC mix Tryz.func39 ?_
 repeat'(first|refine bl ?_|refine bS (λh=>?_) (λh=>?_))
 any_goals refine aF (IS x.code oM) (bw ?_)
 repeat'(first|refine bl ?_|refine bS (λh=>?_) (λh=>?_))
 any_goals refine aF (vD x.code oM hw.code) (bw ?_)
 repeat'(first|refine bl ?_|refine bS (λh=>?_) (λh=>?_))
 any_goals refine fT (cs:=x.aT1) (aBZ x hx) (bw ?_)
 repeat'(first|refine bl ?_|fail)
 any_goals((with_reducible show A1 _ _ _);refine dP ?_;rw[W4.fits];simp_all;try omega)
 have e0:x.fits=x.vA.all V.nI:=by rw[W4.fits];simp_all;try omega
 rw[e0];refine bV mix (λi:Nat=>i<=x.vA.length/\(x.vA.take i).all V.nI=true) (I:=λi=>[(3,.d (aF5 x.vA)),(4,.d (ci i))])
  (J:=λi=>[]) (μ:=λi=>x.vA.length -i) 20 0 ⟨oM,rfl⟩ (cN.swap 5000 5001 tV ⟨rfl,rfl,tV⟩ tV ⟨tV,tV,tV⟩ tV) ?_
 rintro i ⟨hi,ht⟩
 repeat'(first|refine bl ?_|refine bS (λh=>?_) (λh=>?_))
 ·have uJ:i<x.vA.length:=oM;have hcg:=V.dG x.vA i uJ;refine cD rfl eD uJ ?_;conv=>whnf
  skip
  refine aF (aHR x.vA[i] oM (V.nH _ (x.aIT hw) i uJ)) ?_;conv=>whnf
  repeat'(first|refine bl ?_|refine bS (λh=>?_) (λh=>?_))
  ·have hf:x.vA.all V.nI=false:=by
    rw[iA];exact⟨x.vA[i],aY uJ,by simp_all⟩
   rw[hf];exact .one (.d _)
  ·refine⟨i+1,oM,⟨oM,?_⟩,cN.swap 5000 5001 tV ⟨rfl,rfl,tV⟩ tV ⟨tV,tV,tV⟩ tV⟩;rw[iT,gQ,ht];simp_all
 ·have e:x.vA.take i=x.vA:=aI oM;rw[e]at ht;rw[ht];exact .one (.d _)
structure T4 where
 ref:Int
 bQ:W4
def T4.aT1(t:T4):List C:=ci t.ref::t.bQ.aT1
structure X4 where
 parents:List Int
 aU3:List Int
 aT4:List T4
 last:Int
 made:List Int
def X4.aT1(x:X4):List C:=[.sl 1 (iR x.parents),.sl 1 (iR x.aU3),.sl 17 (x.aT4.map T4.aT1),ci x.last,.sl 1 (iR x.made)]
structure U4 where
 side:Int
 code:List S4
 names:List N4
 seen:List Int
def U4.aT1(u:U4):List C:=[ci u.side,.sl 17 (u.code.map S4.row),.sl 6 (u.names.map N4.aT1),.sl 1 (iR u.seen)]
def U4.K2(u:U4):Bool:=decide ((u.names.length:Int)<=80)&&decide ((u.seen.length:Int)<=400)
def CI(x:X4)(l:List U4):Bool:=decide ((x.aT4.length:Int)<=60/\(x.parents.length:Int)<=40/\(x.aU3.length:Int)<=40/\(x.made.length:Int)<=40/\(l.length:Int)<=12)&&x.aT4.all (λt=>t.bQ.fits)&&l.all U4.K2
def aAA(x:X4)(l:List U4)(hx:∀t∈x.aT4,t.bQ.cR<=2^40/\t.bQ.wt)(hl:l.length<=2^40)(ht:x.aT4.length<=2^40):Pu 8 [.d (.agg x.aT1),.d (.sl 4 (l.map U4.aT1))] (.d (cb (CI x l))):=by
 refine iC mix Tryz.func8 ?_
 repeat'(first|refine bl ?_|refine bS (λh=>?_) (λh=>?_))
 any_goals((with_reducible show A1 _ _ _);refine dP ?_;rw[CI];simp_all;try omega)
 have e0:CI x l=(x.aT4.all (λt=>t.bQ.fits)&&l.all U4.K2):=by rw[CI];simp_all;try omega
 rw[e0];refine bV mix (λi:Nat=>i<=x.aT4.length/\(x.aT4.take i).all (λt=>t.bQ.fits)=true) (I:=λi=>[(1,.d (.sl 4 (l.map U4.aT1))),(2,.lp 1 0),(5,.d (ci i))])
  (J:=λi=>[(1,.cells false (x.aT1.map A.d))]) (μ:=λi=>x.aT4.length -i) 20 0 ⟨oM,rfl⟩ (cN.swap 5000 5001 tV ⟨rfl,rfl,rfl,tV⟩ ⟨rfl,tV⟩ ⟨tV,⟨nofun,tV⟩,tV,tV⟩ ⟨tV,tV⟩) ?_
 rintro i ⟨hi,J3⟩
 repeat'(first|refine bl ?_|refine bS (λh=>?_) (λh=>?_))
 ·have uJ:i<x.aT4.length:=oM;refine cD rfl eD uJ ?_;conv=>whnf
  skip
  have hwi:=hx _ (aY uJ);refine aF (aF8 x.aT4[i].bQ hwi.1 hwi.2) ?_;conv=>whnf
  repeat'(first|refine bl ?_|refine bS (λh=>?_) (λh=>?_))
  ·have hf:(x.aT4.all λt=>t.bQ.fits)=false:=by
    rw[iA];exact⟨x.aT4[i],aY uJ,by simp_all⟩
   rw[hf];exact .one (.d _)
  ·refine⟨i+1,oM,⟨oM,?_⟩,cN.swap 5000 5001 tV ⟨rfl,rfl,rfl,tV⟩ ⟨rfl,tV⟩ ⟨tV,⟨nofun,tV⟩,tV,tV⟩ ⟨tV,tV⟩⟩;rw[iT,gQ,J3];simp_all
 ·have e:x.aT4.take i=x.aT4:=aI oM;rw[e]at J3;rw[J3,cA];refine bV mix (λi:Nat=>i<=l.length/\(l.take i).all U4.K2=true) (I:=λi=>[(1,.d (.sl 4 (l.map U4.aT1))),(6,.d (ci i))])
   (J:=λi=>[]) (μ:=λi=>l.length -i) 20 0 ⟨oM,rfl⟩ (cN.swap 5000 5001 tV ⟨rfl,rfl,tV⟩ tV ⟨tV,tV,tV⟩ tV) ?_
  rintro j ⟨hj,htj⟩
  repeat'(first|refine bl ?_|refine bS (λh=>?_) (λh=>?_))
  ·have hjl:j<l.length:=oM;refine cD rfl eD hjl ?_;conv=>whnf
   repeat'(first|refine bl ?_|refine bS (λh=>?_) (λh=>?_))
   any_goals refine cD rfl eD hjl (bw ?_)
   repeat'(first|refine bl ?_|refine bS (λh=>?_) (λh=>?_))
   any_goals((with_reducible show A1 _ _ _)
             rw[show l.all U4.K2=false from iA.2 ⟨l[j],aY hjl,by simp_all[U4.K2]<;>omega⟩]
             exact .one (.d _))
   refine⟨j+1,oM,⟨oM,?_⟩,cN.swap 5000 5001 tV ⟨rfl,rfl,tV⟩ tV ⟨tV,tV,tV⟩ tV⟩;rw[iT,gQ,htj];simp_all[U4.K2]
  ·have e:l.take j=l:=aI oM;rw[e]at htj;rw[htj];exact .one (.d _)
structure D4 where
 parents:List Int
 cut:List Bool
 aT4:List T4
 facets:List ((Int×Int)×Int)
 last:Int
 made:List Int
def D4.aT1(w:D4):List C:=[.sl 1 (iR w.parents),.sl 1 (w.cut.map λb=>[cb b]),.im (w.aT4.map λt=>.one (.int .i64 t.ref)) (w.aT4.map λt=>.ip t.bQ.aT1),.im (w.facets.map λf=>.agg [.int .i64 f.1.1,.int .u8 f.1.2]) (w.facets.map λf=>ci f.2),ci w.last,.sl 1 (iR w.made)]
def vQ(w:D4):Pu 70 [.d (.ip w.aT1)] (.d (cb false)):=by
 refine iC mix Tryz.func70 ?_;refine bl ?_
 all_goals(refine dP ?_;simp_all)
def o4(w:D4):Pu 60 [.d (.ip w.aT1)] (.d (ci w.made.length)):=by
 refine iC mix Tryz.func60 ?_;refine bl ?_
 any_goals refine aF (vQ w) (bw ?_)
 refine bl ?_
 all_goals(refine oF ?_;simp)
def D4.HU(w:D4)(s:Int):Bool:=decide (0<=s)&&decide (s<w.made.length)
def aIL(w:D4)(s:Int)(h1:-9223372036854775808<=s)(h2:s<=9223372036854775807):Pu 119 [.d (.ip w.aT1),.d (ci s)] (.d (cb (w.HU s))):=by
 refine iC mix Tryz.func119 ?_
 repeat'(first|refine bl ?_|refine bS (λh=>?_) (λh=>?_))
 any_goals refine aF (o4 w) (bw ?_)
 refine bl ?_
 all_goals(refine dP ?_;simp_all[D4.HU];try(intros;omega))
def D4.vF(w:D4)(s:Int):Bool:=decide (0<s)&&decide (s<w.made.length)
def XW(w:D4)(s:Int):Pu 116 [.d (.ip w.aT1),.d (ci s)] (.d (cb (w.vF s))):=by
 refine iC mix Tryz.func116 ?_
 repeat'(first|refine bl ?_|refine bS (λh=>?_) (λh=>?_))
 any_goals refine aF (o4 w) (bw ?_)
 refine bl ?_
 all_goals(refine dP ?_;simp_all[D4.vF];try(intros;omega))
def M5{α:Type}(p:α->Bool):∀(L:List α)(i:Nat)(h:i<L.length),L.any p=(p L[i]||(L.eraseIdx i).any p)
 |[],i,h=>by simp at h
 |a::r,0,h=>sM
 |a::r,i+1,h=>by
  simp only[List.any_cons,cJ,gK];rw[M5 p r i (by simpa using h),Bool.or_left_comm]
def xL{α:Type}(L:List α)(i:Nat)(h:i<L.length):(L.eraseIdx i).length<L.length:=by rw[List.length_eraseIdx_of_lt h];omega
def T4.kv(t:T4):Ky×C:=(.one (.int .i64 t.ref),.ip t.bQ.aT1)
def D4.QN(w:D4)(r k of:Int):Bool:=w.aT4.any λt=>decide (t.ref≠r)&&(decide (t.bQ.kind=k)&&decide (t.bQ.of=of))
def TT(w:D4)(r k of:Int):Pu 149 [.d (.ip w.aT1),.d (ci r),.d (.v (.int .u8 k)),.d (ci of)] (.d (cb (w.QN r k of))):=by
 refine iC mix Tryz.func149 ?_;refine bl ?_;refine xI rfl ?_;conv=>whnf
 refine bl ?_;refine bV mix (λa:Option (Ky×C)×List T4=>w.QN r k of=a.2.any λt=>decide (t.ref≠r)&&(decide (t.bQ.kind=k)&&decide (t.bQ.of=of))) (I:=λa=>[(15,.h 41),(1,.d (ci r)),(2,.d (.v (.int .u8 k))),(3,.d (ci of))])
  (J:=λa=>[(41,.di a.1 (a.2.map T4.kv))]) (μ:=λa=>a.2.length) 100 (none,w.aT4) rfl (cN.U0 ⟨rfl,rfl,rfl,rfl,tV⟩ rfl) ?_
 rintro⟨cur,L⟩ hL;dsimp only at hL⊢;refine bl ?_;refine EI (λh0=>?_) (λi hi=>?_)
 ·conv=>whnf
  refine bl ?_;refine dP ?_;rw[hL,h0];rfl
 ·rw[M5 _ L i hi]at hL;conv=>whnf
  repeat'(first|refine bl ?_|refine bS (λh=>?_) (λh=>?_))
  ·refine dP ?_;rw[hL];simp_all
  all_goals
   refine⟨(some (T4.kv L[i]),L.eraseIdx i),xL _ _ hi,?_,?_⟩
   ·rw[hL];simp_all
   ·exact mZ
def n8{n b:Nat}{X:Prop}(h:n<=2^38)(hb:Nat.ble b 512=true)(hx:X):TO n b X:=
 ⟨cL (Nat.mul_le_mul h (bD hb)) eD,hx⟩
def A1.sl{m:Mem}{i:Nat}{fz:Bool}{t:TypeId}{es:Nat}{L:List (List C)}(h:m i=some (.fW fz t es (L.map λx=>x.map A.d))):A1 m (.h i) (.d (.sl es L)):=.one (.os h (D6.data m L))
def G6(L:List (List C))(hL:L.length<=2^38)(wP:∀e∈L,e.length=1):Pu 69 [.d (.sl 1 L)] (.d (.sl 1 L)):=by
 refine iC mix Tryz.func69 ?_;refine bl ?_;refine BN.mk (λh0=>?_) ?_
 ·subst h0;conv=>whnf
  refine bl ?_;exact .one (.nl 1)
 ·conv=>whnf
  refine bl ?_;refine n8 (by simp only[aB,aS];omega) kK ?_;conv=>whnf
  refine bl ?_;exact A1.sl (fz:=false) (t:=_) rfl
def DG(L:List (List C))(hL:L.length<=2^38)(wP:∀e∈L,e.length=1):Pu 79 [.d (.sl 1 L)] (.d (.sl 1 L)):=by
 refine iC mix Tryz.func79 ?_;refine bl ?_;refine BN.mk (λh0=>?_) ?_
 ·subst h0;conv=>whnf
  refine bl ?_;exact .one (.nl 1)
 ·conv=>whnf
  refine bl ?_;refine n8 (by simp only[aB,aS];omega) kK ?_;conv=>whnf
  refine bl ?_;exact A1.sl (fz:=false) (t:=_) rfl
def BV(L:List (List C))(hL:L.length<=2^38)(wP:∀e∈L,e.length=5):Pu 125 [.d (.sl 5 L)] (.d (.sl 5 L)):=by
 refine iC mix Tryz.func125 ?_;refine bl ?_;refine BN.mk (λh0=>?_) ?_
 ·subst h0;conv=>whnf
  refine bl ?_;exact .one (.nl 5)
 ·conv=>whnf
  refine bl ?_;refine n8 (by simp only[aB,aS];omega) kK ?_;conv=>whnf
  refine bl ?_;exact A1.sl (fz:=false) (t:=_) rfl
def DF(L:List (List C))(hL:L.length<=2^38)(wP:∀e∈L,e.length=6):Pu 126 [.d (.sl 6 L)] (.d (.sl 6 L)):=by
 refine iC mix Tryz.func126 ?_;refine bl ?_;refine BN.mk (λh0=>?_) ?_
 ·subst h0;conv=>whnf
  refine bl ?_;exact .one (.nl 6)
 ·conv=>whnf
  refine bl ?_;refine n8 (by simp only[aB,aS];omega) kK ?_;conv=>whnf
  refine bl ?_;exact A1.sl (fz:=false) (t:=_) rfl
def PH(L:List (List C))(hL:L.length<=2^38)(wP:∀e∈L,e.length=17):Pu 170 [.d (.sl 17 L)] (.d (.sl 17 L)):=by
 refine iC mix Tryz.func170 ?_;refine bl ?_;refine BN.mk (λh0=>?_) ?_
 ·subst h0;conv=>whnf
  refine bl ?_;exact .one (.nl 17)
 ·conv=>whnf
  refine bl ?_;refine n8 (by simp only[aB,aS];omega) kK ?_;conv=>whnf
  refine bl ?_;exact A1.sl (fz:=false) (t:=_) rfl
def JB(L:List (List C))(hL:L.length<=2^38)(wP:∀e∈L,e.length=1):Pu 172 [.d (.sl 1 L)] (.d (.sl 1 L)):=by
 refine iC mix Tryz.func172 ?_;refine bl ?_;refine BN.mk (λh0=>?_) ?_
 ·subst h0;conv=>whnf
  refine bl ?_;exact .one (.nl 1)
 ·conv=>whnf
  refine bl ?_;refine n8 (by simp only[aB,aS];omega) kK ?_;conv=>whnf
  refine bl ?_;exact A1.sl (fz:=false) (t:=_) rfl
def PF(L:List (List C))(hL:L.length<=2^38)(wP:∀e∈L,e.length=4):Pu 207 [.d (.sl 4 L)] (.d (.sl 4 L)):=by
 refine iC mix Tryz.func207 ?_;refine bl ?_;refine BN.mk (λh0=>?_) ?_
 ·subst h0;conv=>whnf
  refine bl ?_;exact .one (.nl 4)
 ·conv=>whnf
  refine bl ?_;refine n8 (by simp only[aB,aS];omega) kK ?_;conv=>whnf
  refine bl ?_;exact A1.sl (fz:=false) (t:=_) rfl
def zN(L:List (List C))(hL:L.length<=2^38)(hZ:L≠[]):∀(m:Mem)(d:Nat),m d=none->aJ Tryz.prog 125 [.d (.sl 5 L)] m (.ok (.h d)) (aX m d (dU 88 5 L)):=by
 refine iW mix (F:=A.h) (r:=dU 88 5 L) Tryz.func125 rfl kK (bD rfl) rfl (oJ _ _ _) (λ_ _=>rfl) (λi j hj=>by simpa [A.hs]using hj) (λg=>eT g _ _ _) ?_;refine bl ?_;refine BN.mk (λh0=>absurd h0 hZ) ?_;conv=>whnf
 refine bl ?_;refine n8 (by simp only[aB,aS];omega) kK ?_;conv=>whnf
 refine bl ?_;exact⟨_,rfl,rfl⟩
def BU(L:List (List C))(hL:L.length<=2^38)(hZ:L≠[]):∀(m:Mem)(d:Nat),m d=none->aJ Tryz.prog 126 [.d (.sl 6 L)] m (.ok (.h d)) (aX m d (dU 100 6 L)):=by
 refine iW mix (F:=A.h) (r:=dU 100 6 L) Tryz.func126 rfl kK (bD rfl) rfl (oJ _ _ _) (λ_ _=>rfl) (λi j hj=>by simpa [A.hs]using hj) (λg=>eT g _ _ _) ?_;refine bl ?_;refine BN.mk (λh0=>absurd h0 hZ) ?_;conv=>whnf
 refine bl ?_;refine n8 (by simp only[aB,aS];omega) kK ?_;conv=>whnf
 refine bl ?_;exact⟨_,rfl,rfl⟩
def MH(L:List (List C))(hL:L.length<=2^38)(hZ:L≠[]):∀(m:Mem)(d:Nat),m d=none->aJ Tryz.prog 170 [.d (.sl 17 L)] m (.ok (.h d)) (aX m d (dU 210 17 L)):=by
 refine iW mix (F:=A.h) (r:=dU 210 17 L) Tryz.func170 rfl kK (bD rfl) rfl (oJ _ _ _) (λ_ _=>rfl) (λi j hj=>by simpa [A.hs]using hj) (λg=>eT g _ _ _) ?_;refine bl ?_;refine BN.mk (λh0=>absurd h0 hZ) ?_;conv=>whnf
 refine bl ?_;refine n8 (by simp only[aB,aS];omega) kK ?_;conv=>whnf
 refine bl ?_;exact⟨_,rfl,rfl⟩
def MG(L:List (List C))(hL:L.length<=2^38)(hZ:L≠[]):∀(m:Mem)(d:Nat),m d=none->aJ Tryz.prog 207 [.d (.sl 4 L)] m (.ok (.h d)) (aX m d (dU 207 4 L)):=by
 refine iW mix (F:=A.h) (r:=dU 207 4 L) Tryz.func207 rfl kK (bD rfl) rfl (oJ _ _ _) (λ_ _=>rfl) (λi j hj=>by simpa [A.hs]using hj) (λg=>eT g _ _ _) ?_;refine bl ?_;refine BN.mk (λh0=>absurd h0 hZ) ?_;conv=>whnf
 refine bl ?_;refine n8 (by simp only[aB,aS];omega) kK ?_;conv=>whnf
 refine bl ?_;exact⟨_,rfl,rfl⟩
def half{α:Type}(f:α->List C)(z:List C)(L:List α)(i:Nat):List (List C):=(L.take i).map f++List.replicate (L.length -i) z
def DZ{α:Type}(f:α->List C)(z:List C)(L:List α)(i:Nat)(h:i<=L.length):(half f z L i).length=L.length:=by
 simp only[half,aU,aB,cW,aS];omega
def aAL{α:Type}(f:α->List C)(z:List C)(L:List α):half f z L 0=List.replicate L.length z:=by simp[half]
def aDC{α:Type}(f:α->List C)(z:List C)(L:List α):half f z L L.length=L.map f:=by simp[half]
def aDE{α:Type}(f:α->List C)(z:List C)(L:List α)(i:Nat)(h:i<L.length):(half f z L i).set i (f L[i])=half f z L (i+1):=by
 apply aEH
 ·rw[cE,DZ _ _ _ _ oM,DZ _ _ _ _ oM]
 ·intro j h1 h2;rw[cE,DZ _ _ _ _ oM]at h1;simp only[aE4,half,List.getElem_append,aB,cW,fO,aGO,List.getElem_replicate];by_cases e:i=j
  ·subst e;simp only[if_true];rw[dif_pos oM]
  ·simp only[e,if_false];by_cases hj:j<i
   ·rw[dif_pos oM,dif_pos oM]
   ·rw[dif_neg oM,dif_neg oM]
def aDD{α:Type}(f:α->List C)(z:List C)(L:List α)(i:Nat)(h:i<L.length):(half f z L i)[i]?=some z:=by
 rw[half,bO zM];simp only[aB,cW,List.getElem?_replicate];rw[aUF oM]
def gB(L:List (List C))(i:Nat)(r:List C)(h:L[i]?=some r):(bE L)[i]?=some (r.map A.d):=by
 simp[bE,h]
def tU(L:List (List C))(i:Nat)(r:List C):(bE L).set i (r.map A.d)=bE (L.set i r):=by
 simp[bE,qS]
def aJB{zl ce b n:Nat}{fr:Bool}{X:Prop}(h1:Nat.beq zl ce=true)(h2:Nat.blt 0 ce=true)(hn:n<=2^38)(hb:Nat.ble b 512=true)(hf:fr=true)(hx:X):
 xR (decide (zl=ce/\0<ce/\0<=(n:Int)/\(n:Int)<=(n:Int)/\(b:Int)*(n:Int)<=281474976710656/\(n:Int)<=9223372036854775807)&&fr) X:=by
 have h3:=bD hb;have h4:b*n<=512*2^38:=Nat.mul_le_mul h3 hn;refine⟨?_,hx⟩;rw[hf,o6,aUA];have h6:0<ce:=bD h2;refine⟨bB h1,h6,oM,oM,?_,oM⟩;have h5:((b*n:Nat):Int)<=((140737488355328:Nat):Int):=Int.ofNat_le.2 oM;rw[Int.natCast_mul]at h5;omega
def aGE(n:Nat)(z:List C):List.replicate n (z.map A.d)=bE (List.replicate n z):=by simp[bE]
abbrev zV:List C:=[.v (.int .u8 0),ci 0,.v (.string ByteArray.empty),.nl 5,ci 0]
def RB(v:V)(hv:v.cR<=2^38):Pu 167 [.d (.agg v.aT1)] (.d (.agg v.aT1)):=by
 have AZ:=v.fA;have hl:=V.eW v.l;have ih:∀i(h:i<v.l.length),Pu 167 [.d (.agg (V.aT1 v.l[i]))] (.d (.agg (V.aT1 v.l[i]))):=λi h=>
  have:=v.gM i h
  RB v.l[i] (by have:=V.dG v.l i h;omega)
 refine iC mix Tryz.func167 ?_
 repeat'(first|refine bl ?_|refine bS (λh=>?_) (λh=>?_))
 ·show A1 _ _ (.d (.agg [.v (.int .u8 v.kind),ci v.n,.v (.string v.s),.sl 5 (v.l.map V.row),ci v.r]));rw[h];exact .one (.agg (.cons (.d _) (.cons (.d _) (.cons (.d _) (.cons (.nz 0 5) (.cons (.d _) .nil))))))
 ·refine aJB kK kK (by simp only[aB];omega) kK rfl ?_;conv=>whnf
  refine bl ?_;refine bV mix (λi:Nat=>i<=v.l.length) (I:=λi=>[(1,.lp 1 0),(2,.lp 9 0),(3,.h 73),(17,.d (.sl 5 (v.l.map V.row))),(18,.d (ci v.l.length)),(19,.d (ci i))])
   (J:=λi=>[(73,dU 88 5 (half V.aT1 zV v.l i)),(9,.cells false (zV.map A.d)),(1,.cells false (v.aT1.map A.d))]) (μ:=λi=>v.l.length -i) 100 0 oM ?_ ?_
  ·refine mq 5000 5001 ?_;exact cO rfl (by rw[aAL,<-aGE];simp only[aB];rfl)
  intro i hi
  repeat'(first|refine bl ?_|refine bS (λh=>?_) (λh=>?_))
  ·refine eE V.cP rfl eD h ?_;conv=>whnf
   refine bl ?_;refine aF (ih i h) ?_;conv=>whnf
   skip
   refine lG.mk i rfl (by simp only[bE,aB];rw[DZ _ _ _ _ hi];exact h) ?_;conv=>whnf
   skip
   refine fZ.mk (zV.map A.d) (gB _ _ _ (aDD _ _ _ _ h)) ?_;conv=>whnf
   refine bl ?_;refine⟨i+1,oM,oM,?_⟩;refine mq 5000 5001 ?_;exact cO rfl (by rw[<-aDE _ _ _ _ h,<-tU];rfl)
  ·have e:i=v.l.length:=oM;subst e;rw[aDC];show A1 _ _ (.d (.agg [.v (.int .u8 v.kind),ci v.n,.v (.string v.s),.sl 5 (v.l.map V.row),ci v.r]));rw[show V.row=V.aT1 from funext V.cP];exact .one (.agg (.cons (.d _) (.cons (.d _) (.cons (.d _) (.cons (.dU (t:=88) rfl) (.cons (.d _) .nil))))))
 termination_by SizeOf.sizeOf v
def aIS(v:V)(hv:v.cR<=2^38)(hm:v.may=true):Pu 169 [.d (.agg v.aT1)] (.eL [.d (.agg v.aT1),.d (ci 0)]):=by
 refine iC mix Tryz.func169 ?_;refine bl ?_;refine fT (cs:=v.aT1) (v:=.d (cb true)) (hm▸AL v oM) ?_;conv=>whnf
 refine bl ?_;refine fT (cs:=v.aT1) (RB v hv) ?_;conv=>whnf
 refine bl ?_;exact .eL (cs:=[.agg v.aT1,ci 0]) (.cons (.agg (wJ.data _ v.aT1)) (.cons (.d _) .nil))
def E8(v:V)(hv:v.cR<=2^38)(hm:v.may=true):Pu 124 [.d (.agg v.aT1)] (.d (.agg v.aT1)):=by
 refine iC mix Tryz.func124 ?_;refine bl ?_;refine fT (cs:=v.aT1) (aIS v hv hm) ?_;conv=>whnf
 refine bl ?_;exact .one (.agg (wJ.data _ v.aT1))
def EB{α:Type}(f:α->List C)(L:List α)(i:Nat)(h:i<L.length):(L.map f).set i (f L[i])=L.map f:=by
 apply aEH
 ·simp
 ·intro j h1 h2;simp only[aE4,fO];split
  ·rename_i e;subst e;rfl
  ·rfl
def aJ.G5{f:FuncId}{cs:List C}{v:A}(h:∀m,aJ P f [.d (.agg cs)] m (.ok v) m):∀m,aJ P f [.agg (cs.map A.d)] m (.ok v) m:=
 λm=>(h m).args λw M ρ vs h=>aCK (λy h=>I3 h) h
def E4.aJS(v:E4):E4.cR v=1+E4.dB v.l:=by cases v;rfl
def PY(v:E4)(hv:v.cR<=2^38):Pu 171 [.d (.agg v.aT1)] (.d (.agg v.aT1)):=by
 have AZ:=v.aJS;have hl:=E4.eW v.l;have ih:∀i(h:i<v.l.length),Pu 171 [.d (.agg (E4.aT1 v.l[i]))] (.d (.agg (E4.aT1 v.l[i]))):=λi h=>
  have:=v.gM i h
  PY v.l[i] (by have:=E4.dG v.l i h;omega)
 refine iC mix Tryz.func171 ?_;refine bl ?_;by_cases h0:v.l=[]
 ·refine aF (PF _ (by simp only[aB];omega) (by rw[h0];simp)) ?_;conv=>whnf
  refine bl ?_;refine bV mix (λi:Nat=>True) (I:=λi=>[(1,.lp 1 0),(2,.lp 9 0),(11,.d (ci 0)),(12,.d (ci 0))])
   (J:=λi=>[(9,.cells false ([.v (.int .u8 0),ci 0,.v (.string ByteArray.empty),.nl 4].map A.d)),(1,.cells false (v.aT1.map A.d))]) (μ:=λi=>0) 100 0 tV ?_ ?_
  ·refine mq 5000 5001 ?_;rw[h0];rfl
  intro _ _;refine bl ?_;exact .one (.agg (wJ.data _ v.aT1))
 ·refine fQ (MG _ (by simp only[aB];omega) (by simpa using h0)) 1000 rfl ?_;conv=>whnf
  refine bl ?_;refine bV mix (λi:Nat=>i<=v.l.length) (I:=λi=>[(1,.lp 1 0),(2,.lp 9 0),(10,.h 1000),(11,.d (ci v.l.length)),(12,.d (ci i))])
   (J:=λi=>[(1000,dU 207 4 (v.l.map E4.aT1)),(9,.cells false ([.v (.int .u8 0),ci 0,.v (.string ByteArray.empty),.nl 4].map A.d)),(1,.cells false [.d (.v (.int .u8 v.kind)),.d (ci v.n),.d (.v (.string v.s)),.h 1000])]) (μ:=λi=>v.l.length -i) 100 0 oM ?_ ?_
  ·refine mq 5000 5001 ?_;rw[show E4.row=E4.aT1 from funext E4.cP];exact cO rfl rfl
  intro i hi
  repeat'(first|refine bl ?_|refine bS (λh=>?_) (λh=>?_))
  ·refine lG.mk i rfl (by simp only[bE,aB];exact h) ?_;conv=>whnf
   refine fZ.mk ((E4.aT1 v.l[i]).map A.d) (gB _ _ _ (by simp[h])) ?_;conv=>whnf
   refine bl ?_;refine cH (aJ.G5 (ih i h)) ?_;conv=>whnf
   skip
   refine lG.mk i rfl (by simp only[bE,aB];exact h) ?_;conv=>whnf
   refine fZ.mk ((E4.aT1 v.l[i]).map A.d) (gB _ _ _ (by simp[h])) ?_;conv=>whnf
   refine bl ?_;refine⟨i+1,oM,oM,?_⟩;refine mq 5000 5001 ?_;exact cO rfl (by rw[show mM (List.map A.d v.l[i].aT1) 0 (List.map A.d v.l[i].aT1)=List.map A.d v.l[i].aT1 from rfl,tU,EB])
  ·show A1 _ _ (.d (.agg [.v (.int .u8 v.kind),ci v.n,.v (.string v.s),.sl 4 (v.l.map E4.row)]));rw[show E4.row=E4.aT1 from funext E4.cP];exact .one (.agg (.cons (.d _) (.cons (.d _) (.cons (.d _) (.cons (.dU (t:=207) rfl) .nil)))))
 termination_by SizeOf.sizeOf v
variable{α:Type}
def xK(f:α->List C)(L:List α)(i:Nat)(h:i<L.length){row:List A}(hr:row=(f L[i]).map A.d):(bE (L.map f)).set i row=bE (L.map f):=by
 rw[hr,tU,EB]
def a7P(l:List S4)(hv:S4.dB l<=2^38):Pu 127 [.d (.sl 17 (l.map S4.row))] (.d (.sl 17 (l.map S4.row))):=by
 have hl:=S4.eW l;have hg:∀i(h:i<l.length),S4.dB l[i].t<S4.dB l/\S4.dB l[i].e<S4.dB l/\S4.dB l[i].c<S4.dB l/\l[i].a.cR<=2^38/\l[i].b.cR<=2^38/\l[i].w.length<=2^38:=λi h=>by
  have h1:=S4.dG l i h;have h2:=l[i].fA;refine⟨?_,?_,?_,?_,?_,?_⟩<;>omega
 have iht:∀i(h:i<l.length),Pu 127 [.d (.sl 17 (l[i].t.map S4.row))] (.d (.sl 17 (l[i].t.map S4.row))):=λi h=>
  have:=hg i h
  a7P l[i].t oM
 have ihe:∀i(h:i<l.length),Pu 127 [.d (.sl 17 (l[i].e.map S4.row))] (.d (.sl 17 (l[i].e.map S4.row))):=λi h=>
  have:=hg i h
  a7P l[i].e oM
 have ihc:∀i(h:i<l.length),Pu 127 [.d (.sl 17 (l[i].c.map S4.row))] (.d (.sl 17 (l[i].c.map S4.row))):=λi h=>
  have:=hg i h
  a7P l[i].c oM
 refine iC mix Tryz.func127 ?_;refine bl ?_;by_cases h0:l=[]
 ·subst h0;refine aF (PH _ sM sM) ?_;conv=>whnf
  refine bl ?_;refine bV mix (λi:Nat=>True) (I:=λi=>[(0,.d (.sl 17 [])),(8,.d (ci 0)),(9,.d (ci 0))])
   (J:=λi=>[]) (μ:=λi=>0) 100 0 tV mZ ?_
  intro _ _;refine bl ?_;exact .one (.d _)
 ·refine fQ (MH _ (by simp only[aB];omega) (by simpa using h0)) 1000 rfl ?_;conv=>whnf
  refine bl ?_;refine bV mix (λi:Nat=>i<=l.length) (I:=λi=>[(0,.h 1000),(7,.h 1000),(8,.d (ci l.length)),(9,.d (ci i))])
   (J:=λi=>[(1000,dU 210 17 (l.map S4.aT1))]) (μ:=λi=>l.length -i) 100 0 oM ?_ ?_
  ·refine mq 5000 5001 ?_;rw[show S4.row=S4.aT1 from funext S4.cP];exact cO rfl rfl
  intro i hi
  repeat'(first|refine bl ?_|refine bS (λh=>?_) (λh=>?_))
  ·refine lG.mk i rfl (by simp only[bE,aB];exact h) ?_;conv=>whnf
   refine fZ.mk ((S4.aT1 l[i]).map A.d) (gB _ _ _ (by simp[h])) ?_;conv=>whnf
   refine bl ?_;obtain⟨g1,g2,g3,g4,g5,g6⟩:=hg i h;refine cH (aJ.G5 (PY l[i].a g4)) ?_;conv=>whnf
   skip
   refine cH (aJ.G5 (PY l[i].b g5)) ?_;conv=>whnf
   refine bl ?_;refine cH (iht i h) ?_;conv=>whnf
   skip
   refine cH (ihe i h) ?_;conv=>whnf
   skip
   refine cH (ihc i h) ?_;conv=>whnf
   refine bl ?_;refine aF (JB _ (by simp only[aB];omega) (by intro e he;obtain⟨s,_,rfl⟩:=aA4.1 he;rfl)) ?_;conv=>whnf
   refine bl ?_;refine lG.mk i rfl (by simp only[bE,aB];exact h) ?_;conv=>whnf
   refine fZ.mk ((S4.aT1 l[i]).map A.d) (gB _ _ _ (by simp[h])) ?_;conv=>whnf
   refine bl ?_;refine⟨i+1,oM,oM,?_⟩;refine mq 5000 5001 ?_;exact cO rfl (xK S4.aT1 l i h rfl)
  ·exact .one (show Rd _ (.h 1000) (.sl 17 (l.map S4.row)) by rw[show S4.row=S4.aT1 from funext S4.cP];exact .dU (t:=210) rfl)
 termination_by S4.dB l
abbrev zW:List C:=[.v (.int .u8 0),ci 0,.v (.int .u8 0),ci 0,cs ByteArray.empty,.nl 5,ci 0,.nl 5,ci 0,ci 0,ci 0,ci 0,.v (.int .u8 0),cb false,.nl 17,.nl 6]
def yX(x:W4)(hx:x.cR<=2^38)(hm1:x.value.may=true)(hm2:∀i(h:i<x.values.length),x.values[i].may=true)(hm3:∀i(h:i<x.names.length),x.names[i].value.may=true):Pu 66 [.d (.agg x.aT1)] (.d (.agg x.aT1)):=by
 have hc:x.cR=x.value.cR+V.dB x.values+S4.dB x.code+x.names.length+V.dB (x.names.map (·.value)):=rfl;have wF:∀i(h:i<x.values.length),x.values[i].cR<=2^38:=λi h=>by have:=V.dG x.values i h;omega
 have SU:∀i(h:i<x.names.length),x.names[i].value.cR<=2^38:=λi h=>by
  have:=V.dG (x.names.map (·.value)) i (by simpa using h);simp only[fO]at this;omega
 have hlv:=V.eW x.values;refine iC mix Tryz.func66 ?_;refine bl ?_;refine aF (aJ.G5 (E8 x.value oM hm1)) ?_;conv=>whnf
 refine bl ?_;by_cases hv:x.values=[]<;>by_cases hn:x.names=[]
 ·refine aF (BV _ (by simp only[aB];omega) (by rw[hv];simp)) ?_;conv=>whnf
  refine bl ?_;refine bV mix (λi:Nat=>i<=x.values.length) (I:=λi=>[(1,.lp 1 0),(2,.lp 9 0),(16,.d (.sl 5 (x.values.map V.row))),(17,.d (ci x.values.length)),(18,.d (ci i))])
   (J:=λi=>[(9,.cells false (zW.map A.d)),(1,.cells false [.d (.v (.int .u8 x.kind)),.d (ci x.home),.d (.v (.int .u8 x.value.kind)),.d (ci x.value.n),.d (cs x.value.s),.d (.sl 5 (x.value.l.map V.row)),.d (ci x.value.r),.d (.sl 5 (x.values.map V.row)),.d (ci x.n),.d (ci x.lost),.d (ci x.of),.d (ci x.by_),.d (.v (.int .u8 x.set)),.d (cb x.full),.d (.sl 17 (x.code.map S4.row)),.d (.sl 6 (x.names.map N4.aT1))])]) (μ:=λi=>x.values.length -i) 3000 0 oM ?_ ?_
  ·exact mZ
  intro i hi
  repeat'(first|refine bl ?_|refine bS (λh=>?_) (λh=>?_))
  ·exact absurd h (by rw[hv];simp)
  clear hi;refine aF (DF _ (by simp only[aB];omega) (by rw[hn];simp)) ?_;conv=>whnf
  refine bl ?_;refine bV mix (λi:Nat=>i<=x.names.length) (I:=λi=>[(1,.lp 1 0),(2,.lp 9 0),(35,.d (.sl 6 (x.names.map N4.aT1))),(36,.d (ci x.names.length)),(37,.d (ci i))])
   (J:=λi=>[(9,.cells false (zW.map A.d)),(1,.cells false [.d (.v (.int .u8 x.kind)),.d (ci x.home),.d (.v (.int .u8 x.value.kind)),.d (ci x.value.n),.d (cs x.value.s),.d (.sl 5 (x.value.l.map V.row)),.d (ci x.value.r),.d (.sl 5 (x.values.map V.row)),.d (ci x.n),.d (ci x.lost),.d (ci x.of),.d (ci x.by_),.d (.v (.int .u8 x.set)),.d (cb x.full),.d (.sl 17 (x.code.map S4.row)),.d (.sl 6 (x.names.map N4.aT1))])]) (μ:=λi=>x.names.length -i) 3000 0 oM ?_ ?_
  ·exact mZ
  intro i hi
  repeat'(first|refine bl ?_|refine bS (λh=>?_) (λh=>?_))
  ·exact absurd h (by rw[hn];simp)
  refine aF (a7P x.code oM) ?_;conv=>whnf
  refine bl ?_;show A1 _ _ (.d (.agg [.v (.int .u8 x.kind),ci x.home,.v (.int .u8 x.value.kind),ci x.value.n,cs x.value.s,.sl 5 (x.value.l.map V.row),ci x.value.r,.sl 5 (x.values.map V.row),ci x.n,ci x.lost,ci x.of,ci x.by_,.v (.int .u8 x.set),cb x.full,.sl 17 (x.code.map S4.row),.sl 6 (x.names.map N4.aT1)]));exact .one (.agg (.cons (.d _) (.cons (.d _) (.cons (.d _) (.cons (.d _) (.cons (.d _) (.cons (.d _) (.cons (.d _) (.cons (.d _) (.cons (.d _) (.cons (.d _) (.cons (.d _) (.cons (.d _) (.cons (.d _) (.cons (.d _) (.cons (.d _) (.cons (.d _) .nil)))))))))))))))))
 ·refine aF (BV _ (by simp only[aB];omega) (by rw[hv];simp)) ?_;conv=>whnf
  refine bl ?_;refine bV mix (λi:Nat=>i<=x.values.length) (I:=λi=>[(1,.lp 1 0),(2,.lp 9 0),(16,.d (.sl 5 (x.values.map V.row))),(17,.d (ci x.values.length)),(18,.d (ci i))])
   (J:=λi=>[(9,.cells false (zW.map A.d)),(1,.cells false [.d (.v (.int .u8 x.kind)),.d (ci x.home),.d (.v (.int .u8 x.value.kind)),.d (ci x.value.n),.d (cs x.value.s),.d (.sl 5 (x.value.l.map V.row)),.d (ci x.value.r),.d (.sl 5 (x.values.map V.row)),.d (ci x.n),.d (ci x.lost),.d (ci x.of),.d (ci x.by_),.d (.v (.int .u8 x.set)),.d (cb x.full),.d (.sl 17 (x.code.map S4.row)),.d (.sl 6 (x.names.map N4.aT1))])]) (μ:=λi=>x.values.length -i) 3000 0 oM ?_ ?_
  ·exact mZ
  intro i hi
  repeat'(first|refine bl ?_|refine bS (λh=>?_) (λh=>?_))
  ·exact absurd h (by rw[hv];simp)
  clear hi;refine fQ (BU _ (by simp only[aB];omega) (by simpa using hn)) 2000 rfl ?_;conv=>whnf
  refine bl ?_;refine bV mix (λi:Nat=>i<=x.names.length) (I:=λi=>[(1,.lp 1 0),(2,.lp 9 0),(35,.h 2000),(36,.d (ci x.names.length)),(37,.d (ci i))])
   (J:=λi=>[(2000,dU 100 6 (x.names.map N4.aT1)),(9,.cells false (zW.map A.d)),(1,.cells false [.d (.v (.int .u8 x.kind)),.d (ci x.home),.d (.v (.int .u8 x.value.kind)),.d (ci x.value.n),.d (cs x.value.s),.d (.sl 5 (x.value.l.map V.row)),.d (ci x.value.r),.d (.sl 5 (x.values.map V.row)),.d (ci x.n),.d (ci x.lost),.d (ci x.of),.d (ci x.by_),.d (.v (.int .u8 x.set)),.d (cb x.full),.d (.sl 17 (x.code.map S4.row)),.h 2000])]) (μ:=λi=>x.names.length -i) 3000 0 oM ?_ ?_
  ·exact mZ
  intro i hi
  repeat'(first|refine bl ?_|refine bS (λh=>?_) (λh=>?_))
  ·refine lG.mk i rfl (by simp only[bE,aB];exact h) ?_;conv=>whnf
   refine fZ.mk ((N4.aT1 x.names[i]).map A.d) (gB _ _ _ (by simp[h])) ?_;conv=>whnf
   refine bl ?_;refine cH (aJ.G5 (E8 x.names[i].value (SU i h) (hm3 i h))) ?_;conv=>whnf
   skip
   refine lG.mk i rfl (by simp only[bE,aB];exact h) ?_;conv=>whnf
   refine fZ.mk ((N4.aT1 x.names[i]).map A.d) (gB _ _ _ (by simp[h])) ?_;conv=>whnf
   refine bl ?_;refine⟨i+1,oM,oM,?_⟩;refine mq 5000 5001 ?_;exact cO rfl (xK N4.aT1 x.names i h rfl)
  refine aF (a7P x.code oM) ?_;conv=>whnf
  refine bl ?_;show A1 _ _ (.d (.agg [.v (.int .u8 x.kind),ci x.home,.v (.int .u8 x.value.kind),ci x.value.n,cs x.value.s,.sl 5 (x.value.l.map V.row),ci x.value.r,.sl 5 (x.values.map V.row),ci x.n,ci x.lost,ci x.of,ci x.by_,.v (.int .u8 x.set),cb x.full,.sl 17 (x.code.map S4.row),.sl 6 (x.names.map N4.aT1)]));exact .one (.agg (.cons (.d _) (.cons (.d _) (.cons (.d _) (.cons (.d _) (.cons (.d _) (.cons (.d _) (.cons (.d _) (.cons (.d _) (.cons (.d _) (.cons (.d _) (.cons (.d _) (.cons (.d _) (.cons (.d _) (.cons (.d _) (.cons (.d _) (.cons (.dU (t:=100) rfl) .nil)))))))))))))))))
 ·refine fQ (zN _ (by simp only[aB];omega) (by simpa using hv)) 1000 rfl ?_;conv=>whnf
  refine bl ?_;refine bV mix (λi:Nat=>i<=x.values.length) (I:=λi=>[(1,.lp 1 0),(2,.lp 9 0),(16,.h 1000),(17,.d (ci x.values.length)),(18,.d (ci i))])
   (J:=λi=>[(1000,dU 88 5 (x.values.map V.aT1)),(9,.cells false (zW.map A.d)),(1,.cells false [.d (.v (.int .u8 x.kind)),.d (ci x.home),.d (.v (.int .u8 x.value.kind)),.d (ci x.value.n),.d (cs x.value.s),.d (.sl 5 (x.value.l.map V.row)),.d (ci x.value.r),.h 1000,.d (ci x.n),.d (ci x.lost),.d (ci x.of),.d (ci x.by_),.d (.v (.int .u8 x.set)),.d (cb x.full),.d (.sl 17 (x.code.map S4.row)),.d (.sl 6 (x.names.map N4.aT1))])]) (μ:=λi=>x.values.length -i) 3000 0 oM ?_ ?_
  ·refine mq 5000 5001 ?_;rw[show V.row=V.aT1 from funext V.cP];exact cO rfl rfl
  intro i hi
  repeat'(first|refine bl ?_|refine bS (λh=>?_) (λh=>?_))
  ·refine lG.mk i rfl (by simp only[bE,aB];exact h) ?_;conv=>whnf
   refine fZ.mk ((V.aT1 x.values[i]).map A.d) (gB _ _ _ (by simp[h])) ?_;conv=>whnf
   refine bl ?_;refine cH (aJ.G5 (E8 x.values[i] (wF i h) (hm2 i h))) ?_;conv=>whnf
   skip
   refine lG.mk i rfl (by simp only[bE,aB];exact h) ?_;conv=>whnf
   refine fZ.mk ((V.aT1 x.values[i]).map A.d) (gB _ _ _ (by simp[h])) ?_;conv=>whnf
   refine bl ?_;refine⟨i+1,oM,oM,?_⟩;refine mq 5000 5001 ?_;exact cO rfl (xK V.aT1 x.values i h rfl)
  clear hi;refine aF (DF _ (by simp only[aB];omega) (by rw[hn];simp)) ?_;conv=>whnf
  refine bl ?_;refine bV mix (λi:Nat=>i<=x.names.length) (I:=λi=>[(1,.lp 1 0),(2,.lp 9 0),(35,.d (.sl 6 (x.names.map N4.aT1))),(36,.d (ci x.names.length)),(37,.d (ci i))])
   (J:=λi=>[(1000,dU 88 5 (x.values.map V.aT1)),(9,.cells false (zW.map A.d)),(1,.cells false [.d (.v (.int .u8 x.kind)),.d (ci x.home),.d (.v (.int .u8 x.value.kind)),.d (ci x.value.n),.d (cs x.value.s),.d (.sl 5 (x.value.l.map V.row)),.d (ci x.value.r),.h 1000,.d (ci x.n),.d (ci x.lost),.d (ci x.of),.d (ci x.by_),.d (.v (.int .u8 x.set)),.d (cb x.full),.d (.sl 17 (x.code.map S4.row)),.d (.sl 6 (x.names.map N4.aT1))])]) (μ:=λi=>x.names.length -i) 3000 0 oM ?_ ?_
  ·exact mZ
  intro i hi
  repeat'(first|refine bl ?_|refine bS (λh=>?_) (λh=>?_))
  ·exact absurd h (by rw[hn];simp)
  refine aF (a7P x.code oM) ?_;conv=>whnf
  refine bl ?_;show A1 _ _ (.d (.agg [.v (.int .u8 x.kind),ci x.home,.v (.int .u8 x.value.kind),ci x.value.n,cs x.value.s,.sl 5 (x.value.l.map V.row),ci x.value.r,.sl 5 (x.values.map V.row),ci x.n,ci x.lost,ci x.of,ci x.by_,.v (.int .u8 x.set),cb x.full,.sl 17 (x.code.map S4.row),.sl 6 (x.names.map N4.aT1)]));exact .one (.agg (.cons (.d _) (.cons (.d _) (.cons (.d _) (.cons (.d _) (.cons (.d _) (.cons (.d _) (.cons (.d _) (.cons (by rw[show V.row=V.aT1 from funext V.cP];exact .dU (t:=88) rfl) (.cons (.d _) (.cons (.d _) (.cons (.d _) (.cons (.d _) (.cons (.d _) (.cons (.d _) (.cons (.d _) (.cons (.d _) .nil)))))))))))))))))
 ·refine fQ (zN _ (by simp only[aB];omega) (by simpa using hv)) 1000 rfl ?_;conv=>whnf
  refine bl ?_;refine bV mix (λi:Nat=>i<=x.values.length) (I:=λi=>[(1,.lp 1 0),(2,.lp 9 0),(16,.h 1000),(17,.d (ci x.values.length)),(18,.d (ci i))])
   (J:=λi=>[(1000,dU 88 5 (x.values.map V.aT1)),(9,.cells false (zW.map A.d)),(1,.cells false [.d (.v (.int .u8 x.kind)),.d (ci x.home),.d (.v (.int .u8 x.value.kind)),.d (ci x.value.n),.d (cs x.value.s),.d (.sl 5 (x.value.l.map V.row)),.d (ci x.value.r),.h 1000,.d (ci x.n),.d (ci x.lost),.d (ci x.of),.d (ci x.by_),.d (.v (.int .u8 x.set)),.d (cb x.full),.d (.sl 17 (x.code.map S4.row)),.d (.sl 6 (x.names.map N4.aT1))])]) (μ:=λi=>x.values.length -i) 3000 0 oM ?_ ?_
  ·refine mq 5000 5001 ?_;rw[show V.row=V.aT1 from funext V.cP];exact cO rfl rfl
  intro i hi
  repeat'(first|refine bl ?_|refine bS (λh=>?_) (λh=>?_))
  ·refine lG.mk i rfl (by simp only[bE,aB];exact h) ?_;conv=>whnf
   refine fZ.mk ((V.aT1 x.values[i]).map A.d) (gB _ _ _ (by simp[h])) ?_;conv=>whnf
   refine bl ?_;refine cH (aJ.G5 (E8 x.values[i] (wF i h) (hm2 i h))) ?_;conv=>whnf
   skip
   refine lG.mk i rfl (by simp only[bE,aB];exact h) ?_;conv=>whnf
   refine fZ.mk ((V.aT1 x.values[i]).map A.d) (gB _ _ _ (by simp[h])) ?_;conv=>whnf
   refine bl ?_;refine⟨i+1,oM,oM,?_⟩;refine mq 5000 5001 ?_;exact cO rfl (xK V.aT1 x.values i h rfl)
  clear hi;refine fQ (BU _ (by simp only[aB];omega) (by simpa using hn)) 2000 rfl ?_;conv=>whnf
  refine bl ?_;refine bV mix (λi:Nat=>i<=x.names.length) (I:=λi=>[(1,.lp 1 0),(2,.lp 9 0),(35,.h 2000),(36,.d (ci x.names.length)),(37,.d (ci i))])
   (J:=λi=>[(2000,dU 100 6 (x.names.map N4.aT1)),(1000,dU 88 5 (x.values.map V.aT1)),(9,.cells false (zW.map A.d)),(1,.cells false [.d (.v (.int .u8 x.kind)),.d (ci x.home),.d (.v (.int .u8 x.value.kind)),.d (ci x.value.n),.d (cs x.value.s),.d (.sl 5 (x.value.l.map V.row)),.d (ci x.value.r),.h 1000,.d (ci x.n),.d (ci x.lost),.d (ci x.of),.d (ci x.by_),.d (.v (.int .u8 x.set)),.d (cb x.full),.d (.sl 17 (x.code.map S4.row)),.h 2000])]) (μ:=λi=>x.names.length -i) 3000 0 oM ?_ ?_
  ·exact mZ
  intro i hi
  repeat'(first|refine bl ?_|refine bS (λh=>?_) (λh=>?_))
  ·refine lG.mk i rfl (by simp only[bE,aB];exact h) ?_;conv=>whnf
   refine fZ.mk ((N4.aT1 x.names[i]).map A.d) (gB _ _ _ (by simp[h])) ?_;conv=>whnf
   refine bl ?_;refine cH (aJ.G5 (E8 x.names[i].value (SU i h) (hm3 i h))) ?_;conv=>whnf
   skip
   refine lG.mk i rfl (by simp only[bE,aB];exact h) ?_;conv=>whnf
   refine fZ.mk ((N4.aT1 x.names[i]).map A.d) (gB _ _ _ (by simp[h])) ?_;conv=>whnf
   refine bl ?_;refine⟨i+1,oM,oM,?_⟩;refine mq 5000 5001 ?_;exact cO rfl (xK N4.aT1 x.names i h rfl)
  refine aF (a7P x.code oM) ?_;conv=>whnf
  refine bl ?_;show A1 _ _ (.d (.agg [.v (.int .u8 x.kind),ci x.home,.v (.int .u8 x.value.kind),ci x.value.n,cs x.value.s,.sl 5 (x.value.l.map V.row),ci x.value.r,.sl 5 (x.values.map V.row),ci x.n,ci x.lost,ci x.of,ci x.by_,.v (.int .u8 x.set),cb x.full,.sl 17 (x.code.map S4.row),.sl 6 (x.names.map N4.aT1)]));exact .one (.agg (.cons (.d _) (.cons (.d _) (.cons (.d _) (.cons (.d _) (.cons (.d _) (.cons (.d _) (.cons (.d _) (.cons (by rw[show V.row=V.aT1 from funext V.cP];exact .dU (t:=88) rfl) (.cons (.d _) (.cons (.d _) (.cons (.d _) (.cons (.d _) (.cons (.d _) (.cons (.d _) (.cons (.d _) (.cons (.dU (t:=100) rfl) .nil)))))))))))))))))
abbrev kI(n:Int):Ky:=.one (.int .i64 n)
def wZ{α:Type}(key:α->Int)(val:α->A)(r:Int):∀L:List α,fL (kI r) (L.map λt=>(kI (key t),val t))=(L.find? λt=>decide (key t=r)).map val
 |[]=>rfl
 |t::L=>by
  simp only[aG,fL,eN];by_cases h:key t=r
  ·simp[h]
  ·have:¬kI r=kI (key t):=by simp[kI];exact λe=>h e.symm
   simp only[this,if_false,h,decide_false];exact wZ key val r L
def aGD{α:Type}(f:α->Ky)(g:α->C)(L:List α):(L.map f).zip ((L.map g).map A.d)=L.map λt=>(f t,A.d (g t)):=by
 induction L with
 |nil=>rfl
 |cons a r ih=>simp only[aG,List.zip_cons_cons,ih]
def aJ1{kt:TypeId}{α:Type}(key:α->Int)(val:α->A)(r:Int)(L:List α)(hk:KC.fits P kt (.int .i64 0)=true):kH P kt (kI r) (L.map λt=>(kI (key t),val t))=true:=by
 have h1:(kI r).fits P kt=true:=hk;unfold kH;rw[h1,cA,cV];intro p hp;obtain⟨t,_,rfl⟩:=aA4.1 hp;rfl
def lkI{α:Type}{key:α->Int}{val:α->A}{L:List α}{kt:TypeId}{r:Int}{k1:A->Prop}{k0:Prop}(hk:KC.fits P kt (.int .i64 0)=true)(h1:∀t,(L.find? λt=>decide (key t=r))=some t->k1 (val t))(h0:(L.find? λt=>decide (key t=r))=none->k0):
 n5 (kH P kt (kI r) (L.map λt=>(kI (key t),val t))) (fL (kI r) (L.map λt=>(kI (key t),val t))) k1 k0:=by
 have hf:=aJ1 (P:=P) key val r L hk;cases h:L.find? λt=>decide (key t=r)with
 |none=>exact .BP hf (by rw[wZ,h];rfl) (h0 h)
 |some t=>exact .CL (val t) hf (by rw[wZ,h];rfl) (h1 t h)
def EA{α:Type}{key:α->Int}{g:α->C}{L:List α}{kt:TypeId}{r:Int}{k1:A->Prop}{k0:Prop}(hk:KC.fits P kt (.int .i64 0)=true)(h1:∀t,(L.find? λt=>decide (key t=r))=some t->k1 (.d (g t)))(h0:(L.find? λt=>decide (key t=r))=none->k0):
 n5 (kH P kt (kI r) ((L.map λt=>kI (key t)).zip ((L.map g).map A.d))) (fL (kI r) ((L.map λt=>kI (key t)).zip ((L.map g).map A.d))) k1 k0:=by
 rw[aGD];exact lkI hk h1 h0
def CW{a b:Int}(h:a=b):A1 m (.d (.v (.int .u8 a))) (.d (.v (.int .u8 b))):=by rw[h];exact .one (.d _)
def D4.find(w:D4)(r:Int):Option T4:=w.aT4.find? λt=>decide (t.ref=r)
def D4.mI(w:D4)(r:Int):Bool:=(w.find r).isSome
def sB(w:D4)(r:Int):Pu 27 [.d (.ip w.aT1),.d (ci r)] (.d (cb (w.mI r))):=by
 refine iC mix Tryz.func27 ?_
 repeat'(first|refine bl ?_|fail)
 refine aF (vQ w) ?_;conv=>whnf
 repeat'(first|refine bl ?_|fail)
 refine EA eD (λt ht=>?_) (λht=>?_)
 ·conv=>whnf
  repeat'(first|refine bl ?_|fail)
  refine dP ?_;unfold D4.mI D4.find;rw[ht];rfl
 ·conv=>whnf
  repeat'(first|refine bl ?_|fail)
  refine dP ?_;unfold D4.mI D4.find;rw[ht];rfl
def D4.zB(w:D4)(r:Int):Int:=((w.find r).map λt=>t.bQ.kind).getD 0
def P9(w:D4)(r:Int):Pu 94 [.d (.ip w.aT1),.d (ci r)] (.d (.v (.int .u8 (w.zB r)))):=by
 refine iC mix Tryz.func94 ?_
 repeat'(first|refine bl ?_|fail)
 refine aF (sB w r) ?_;conv=>whnf
 repeat'(first|refine bl ?_|refine bS (λh=>?_) (λh=>?_))
 ·refine CW ?_;have:w.find r=none:=by simpa [D4.mI]using h
  unfold D4.zB;rw[this];rfl
 ·refine EA eD (λt ht=>?_) (λht=>?_)
  ·conv=>whnf
   repeat'(first|refine bl ?_|fail)
   refine CW ?_;unfold D4.zB D4.find;rw[ht];rfl
  ·exfalso;unfold D4.mI D4.find at h;rw[ht]at h;cases h
abbrev aB8(a b:Int):Int:=a7O .and .u8 a b
abbrev orI(a b:Int):Int:=a7O .or .u8 a b
def HN(L:List Int):Int:=L.foldl aB8 63
def HK(L:List Int):Int:=L.foldl (λo a=>orI o (aB8 a 63)) 0
abbrev PD(L:List Int):List (List C):=L.map λx=>[.v (.int .u8 x)]
def JY{α β:Type}(f:β->α->β)(z:β)(L:List α)(i:Nat)(h:i<L.length):(L.take (i+1)).foldl f z=f ((L.take i).foldl f z) L[i]:=by
 rw[iT,iB];simp[aC h]
def YP(L:List Int)(hL:L.length<=2^38):Pu 150 [.d (.sl 1 (PD L))] (.d (.v (.int .u8 (HN L)))):=by
 refine iC mix Tryz.func150 ?_
 repeat'(first|refine bl ?_|fail)
 refine bV mix (λi:Nat=>i<=L.length) (I:=λi=>[(3,.d (.v (.int .u8 (HN (L.take i))))),(6,.d (.sl 1 (PD L))),(7,.d (ci L.length)),(8,.d (ci i))])
  (J:=λi=>[]) (μ:=λi=>L.length -i) 100 0 oM mZ ?_
 intro i hi
 repeat'(first|refine bl ?_|refine bS (λh=>?_) (λh=>?_))
 ·refine cD rfl eD h ?_;conv=>whnf
  repeat'(first|refine bl ?_|fail)
  refine⟨i+1,oM,oM,?_⟩;refine mq 5000 5001 ?_;unfold HN;rw[JY _ _ _ _ h];rfl
 ·refine CW ?_;rw[aI h]
def D5(L:List Int)(hL:L.length<=2^38):Pu 184 [.d (.sl 1 (PD L))] (.d (.v (.int .u8 (HK L)))):=by
 refine iC mix Tryz.func184 ?_
 repeat'(first|refine bl ?_|fail)
 refine bV mix (λi:Nat=>i<=L.length) (I:=λi=>[(3,.d (.v (.int .u8 (HK (L.take i))))),(6,.d (.sl 1 (PD L))),(7,.d (ci L.length)),(8,.d (ci i))])
  (J:=λi=>[]) (μ:=λi=>L.length -i) 100 0 oM mZ ?_
 intro i hi
 repeat'(first|refine bl ?_|refine bS (λh=>?_) (λh=>?_))
 ·refine cD rfl eD h ?_;conv=>whnf
  repeat'(first|refine bl ?_|fail)
  refine⟨i+1,oM,oM,?_⟩;refine mq 5000 5001 ?_;unfold HK;rw[JY _ _ _ _ h];rfl
 ·refine CW ?_;rw[aI h]
def C2{f:FuncId}{i:Nat}{fz:Bool}{ty:TypeId}{ml:List (Nat×R)}{k:A->List (Nat×R)->Prop}{v:Value}(L:List Int)(h:∀m,aJ P f [.d (.sl 1 (PD L))] m (.ok (.d (.v v))) m)(hm:aK ml i=some (.fW fz ty 1 ((PD L).map λx=>x.map A.d)))(hk:k (.d (.v v)) []):dZ P f [.h i] ml k:=
 fU (cs:=[.sl 1 (PD L)]) h (.v _) (.cons (.os hm (D6.data _ _)) .nil) hk
def aGR(k:Int):Int:=if k=1 then HK [1,2]else if k=2\/k=3 then HK [1,8]else if k=4 then HK [8,4]else if k=5\/k=6\/k=8\/k=12 then 16 else if k=9 then HK [1,4,8]else if k=10 then 1 else if k=11 then 8 else if k=13 then HK [1,32]else 0
def aJQ(k:Int):Pu 151 [.d (.v (.int .u8 k))] (.d (.v (.int .u8 (aGR k)))):=by
 refine iC mix Tryz.func151 ?_
 repeat'(first|refine bl ?_|refine bS (λh=>?_) (λh=>?_))
 all_goals(try(first|refine C2 [1,2] (D5 _ eD) rfl ?_|refine C2 [1,8] (D5 _ eD) rfl ?_|refine C2 [8,4] (D5 _ eD) rfl ?_|refine C2 [1,4,8] (D5 _ eD) rfl ?_|refine C2 [1,32] (D5 _ eD) rfl ?_)<;>(conv=>whnf))
 repeat'(first|refine bl ?_|fail)
 all_goals(refine CW ?_;simp only[aGR, *];simp)
def D4.MD(w:D4):Nat->Int->Int->Option Int
 |0,_,_=>none
 |n+1,set,r=>match w.find r with
  |none=>some 0
  |some t=>if t.bQ.kind=14 then D4.MD w n (HN [set,t.bQ.set]) t.bQ.of
   else if t.bQ.kind=15\/t.bQ.kind=16 then D4.MD w n set t.bQ.of
   else some (HN [set,aGR t.bQ.kind])
def XF(w:D4)(r:Int)(n:Nat)(v:Int)(h:w.MD n 63 r=some v):Pu 93 [.d (.ip w.aT1),.d (ci r)] (.d (.v (.int .u8 v))):=by
 refine iC mix Tryz.func93 ?_
 repeat'(first|refine bl ?_|fail)
 refine bV mix (λa:Nat×Int×Int=>w.MD a.1 a.2.1 a.2.2=some v) (I:=λa=>[(0,.d (.ip w.aT1)),(1,.d (ci a.2.2)),(5,.d (.v (.int .u8 a.2.1)))])
  (J:=λa=>[]) (μ:=λa=>a.1) 100 (n,63,r) h mZ ?_
 rintro⟨n,set,r⟩ h;dsimp only at h;cases n with
 |zero=>cases h
 |succ n=>
 rw[D4.MD]at h
 repeat'(first|refine bl ?_|fail)
 refine aF (sB w r) ?_;conv=>whnf
 have hi:w.mI r=(w.find r).isSome:=rfl;cases hf:w.find r with
 |none=>
  rw[hf]at h hi;rw[hi];simp only[aA]at h
  repeat'(first|refine bl ?_|fail)
  ·exact CW h
  all_goals simp at h
 |some t=>
  rw[hf]at h hi;rw[hi,Option.isSome_some];dsimp only at h⊢
  repeat'(first|refine bl ?_|fail)
  refine EA eD (λt' ht=>?_) (λht=>by rw[show(List.find? (λt=>decide (t.ref=r)) w.aT4)=w.find r from rfl,hf]at ht;cases ht);have e:t'=t:=by rw[show(List.find? (λt=>decide (t.ref=r)) w.aT4)=w.find r from rfl,hf]at ht;exact(eY ht).symm
  subst e;conv=>whnf
  repeat'(first|refine bl ?_|refine bS (λh=>?_) (λh=>?_))
  ·refine C2 [set,t'.bQ.set] (YP _ sM) rfl ?_;conv=>whnf
   repeat'(first|refine bl ?_|fail)
   refine⟨(n,HN [set,t'.bQ.set],t'.bQ.of),sM,?_,?_⟩
   ·simp_all
   ·exact mZ
  ·refine⟨(n,set,t'.bQ.of),sM,?_,?_⟩
   ·simp_all
   ·exact mZ
  ·refine⟨(n,set,t'.bQ.of),sM,?_,?_⟩
   ·simp_all
   ·exact mZ
  ·refine aF (aJQ _) ?_;conv=>whnf
   skip
   refine C2 [set,aGR t'.bQ.kind] (YP _ sM) rfl ?_;conv=>whnf
   repeat'(first|refine bl ?_|fail)
   refine CW ?_;simp_all
end Go.Pv
