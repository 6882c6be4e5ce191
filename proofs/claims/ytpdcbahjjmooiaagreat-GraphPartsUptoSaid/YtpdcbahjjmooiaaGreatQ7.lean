import Derived.Test.YtpdcbahjjmooiaaGreatQ6
/- Contracts of functions that the law reaches, and their logic. No conditions. -/
set_option linter.all false
set_option maxRecDepth 100000
set_option maxHeartbeats 8000000
open Go
namespace Go.Pv
open Go.RowKit
variable{T:Nat->A}{ops:Array Oper}{l:List (Nat×A)}{ml mb ml' u:List (Nat×R)}{nx n i es:Nat}{c:Code}{m m2 m':Mem}{g:Nat->Nat}{f:FuncId}{as:List A}{k:A->List (Nat×R)->Prop}{v r:A}{fn:Func}{P:Program}{w:World}{M M':Nat->Prop}{ρ:Nat->Value}{t:TypeId}{r':R}{cs:List C}
section
variable{P:Program}
def zK{T':Nat->A}{c:Call}(h:∀x∈c.operands.toList,dN T' x=dN T x):mO T' c=mO T c:=by
 have⟨callee,args,tys⟩:=c;unfold mO;cases callee with
 |value fo=>
  have e1:dN T' fo=dN T fo:=h fo (by simp[Call.operands]);have e2:args.toList.map (dN T')=args.toList.map (dN T):=cQ λx hx=>h x (by simp[Call.operands];simp at hx;first|exact .inr hx|exact .inl hx);simp[e1,e2]
 |_=>rfl
def aGX{o:Oper}{k:A->Prop}(h:aJW P l ml nx o k):
 ∃v,k v/\∀(T':Nat->A)(m':Mem),(∀x∈o.looksAt ops,T' x=lT l x)->(∀i∈nx::(o.looksAt ops).flatMap λt=>(lT l t).hs,m' i=aK ml i)->qT P o T' m' v m':=by
 have key0:shallow o=true->∀{v:A},eM P (aK ml) (lT l) nx o=some (true,v,[])->k v->∃v,k v/\∀(T':Nat->A)(m':Mem),(∀x∈o.looksAt ops,T' x=lT l x)->(∀i∈nx::(o.looksAt ops).flatMap λt=>(lT l t).hs,m' i=aK ml i)->qT P o T' m' v m':=by
  intro rQ v he hk;refine⟨v,hk,λT' m' hT' zI=>?_⟩;have hag:MB o (lT l) T' (aK ml) m':=by
   refine⟨λx hx=>y7 λn e=>(hT' n (mX hx e)).symm,λx hx i hi=>?_⟩;have⟨t,e,CL⟩:=VQ hi;refine(zI i ?_).symm;simp[aO,rP];exact .inr ⟨t,mX hx e,CL⟩
  have aYX:=FO (P:=P) (d:=nx) hag (zI nx sM).symm rQ;rw[he]at aYX;exact qT.sD aYX.symm rfl
 have key:shallow o=true->zZ (stOp o) (eM P (aK ml) (lT l) nx o) k->∃v,k v/\∀(T':Nat->A)(m':Mem),(∀x∈o.looksAt ops,T' x=lT l x)->(∀i∈nx::(o.looksAt ops).flatMap λt=>(lT l t).hs,m' i=aK ml i)->qT P o T' m' v m':=by
  intro rQ h;have⟨v,he,hk⟩:=aCO h;exact key0 rQ he hk
 have keyM:shallow o=true->H4 P (aK ml) (lT l) o (aKW k) (zZ (stOp o) (eM P (aK ml) (lT l) nx o) k)->∃v,k v/\∀(T':Nat->A)(m':Mem),(∀x∈o.looksAt ops,T' x=lT l x)->(∀i∈nx::(o.looksAt ops).flatMap λt=>(lT l t).hs,m' i=aK ml i)->qT P o T' m' v m':=by
  intro rQ h;rcases ED (d:=nx) h with⟨v,u,e,hk⟩|h
  ·cases u with
   |nil=>exact key0 rQ e hk
   |cons _ _=>exact hk.elim
  ·exact key rQ h
 unfold aJW at h;split at h
 ·rename_i c ho;split at h
  ·rename_i b hb;exact key (by unfold shallow;rw[ho];simp[hb]) h
  ·split at h
   ·rename_i f as hc;have⟨v,aVN,hk⟩:=h;refine⟨v,hk,λT' m' hT' _=>?_⟩;have ec:mO T' c=some (f,as):=by
     rw[<-hc];exact zK λx hx=>y7 λn e=>hT' n (mX (by rw[ho];simpa [Op.operands]using hx) e)
    have I5:o8 P o T' m' [(.ok v,[])]:=o8.call ho ec (aVN m');intro ro N M0 S0 w0 ρ a w h cX next Q hn
    refine I5 ro N M0 S0 w0 ρ a w h cX next Q ?_
    intro u' y w' ρ' hu' h1 h2;simp[aR]at hu';subst hu';exact⟨λv' e h3=>by simp[Rt.ok.injEq]at e;subst e;exact hn y w' ρ' h1 h2 h3,λv' e=>by cases e⟩
   ·exact h.elim
 ·exact h.elim
 ·exact h.elim
 ·exact h.elim
 ·exact h.elim
 ·rename_i ho;have rQ:shallow o=true:=by unfold shallow;rw[ho]
  split at h
  ·rename_i hi;have⟨row,e,hk⟩:=J5 (m:=aK ml) (d:=nx) hi h;exact key0 rQ e hk
  ·exact keyM rQ h
 ·rename_i ho;exact keyM (by unfold shallow;rw[ho]) h
 ·rename_i ho;have rQ:shallow o=true:=by unfold shallow;rw[ho]
  rcases FG (m:=aK ml) (d:=nx) h with⟨v,e,hk⟩|h
  ·exact key0 rQ e hk
  ·exact key rQ h
 ·rename_i ho;have rQ:shallow o=true:=by unfold shallow;rw[ho]
  rcases FG (m:=aK ml) (d:=nx) h with⟨v,e,hk⟩|h
  ·exact key0 rQ e hk
  ·exact key rQ h
 ·rename_i ho;have rQ:shallow o=true:=by unfold shallow;rw[ho]
  rcases Q6 (m:=aK ml) (d:=nx) h with⟨v,e,hk⟩|h
  ·exact key0 rQ e hk
  ·exact key rQ h
 ·rename_i h1 h2 h3 h4 h5 h6 h7 h8 h9 h10;refine key ?_ h;unfold shallow;split
  ·rename_i c ho;exact absurd ho (h1 c)
  ·rename_i a b ho;exact absurd ho (h2 a b)
  ·rename_i a ho;exact absurd ho (h3 a)
  ·rename_i a b ho;exact absurd ho (h4 a b)
  ·rename_i a ho;exact absurd ho (h5 a)
  ·rfl
def ZJ{n:Nat}{ops:Array Oper}{l0:List (Nat×A)}{ml:List (Nat×R)}{nx:Nat}{K:List (Nat×A)->Prop}{accF:List qC}:∀(lo:List Oper)(acc accS:List qC)(l:List (Nat×A)),ops.toList.drop acc.length=lo->UX P ops lo l ml nx K->sQ P n ops (lT l0) (aK ml) acc (lT l) (aK ml)->qZ acc accS->LP n ops lo acc.length accS=some accF->
 ∃acc' l',sQ P n ops (lT l0) (aK ml) acc' (lT l') (aK ml)/\acc'.length=acc.length+lo.length/\qZ acc' accF/\K l'
 |[],acc,accS,l,hk,h,hi,ha,hs=>by
  simp only[LP,aA]at hs;subst hs;obtain⟨h⟩:=h;exact⟨acc,l,hi,sM,ha,h⟩
 |o::r,acc,accS,l,hk,h,hi,ha,hs=>by
  have QS:ops[acc.length]?=some o:=by
   have:ops.toList[acc.length]?=some o:=by
    have:=congrArg List.head? hk;simpa [pA]using this
   simpa using this
  have hkr:ops.toList.drop (acc.length+1)=r:=by
   have:(ops.toList.drop acc.length).drop 1=r:=by rw[hk];rfl
   simpa [lY]using this
  simp[LP]at hs;split at hs
  ·rename_i an hd han;have a1X:kX acc acc.length o.after.toList=some an:=by rw[zT ha];exact han
   have step:∀(v:A)(F:List Nat)(l':List (Nat×A)),lT l'=lI (lT l) o.dst v->Good P n ops (lT l) (aK ml) o ⟨⟨o.dst,v,[]⟩,o.looksAt ops,F,an⟩->UX P ops r l' ml nx K->
    ∃acc' l',sQ P n ops (lT l0) (aK ml) acc' (lT l') (aK ml)/\acc'.length=acc.length+(o::r).length/\qZ acc' accF/\K l':=by
    intro v F l' qK hg hv;have hp:=hi.push (T':=lT l') (m':=aK ml) (D:=⟨⟨o.dst,v,[]⟩,o.looksAt ops,F,an⟩) QS qK rfl hg a1X rfl;have⟨acc',l2,k1,k2,k3,k4⟩:=ZJ r (_::acc) _ l' hkr hv hp (.cons (E:=⟨⟨o.dst,.x,[]⟩,o.looksAt ops,[],an⟩) ⟨rfl,rfl,rfl,rfl,rfl⟩ ha) hs;exact⟨acc',l2,k1,by rw[k2];simp;omega,k3,k4⟩
   simp[UX]at h;rcases L7 h with⟨hw,h⟩|⟨hw,h⟩
   ·have⟨v,h,I5⟩:=aGX (ops:=ops) h;have⟨l',qK,h⟩:=BE h;exact step v (nx::(o.looksAt ops).flatMap λt=>(lT l t).hs) l' qK ⟨rfl,nS hd,rfl,sM,.inr ⟨hw,λT' m' hT' zI _=>I5 T' m' hT' zI⟩⟩ h
   ·have⟨l',qK,h⟩:=BE h;exact step (.eL []) [] l' qK ⟨rfl,nS hd,rfl,sM,.inl ⟨hw,rfl,rfl⟩⟩ h
  ·cases hs
def aGZ{o:Oper}{k:A->List (Nat×R)->Bool->Prop}(h:aJX P l ml nx o k):
 ∃v u t,k v u t/\∀(T':Nat->A)(m':Mem),(∀x∈o.looksAt ops,T' x=lT l x)->(t=true->m'=aK ml)->(∀i∈cond t [] (GZ ops o l nx),m' i=aK ml i)->qT P o T' m' v (aH m' u):=by
 have key0:shallow o=true->∀{v:A}{u:List (Nat×R)},eM P (aK ml) (lT l) nx o=some (true,v,u)->k v u false->∃v u t,k v u t/\∀(T':Nat->A)(m':Mem),(∀x∈o.looksAt ops,T' x=lT l x)->(t=true->m'=aK ml)->(∀i∈cond t [] (GZ ops o l nx),m' i=aK ml i)->qT P o T' m' v (aH m' u):=by
  intro rQ v u he hk;refine⟨v,u,false,hk,λT' m' hT' _ zI=>?_⟩;cases hmv:VZ o with
  |true=>
   have⟨x,ho⟩:∃x,o.op=.move x:=by
    unfold VZ at hmv;split at hmv
    ·rename_i x ho;exact⟨x,ho⟩
    ·cases hmv
   have e1:∀(m:Mem)(T:Nat->A),eM P m T nx o=some (true,B0 P o.type (dN T x),[]):=λm T=>by
    have⟨dst,op,ty,pos,after,guard⟩:=o;simp only at ho;subst ho;rfl
   have e2:dN T' x=dN (lT l) x:=y7 λn e=>hT' n (mX (by rw[ho];simp[Op.operands]) e);rw[e1]at he;have e3:=e1 m' T';rw[e2,he]at e3;exact qT.sD e3 rfl
  |false=>
  have hag:MB o (lT l) T' (aK ml) m':=by
   refine⟨λx hx=>y7 λn e=>(hT' n (mX hx e)).symm,λx hx i hi=>?_⟩;have⟨t,e,CL⟩:=VQ hi;refine(zI i ?_).symm;simp[cond_false,GZ,hmv,aO,rP];exact .inr ⟨t,mX hx e,CL⟩
  have aYX:=FO (P:=P) (d:=nx) hag (zI nx (by simp[GZ])).symm rQ;rw[he]at aYX;exact qT.sD aYX.symm rfl
 have key:shallow o=true->oT (stOp o) (eM P (aK ml) (lT l) nx o) (λv u=>k v u false)->∃v u t,k v u t/\∀(T':Nat->A)(m':Mem),(∀x∈o.looksAt ops,T' x=lT l x)->(t=true->m'=aK ml)->(∀i∈cond t [] (GZ ops o l nx),m' i=aK ml i)->qT P o T' m' v (aH m' u):=by
  intro rQ h;have⟨v,u,he,hk⟩:=XX h;exact key0 rQ he hk
 have keyM:shallow o=true->H4 P (aK ml) (lT l) o (λv u=>k v u false) (oT (stOp o) (eM P (aK ml) (lT l) nx o) λv u=>k v u false)->∃v u t,k v u t/\∀(T':Nat->A)(m':Mem),(∀x∈o.looksAt ops,T' x=lT l x)->(t=true->m'=aK ml)->(∀i∈cond t [] (GZ ops o l nx),m' i=aK ml i)->qT P o T' m' v (aH m' u):=by
  intro rQ h;rcases ED (d:=nx) h with⟨v,u,e,hk⟩|h
  ·exact key0 rQ e hk
  ·exact key rQ h
 unfold aJX at h;split at h
 ·rename_i c ho;split at h
  ·rename_i b hb;have rQ:shallow o=true:=by unfold shallow;rw[ho];simp[hb]
   split at h
   ·rcases XI ho hb h with⟨v,u,h1,h2⟩|h
    ·exact key0 rQ h1 h2
    ·exact key rQ h
   ·exact key rQ h
  ·split at h
   ·rename_i f as hc;have ec:∀T':Nat->A,(∀x∈o.looksAt ops,T' x=lT l x)->mO T' c=some (f,as):=λT' hT'=>by
     rw[<-hc];exact zK λx hx=>y7 λn e=>hT' n (mX (by rw[ho];simpa [Op.operands]using hx) e)
    have one:∀{T':Nat->A}{m':Mem}{v:A}{u:List (Nat×R)},o8 P o T' m' [(.ok v,u)]->qT P o T' m' v (aH m' u):=by
     intro T' m' v u I5 ro N M0 S0 w0 ρ a w h cX next Q hn
     refine I5 ro N M0 S0 w0 ρ a w h cX next Q ?_
     intro u' y w' ρ' hu' h1 h2;simp[aR]at hu';subst hu';exact⟨λv' e h3=>by simp[Rt.ok.injEq]at e;subst e;exact hn y w' ρ' h1 h2 h3,λv' e=>by cases e⟩
    cases h with
    |pure v aVN hk=>exact⟨v,[],false,hk,λT' m' hT' _ _=>one (o8.call ho (ec T' hT') (aVN m'))⟩
    |fresh F r aVN hf hk=>exact⟨F nx,[(nx,r)],false,hk,λT' m' hT' _ zI=>one (o8.call ho (ec T' hT') (aVN m' nx (by rw[zI nx (by simp[GZ])];exact hf)))⟩
    |BL v u aVN hk=>exact⟨v,u,true,hk,λT' m' hT' hm _=>by rw[hm rfl];exact one (o8.call ho (ec T' hT') aVN)⟩
   ·exact h.elim
 ·exact h.elim
 ·exact h.elim
 ·exact h.elim
 ·exact h.elim
 ·rename_i t x ix a ho;have rQ:shallow o=true:=by unfold shallow;rw[ho]
  rcases IP (d:=nx) (.inl ho) h with⟨v,u,e,hk⟩|h
  ·exact key0 rQ e hk
  ·exact key rQ h
 ·rename_i t x ix a ho;have rQ:shallow o=true:=by unfold shallow;rw[ho]
  rcases IP (d:=nx) (.inr ho) h with⟨v,u,e,hk⟩|h
  ·exact key0 rQ e hk
  ·exact key rQ h
 ·rename_i ho;have rQ:shallow o=true:=by unfold shallow;rw[ho]
  split at h
  ·rename_i hi;have⟨row,e,hk⟩:=J5 (m:=aK ml) (d:=nx) hi h;exact key0 rQ e hk
  ·exact keyM rQ h
 ·rename_i ho;exact keyM (by unfold shallow;rw[ho]) h
 ·rename_i ho;exact keyM (by unfold shallow;rw[ho]) h
 ·rename_i ho;have rQ:shallow o=true:=by unfold shallow;rw[ho]
  rcases FG (m:=aK ml) (d:=nx) h with⟨v,e,hk⟩|h
  ·exact key0 rQ e hk
  ·exact key rQ h
 ·rename_i ho;have rQ:shallow o=true:=by unfold shallow;rw[ho]
  rcases FG (m:=aK ml) (d:=nx) h with⟨v,e,hk⟩|h
  ·exact key0 rQ e hk
  ·exact key rQ h
 ·rename_i ho;have rQ:shallow o=true:=by unfold shallow;rw[ho]
  rcases aD1 (d:=nx) h with⟨v,e,hk⟩|h
  ·exact key0 rQ e hk
  ·exact key rQ h
 ·rename_i ho;have rQ:shallow o=true:=by unfold shallow;rw[ho]
  rcases Q6 (m:=aK ml) (d:=nx) h with⟨v,e,hk⟩|h
  ·exact key0 rQ e hk
  ·exact key rQ h
 ·rename_i h1 h2 h3 h4 h5 h6 h7 h8 h9 h10 h11 h12 h13 h14;refine key ?_ h;unfold shallow;split
  ·rename_i c ho;exact absurd ho (h1 c)
  ·rename_i a b ho;exact absurd ho (h2 a b)
  ·rename_i a ho;exact absurd ho (h3 a)
  ·rename_i a b ho;exact absurd ho (h4 a b)
  ·rename_i a ho;exact absurd ho (h5 a)
  ·rfl
def E5(ts:List Bool)(i:Nat):Bool:=(ts.reverse[i]?).getD false
def tW{t:Bool}{ts:List Bool}(h:i<ts.length):E5 (t::ts) i=E5 ts i:=by
 unfold E5;rw[fC,bX (by simpa using h)]
def E6{t:Bool}{ts:List Bool}:E5 (t::ts) ts.length=t:=by
 unfold E5;rw[fC,bO sM];simp
def ZK{n:Nat}{ops:Array Oper}{l0:List (Nat×A)}{ml0:List (Nat×R)}{K:List (Nat×A)->List (Nat×R)->Nat->Prop}:∀(lo:List Oper)(acc:List qC)(ts:List Bool)(l:List (Nat×A))(ml:List (Nat×R))(nx:Nat),ops.toList.drop acc.length=lo->ts.length=acc.length->UY P n ops lo acc.length acc ts l ml nx K->IY P n ops (lT l0) (aK ml0) (E5 ts) acc (lT l) (aK ml)->
 ∃acc' ts' l' ml' nx',IY P n ops (lT l0) (aK ml0) (E5 ts') acc' (lT l') (aK ml')/\acc'.length=acc.length+lo.length/\ts'.length=acc'.length/\aGY acc' ts'=true/\K l' ml' nx'
 |[],acc,ts,l,ml,nx,hk,hts,h,hi=>by
  simp only[UY]at h;obtain⟨h1,h2⟩:=h;exact⟨acc,ts,l,ml,nx,hi,sM,hts,h1,h2⟩
 |o::r,acc,ts,l,ml,nx,hk,hts,h,hi=>by
  have QS:ops[acc.length]?=some o:=by
   have:ops.toList[acc.length]?=some o:=by
    have:=congrArg List.head? hk;simpa [pA]using this
   simpa using this
  have hkr:ops.toList.drop (acc.length+1)=r:=by
   have:(ops.toList.drop acc.length).drop 1=r:=by rw[hk];rfl
   simpa [lY]using this
  simp[UY]at h;split at h
  ·rename_i an han;cases hd:vE n o.dst with
   |false=>rw[hd]at h;exact h.elim
   |true=>
    rw[hd]at h;have h:L6 _ _ _ _ _:=h;have step:∀(v:A)(u:List (Nat×R))(F:List Nat)(t:Bool)(l':List (Nat×A))(ml':List (Nat×R))(nx':Nat),lT l'=lI (lT l) o.dst v->aK ml'=aH (aK ml) u->XA P n ops (lT l) (aK ml) o ⟨⟨o.dst,v,u⟩,o.looksAt ops,F,an⟩ t->UY P n ops r (acc.length+1) (⟨⟨o.dst,v,u⟩,o.looksAt ops,F,an⟩::acc) (t::ts) l' ml' nx' K->
     ∃acc' ts' l' ml' nx',IY P n ops (lT l0) (aK ml0) (E5 ts') acc' (lT l') (aK ml')/\acc'.length=acc.length+(o::r).length/\ts'.length=acc'.length/\aGY acc' ts'=true/\K l' ml' nx':=by
     intro v u F t l' ml' nx' qK aZR hg hv;have hi2:IY P n ops (lT l0) (aK ml0) (E5 (t::ts)) acc (lT l) (aK ml):=hi.congr λi hi=>tW oM;have hg2:XA P n ops (lT l) (aK ml) o ⟨⟨o.dst,v,u⟩,o.looksAt ops,F,an⟩ (E5 (t::ts) acc.length):=by
      rw[<-hts,E6];exact hg
     have hp:=hi2.push (T':=lT l') (m':=aK ml') (D:=⟨⟨o.dst,v,u⟩,o.looksAt ops,F,an⟩) QS qK aZR hg2 han rfl;have⟨acc',ts',l2,ml2,nx2,k1,k2,k3,k4,k5⟩:=ZK r (_::acc) (t::ts) l' ml' nx' hkr (by simp[hts]) hv hp;exact⟨acc',ts',l2,ml2,nx2,k1,by rw[k2];simp;omega,k3,k4,k5⟩
    rcases L7 h with⟨hw,h⟩|⟨hw,h⟩
    ·have⟨v,u,t,h,I5⟩:=aGZ (ops:=ops) h;have⟨l',qK,h⟩:=BE h;have⟨ml',aZR,h⟩:=RA h;exact step v u _ t l' ml' _ qK aZR ⟨rfl,nS hd,rfl,.inr ⟨hw,λT' m' hT' hm zI _=>I5 T' m' hT' hm zI⟩⟩ h
    ·have⟨l',qK,h⟩:=BE h;exact step (.eL []) [] [] false l' ml _ qK rfl ⟨rfl,nS hd,rfl,.inl ⟨hw,rfl,rfl⟩⟩ h
  ·exact h.elim
def OX{p:qC}{t:Bool}:∀{acc:List qC}{ts:List Bool},ts.length=acc.length->OY.tot1 p t acc ts=true->∀i Di,acc.reverse[i]?=some Di->(E5 ts i=true\/t=true)->p.anc.testBit i=true\/(Di.r.u=[]/\p.r.u=[])
 |[],ts,_,_,i,Di,hi,_=>by simp at hi
 |q::r,[],hl,_,i,Di,hi,_=>by simp at hl
 |q::r,t'::ts,hl,h,i,Di,hi,ht=>by
  simp only[OY.tot1,aE]at h;have qK:ts.length=r.length:=by simpa using hl
  rw[fC,iJ]at hi;split at hi
  ·rename_i uJ;have a2W:i<r.length:=by simpa using uJ
   rw[tW oM]at ht;exact OX qK h.2 i Di hi ht
  ·rename_i uJ;have e:i=r.length:=by
    rcases eQ (i -r.reverse.length) 1 with x|x
    ·simp at uJ x;omega
    ·rw[lD (by simpa using x)]at hi;cases hi
   subst e;simp at hi;subst hi;rw[<-qK,E6]at ht;have h1:=h.1;have:(t||t')=true:=by rcases ht with e|e<;>simp[e]
   rw[this]at h1;simp[cond_true,gP,aE,List.isEmpty_iff]at h1;exact h1
def L0:∀{acc:List qC}{ts:List Bool},ts.length=acc.length->OY acc ts=true->∀i j Di Dj,i<j->acc.reverse[i]?=some Di->acc.reverse[j]?=some Dj->(E5 ts i=true\/E5 ts j=true)->Dj.anc.testBit i=true\/(Di.r.u=[]/\Dj.r.u=[])
 |[],ts,_,_,i,j,Di,Dj,_,hi,_,_=>by simp at hi
 |p::r,[],hl,_,i,j,Di,Dj,_,hi,_,_=>by simp at hl
 |p::r,t::ts,hl,h,i,j,Di,Dj,hij,hi,hj,ht=>by
  simp only[OY,aE]at h;have qK:ts.length=r.length:=by simpa using hl
  rw[fC,iJ]at hi hj;split at hj
  ·rename_i hjl;rw[aUF oM]at hi;have a2Y:j<r.length:=by simpa using hjl
   rw[tW oM,tW oM]at ht;exact L0 qK h.2 i j Di Dj hij hi hj ht
  ·rename_i hjl;have e:j=r.length:=by
    rcases eQ (j -r.reverse.length) 1 with x|x
    ·simp at hjl x;omega
    ·rw[lD (by simpa using x)]at hj;cases hj
   subst e;simp at hj;subst hj;rw[aUF (by simpa using hij)]at hi;rw[tW oM,<-qK,E6]at ht;exact OX qK h.1 i Di hi ht
def NW:∀{acc:List qC}{ts:List Bool},ts.length=acc.length->aHI acc ts=true->∀i D,acc.reverse[i]?=some D->E5 ts i=false->∀p∈D.r.u,p.1∈D.F
 |[],ts,_,_,i,D,hi,_=>by simp at hi
 |p::r,[],hl,_,i,D,hi,_=>by simp at hl
 |p::r,t::ts,hl,h,i,D,hi,ht=>by
  simp only[aHI,aE]at h;have qK:ts.length=r.length:=by simpa using hl
  rw[fC,iJ]at hi;split at hi
  ·rename_i uJ;rw[tW (by simp at uJ;omega)]at ht;exact NW qK h.2 i D hi ht
  ·rename_i hjl;have e:i=r.length:=by
    rcases eQ (i -r.reverse.length) 1 with x|x
    ·simp at hjl x;omega
    ·rw[lD (by simpa using x)]at hi;cases hi
   subst e;simp at hi;subst hi;rw[<-qK,E6]at ht;have h1:=h.1;rw[ht]at h1;simp only[cond_false,cV]at h1;intro q hq;exact AP.1 (h1 q hq)
def aCH{a:A}{X Y:Prop}(h:aCG a X Y):∃b,a=.d (.v (.bool b))/\bK b X Y:=by
 cases a with
 |d c=>cases c with
  |v x=>cases x with
   |bool b=>exact⟨b,rfl,O8.bK h⟩
   |_=>exact h.elim
  |_=>exact h.elim
 |_=>exact h.elim
def kD.of{Post2:Ex->(Nat->A)->Mem->Prop}(h:∀(rd:Bool)(ds:List DA),eU P rd n c T m ds λex T' m' ds'=>ds'=ds/\Post2 ex T' m'):kD P mb n c T m Post2:=by
 intro ro _ b ρb ρ a w hs hob cX Q hQ;refine h ro.isSome b.das ro b.M b.S b.w ρ a w rfl hs cX Q ?_;rintro ex e T' m' ds' ρ' a' w' ⟨rfl,q2⟩ s o d;exact hQ ex e T' m' b ρ' a' w' q2 (.refl b) (λ_=>rfl) cX s (hob.trans o) d
def kD.seq{mb:List (Nat×R)}{n:Nat}{x y:Code}{T:Nat->A}{m:Mem}{Post1 Post:Ex->(Nat->A)->Mem->Prop}(h:kD P mb n x T m Post1)(h1:∀T' m',Post1 .nm T' m'->kD P mb n y T' m' Post)(h2:∀ex T' m',ex.MQ=false->Post1 ex T' m'->Post ex T' m'):kD P mb n (.seq x y) T m Post:=by
 intro ro wB b ρb ρ a w hs hob cX Q hQ;have hN:sC (.seq x y)=true->sC x=true/\sC y=true:=λe=>by simpa [sC]using e
 refine wpIn_seq (h ro (wB.imp id λe=>(hN e).1) b ρb ρ a w hs hob cX _ ?_);intro ex e T' m' b' ρ' a' w' hp hE hb aVU h' ho hd;cases hx:ex.MQ with
 |true=>
  obtain⟨rfl,rfl⟩:=(BX hd).1 hx;exact h1 T' m' hp ro (wB.imp id λe=>(hN e).2) b' ρb ρ' a' w' h' ho aVU Q λex2 e2 T2 m2 b2 ρ2 a2 w2 p2 E2 n2 l2 s2 o2 d2=>hQ ex2 e2 T2 m2 b2 ρ2 a2 w2 p2 (hE.trans E2) (λq=>(n2 (hN q).2).trans (hb (hN q).1)) l2 s2 o2 d2
 |false=>
  have hZ:=(BX hd).2 hx;have:=hQ ex e T' m' b' ρ' a' w' (h2 ex T' m' hx hp) hE (λq=>hb (hN q).1) aVU h' ho hd;cases e<;>first|exact this|exact absurd rfl hZ
def kD.cond{mb:List (Nat×R)}{n:Nat}{c:Operand}{x y:Code}{b:Bool}{T:Nat->A}{m:Mem}{Post:Ex->(Nat->A)->Mem->Prop}(hc:dN T c=.d (.v (.bool b)))(h:kD P mb n (if b then x else y) T m Post):kD P mb n (.cond c x y) T m Post:=by
 intro ro wB bs ρb ρ a w hs hob cX Q hQ;have hd:=cU hs c;rw[hc]at hd;simp[A.Den,C.Den]at hd;have hN:sC (.cond c x y)=true->sC (if b then x else y)=true:=λe=>by
  simp[sC,aE]at e;cases b
  ·exact e.2
  ·exact e.1
 exact wpIn_cond hd (h ro (wB.imp id hN) bs ρb ρ a w hs hob cX Q λex e T' m' b' ρ' a' w' p E n=>hQ ex e T' m' b' ρ' a' w' p E λq=>n (hN q))
def kD.block{mb:List (Nat×R)}{n:Nat}{id:Nat}{c:Code}{T:Nat->A}{m:Mem}{Post1 Post:Ex->(Nat->A)->Mem->Prop}(h:kD P mb n c T m Post1)(h1:∀ex T' m',Post1 ex T' m'->Post (u6 id ex) T' m'):kD P mb n (.block id c) T m Post:=by
 intro ro wB b ρb ρ a w hs hob cX Q hQ;refine wpIn_block (h ro wB b ρb ρ a w hs hob cX _ ?_);intro ex e T' m' b' ρ' a' w' hp hE hn aVU h' ho hd;have:=λe=>hQ _ e T' m' b' ρ' a' w' (h1 ex T' m' hp) hE hn aVU h' ho;cases ex with
 |ext id'=>
  simp[Ex.Den]at hd;subst hd;simp[Exit.inBlock,u6]at this⊢;by_cases e:id'=id
  ·simp[e,if_true]at this⊢;exact this _ rfl
  ·simp[e,if_false]at this⊢;exact this _ rfl
 |nm=>simp[Ex.Den]at hd;subst hd;exact this _ rfl
 |ret=>simp[Ex.Den]at hd;subst hd;exact this _ rfl
 |sE v=>obtain⟨y,rfl,hy⟩:=hd;exact this _ ⟨y,rfl,hy⟩
def kD.scope{mb:List (Nat×R)}{n:Nat}{T:Nat->A}{m:Mem}{Post:Ex->(Nat->A)->Mem->Prop}{c:Code}(h:kD P mb n c T m Post):kD P mb n (.scope c) T m Post:=by
 intro ro wB b0 ρb ρ a w hs hob cX Q hQ;have h1:=h ro wB b0 ρb ρ a w hs hob cX (λe a' w'=>(∀l,e≠.goto l)/\e≠.outgrown/\Q e a' w') (λex e T' m' b' ρ' a' w' hp hE hn hl hs' ho hd=>⟨λl=>by cases ex<;>first|(simp[Ex.Den]at hd;rw[hd];simp)|(have⟨y,hd,_⟩:=hd;rw[hd];simp),by cases ex<;>first|(simp[Ex.Den]at hd;rw[hd];simp)|(have⟨y,hd,_⟩:=hd;rw[hd];simp),hQ ex e T' m' b' ρ' a' w' hp hE hn hl hs' ho hd⟩);intro b k cs hrb hb hr;have h0:(lone (b.atR a (.code (.scope c)::k)) cs w).fenced P (FW ro):=fenced_calm hb hr rfl;have⟨e,a₁,w₁,⟨hg,ho,hq⟩,aWS⟩:=h1 b (.inScope c::k) cs hrb hb hr;have hx:∀id,exitTo id (.inScope c::k)=exitTo id k:=λid=>by simp[exitTo]
 cases e with
 |normal=>exact⟨.normal,a₁,w₁,hq,.head h0 jE (StepsIn.trans aWS (.one (fenced_calm hb hr rfl) AY))⟩
 |exit id=>exact⟨_,a₁,w₁,hq,λk' hk=>.head h0 jE (aWS.1 k' (by rw[hx];exact hk)),λhr' hk=>let⟨k₁,h1,h2⟩:=aWS.2 hr' (by rw[hx];exact hk);⟨k₁,h1,.head h0 jE h2⟩⟩
 |goto l=>exact absurd rfl (hg l)
 |ret=>exact⟨_,a₁,w₁,hq,.of_steps (.one h0 jE) aWS⟩
 |panic ch=>exact⟨_,a₁,w₁,hq,.of_steps (.one h0 jE) aWS⟩
 |outgrown=>exact absurd rfl ho
def PK.of{K:KT}{ex:Ex}(h:K ex l ml nx):PK K ex (lT l) (aK ml):=⟨l,ml,nx,rfl,rfl,h⟩
def uX(hm:P.follows .mixedOrders=true){mb:List (Nat×R)}{n:Nat}:∀(c:Code)(l:List (Nat×A))(ml:List (Nat×R))(nx:Nat)(K:KT),vc P mb n c l ml nx K->kD P mb n c (lT l) (aK ml) (PK K)
 |.skip,l,ml,nx,K,h=>kD.of λrd ds=>eU.skip ⟨rfl,PK.of (nx:=nx) h⟩
 |.label _,l,ml,nx,K,h=>kD.of λrd ds=>eU.label ⟨rfl,PK.of (nx:=nx) h⟩
 |.exit i,l,ml,nx,K,h=>kD.of λrd ds=>eU.exit ⟨rfl,PK.of (nx:=nx) h⟩
 |.ret,l,ml,nx,K,h=>kD.of λrd ds=>eU.ret ⟨rfl,PK.of (nx:=nx) h⟩
 |.seq a b,l,ml,nx,K,h=>by
  rcases h with h|⟨α,Exi,I',J',nx2,h,h2⟩
  rotate_left
  ·refine kD.seq (uX hm a l ml nx _ h) ?_ ?_
   ·rintro T' m' ⟨l',ml',nx',rfl,rfl,y,q1,q2⟩;have k:=uX hm b (I' y) (J' y) nx2 K (h2 y q1);intro ro wB bs ρb ρ a' w' hs hob cX Q hQ;have⟨ρ2,hs2,ho2⟩:=q2 bs ρb ρ a' w' hs hob;exact k ro wB bs ρb ρ2 a' w' hs2 ho2 cX Q hQ
   ·rintro ex T' m' hx ⟨l',ml',nx',rfl,rfl,h'⟩;refine⟨l',ml',nx',rfl,rfl,?_⟩;cases ex<;>first|(cases hx;done)|exact h'
  refine kD.seq (uX hm a l ml nx _ h) ?_ ?_
  ·rintro T' m' ⟨l',ml',nx',rfl,rfl,h'⟩;exact uX hm b l' ml' nx' K h'
  ·rintro ex T' m' hx ⟨l',ml',nx',rfl,rfl,h'⟩;refine⟨l',ml',nx',rfl,rfl,?_⟩;cases ex<;>first|(cases hx;done)|exact h'
 |.cond c a b,l,ml,nx,K,h=>by
  have⟨x,hc,h⟩:=aCH h;refine kD.cond (b:=x) hc ?_;cases x with
  |true=>exact uX hm a l ml nx K h
  |false=>exact uX hm b l ml nx K h
 |.block id a,l,ml,nx,K,h=>by
  refine kD.block (uX hm a l ml nx _ h) ?_;rintro ex T' m' ⟨l',ml',nx',rfl,rfl,h'⟩;refine⟨l',ml',nx',rfl,rfl,?_⟩;cases ex with
  |ext i=>
   simp[MP]at h';simp[u6];cases hb:Nat.beq i id with
   |true=>rw[hb]at h';rw[aUF (bB hb)];exact h'
   |false=>rw[hb]at h';rw[aT7 (λe=>by subst e;simp at hb)];exact h'
  |nm=>exact h'
  |ret=>exact h'
  |sE v=>exact h'
 |.loop a,l,ml,nx,K,h=>by
  have⟨h⟩:=h;exact h
 |.scope a,l,ml,nx,K,h=>by
  exact kD.scope (uX hm a l ml nx K h)
 |.region id ops draw,l,ml,nx,K,h=>by
  cases draw with
  |false=>
   refine kD.of λrd ds=>eU.region ?_;have:=L5 (rd:=rd) (ds:=ds) (Post:=λex T' m' ds'=>ds'=ds/\PK K ex T' m') (λl ml nx h=>⟨rfl,l,ml,nx,rfl,rfl,h⟩) ops.toList 0 l ml nx sM h;rw[List.range_eq_range'];simpa using this
  |true=>
   cases h with
   |u h=>
    have⟨acc',ts',l',ml',nx',k1,k2,k3,k4,k5⟩:=ZK (n:=n) (l0:=l) (ml0:=ml) ops.toList [] [] l ml nx sM rfl h ⟨rfl,rfl,λi o D _ hD=>by simp at hD,λi o D _ hD=>by simp at hD⟩;simp[aGY,aE]at k4;exact kD.of λrd ds=>VI hm k1 (by simpa using k2) k4.1 (NW k3 k4.2.2) (L0 k3 k4.2.1) ⟨rfl,l',ml',nx',rfl,rfl,k5⟩
   |r h=>
   have h:bK (aEU n ops) _ _:=h;cases hr:aEU n ops with
   |false=>rw[hr]at h;exact h.elim
   |true=>
    rw[hr]at h;have h:UX _ _ _ _ _ _ _:=h;unfold aEU at hr;split at hr
    ·rename_i accF hs;have⟨acc',l',k1,k2,k3,k4⟩:=ZJ (n:=n) (l0:=l) ops.toList [] [] l sM h ⟨rfl,rfl,λi o D _ hD=>by simp at hD,λi o D _ hD=>by simp at hD⟩ .nil hs;exact kD.of λrd ds=>NC hm k1 (by simpa using k2) (by rw[zJ k3];exact hr) ⟨rfl,l',ml,nx,rfl,rfl,k4⟩
    ·cases hr
 |.goto _,_,_,_,_,h=>h.elim
 |.rangeFunc g ps asg bod,l,ml,nx,K,h=>by
  have⟨h⟩:=h;exact h
 |.refuse _,_,_,_,_,h=>h.elim
section
variable{mb:List (Nat×R)}{n:Nat}{a b:Code}{l:List (Nat×A)}{ml:List (Nat×R)}{nx id i:Nat}{K:KT}{k:Ex->Prop}{X Y:Prop}{ops:Array Oper}{c:Operand}
def w1(h:vc P mb n a l ml nx λex l ml nx=>aGA ex (vc P mb n b l ml nx K) (K ex l ml nx)):vc P mb n (.seq a b) l ml nx K:=.p h
def tG{d:Bool}(h:vc P mb n (.region id ops d) l ml nx λex l ml nx=>aGA ex (vc P mb n b l ml nx K) (K ex l ml nx)):vc P mb n (.seq (.region id ops d) b) l ml nx K:=.p h
def TA(h:vc P mb n (.block id a) l ml nx λex l ml nx=>aGA ex (vc P mb n b l ml nx K) (K ex l ml nx)):vc P mb n (.seq (.block id a) b) l ml nx K:=.p h
def QH{a2:Code}(h:vc P mb n (.seq a a2) l ml nx λex l ml nx=>aGA ex (vc P mb n b l ml nx K) (K ex l ml nx)):vc P mb n (.seq (.seq a a2) b) l ml nx K:=.p h
def BH{α:Type}(Exi:α->Prop)(I':α->List (Nat×A))(J':α->List (Nat×R))(nx2:Nat)(h:vc P mb n a l ml nx (λex l ml nx=>aGA ex (∃y,Exi y/\cN mb n l ml (I' y) (J' y)) (K ex l ml nx)))(h2:∀y,Exi y->vc P mb n b (I' y) (J' y) nx2 K):vc P mb n (.seq a b) l ml nx K:=.c ⟨α,Exi,I',J',nx2,h,h2⟩
def w2(h:K .nm l ml nx):vc P mb n .skip l ml nx K:=h
def w3(h:K (.ext i) l ml nx):vc P mb n (.exit i) l ml nx K:=h
def w4(h:K .ret l ml nx):vc P mb n .ret l ml nx K:=h
def w5(h:vc P mb n a l ml nx λex l ml nx=>MP id ex λex=>K ex l ml nx):vc P mb n (.block id a) l ml nx K:=h
def w6(h:vc P mb n a l ml nx K):vc P mb n (.scope a) l ml nx K:=h
def w7(h:K .nm l ml nx):vc P mb n (.label i) l ml nx K:=h
def w8(h:XB P mb n a l ml K):vc P mb n (.loop a) l ml nx K:=h
def w9(h:X):aGA .nm X Y:=h
def wa(h:Y):aGA (.ext i) X Y:=h
def wb(h:Y):aGA .ret X Y:=h
def wc(h:k .nm):MP id .nm k:=h
def wd(h:k .ret):MP id .ret k:=h
def we(h:k .nm):MP id (.ext id) k:=by
 have e:Nat.beq id id=true:=sM;simp[MP,e];exact h
def wr(h:O1 P n ops ops.toList l ml nx λl ml nx=>K .nm l ml nx):vc P mb n (.region id ops false) l ml nx K:=h
def wt(hu:aMU ops.toList=false)(hr:aEU n ops=true)(h:UX P ops ops.toList l ml nx λl=>K .nm l ml nx):vc P mb n (.region id ops true) l ml nx K:=.r (by rw[hr];exact h)
def wu(h:UY P n ops ops.toList 0 [] [] l ml nx λl ml nx=>K .nm l ml nx):vc P mb n (.region id ops true) l ml nx K:=.u h
def wg(h:X):wK true X Y:=h
def wh(h:Y):wK false X Y:=h
def wi(h:aCG (dN (lT l) c) (vc P mb n a l ml nx K) (vc P mb n b l ml nx K)):vc P mb n (.cond c a b) l ml nx K:=h
end
end
def YY(l:List (Nat×A)):List (Nat×A)->Prop
 |[]=>True
 |p::r=>lT l p.1=p.2/\YY l r
def YY.at{l:List (Nat×A)}:∀{l':List (Nat×A)},YY l l'->∀n,lT l' n=.x\/lT l' n=lT l n
 |[],_,n=>.inl rfl
 |p::r,h,n=>by
  simp only[lT];cases hb:Nat.beq p.1 n with
  |true=>have:=bB hb;subst this;exact .inr h.1.symm
  |false=>exact h.2.at n
def cN.U0{l':List (Nat×A)}(h:YY l l')(hm:aK ml=aK ml'):cN mb n l ml l' ml':=by
 intro b ρb ρ a w hs ho;rw[hm]at hs ho;refine⟨ρ,{keeps:=hs.keeps,size:=hs.size,defers:=hs.defers,res:=hs.res,own:=hs.own,apart:=hs.apart,tmps:=λk=>?_},ho⟩;rcases h.at k with e|e
 ·rw[e];simp[A.Den]
 ·rw[e];exact hs.tmps k
def M3(i j:Nat)(ml':List (Nat×R)):List (Nat×R)->Prop
 |[]=>True
 |p::r=>(p.1≠i/\p.1≠j/\aK ml' p.1≠none)/\M3 i j ml' r
def M3.at{i j:Nat}{ml':List (Nat×R)}:∀{mb:List (Nat×R)},M3 i j ml' mb->∀k,aK mb k≠none->k≠i/\k≠j/\aK ml' k≠none
 |[],_,k,h=>absurd rfl h
 |p::r,h,k,hk=>by
  simp only[aK]at hk;cases hb:Nat.beq p.1 k with
  |true=>have:=bB hb;subst this;exact h.1
  |false=>rw[hb]at hk;exact h.2.at k hk
def swp(i j x:Nat):Nat:=bif Nat.beq x i then j else bif Nat.beq x j then i else x
def BJ(i j x:Nat):swp i j x=if x=i then j else if x=j then i else x:=by
 unfold swp;have hb:∀a b:Nat,Nat.beq a b=decide (a=b):=λa b=>by
  cases h:Nat.beq a b with
  |true=>have:=bB h;simp[this]
  |false=>have:a≠b:=λe=>by subst e;simp at h
          simp[this]
 rw[hb,hb];by_cases h1:x=i<;>by_cases h2:x=j<;>simp[h1,h2]
def fH(i j x:Nat):swp i j (swp i j x)=x:=by
 simp[BJ];by_cases h1:x=i
 ·subst h1;by_cases h2:j=x<;>simp[h2]
 ·by_cases h2:x=j
  ·subst h2;simp[h1]
  ·simp[h1,h2]
def KP(g:Nat->Nat)(l:List (Nat×A)):List (Nat×A)->Prop
 |[]=>True
 |p::r=>(lT l p.1).eZ g=p.2/\KP g l r
def KP.at{g:Nat->Nat}{l:List (Nat×A)}:∀{l':List (Nat×A)},KP g l l'->∀n,lT l' n=.x\/lT l' n=(lT l n).eZ g
 |[],_,n=>.inl rfl
 |p::r,h,n=>by
  simp only[lT];cases hb:Nat.beq p.1 n with
  |true=>have:=bB hb;subst this;exact .inr h.1.symm
  |false=>exact h.2.at n
def I8(g:Nat->Nat)(ml:List (Nat×R)):List (Nat×R)->Prop
 |[]=>True
 |p::r=>(aK ml (g p.1)).map (R.eZ g)=some p.2/\I8 g ml r
def I8.at{g:Nat->Nat}{ml:List (Nat×R)}:∀{ml':List (Nat×R)},I8 g ml ml'->∀i q,aK ml' i=some q->(aK ml (g i)).map (R.eZ g)=some q
 |[],_,i,q,h=>by simp[aK]at h
 |p::r,h,i,q,hq=>by
  simp only[aK]at hq;cases hb:Nat.beq p.1 i with
  |true=>
   rw[hb]at hq;simp only[cond_true,aA]at hq;have:=bB hb;rw[<-this,<-hq];exact h.1
  |false=>rw[hb]at hq;exact h.2.at i q hq
def rB(ml':List (Nat×R)):List Nat->Prop
 |[]=>True
 |i::r=>aK ml' i≠none/\rB ml' r
def rB.at{ml':List (Nat×R)}:∀{l:List Nat},rB ml' l->∀i∈l,aK ml' i≠none
 |[],_,i,h=>by simp at h
 |j::r,h,i,hi=>by
  simp[aO]at hi;rcases hi with rfl|hi
  ·exact h.1
  ·exact h.2.at i hi
def GF(ml':List (Nat×R)):List (Nat×A)->Prop
 |[]=>True
 |p::r=>rB ml' p.2.hs/\GF ml' r
def GF.at{ml':List (Nat×R)}:∀{l:List (Nat×A)},GF ml' l->∀n,∀i∈(lT l n).hs,aK ml' i≠none
 |[],_,n,i,h=>by simp[lT,A.hs]at h
 |p::r,h,n,i,hi=>by
  simp[lT]at hi;cases hb:Nat.beq p.1 n with
  |true=>rw[hb]at hi;exact h.1.at i hi
  |false=>rw[hb]at hi;exact h.2.at n i hi
def H9(ml':List (Nat×R)):List (Nat×R)->Prop
 |[]=>True
 |p::r=>rB ml' p.2.hs/\H9 ml' r
def H9.at{ml':List (Nat×R)}:∀{l:List (Nat×R)},H9 ml' l->∀j q,aK l j=some q->∀i∈q.hs,aK ml' i≠none
 |[],_,j,q,h,i,hi=>by simp[aK]at h
 |p::r,h,j,q,hq,i,hi=>by
  simp[aK]at hq;cases hb:Nat.beq p.1 j with
  |true=>rw[hb]at hq;simp[cond_true,aA]at hq;subst hq;exact h.1.at i hi
  |false=>rw[hb]at hq;exact h.2.at j q hq i hi
def cN.swap(i j:Nat){mb:List (Nat×R)}{n:Nat}{l l':List (Nat×A)}{ml ml':List (Nat×R)}(hbk:M3 i j ml' mb)(hl:KP (swp i j) l l')(hm:I8 (swp i j) ml ml')(h1:GF ml' l')(h2:H9 ml' ml'):cN mb n l ml l' ml':=by
 intro b ρb ρ a w hs ho;have⟨s1,aWJ⟩:=hs.eZ (fH i j) (fH i j);have hs0:bC b.M b.S b.w ⟨n,some b.das⟩ (lT l') (nK (swp i j) (swp i j) (aK ml)) (λk=>ρ (swp i j k)) a w:=
  {keeps:=s1.keeps,size:=s1.size
   defers:=λds e=>by
    simp[aA]at e;subst e;exact IL (hs.defers _ rfl)
   tmps:=λk=>by
    rcases hl.at k with e|e
    · rw[e];simp[A.Den]
    · rw[e];exact aWJ _ _ (hs.tmps k)
   res:=s1.res,own:=s1.own,apart:=s1.apart}
 refine⟨_,hs0.drop (λk q hq=>hm.at k q hq) h1.at (λds e d hd i hi=>by simp[aA]at e;subst e;exact(aEF d hd i hi).elim) (λk q hq=>h2.at k q hq),?_⟩;have VV:=TR (g:=swp i j) (gi:=swp i j) (fH i j) (λk hk=>by have⟨q1,q2,_⟩:=hbk.at k hk;simp[BJ,q1,q2]) ho;intro k hk;have⟨k1,k2⟩:=VV k hk;have hZ:=(hbk.at k hk).2.2;cases hq:aK ml' k with
 |none=>exact absurd hq hZ
 |some q=>
  have e:nK (swp i j) (swp i j) (aK ml) k=some q:=hm.at k q hq;rw[e]at k2;exact⟨sM,k2⟩
section
variable{P:Program}
def bV(hm:P.follows .mixedOrders=true){mb:List (Nat×R)}{n:Nat}{c:Code}{l:List (Nat×A)}{ml:List (Nat×R)}{K:KT}{α:Type}(Inv:α->Prop)(I:α->List (Nat×A))(J:α->List (Nat×R))(μ:α->Nat)(nx:Nat)(a0:α)(hi:Inv a0)(h0:cN mb n l ml (I a0) (J a0))
 (step:∀a,Inv a->vc P mb n c (I a) (J a) nx (λex l' ml' nx'=>aGA ex (∃a',μ a'<μ a/\Inv a'/\cN mb n l' ml' (I a') (J a')) (K ex l' ml' nx'))):XB P mb n c l ml K:=by
 refine⟨λro wB b ρb ρ a w hs hob cX Q hQ=>?_⟩;have⟨ρ1,hs1,ho1⟩:=h0 b ρb ρ a w hs hob;refine wpIn_loop_ghost (λj a' w'=>∃x ρ' b',μ x=j/\Inv x/\b.Ext b'/\(sC c=true->b'=b)/\(∀x,b'.M x->x<b'.w.heap.size)/\I1 b' n (lT (I x)) (aK (J x)) ρ' a' w'/\gL (aK mb) (aK (J x)) ρb ρ') (μ a0) ⟨a0,ρ1,b,rfl,hi,.refl b,λ_=>rfl,cX,hs1,ho1⟩ ?_;rintro j a' w' ⟨x,ρ',b1,rfl,hix,hE1,P0,aYE,hs',VV⟩;refine uX hm c _ _ nx _ (step x hix) ro wB b1 ρb ρ' a' w' hs' VV aYE _ ?_;rintro ex e T' m' b2 ρ2 a2 w2 ⟨l',ml',nx',rfl,rfl,h⟩ hE2 hn2 aW3 hs2 ho2 hd;cases hx:ex.MQ with
 |true=>
  obtain⟨rfl,rfl⟩:=(BX hd).1 hx;have⟨x',q1,q2,q3⟩:=h;have⟨ρ3,hs3,ho3⟩:=q3 b2 ρb ρ2 a2 w2 hs2 ho2;exact⟨μ x',q1,x',ρ3,b2,rfl,q2,hE1.trans hE2,λq=>(hn2 q).trans (P0 q),aW3,hs3,ho3⟩
 |false=>
  have hZ:=(BX hd).2 hx;have hk:PK K ex (lT l') (aK ml'):=⟨l',ml',nx',rfl,rfl,by cases ex<;>first|(cases hx;done)|exact h⟩;have:=hQ ex e _ _ b2 ρ2 a2 w2 hk (hE1.trans hE2) (λq=>(hn2 q).trans (P0 q)) aW3 hs2 ho2 hd;cases e<;>first|exact this|exact absurd rfl hZ
def aF(h:∀m,aJ P f as m (.ok v) m)(hk:k v []):dZ P f as ml k:=⟨v,[],h _,hk⟩
def fQ{F:Nat->A}{r:R}(h:∀(m:Mem)(d:Nat),m d=none->aJ P f as m (.ok (F d)) (aX m d r))(d:Nat)(hd:aK ml d=none)(hk:k (F d) [(d,r)]):dZ P f as ml k:=⟨F d,[(d,r)],h _ d hd,hk⟩
def aTF{k:A->Prop}(h:∀m,aJ P f as m (.ok v) m)(hk:k v):XD P f as k:=⟨v,h,hk⟩
def C9:Nat->List A->List (Nat×A)
 |_,[]=>[]
 |k,a::r=>(k,a)::C9 (k+1) r
def RQ:∀(as:List A)(k n:Nat),lT (C9 k as) (k+n)=(as[n]?).getD .x
 |[],k,n=>by simp[C9,lT]
 |a::r,k,0=>by simp[C9,lT]
 |a::r,k,n+1=>by
  have hb:Nat.beq k (k+(n+1))=false:=by
   cases hb:Nat.beq k (k+(n+1))with
   |false=>rfl
   |true=>have:=bB hb;omega
  simp only[C9,lT,hb,cond_false];rw[show k+(n+1)=(k+1)+n by omega,RQ r (k+1) n];simp
def IC(as:List A):lT (C9 0 as)=uA as:=by
 funext n;have:=RQ as 0 n;rw[fF]at this;exact this
def aBE(P:Program)(fn:Func)(l:List (Nat×A))(ml:List (Nat×R))(k:A->Prop):Prop:=match GO P (aK ml) (lT l) fn.results.toList with
 |some v=>J0 v k
 |none=>False
def JS(P:Program)(fn:Func)(Q:A->List (Nat×R)->Prop):KT:=λex l ml _=>match ex with
 |.nm=>aBE P fn l ml λv=>Q v ml
 |.ret=>aBE P fn l ml λv=>Q v ml
 |_=>False
def wx{Q:A->List (Nat×R)->Prop}(h:aBE P fn l ml λv=>Q v ml):JS P fn Q .ret l ml nx:=h
def wy{Q:A->List (Nat×R)->Prop}(h:aBE P fn l ml λv=>Q v ml):JS P fn Q .nm l ml nx:=h
def IF{Q:A->List (Nat×R)->Prop}{ex:Ex}(h:JS P fn Q ex l ml nx):SI ex=some .ret/\∃v,GO P (aK ml) (lT l) fn.results.toList=some v/\Q v ml:=by
 have key:aBE P fn l ml (λv=>Q v ml)->∃v,GO P (aK ml) (lT l) fn.results.toList=some v/\Q v ml:=by
  intro h;unfold aBE at h;split at h
  ·rename_i v hv;exact⟨v,hv,s6 h⟩
  ·exact h.elim
 cases ex with
 |nm=>exact⟨rfl,key h⟩
 |ret=>exact⟨rfl,key h⟩
 |ext _=>exact h.elim
 |sE _=>exact h.elim
end
def aGH(m mf:Mem)(r0:Rt)(m2:Mem)(r:Rt):Prop:=
 ∀(N N1:Fr)(T T1:Nat->A)(M0 S0:Nat->Prop)(w0:World)(ρ ρ2:Nat->Value)(a a1:Act)(w w2:World)(e:Ending),bC M0 S0 w0 N T m ρ a w->bC M0 (oO m ρ) w N1 T1 mf ρ2 a1 w2->gL m mf ρ ρ2->r0.Den w2 (dD M0 mf ρ2) mf ρ2 e->
  ∃ρ',bC M0 S0 w0 N T m2 ρ' a w2/\gL m m2 ρ ρ'/\r.Den w2 (dD M0 m2 ρ') m2 ρ' e
def PV(hm:∀i r,m i=some r->m2 i=some r){t:TypeId}{x:A}{e:E}(h:jM P m t x=some e):jM P m2 t x=some e:=by
 unfold jM at h⊢;split at h
 ·split at h
  ·rename_i hi;simp[hm _ _ hi];exact h
  ·cases h
 ·split at h
  ·rename_i hi;simp only[hm _ _ hi];exact h
  ·cases h
 ·exact h
 ·cases h
def aBD(hm:∀i r,m i=some r->m2 i=some r){r:ResultVar}{v:A}(h:aBC P m T r=some v):aBC P m2 T r=some v:=by
 cases r with
 |tmp t=>exact h
 |cell ad t=>
  simp[aBC]at h⊢;split at h
  ·rename_i hl;rw[PV hm hl];exact h
  ·cases h
def OM{P:Program}{m m2:Mem}{T:Nat->A}(hm:∀i r,m i=some r->m2 i=some r):∀{rs:List ResultVar}{vs:List A},MS P m T rs=some vs->MS P m2 T rs=some vs
 |[],vs,h=>h
 |r::rs,vs,h=>by
  simp[MS]at h⊢;split at h
  ·rename_i v vs' h1 h2;rw[aBD hm h1,OM hm h2];exact h
  ·cases h
def aBF(hm:∀i r,m i=some r->m2 i=some r){rs:List ResultVar}{v:A}(h:GO P m T rs=some v):GO P m2 T rs=some v:=by
 unfold GO at h⊢;cases hl:MS P m T rs with
 |none=>rw[hl]at h;cases h
 |some vs=>rw[hl]at h;rw[OM hm hl];exact h
def LZ:List Nat->Mem->Mem
 |[],m=>m
 |i::r,m=>LZ r (aX m i (.df true))
def OW:∀{L:List Nat}{m:Mem}{i:Nat},i∉L->LZ L m i=m i
 |[],m,i,_=>rfl
 |j::r,m,i,h=>by
  rw[LZ,OW (λe=>h (uE _ e))];unfold aX;rw[aT7 (λe=>h (by simp[e]))]
def KA{P:Program}{fn:Func}{T:Nat->A}{v:A}:∀(L:List Nat)(m:Mem),L.Nodup->(∀i∈L,m i=some (.df false))->GO P (LZ L m) T fn.results.toList=some v->pB P fn T m (L.map .s4) .ret (.ok v) (LZ L m)
 |[],m,_,_,h=>pB.ret h
 |i::r,m,hn,hi,h=>by
  have hn':=aAD.1 hn;refine pB.s4 (hi i sM) (KA r _ hn'.2 (λj hj=>?_) h);unfold aX;rw[aT7 (λ(e:j=i)=>hn'.1 (by rw[<-e];exact hj))];exact hi j (by simp[hj])
def VW(N:Nat)(Ds:List Nat)(m:Mem):Mem:=λi=>if N<=i/\i<N+Ds.length then some (.df false)else m i
def aAO(N:Nat)(Ds:List Nat)(ρ:Nat->Value):Nat->Value:=λi=>if N<=i/\i<N+Ds.length then .pointer (some ⟨Ds.getD (i -N) 0,0,none⟩)else ρ i
def R5{w:World}{M:Nat->Prop}{m:Mem}{ρ:Nat->Value}:∀{Ds L:List Nat}{l:List Deferred},Ds.length=L.length->(∀(k:Nat)(h:k<L.length)(h2:k<Ds.length),m L[k]≠none/\ρ L[k]=.pointer (some ⟨Ds[k],0,none⟩))->l=Ds.map DI->iM w M m ρ (L.map .s4) l
 |[],[],l,_,_,e=>e
 |[],_::_,l,h,_,_=>by simp at h
 |_::_,[],l,h,_,_=>by simp at h
 |D::Ds,i::L,l,h,hk,e=>by
  subst e;have h0:=hk 0 sM sM;refine⟨D,Ds.map DI,rfl,⟨h0.1,λ_=>h0.2⟩,R5 (by simpa using h) (λk q q2=>?_) rfl⟩;exact hk (k+1) (by simpa using q) (by simpa using q2)
def aEG{w:World}{M:Nat->Prop}{m:Mem}{ρ:Nat->Value}:∀{ds:List Nat}{l:List Deferred},iM w M m ρ (ds.map λD=>.SK (DI D)) l->l=ds.map DI
 |[],l,h=>h
 |D::r,l,⟨rest,e,h⟩=>by rw[e,aEG h];rfl
def aJ8{b0 b:Bs}{l:List (Nat×R)}{a:Act}(hE:b0.Ext b)(hd:b0.ds=[])(cX:∀x,b0.M x->x<b0.w.heap.size)(aZP:∀x,b.M x->x<b.w.heap.size)(hs:I1 b n T (aK l) ρ a w)(hv:GO P (aK l) T fn.results.toList=some v)
 {Re:Ending->World->Prop}(hR:∀e w' ρ',bC b0.M b0.S b0.w ⟨n,some []⟩ T (aK l) ρ' {a with defers:=[]} w'->gL (aK l) (aK l) ρ ρ'->(Rt.ok v).Den w' (dD b0.M (aK l) ρ') (aK l) ρ' e->Re e w'):sY P fn a.tmps Re a.defers .returning w:=by
 obtain⟨Ds,h1,h2,h3,h4⟩:=hE.grown;rw[hd,dS]at h1;obtain⟨N,hN⟩:∃N,∀i,N<=i->aK l i=none:=by
  clear hs hv hR;induction l with
  |nil=>exact⟨0,λ_ _=>rfl⟩
  |cons p r ih=>
   obtain⟨N,h⟩:=ih;refine⟨max N (p.1+1),λi hi=>?_⟩;rw[lR];unfold aX;rw[aT7 oM];exact h i oM
 let L:=(List.range Ds.length).map (N+·);have hLl:L.length=Ds.length:=by simp[L]
 have hLm:∀i,i∈L↔N<=i/\i<N+Ds.length:=by
  intro i;simp only[L,aA4,jI];constructor
  ·rintro⟨k,hk,rfl⟩;omega
  ·rintro⟨q1,q2⟩;exact⟨i -N,oM,oM⟩
 have hLn:L.Nodup:=by
  refine List.pairwise_map.2 (List.nodup_range.imp λh e=>h ?_);omega
 let m2:=VW N Ds (aK l);let ρ2:=aAO N Ds ρ;have a0C:∀i r,aK l i=some r->m2 i=some r/\ρ2 i=ρ i:=by
  intro i r hi;have:¬(N<=i/\i<N+Ds.length):=λq=>by rw[hN i q.1]at hi;cases hi
  exact⟨by simp only[m2,VW];rw[aT7 this];exact hi,by simp only[ρ2,aAO];rw[aT7 this]⟩
 have hin:∀i r,m2 i=some r->(∃k,∃h:k<Ds.length,i=N+k/\r=.df false/\ρ2 i=.pointer (some ⟨Ds[k],0,none⟩))\/(aK l i=some r/\ρ2 i=ρ i):=by
  intro i r hi;by_cases hq:N<=i/\i<N+Ds.length
  ·left;refine⟨i -N,oM,oM,?_,?_⟩
   ·simp only[m2,VW]at hi;rw[aUF hq]at hi;exact(eY hi).symm
   ·simp only[ρ2,aAO];rw[aUF hq];have:i -N<Ds.length:=oM;simp[bF,this]
  ·right;exact⟨by simp only[m2,VW]at hi;rw[aT7 hq]at hi;exact hi,by simp only[ρ2,aAO];rw[aT7 hq]⟩
 have hon:gL (aK l) m2 ρ ρ2:=by
  intro i hi;cases hq:aK l i with
  |none=>exact absurd hq hi
  |some r=>
   obtain⟨e1,e2⟩:=a0C i r hq;rw[e1];exact⟨sM,λhd=>⟨hd,e2,λfz t es l' e=>⟨fz,t,l',e,rfl⟩⟩⟩
 have aXP:∀x,dD b0.M m2 ρ2 x↔dD b.M (aK l) ρ x:=by
  intro x;constructor
  ·rintro(e|⟨i,r,e1,e2,e3⟩)
   ·exact .inl ((h2 x).2 (.inl e))
   ·rcases hin i r e1 with⟨k,hk,rfl,rfl,e⟩|⟨q1,q2⟩
    ·rw[e]at e3;simp only[blk,aA]at e3;exact .inl ((h2 x).2 (.inr (by rw[<-e3];exact aY hk)))
    ·rw[q2]at e3;exact .inr ⟨i,r,q1,e2,e3⟩
  ·rintro(e|⟨i,r,e1,e2,e3⟩)
   ·rcases(h2 x).1 e with e|e
    ·exact .inl e
    ·obtain⟨k,hk,rfl⟩:=dH.1 e;refine .inr ⟨N+k,.df false,?_,rfl,?_⟩
     ·simp only[m2,VW];rw[aUF ⟨oM,oM⟩]
     ·simp only[ρ2,aAO];rw[aUF ⟨oM,oM⟩];have:N+k -N=k:=oM;simp[this,bF,hk,blk]
   ·obtain⟨q1,q2⟩:=a0C i r e1;exact .inr ⟨i,r,q1,e2,by rw[q2];exact e3⟩
 have aYN:dD b0.M m2 ρ2=dD b.M (aK l) ρ:=funext λx=>propext (aXP x);have HG:=dV.refl (dD b.M (aK l) ρ) w;have PE:∀x,dD b0.M m2 ρ2 x->x<w.heap.size->dD b.M (aK l) ρ x:=λx q _=>(aXP x).1 q;have hDw:∀D∈Ds,w.heap[D]?=some (.deferred (some []))/\D<w.heap.size:=λD hD=>by
  obtain⟨_,_,g3,g4,g5⟩:=h4 D hD;exact⟨(hs.keeps.block D g3 g4).trans g5,cG g3 hs.keeps.size⟩
 have hs2:bC b0.M b0.S b0.w ⟨n,some (L.map .s4)⟩ T m2 ρ2 a w:=
  {keeps:=hE.keeps.trans hs.keeps λx hx q=>(hE.own x q).resolve_left oM
   size:=hs.size
   defers:=λds e=>by
    simp only[aA]at e;subst e
    refine R5 (Ds:=Ds) (by simp[L]) (λk hk EN=>?_) (by
     have:=aEG (hs.defers _ rfl)
     rw[h1]at this;exact this)
    have e:L[k]=N+k:=by simp[L]
    rw[e];refine⟨by simp only[m2,VW];rw[aUF ⟨oM,oM⟩];simp,?_⟩;simp only[ρ2,aAO];rw[aUF ⟨oM,oM⟩];have:N+k -N=k:=oM;simp[this,bF,EN]
   tmps:=λk=>A.dC HG PE hon _ _ (hs.tmps k)
   res:=λi r hi=>by
    rcases hin i r hi with⟨k,hk,rfl,rfl,e⟩|⟨q1,q2⟩
    · rw[e]
      exact⟨Ds[k],rfl,by simpa using(hDw _ (aY hk)).1⟩
    · rw[q2]
      exact R.hU HG PE hon (λ_ _ _=>rfl) (hs.res i r q1)
   own:=λi r x hi hl hb=>by
    rcases hin i r hi with⟨k,hk,rfl,rfl,e⟩|⟨q1,q2⟩
    · rw[e]at hb
      simp only[blk,aA]at hb;subst hb;obtain⟨g1,g2,g3,g4,g5⟩:=h4 _ (aY hk);exact⟨g1,g2,(hDw _ (aY hk)).2⟩
    · rw[q2]at hb
      obtain⟨x1,x2,x3⟩:=hs.own i r x q1 hl hb;refine⟨?_,λe=>x2 ((h2 x).2 (.inl e)),x3⟩;rcases x1 with x1|x1
      · exact .inl (cL hE.keeps.size x1)
      · exact hE.own x x1
   apart:=λi j r s x hi l1 hj l2 c1 c2=>by
    have hbM:∀k(hk:k<Ds.length)i r,aK l i=some r->r.live=true->blk (ρ i)=some Ds[k]->False:=λk hk i r q1 q2 q3=>
     (hs.own i r _ q1 q2 q3).2.1 ((h2 _).2 (.inr (aY hk)))
    rcases hin i r hi with⟨k,hk,rfl,rfl,e⟩|⟨q1,q2⟩
    · rw[e]at c1
      simp only[blk,aA]at c1;rcases hin j s hj with⟨k',hk',rfl,rfl,e'⟩|⟨p1,p2⟩
      · rw[e']at c2
        simp only[blk,aA]at c2;have:k=k':=(a4A h3).1 (c1.trans c2.symm);omega
      · rw[p2]at c2
        exact(hbM k hk j s p1 l2 (by rw[c1];exact c2)).elim
    · rw[q2]at c1
      rcases hin j s hj with⟨k',hk',rfl,rfl,e'⟩|⟨p1,p2⟩
      · rw[e']at c2
        simp only[blk,aA]at c2;exact(hbM k' hk' i r q1 l1 (by rw[c2];exact c1)).elim
      · rw[p2]at c2
        exact hs.apart i j r s x q1 l1 p1 l2 c1 c2}
 have hL2:∀i∈L,m2 i=some (.df false):=λi hi=>by
  simp only[m2,VW];rw[aUF ((hLm i).1 hi)]
 have hmf:∀i r,aK l i=some r->LZ L m2 i=some r:=λi r hi=>by
  rw[OW (λe=>by have:=((hLm i).1 e).1;rw[hN i this]at hi;cases hi)];exact(a0C i r hi).1
 have hlv:=KA (P:=P) (fn:=fn) (T:=T) (v:=v) L m2 hLn hL2 (aBF hmf hv);refine hlv n b0.M b0.S b0.w ρ2 a w .returning hs2 cX rfl Re ?_;intro e w' ρ' s o q;have hvh:∀i∈v.hs,aK l i≠none:=by
  obtain⟨y,_,hy⟩:=HQ (P:=P) hs hv;exact A.wC _ _ hy
 have hd2:=s.drop (m1:=aK l) hmf (λk i hi=>A.wC _ _ (hs.tmps k) i hi) (λds e d hd i hi=>by simp only[aA]at e;subst e;simp at hd) (λi r hi=>R.wC (hs.res i r hi));refine hR e w' ρ' hd2 (λi hi=>?_) ?_
 ·cases hq:aK l i with
  |none=>exact absurd hq hi
  |some r=>
   refine⟨sM,λhd=>⟨hd,?_,λfz t es l' e=>⟨fz,t,l',e,rfl⟩⟩⟩;obtain⟨g1,g2⟩:=a0C i r hq;have:=((o i (by rw[g1];simp)).2 (by rw[hmf i r hq];exact hd)).2.1;rw[this,g2]
 ·obtain⟨y,rfl,hy⟩:=q;refine⟨y,rfl,?_⟩;have Q2:∀x,dD b0.M (aK l) ρ' x->x<w'.heap.size->dD b0.M (LZ L m2) ρ' x:=by
   rintro x (e|⟨i,r,g1,g2,g3⟩) _
   ·exact .inl e
   ·exact .inr ⟨i,r,hmf i r g1,g2,g3⟩
  exact A.dC (dV.refl _ w') Q2 (gL.refl _ ρ') _ _ (A.kU hmf _ _ hvh hy)
def qG{r:Rt}{Post:Ex->(Nat->A)->Mem->Prop}(hf:P.funcs[f]?=some fn)(hb:fn.body=some c)(n0:kW P f=true)(hn:as.length<=fn.ntmps)
 (aYU:kD P mb fn.ntmps c (uA as) (aK mb) Post)(aYH:∀ex T' m',Post ex T' m'->SI ex=some .ret/\(∃l,m'=aK l)/\∃v,GO P m' T' fn.results.toList=some v/\aGH (aK mb) m' (.ok v) m2 r):aJ P f as (aK mb) r m2:=by
 refine⟨n0,?_⟩;intro N T M0 S0 w0 ρ a w h cX vs hd;have hlen:=(A.xJ.1 hd).1;refine DE hf hb ?_;have aVU:∀b,M0 b->b<w.heap.size:=λb hb=>cG (cX b hb) h.keeps.size;let b0:Bs:=⟨M0,oO (aK mb) ρ,w,[]⟩;have h0:I1 b0 fn.ntmps (uA as) (aK mb) ρ {tmps:=vs.toArray++Array.replicate (fn.ntmps -vs.toArray.size) undef,defers:=[]} w:=
  {keeps:=iF.refl _ _,size:=by simp;omega
   defers:=λds e=>by simp[Bs.das,b0]at e;subst e;rfl
   tmps:=λn=>by
    unfold uA;rcases eQ n as.length with q|q
    · rw[aC q]
      have hv:n<vs.length:=oM;have e1:(vs.toArray++Array.replicate (fn.ntmps -vs.toArray.size) undef).getD n undef=vs[n]:=by
       rw[cZ,fY (by simpa using hv)];simp[hv]
      rw[e1];exact(A.xJ.1 hd).2 n _ _ (aC q) (aC hv)
    · rw[lD q]
      simp[A.Den]
   res:=h.res,own:=h.now.own,apart:=h.apart}
 refine aYU none (.inl rfl) b0 ρ ρ _ w h0 (gL.refl _ ρ) aVU _ ?_;intro ex e T' m' b' ρ' a' w' hp hE _ aZP h1 hO hex;obtain⟨T9,⟨l,rfl⟩,v,hv,a1I⟩:=aYH ex T' m' hp;have key:∀(e:Ending)(w2:World)(ρ2:Nat->Value),bC M0 (oO (aK mb) ρ) w ⟨fn.ntmps,some []⟩ T' (aK l) ρ2 {a' with defers:=[]} w2->gL (aK l) (aK l) ρ' ρ2->(Rt.ok v).Den w2 (dD M0 (aK l) ρ2) (aK l) ρ2 e->
  ∃ρ',bC M0 S0 w0 N T m2 ρ' a w2/\gL (aK mb) m2 ρ ρ'/\r.Den w2 (dD M0 m2 ρ') m2 ρ' e:=by
  intro e w2 ρ2 s o q;exact a1I N _ T _ M0 S0 w0 ρ ρ2 a _ w w2 e h s (hO.trans o) q
 have fin:=aJ8 (P:=P) (fn:=fn) (v:=v) hE rfl aVU aZP h1 hv key;cases ex with
 |nm=>simp[Ex.Den]at hex;subst hex;exact fin
 |ret=>simp[Ex.Den]at hex;subst hex;exact fin
 |sE v=>cases T9
 |ext id=>cases T9
mutual
inductive Rd(m:Mem):A->C->Prop
 |d (c:C):Rd m (.d c) c
 |nl (es:Nat):Rd m (.d (.nl es)) (.sl es [])
 |nz (es es':Nat):Rd m (.d (.nl es)) (.sl es' [])
 |os {i:Nat} {fz:Bool} {t:TypeId} {es:Nat} {rows:List (List A)} {l:List (List C)}:m i=some (.fW fz t es rows)->D6 m rows l->Rd m (.h i) (.sl es l)
 |lp {i:Nat} {fz:Bool} {l:List A} {cs:List C}:m i=some (.cells fz l)->wJ m l cs->Rd m (.lp i 0) (.ip cs)
 |mp {i:Nat} {fz:Bool} {kv:List (Ky×A)} {st:List (Ky×Nat)} {vs:List C}:m i=some (.mp fz kv st)->wJ m (kv.map (·.2)) vs->Rd m (.h i) (.im (kv.map (·.1)) vs)
 |agg {l:List A} {cs:List C}:wJ m l cs->Rd m (.agg l) (.agg cs)
 |AE {t:TypeId} {a:A} {c:C}:Rd m a c->Rd m (.AE t a) (.AE t c)
 |fn {f:Fn} {u v:List A} {cu cv:List C}:wJ m u cu->wJ m v cv->Rd m (.fn f u v) (.fn f cu cv)
inductive wJ(m:Mem):List A->List C->Prop
 |nil:wJ m [] []
 |cons {a:A} {c:C} {l:List A} {r:List C}:Rd m a c->wJ m l r->wJ m (a::l) (c::r)
inductive D6(m:Mem):List (List A)->List (List C)->Prop
 |nil:D6 m [] []
 |cons {a:List A} {c:List C} {l:List (List A)} {r:List (List C)}:wJ m a c->D6 m l r->D6 m (a::l) (c::r)
end
def wJ.data(m:Mem):∀l:List C,wJ m (l.map A.d) l
 |[]=>.nil
 |c::r=>.cons (.d c) (wJ.data m r)
def D6.data(m:Mem):∀l:List (List C),D6 m (l.map λx=>x.map A.d) l
 |[]=>.nil
 |x::r=>.cons (wJ.data m x) (D6.data m r)
def wJ.length{m:Mem}:∀{l:List A}{cs:List C},wJ m l cs->l.length=cs.length
 |_,_,.nil=>rfl
 |_,_,.cons _ h=>by simp[h.length]
def D6.length{m:Mem}:∀{l:List (List A)}{cs:List (List C)},D6 m l cs->l.length=cs.length
 |_,_,.nil=>rfl
 |_,_,.cons _ h=>by simp[h.length]
def D6.lens{m:Mem}{es:Nat}:∀{l:List (List A)}{cs:List (List C)},D6 m l cs->(∀e∈l,e.length=es)->∀e∈cs,e.length=es
 |_,_,.nil,_=>sM
 |_,_,.cons a b,h=>by
  intro e he;simp[aO]at he;rcases he with rfl|he
  ·rw[<-a.length];exact h _ sM
  ·exact b.lens (λe he=>h e (by simp[he])) e he
section
variable{M0 S0:Nat->Prop}{w0:World}{N:Fr}{T:Nat->A}{m:Mem}{ρ:Nat->Value}{a:Act}{w:World}
def WK(s:bC M0 S0 w0 N T m ρ a w){i b:Nat}{r:R}(hi:m i=some r)(hb:blk (ρ i)=some b)(hr:r.live=false->¬dD M0 m ρ b):¬M0 b:=by
 cases hl:r.live with
 |true=>exact(s.own i r b hi hl hb).2.1
 |false=>exact λe=>hr hl (.inl e)
def xU{w:World}{M:Nat->Prop}:∀{l r:List C}{ys zs:List Value},C.bR w M l ys->C.bR w M r zs->C.bR w M (l++r) (ys++zs)
 |[],r,ys,zs,h1,h2=>by simp only[C.bR]at h1;subst h1;simpa using h2
 |c::l,r,ys,zs,h1,h2=>by
  simp only[C.bR]at h1;obtain⟨y,yr,rfl,k1,k2⟩:=h1;simp only[bW,C.bR];exact⟨y,yr++zs,rfl,k1,xU k2 h2⟩
mutual
def WJ(s:bC M0 S0 w0 N T m ρ a w):∀{v:A}{c:C}{y:Value},Rd m v c->v.Den w (dD M0 m ρ) m ρ y->C.Den w M0 c y
 |_,_,y,.d c,hy=>by
  simp only[A.Den]at hy;exact C.dC (dV.refl _ w) (λb hb _=>.inl hb) _ _ hy
 |_,_,y,.nl es,hy=>by
  simp only[A.Den,C.Den]at hy⊢;exact⟨none,0,by rw[hy];rfl,bT _,.inl tV⟩
 |_,_,y,.nz es es',hy=>by
  simp only[A.Den,C.Den]at hy⊢;exact⟨none,0,by rw[hy];rfl,bT _,.inl tV⟩
 |_,_,y,.os (i:=i) (fz:=fz) (es:=es) (rows:=rows) (l:=l) hi hl,hy=>by
  simp only[A.Den]at hy;have hv:=eH hy hi sM;obtain⟨xs,g1,g2,g3,g4,g5⟩:=s.res i _ hi;rw[hv];have hlen:=hl.length;simp only[C.Den];rcases g1 with⟨rfl,hn,ad,e⟩|⟨hxl,g,og,cap,cur,e,hp,hg,hnc,hcm,aXM,htk⟩
  ·have:l=[]:=bL oM;subst this;exact⟨some ad,0,by rw[e];rfl,bT _,.inl rfl⟩
  ·refine⟨some ⟨g,og,none⟩,cap,by rw[e,hlen],oM,.inr ⟨g,og,rfl,?_,(aL.1 hg).1,?_⟩⟩
   ·refine WK s hi (b:=g) (by rw[e];simp[blk];omega) (λhlv=>g4 (by simpa [R.live]using hlv) g (by rw[e];simp[blk];omega))
   ·refine I7 l og xs (hl.lens g3) (TZ s hl g2) g5 (λj v hj=>?_);exact vV.cells (.inr ⟨hxl,g,og,cap,cur,e,hp,hg,hnc,hcm,aXM,htk⟩) e j v hj
 |_,_,y,.lp (i:=i) (fz:=fz) (l:=l) (cs:=cs) hi hl,hy=>by
  simp only[A.Den]at hy;obtain⟨b,e1,e2⟩:=eH hy hi sM;obtain⟨b',vs,t,g1,g2,g3,g4,g5⟩:=s.res i _ hi;rw[e1]at g1;simp only[oN,aA,rX,and_true]at g1;subst g1;simp only[C.Den];refine⟨b,0,e2,?_,(aL.1 g2).1,?_⟩
  ·exact WK s hi (b:=b) (by rw[e1];rfl) (λhlv=>g4 (by simpa [R.live]using hlv))
  ·have hd:=C.xJ.1 (tC s hl g3);rw[C.rA];intro j c hc;have hj:j<vs.toList.length:=by rw[<-hd.1];exact(bA.1 hc).1
   refine⟨vs.toList[j],?_,g5 _ (aY hj),hd.2 j c _ hc (aC hj)⟩;rw[fF,oR g2];simp at hj;simp[hj]
 |_,_,y,.mp (i:=i) (fz:=fz) (kv:=kv) (vs:=vs) hi hl,hy=>by
  simp only[A.Den]at hy;have hv:=eH hy hi sM;obtain⟨b,es,clock,l,g1,g2,g3,g4,g5,g6⟩:=s.res i _ hi;simp only[C.Den];refine⟨b,es,clock,l,by rw[hv,g1],?_,g2,g3,tC s hl g4⟩;exact WK s hi (b:=b) (by rw[g1];rfl) (λhlv=>g5 (by simpa [R.live]using hlv))
 |_,_,y,.agg hl,hy=>by
  simp only[A.Den,C.Den]at hy⊢;obtain⟨vs,e,h1,h2⟩:=hy;exact⟨vs,e,h1,tC s hl h2⟩
 |_,_,y,.AE h,hy=>by
  simp only[A.Den,C.Den]at hy⊢;obtain⟨v,e,h1⟩:=hy;exact⟨v,e,WJ s h h1⟩
 |_,_,y,.fn hu hv,hy=>by
  simp only[A.Den,C.Den]at hy⊢;obtain⟨us,vs,e,h1,h2⟩:=hy;exact⟨us,vs,e,tC s hu h1,tC s hv h2⟩
def tC(s:bC M0 S0 w0 N T m ρ a w):∀{l:List A}{cs:List C}{ys:List Value},wJ m l cs->A.bR w (dD M0 m ρ) m ρ l ys->C.bR w M0 cs ys
 |_,_,ys,.nil,hy=>by simpa only[A.bR,C.bR]using hy
 |_,_,ys,.cons h1 h2,hy=>by
  simp only[A.bR,C.bR]at hy⊢;obtain⟨y,yr,e,k1,k2⟩:=hy;exact⟨y,yr,e,WJ s h1 k1,tC s h2 k2⟩
def TZ(s:bC M0 S0 w0 N T m ρ a w):∀{l:List (List A)}{cs:List (List C)}{ys:List Value},D6 m l cs->A.bR w (dD M0 m ρ) m ρ l.flatten ys->C.bR w M0 cs.flatten ys
 |_,_,ys,.nil,hy=>by simpa only[A.bR,C.bR,List.flatten_nil]using hy
 |_,_,ys,.cons (a:=e) (c:=c) (l:=l) h1 h2,hy=>by
  rw[dL]at hy⊢;have t1:=A.mT e.length hy;have t2:=A.lL e.length hy;rw[List.take_left]at t1;rw[List.drop_left]at t2;have:=xU (tC s h1 t1) (TZ s h2 t2)
  rwa [gJ]at this
end
end
inductive A1(m:Mem):A->A->Prop
 |one {a:A} {c:C}:Rd m a c->A1 m a (.d c)
 |eL {l:List A} {cs:List C}:wJ m l cs->A1 m (.eL l) (.eL (cs.map A.d))
def FN{w:World}{M:Nat->Prop}{m:Mem}{ρ:Nat->Value}:∀{cs:List C}{ys:List Value},C.bR w M cs ys->A.bR w M m ρ (cs.map A.d) ys
 |[],ys,h=>by simpa only[C.bR,A.bR,bM]using h
 |c::r,ys,h=>by
  simp only[C.bR,A.bR,aG]at h⊢;obtain⟨y,yr,e,h1,h2⟩:=h;exact⟨y,yr,e,by simpa only[A.Den]using h1,FN h2⟩
def aAQ{mf:Mem}(h:A1 mf v r):aGH (aK []) mf (.ok v) (aK []) (.ok r):=by
 intro N N1 T T1 M0 S0 w0 ρ ρ2 a a1 w w2 e hs s hO aWJ;obtain⟨y,rfl,hy⟩:=aWJ;have hb:=hs.back s hO;have⟨k1,k2,_⟩:=hs.cut (u:=[]) (v:=.x) (y:=y) hb hO (λi r h=>by simp[aH,aK]at h) (by simp[A.hs]) sM (by simp[A.Den]);refine⟨ρ2,k1,k2,y,rfl,?_⟩;have hM:dD M0 (aK []) ρ2=M0:=by
  funext b;refine propext ⟨?_,.inl⟩;rintro(e|⟨i,r,hi,_⟩)
  ·exact e
  ·simp[aK]at hi
 rw[hM];cases h with
 |one h=>simpa only[A.Den]using WJ s h hy
 |eL h=>
  simp[A.Den]at hy⊢;have⟨vs,e1,h2⟩:=hy;exact⟨vs,e1,FN (tC s h h2)⟩
def CV(hm:P.follows .mixedOrders=true){f:FuncId}{fn:Func}{c:Code}{as:List A}{r:A}(hf:P.funcs[f]?=some fn)(hb:fn.body=some c)(n0:kW P f=true)(hn:as.length<=fn.ntmps)(has:A.lQ as=[])
 (h:vc P [] fn.ntmps c (C9 0 as) [] 1 (JS P fn λv ml=>A1 (aK ml) v r))(m:Mem):aJ P f as m (.ok r) m:=by
 have h1:=uX hm c _ _ _ _ h;rw[IC]at h1;have h2:aJ P f as (aK []) (.ok r) (aH (aK []) []):=by
  refine qG (mb:=[]) hf hb n0 hn h1 ?_;rintro ex T' m' ⟨l,ml,nx,rfl,rfl,h⟩;have⟨e1,v,e2,h3⟩:=IF h;exact⟨e1,⟨ml,rfl⟩,v,e2,aAQ h3⟩
 exact aJ.frame (m:=m) (ups:=[]) h2 (by simp[has]) (by simp[aK]) (by simp[aK]) sM
def iW(hm:P.follows .mixedOrders=true){f:FuncId}{fn:Func}{c:Code}{as:List A}{F:Nat->A}{r:R}(hf:P.funcs[f]?=some fn)(hb:fn.body=some c)(n0:kW P f=true)(hn:as.length<=fn.ntmps)(has:A.lQ as=[])(hr:r.hs=[])
 (hF:∀g i,(F i).eZ g=F (g i))(hFh:∀i,∀j∈(F i).hs,j=i)(hri:∀g,r.eZ g=r)
 (h:vc P [] fn.ntmps c (C9 0 as) [] 1 (JS P fn λv ml=>∃i,v=F i/\aK ml i=some r))(m:Mem)(d:Nat)(hd:m d=none):aJ P f as m (.ok (F d)) (aX m d r):=by
 have h1:=uX hm c _ _ _ _ h;rw[IC]at h1;have h2:aJ P f as (aK []) (.ok (F d)) (aH (aK []) [(d,r)]):=by
  refine qG (mb:=[]) hf hb n0 hn h1 ?_;rintro ex T' m' ⟨l,ml,nx,rfl,rfl,h⟩;obtain⟨e1,v,e2,i,rfl,e3⟩:=IF h;refine⟨e1,⟨ml,rfl⟩,_,e2,?_⟩;intro N N1 T T1 M0 S0 w0 ρ ρ2 a a1 w w2 e hs s hO aWJ;have⟨s',a1D⟩:=s.eZ (fH i d) (fH i d);have hO':gL (aK []) (nK (swp i d) (swp i d) (aK ml)) ρ (λk=>ρ2 (swp i d k)):=λk hk=>absurd rfl hk;have hb:=hs.back s' hO';have ei:swp i d d=i:=by simp only[BJ];by_cases e:d=i<;>simp[e]
  have ed:swp i d i=d:=by simp[BJ]
  obtain⟨y,rfl,hy⟩:=aWJ;have hv:=a1D _ _ hy;rw[hF,ed]at hv
  have⟨k1,k2,k3⟩:=hs.cut (u:=[(d,r)]) hb hO' (λk q hk=>by
   simp only[aH,aX,aK]at hk;split at hk
   · rename_i e;subst e
     simp[aA]at hk;subst hk;unfold nK;rw[ei,e3];simp[dF,hri]
   · cases hk) (λk hk=>by have:=hFh d k hk;subst this;simp[aH,aX]) (by simp[hr]) hv
  exact⟨_,k1,k2,y,rfl,k3⟩
 exact aJ.frame (m:=m) (ups:=[(d,r)]) h2 (by simp[has]) (by simp[aK]) (by simp[aK]) (by simp[hd])
def bE(l:List (List C)):List (List A):=l.map λr=>r.map A.d
def dU(t:TypeId)(es:Nat)(l:List (List C)):R:=.fW false t es (bE l)
def OL(g:Nat->Nat):∀l:List C,A.iV g (l.map A.d)=l.map A.d
 |[]=>rfl
 |c::r=>by simp[aG,A.iV,A.eZ,OL g r]
def wX:∀l:List C,A.lQ (l.map A.d)=[]
 |[]=>rfl
 |c::r=>by simp[aG,A.lQ,A.hs,wX r,dS]
def GQ(g:Nat->Nat):∀l:List (List C),(bE l).map (A.iV g)=bE l
 |[]=>rfl
 |c::r=>by
  have:=GQ g r;simp[bE]at this⊢;simp[aG,OL,this]
def yT:∀l:List (List C),(bE l).flatten=l.flatten.map A.d
 |[]=>rfl
 |c::r=>by
  have:=yT r;simp only[bE]at this⊢;simp only[aG,dL,this,bP]
def eT(g:Nat->Nat)(t:TypeId)(es:Nat)(l:List (List C)):(dU t es l).eZ g=dU t es l:=by simp[dU,R.eZ,GQ]
def oJ(t:TypeId)(es:Nat)(l:List (List C)):(dU t es l).hs=[]:=by simp only[dU,R.hs,yT,wX]
def Y1(t:TypeId)(es:Nat)(l r:List (List C)):R.fW false t es (bE l++bE r)=dU t es (l++r):=by simp[dU,bE,bP]
def lv(es id:Nat)(rows:List (List C)):A:=match rows with
 |[]=>.d (.nl es)
 |_::_=>.h id
def lm(id:Nat)(t:TypeId)(es:Nat)(rows:List (List C))(ml:List (Nat×R)):List (Nat×R):=match rows with
 |[]=>ml
 |r::q=>(id,Go.Pv.dU t es (r::q))::ml
def cN.aVK(d id:Nat){mb:List (Nat×R)}{n:Nat}{l l':List (Nat×A)}{ml base:List (Nat×R)}{t:TypeId}{es:Nat}{rows:List (List C)}(hr:rows≠[])(hbk:M3 d id (lm id t es rows base) mb)(hl:KP (swp d id) l l')(hd:aK ml d=some (Go.Pv.dU t es rows))(hb:I8 (swp d id) ml base)
 (h1:GF (lm id t es rows base) l')(h2:H9 (lm id t es rows base) base):cN mb n l ml l' (lm id t es rows base):=by
 cases rows with
 |nil=>exact absurd rfl hr
 |cons r q=>
  refine cN.swap d id hbk hl ⟨?_,hb⟩ h1 ⟨by rw[oJ];trivial,h2⟩;have e:swp d id id=d:=by simp only[BJ];by_cases e:id=d<;>simp[e]
  rw[e,hd,dF,eT]
def Rd.lv{id:Nat}{t:TypeId}{es:Nat}{rows:List (List C)}{ml:List (Nat×R)}:Rd (aK (lm id t es rows ml)) (lv es id rows) (.sl es rows):=by
 cases rows with
 |nil=>exact .nl es
 |cons r q=>exact .os (fz:=false) (t:=t) (rows:=bE (r::q)) (by simp[lm,aK,Go.Pv.dU]) (D6.data _ _)
def Rd.dU{m:Mem}{i:Nat}{t:TypeId}{es:Nat}{l:List (List C)}(h:m i=some (dU t es l)):Rd m (.h i) (.sl es l):=.os h (D6.data m l)
structure U8(mb:List (Nat×R))(r:A)(u:List (Nat×R))(v:A)(ml:List (Nat×R)):Prop where
 val:v=r
 mem:∀i q,aH (aK mb) u i=some q->aK ml i=some q
def aCP{x:R}(h1:v=r)(h2:aK ml 0=some r'):U8 [(0,x)] r [(0,r')] v ml:=by
 refine⟨h1,λi q hq=>?_⟩;simp[aH,aX,aK]at hq;by_cases e:i=0
 ·subst e;simp at hq;rw[h2,hq]
 ·have hb:Nat.beq 0 i=false:=by
   cases hb:Nat.beq 0 i with
   |false=>rfl
   |true=>exact absurd (bB hb).symm e
  simp[e,hb]at hq
def aDP(h:U8 mb r u v ml)(hv:∀i∈r.hs,aH (aK mb) u i≠none)(hc:∀p∈u,∀j∈p.2.hs,aH (aK mb) u j≠none):aGH (aK mb) (aK ml) (.ok v) (aH (aK mb) u) (.ok r):=by
 intro N N1 T T1 M0 S0 w0 ρ ρ2 a a1 w w2 e hs s hO aWJ;obtain⟨y,rfl,hy⟩:=aWJ;obtain⟨rfl,aVM⟩:=h;have hb:=hs.back s hO;have⟨k1,k2,k3⟩:=hs.cut hb hO aVM hv hc hy;exact⟨ρ2,k1,k2,y,rfl,k3⟩
def OC(hm:P.follows .mixedOrders=true){f:FuncId}{fn:Func}{c:Code}{as:List A}{r:A}{mb u:List (Nat×R)}(nx:Nat)(hf:P.funcs[f]?=some fn)(hb:fn.body=some c)(n0:kW P f=true)(hn:as.length<=fn.ntmps)
 (hv:∀i∈r.hs,aH (aK mb) u i≠none)(hc:∀p∈u,∀j∈p.2.hs,aH (aK mb) u j≠none)
 (h:vc P mb fn.ntmps c (C9 0 as) mb nx (JS P fn (U8 mb r u))):aJ P f as (aK mb) (.ok r) (aH (aK mb) u):=by
 have h1:=uX hm c _ _ _ _ h;rw[IC]at h1;refine qG hf hb n0 hn h1 ?_;rintro ex T' m' ⟨l,ml,nx,rfl,rfl,h⟩;have⟨e1,v,e2,h3⟩:=IF h;exact⟨e1,⟨ml,rfl⟩,v,e2,aDP h3 hv hc⟩
def aJ.AK{r:R}(h:aJ P f as (aK [(0,r)]) (.ok v) (aH (aK [(0,r)]) [(0,r')]))(hr:r.hs=[])(wV:∀g,r.eZ g=r)(a2K:∀g,r'.eZ g=r')(hv:v.hs=[])(has:∀j∈A.lQ as,j=0)
 (m:Mem)(i:Nat)(hi:m i=some r):aJ P f (A.iV (swp 0 i) as) m (.ok v) (aX m i r'):=by
 have h1:=h.eZ (fH 0 i) (fH 0 i);have e0:swp 0 i 0=i:=by simp[BJ]
 have ei:swp 0 i i=0:=by simp only[BJ];by_cases e:i=0<;>simp[e]
 have key:∀q:R,(∀g,q.eZ g=q)->nK (swp 0 i) (swp 0 i) (aX (λ_=>none) 0 q)=aX (λ_=>none) i q:=by
  intro q hq;funext k;unfold nK aX;by_cases e:k=i
  ·subst e;simp[ei,hq]
  ·have:swp 0 i k≠0:=by
    intro e2;have:=congrArg (swp 0 i) e2;rw[fH,e0]at this;exact e this
   simp[e,this]
 have m1:aK [(0,r)]=aX (λ_=>none) 0 r:=by rw[lR];rfl
 have m2:aH (aK [(0,r)]) [(0,r')]=aX (λ_=>none) 0 r':=by
  simp[aH,m1];funext k;simp[aX];split<;>rfl
 rw[m2,m1,key r wV,key r' a2K]at h1;have h2:aJ P f (A.iV (swp 0 i) as) (aX (λ_=>none) i r) (.ok v) (aH (aX (λ_=>none) i r) [(i,r')]):=by
  have e1:(Rt.ok v).eZ (swp 0 i)=.ok v:=by
   rw[Rt.lU (g:=λi=>i) _ (by simp[Rt.hs,hv]),Rt.uS]
  rw[e1]at h1;have e2:aH (aX (λ_=>none) i r) [(i,r')]=aX (λ_=>none) i r':=by
   simp[aH];funext k;simp[aX];split<;>rfl
  rw[e2];exact h1
 refine aJ.frame (m:=m) h2 ?_ ?_ ?_ ?_
 ·intro j hj;rw[A.qL]at hj;obtain⟨j0,hj0,rfl⟩:=aA4.1 hj;have:=has j0 hj0;subst this;rw[e0];simp[aX]
 ·intro j q hq;simp only[aX]at hq;split at hq
  ·rename_i e;subst e;rw[<-hq];exact hi
  ·cases hq
 ·intro j q hq k hk;simp only[aX]at hq;split at hq
  ·simp[aA]at hq;subst hq;rw[hr]at hk;simp at hk
  ·cases hq
 ·intro p hp e;simp[aR]at hp;subst hp;simp[aX]at e
def lN(i:Nat)(r':R)(h:aJ P f as (aK ml) (.ok v) (aX (aK ml) i r'))(hk:k v [(i,r')]):dZ P f as ml k:=⟨v,[(i,r')],h,hk⟩
def aJ.args{xs xs':List A}{r:Rt}(h:aJ P f xs m r m')(hd:∀(w:World)(M:Nat->Prop)(ρ:Nat->Value)(vs:List Value),A.bR w M m ρ xs' vs->A.bR w M m ρ xs vs):aJ P f xs' m r m':=
 ⟨h.1,λN T M0 S0 w0 ρ a w hs cX vs P2=>h.2 N T M0 S0 w0 ρ a w hs cX vs (hd w _ ρ vs P2)⟩
def aCM{w:World}{M:Nat->Prop}{m:Mem}{ρ:Nat->Value}:∀{cs:List C}{ys:List Value},A.bR w M m ρ (cs.map A.d) ys->C.bR w M cs ys
 |[],ys,h=>by simpa only[C.bR,A.bR,bM]using h
 |c::r,ys,h=>by
  simp only[C.bR,A.bR,aG]at h⊢;obtain⟨y,yr,e,h1,h2⟩:=h;exact⟨y,yr,e,by simpa only[A.Den]using h1,aCM h2⟩
def I3{y:Value}(h:(A.agg (cs.map A.d)).Den w M m ρ y):(A.d (.agg cs)).Den w M m ρ y:=by
 simp[A.Den,C.Den]at h⊢;have⟨vs,e,h1,h2⟩:=h;exact⟨vs,e,h1,aCM h2⟩
def aCL{a b b':A}(hb:∀y,b'.Den w M m ρ y->b.Den w M m ρ y){vs:List Value}(h:A.bR w M m ρ [a,b'] vs):A.bR w M m ρ [a,b] vs:=by
 simp only[A.bR]at h⊢;have⟨y,yr,e,h1,z,zr,e2,h2,h3⟩:=h;exact⟨y,yr,e,h1,z,zr,e2,hb z h2,h3⟩
def aCK{b b':A}(hb:∀y,b'.Den w M m ρ y->b.Den w M m ρ y){vs:List Value}(h:A.bR w M m ρ [b'] vs):A.bR w M m ρ [b] vs:=by
 simp only[A.bR]at h⊢;have⟨z,zr,e2,h2,h3⟩:=h;exact⟨z,zr,e2,hb z h2,h3⟩
def fT(h:∀m,aJ P f [.d (.agg cs)] m (.ok v) m)(hk:k v []):dZ P f [.agg (cs.map A.d)] ml k:=
 aF (λm=>(h m).args λw M ρ vs h=>aCK (λy h=>I3 h) h) hk
def Sh(m m':Mem)(i:Nat):Prop:=m' i≠none/\(m' i≠some .dead->m i≠some .dead/\∀fz t es l,m i=some (.fW fz t es l)->∃fz' t' l',m' i=some (.fW fz' t' es l')/\l'.length=l.length)
def Has.sh{p q:Prop}(h:Has m i p)(hs:Sh m m' i)(hpq:(∀fz t es l,m i=some (.fW fz t es l)->∃fz' t' l',m' i=some (.fW fz' t' es l')/\l'.length=l.length)->p->q):Has m' i q:=
 ⟨hs.1,λhd=>hpq (hs.2 hd).2 (h.2 (hs.2 hd).1)⟩
mutual
def A.U7{w:World}{M M':Nat->Prop}{m m':Mem}{ρ:Nat->Value}(hM:∀b,M' b->M b):∀(a:A)(y:Value),(∀i∈a.hs,Sh m m' i)->a.Den w M m ρ y->a.Den w M' m' ρ y
 |.d c,y,_,hd=>by
  simp only[A.Den]at hd⊢;exact C.dC (dV.refl _ w) (λb hb _=>hM b hb) c y hd
 |.lp i off,y,hi,hd=>by
  simp only[A.Den]at hd⊢;exact hd.sh (hi i (by simp[A.hs])) λ_ e=>e
 |.h i,y,hi,hd=>by
  simp only[A.Den]at hd⊢;exact hd.sh (hi i (by simp[A.hs])) λ_ e=>e
 |.ep i es k off,y,hi,hd=>by
  simp only[A.Den]at hd⊢;exact hd.sh (hi i (by simp[A.hs])) λ_ e=>e
 |.sv i lo n,y,hi,hd=>by
  simp only[A.Den]at hd⊢;exact hd.sh (hi i (by simp[A.hs])) λe2⟨a,cap,h1,h2,es,fz,t,l,h5,h6,h3⟩=>by
   obtain⟨fz',t',l',h7,h8⟩:=e2 fz t es l h5;exact⟨a,cap,h1,h2,es,fz',t',l',h7,oM,h3.imp (λ⟨q1,q0,q2⟩=>⟨q1,q0,λq=>by rw[h8];exact q2 q⟩) id⟩
 |.fn f first caps,y,hi,hd=>by
  simp[A.Den]at hd⊢;have⟨us,vs,hy,h1,h2⟩:=hd;exact⟨us,vs,hy,A.A0 hM first _ (λi h=>hi i (by simp[A.hs,h])) h1,A.A0 hM caps _ (λi h=>hi i (by simp[A.hs,h])) h2⟩
 |.agg l,y,hi,hd=>by
  simp[A.Den]at hd⊢;have⟨vs,hy,h0,h1⟩:=hd;exact⟨vs,hy,h0,A.A0 hM l _ (λi h=>hi i (by simpa [A.hs]using h)) h1⟩
 |.eL l,y,hi,hd=>by
  simp[A.Den]at hd⊢;have⟨vs,hy,h1⟩:=hd;exact⟨vs,hy,A.A0 hM l _ (λi h=>hi i (by simpa [A.hs]using h)) h1⟩
 |.AE t a,y,hi,hd=>by
  simp[A.Den]at hd⊢;have⟨v,hy,h1⟩:=hd;exact⟨v,hy,A.U7 hM a _ (λi h=>hi i (by simpa [A.hs]using h)) h1⟩
 |.x,y,_,hd=>by simp[A.Den]
def A.A0{w:World}{M M':Nat->Prop}{m m':Mem}{ρ:Nat->Value}(hM:∀b,M' b->M b):∀(l:List A)(ys:List Value),(∀i∈A.lQ l,Sh m m' i)->A.bR w M m ρ l ys->A.bR w M' m' ρ l ys
 |[],ys,_,hd=>by simpa only[A.bR]using hd
 |c::r,ys,hi,hd=>by
  simp only[A.bR]at hd⊢;obtain⟨y,yr,hy,h1,h2⟩:=hd;exact⟨y,yr,hy,A.U7 hM c y (λi h=>hi i (by simp[A.lQ,h])) h1,A.A0 hM r yr (λi h=>hi i (by simp[A.lQ,h])) h2⟩
end
section
variable{M0 S0:Nat->Prop}{w0:World}{N:Fr}{T:Nat->A}{m mF m':Mem}{ρ:Nat->Value}{a:Act}{w:World}
structure nE(m mF m':Mem):Prop where
 fz:∀i r,mF i=some r->m i=some r/\m' i=none
 lv:∀i r',m' i=some r'->r'.live=true->∃r,m i=some r/\r.live=true
def nE.sub(h:nE m mF m'):∀b,dD M0 m' ρ b->dD M0 m ρ b:=by
 rintro b (e|⟨i,r,h1,h2,h3⟩)
 ·exact .inl e
 ·have⟨r2,q1,q2⟩:=h.lv i r h1 h2;exact .inr ⟨i,r2,q1,q2,h3⟩
def QU(s:bC M0 S0 w0 N T m ρ a w)(hf:nE m mF m'){i b:Nat}{r:R}(hi:mF i=some r)(hb:blk (ρ i)=some b)(hr:r.live=false->¬dD M0 m ρ b):¬dD M0 m' ρ b:=by
 obtain⟨h1,h2⟩:=hf.fz i r hi;cases hl:r.live with
 |true=>
  rintro(e|⟨j,r',q1,q2,q3⟩)
  ·exact(s.own i r b h1 hl hb).2.1 e
  ·obtain⟨rj,k1,k2⟩:=hf.lv j r' q1 q2;have:=s.apart i j r rj b h1 hl k1 k2 hb q3;subst this;rw[h2]at q1;cases q1
 |false=>exact λe=>hr hl (hf.sub b e)
mutual
def QT(s:bC M0 S0 w0 N T m ρ a w)(hf:nE m mF m'):∀{v:A}{c:C}{y:Value},Rd mF v c->v.Den w (dD M0 m ρ) m ρ y->C.Den w (dD M0 m' ρ) c y
 |_,_,y,.d c,hy=>by
  simp only[A.Den]at hy;exact C.dC (dV.refl _ w) (λb hb _=>hf.sub b hb) _ _ hy
 |_,_,y,.nl es,hy=>by
  simp only[A.Den,C.Den]at hy⊢;exact⟨none,0,by rw[hy];rfl,bT _,.inl tV⟩
 |_,_,y,.nz es es',hy=>by
  simp only[A.Den,C.Den]at hy⊢;exact⟨none,0,by rw[hy];rfl,bT _,.inl tV⟩
 |_,_,y,.os (i:=i) (fz:=fz) (es:=es) (rows:=rows) (l:=l) hi0 hl,hy=>by
  have hi:=(hf.fz i _ hi0).1;simp only[A.Den]at hy;have hv:=eH hy hi sM;obtain⟨xs,g1,g2,g3,g4,g5⟩:=s.res i _ hi;rw[hv];have hlen:=hl.length;simp only[C.Den];rcases g1 with⟨rfl,hn,ad,e⟩|⟨hxl,g,og,cap,cur,e,hp,hg,hnc,hcm,aXM,htk⟩
  ·have:l=[]:=bL oM;subst this;exact⟨some ad,0,by rw[e];rfl,bT _,.inl rfl⟩
  ·refine⟨some ⟨g,og,none⟩,cap,by rw[e,hlen],oM,.inr ⟨g,og,rfl,?_,(aL.1 hg).1,?_⟩⟩
   ·refine QU s hf hi0 (b:=g) (by rw[e];simp[blk];omega) (λhlv=>g4 (by simpa [R.live]using hlv) g (by rw[e];simp[blk];omega))
   ·refine I7 l og xs (hl.lens g3) (OH s hf hl g2) g5 (λj v hj=>?_);exact vV.cells (.inr ⟨hxl,g,og,cap,cur,e,hp,hg,hnc,hcm,aXM,htk⟩) e j v hj
 |_,_,y,.lp (i:=i) (fz:=fz) (l:=l) (cs:=cs) hi0 hl,hy=>by
  have hi:=(hf.fz i _ hi0).1;simp only[A.Den]at hy;obtain⟨b,e1,e2⟩:=eH hy hi sM;obtain⟨b',vs,t,g1,g2,g3,g4,g5⟩:=s.res i _ hi;rw[e1]at g1;simp only[oN,aA,rX,and_true]at g1;subst g1;simp only[C.Den];refine⟨b,0,e2,?_,(aL.1 g2).1,?_⟩
  ·exact QU s hf hi0 (b:=b) (by rw[e1];rfl) (λhlv=>g4 (by simpa [R.live]using hlv))
  ·have hd:=C.xJ.1 (uO s hf hl g3);rw[C.rA];intro j c hc;have hj:j<vs.toList.length:=by rw[<-hd.1];exact(bA.1 hc).1
   refine⟨vs.toList[j],?_,g5 _ (aY hj),hd.2 j c _ hc (aC hj)⟩;rw[fF,oR g2];simp at hj;simp[hj]
 |_,_,y,.mp (i:=i) (fz:=fz) (kv:=kv) (vs:=vs) hi0 hl,hy=>by
  have hi:=(hf.fz i _ hi0).1;simp only[A.Den]at hy;have hv:=eH hy hi sM;obtain⟨b,es,clock,l,g1,g2,g3,g4,g5,g6⟩:=s.res i _ hi;simp only[C.Den];refine⟨b,es,clock,l,by rw[hv,g1],?_,g2,g3,uO s hf hl g4⟩;exact QU s hf hi0 (b:=b) (by rw[g1];rfl) (λhlv=>g5 (by simpa [R.live]using hlv))
 |_,_,y,.agg hl,hy=>by
  simp only[A.Den,C.Den]at hy⊢;obtain⟨vs,e,h1,h2⟩:=hy;exact⟨vs,e,h1,uO s hf hl h2⟩
 |_,_,y,.AE h,hy=>by
  simp only[A.Den,C.Den]at hy⊢;obtain⟨v,e,h1⟩:=hy;exact⟨v,e,QT s hf h h1⟩
 |_,_,y,.fn hu hv,hy=>by
  simp only[A.Den,C.Den]at hy⊢;obtain⟨us,vs,e,h1,h2⟩:=hy;exact⟨us,vs,e,uO s hf hu h1,uO s hf hv h2⟩
def uO(s:bC M0 S0 w0 N T m ρ a w)(hf:nE m mF m'):∀{l:List A}{cs:List C}{ys:List Value},wJ mF l cs->A.bR w (dD M0 m ρ) m ρ l ys->C.bR w (dD M0 m' ρ) cs ys
 |_,_,ys,.nil,hy=>by simpa only[A.bR,C.bR]using hy
 |_,_,ys,.cons h1 h2,hy=>by
  simp only[A.bR,C.bR]at hy⊢;obtain⟨y,yr,e,k1,k2⟩:=hy;exact⟨y,yr,e,QT s hf h1 k1,uO s hf h2 k2⟩
def OH(s:bC M0 S0 w0 N T m ρ a w)(hf:nE m mF m'):∀{l:List (List A)}{cs:List (List C)}{ys:List Value},D6 mF l cs->A.bR w (dD M0 m ρ) m ρ l.flatten ys->C.bR w (dD M0 m' ρ) cs.flatten ys
 |_,_,ys,.nil,hy=>by simpa only[A.bR,C.bR,List.flatten_nil]using hy
 |_,_,ys,.cons (a:=e) (c:=c) (l:=l) h1 h2,hy=>by
  rw[dL]at hy⊢;have t1:=A.mT e.length hy;have t2:=A.lL e.length hy;rw[List.take_left]at t1;rw[List.drop_left]at t2;have:=xU (uO s hf h1 t1) (OH s hf h2 t2)
  rwa [gJ]at this
end
end
mutual
inductive Cv(m:Mem):A->A->Prop
 |same (a:A):Cv m a a
 |rd {a:A} {c:C}:Rd m a c->Cv m a (.d c)
 |agg {l l':List A}:IX m l l'->Cv m (.agg l) (.agg l')
inductive IX(m:Mem):List A->List A->Prop
 |same (l:List A):IX m l l
 |cons {a a':A} {l l':List A}:Cv m a a'->IX m l l'->IX m (a::l) (a'::l')
end
def IX.length{m:Mem}:∀{l l':List A},IX m l l'->l'.length=l.length
 |_,_,.same l=>rfl
 |_,_,.cons h1 h2=>by simp[h2.length]
inductive MC(m:Mem):List (List A)->List (List A)->Prop
 |same (l:List (List A)):MC m l l
 |cons {a a':List A} {l l':List (List A)}:IX m a a'->MC m l l'->MC m (a::l) (a'::l')
def MC.length{m:Mem}:∀{l l':List (List A)},MC m l l'->l'.length=l.length
 |_,_,.same l=>rfl
 |_,_,.cons h1 h2=>by simp[h2.length]
def MC.lens{m:Mem}{es:Nat}:∀{l l':List (List A)},MC m l l'->(∀e∈l,e.length=es)->∀e∈l',e.length=es
 |_,_,.same l,h=>h
 |_,_,.cons h1 h2,h=>by
  intro e he;simp[aO]at he;rcases he with rfl|he
  ·rw[h1.length];exact h _ sM
  ·exact h2.lens (λe he=>h e (by simp[he])) e he
def IX.append{m:Mem}:∀{a a' b b':List A},IX m a a'->IX m b b'->IX m (a++b) (a'++b')
 |_,_,_,_,.same [],h2=>h2
 |_,_,_,_,.same (x::l),h2=>.cons (.same x) (IX.append (.same l) h2)
 |_,_,_,_,.cons q1 q2,h2=>.cons q1 (IX.append q2 h2)
def MC.flat{m:Mem}:∀{l l':List (List A)},MC m l l'->IX m l.flatten l'.flatten
 |_,_,.same l=>.same _
 |_,_,.cons h1 h2=>by
  simp[dL];exact h1.append h2.flat
def R.plain:R->Bool
 |.dead=>true
 |.wL=>true
 |.AV=>true
 |.si _ _=>true
 |.df _=>true
 |.di _ _=>true
 |_=>false
inductive ZN(m:Mem):R->R->Prop
 |plain {r:R}:r.plain=true->ZN m r r
 |cells {fz:Bool} {l l':List A}:IX m l l'->ZN m (.cells fz l) (.cells fz l')
 |fW {fz:Bool} {t:TypeId} {es:Nat} {l l':List (List A)}:MC m l l'->ZN m (.fW fz t es l) (.fW fz t es l')
 |mp {fz:Bool} {kv kv':List (Ky×A)} {st:List (Ky×Nat)}:kv'.map (·.1)=kv.map (·.1)->IX m (kv.map (·.2)) (kv'.map (·.2))->ZN m (.mp fz kv st) (.mp fz kv' [])
def ZN.live{m:Mem}{r r':R}(h:ZN m r r'):r'.live=r.live:=by cases h<;>rfl
def ZN.dead{m:Mem}{r r':R}(h:ZN m r r')(hd:r'≠.dead):r≠.dead:=by
 cases h with
 |plain _=>exact hd
 |_=>simp
section
variable{M0 S0:Nat->Prop}{w0:World}{N:Fr}{T:Nat->A}{m mF m':Mem}{ρ:Nat->Value}{a:Act}{w:World}
mutual
def XU(s:bC M0 S0 w0 N T m ρ a w)(hf:nE m mF m'):∀{v v':A}{y:Value},Cv mF v v'->(∀i∈v'.hs,Sh m m' i)->v.Den w (dD M0 m ρ) m ρ y->v'.Den w (dD M0 m' ρ) m' ρ y
 |_,_,y,.same v,hs,hy=>A.U7 hf.sub _ _ hs hy
 |_,_,y,.rd h,hs,hy=>by
  simp only[A.Den];exact QT s hf h hy
 |_,_,y,.agg hl,hs,hy=>by
  simp only[A.Den]at hy⊢;obtain⟨vs,e,h1,h2⟩:=hy;exact⟨vs,e,h1,NZ s hf hl (λi h=>hs i (by simpa [A.hs]using h)) h2⟩
def NZ(s:bC M0 S0 w0 N T m ρ a w)(hf:nE m mF m'):∀{l l':List A}{ys:List Value},IX mF l l'->(∀i∈A.lQ l',Sh m m' i)->A.bR w (dD M0 m ρ) m ρ l ys->A.bR w (dD M0 m' ρ) m' ρ l' ys
 |_,_,ys,.same l,hs,hy=>A.A0 hf.sub _ _ hs hy
 |_,_,ys,.cons h1 h2,hs,hy=>by
  simp only[A.bR]at hy⊢;obtain⟨y,yr,e,k1,k2⟩:=hy;exact⟨y,yr,e,XU s hf h1 (λi h=>hs i (by simp[A.lQ,h])) k1,NZ s hf h2 (λi h=>hs i (by simp[A.lQ,h])) k2⟩
end
def aJU(s:bC M0 S0 w0 N T m ρ a w)(hf:nE m mF m'){i:Nat}{r r':R}(hi:m i=some r)(hc:ZN mF r r')(hs:∀j∈r'.hs,Sh m m' j):R.Ok w (dD M0 m' ρ) m' ρ (ρ i) r':=by
 have h:=s.res i r hi;have aVM:∀b,dD M0 m' ρ b->dD M0 m ρ b:=hf.sub;cases hc with
 |plain hp=>
  cases r<;>first
   |(cases hp;done)
   |exact h
   |skip
  have⟨b,mb,es,cl,sa,ll,e,h1,h2,h3,h4,h5,h6,h7,h8,h9⟩:=h;exact⟨b,mb,es,cl,sa,ll,e,h1,λq=>h2 (aVM mb q),h3,h4,h5,h6,h7,C.dK (dV.refl _ w) (λb hb _=>aVM b hb) _ _ h8,h9.mono (dV.refl _ w) (λb hb _=>aVM b hb)⟩
 |cells hl=>
  have⟨b,cs,t,e,h1,h2,h3,h4⟩:=h;exact⟨b,cs,t,e,h1,NZ s hf hl (λj q=>hs j (by simpa [R.hs]using q)) h2,λe q=>h3 e (aVM b q),h4⟩
 |fW hl=>
  have⟨xs,h1,h2,h3,h4,h5⟩:=h;exact⟨xs,by rw[hl.length];exact h1,NZ s hf hl.flat (λj q=>hs j (by simpa [R.hs]using q)) h2,hl.lens h3,λe b hb q=>h4 e b hb (aVM b q),h5⟩
 |mp hk hl=>
  have⟨b,es,cl,l,e,h1,h2,h3,h4,h5⟩:=h;exact⟨b,es,cl,l,e,h1,by rw[hk];exact h2,NZ s hf hl (λj q=>hs j (by simp[R.hs];simpa using q)) h3,λe q=>h4 e (aVM b q),λp hp=>by simp at hp⟩
def bC.aHD{T':Nat->A}(s:bC M0 S0 w0 N T m ρ a w)(hf:∀i r,mF i=some r->m i=some r/\m' i=none)(hds:∀ds,N.ds=some ds->∃L:List Nat,ds=L.map λD=>.SK (DI D))
 (hr:∀i r',m' i=some r'->(∃r,m i=some r/\ZN mF r r')/\∀j∈r'.hs,m' j≠none)(hT:∀n,T' n=.x\/(Cv mF (T n) (T' n)/\∀j∈(T' n).hs,m' j≠none)):bC M0 S0 w0 N T' m' ρ a w:=by
 have hfz:nE m mF m':=⟨hf,λi r' h1 h2=>by
  have⟨⟨r,q1,q2⟩,_⟩:=hr i r' h1
  exact⟨r,q1,by rw[<-q2.live];exact h2⟩⟩
 have rQ:∀j,m' j≠none->Sh m m' j:=by
  intro j hj;cases hq:m' j with
  |none=>exact absurd hq hj
  |some r'=>
   have⟨⟨r,q1,q2⟩,_⟩:=hr j r' hq;refine⟨hj,λhd=>⟨?_,λfz t es l e=>?_⟩⟩
   ·rw[q1];intro e;simp[aA]at e;exact q2.dead (by rintro rfl;exact hd hq) e
   ·rw[q1]at e;simp[aA]at e;subst e;cases q2 with
    |plain hp=>cases hp
    |fW hl=>exact⟨_,_,_,hq,hl.length⟩
 exact{keeps:=s.keeps,size:=s.size
       defers:=λds e=>by
        obtain⟨L,rfl⟩:=hds ds e;exact IL (s.defers _ e)
       tmps:=λn=>by
        rcases hT n with e|⟨h1,h2⟩
        · rw[e];simp[A.Den]
        · exact XU s hfz h1 (λj hj=>rQ j (h2 j hj)) (s.tmps n)
       res:=λi r' hi=>by
        have⟨⟨r,q1,q2⟩,q3⟩:=hr i r' hi;exact aJU s hfz q1 q2 λj hj=>rQ j (q3 j hj)
       own:=λi r' b hi hl hb=>by
        have⟨⟨r,q1,q2⟩,q3⟩:=hr i r' hi;exact s.own i r b q1 (by rw[<-q2.live];exact hl) hb|>.imp id λh=>h
       apart:=λi j r s' b hi l1 hj l2 b1 b2=>by
        have⟨⟨ri,q1,q2⟩,_⟩:=hr i r hi;have⟨⟨rj,q3,q4⟩,_⟩:=hr j s' hj
        exact s.apart i j ri rj b q1 (by rw[<-q2.live];exact l1) q3 (by rw[<-q4.live];exact l2) b1 b2}
end
def EC(F:List Nat)(ml:List (Nat×R)):Mem:=λi=>bif s9 i F then aK ml i else none
def eX{F:List Nat}{r:R}(h1:s9 i F=true)(h2:aK ml i=some r):EC F ml i=some r:=by unfold EC;rw[h1];exact h2
def YL(mF:Mem)(l:List (Nat×A)):List (Nat×A)->Prop
 |[]=>True
 |p::r=>Cv mF (lT l p.1) p.2/\YL mF l r
def YL.at{mF:Mem}{l:List (Nat×A)}:∀{l':List (Nat×A)},YL mF l l'->∀n,lT l' n=.x\/Cv mF (lT l n) (lT l' n)
 |[],_,n=>.inl rfl
 |p::r,h,n=>by
  simp only[lT];cases hb:Nat.beq p.1 n with
  |true=>have:=bB hb;subst this;exact .inr h.1
  |false=>exact h.2.at n
def WG(F:List Nat)(mF:Mem)(ml:List (Nat×R)):List (Nat×R)->Prop
 |[]=>True
 |p::r=>(s9 p.1 F=false/\∃q,aK ml p.1=some q/\ZN mF q p.2)/\WG F mF ml r
def WG.at{F:List Nat}{mF:Mem}{ml:List (Nat×R)}:∀{ml':List (Nat×R)},WG F mF ml ml'->∀i r',aK ml' i=some r'->s9 i F=false/\∃q,aK ml i=some q/\ZN mF q r'
 |[],_,i,r',h=>by simp[aK]at h
 |p::r,h,i,r',hq=>by
  simp only[aK]at hq;cases hb:Nat.beq p.1 i with
  |true=>
   rw[hb]at hq;simp only[cond_true,aA]at hq;have:=bB hb;subst this;subst hq;exact h.1
  |false=>rw[hb]at hq;exact h.2.at i r' hq
def IW(ml':List (Nat×R)):List (Nat×R)->Prop
 |[]=>True
 |p::r=>aK ml' p.1≠none/\IW ml' r
def IW.at{ml':List (Nat×R)}:∀{mb:List (Nat×R)},IW ml' mb->∀k,aK mb k≠none->aK ml' k≠none
 |[],_,k,h=>absurd rfl h
 |p::r,h,k,hk=>by
  simp only[aK]at hk;cases hb:Nat.beq p.1 k with
  |true=>have:=bB hb;subst this;exact h.1
  |false=>rw[hb]at hk;exact h.2.at k hk
def cN.freeze(F:List Nat){mb:List (Nat×R)}{n:Nat}{l l':List (Nat×A)}{ml ml':List (Nat×R)}(hb:IW ml' mb)(hl:YL (EC F ml) l l')(hm:WG F (EC F ml) ml ml')(h1:GF ml' l')(h2:H9 ml' ml'):cN mb n l ml l' ml':=by
 intro b ρb ρ a w hs ho;have hfz:∀i r,EC F ml i=some r->aK ml i=some r/\aK ml' i=none:=by
  intro i r h;unfold EC at h;cases hq:s9 i F with
  |false=>rw[hq]at h;cases h
  |true=>
   rw[hq]at h;refine⟨h,?_⟩;cases WI:aK ml' i with
   |none=>rfl
   |some r'=>have:=(hm.at i r' WI).1;rw[hq]at this;cases this
 refine⟨ρ,bC.aHD hs hfz (λds e=>⟨b.ds,(eY e).symm⟩) (λi r' hi=>⟨(hm.at i r' hi).2,h2.at i r' hi⟩) (λn=>(hl.at n).imp id λh=>⟨h,h1.at n⟩),?_⟩;intro k hk;have⟨k1,k2⟩:=ho k hk;have hZ:=hb.at k hk;refine⟨hZ,λhd=>?_⟩;cases hq:aK ml' k with
 |none=>exact absurd hq hZ
 |some r'=>
  have⟨_,q,q1,q2⟩:=hm.at k r' hq;have hqd:aK ml k≠some .dead:=by
   rw[q1];intro e;simp[aA]at e;exact q2.dead (by rintro rfl;exact hd hq) e
  have⟨k3,k4,k5⟩:=k2 hqd;refine⟨k3,k4,λfz t es l e=>?_⟩;have⟨fz',t',l2,e1,e2⟩:=k5 fz t es l e;rw[q1]at e1;simp[aA]at e1;subst e1;cases q2 with
  |plain hp=>cases hp
  |fW hl=>exact⟨_,_,_,rfl,by rw[hl.length];exact e2⟩
def aZ{l:List (List C)}:rB ml (dU t es l).hs:=by rw[oJ];trivial
def cO{rows:List (List A)}{L:List (List C)}(h:aK ml i=some (.fW false t es rows))(hr:rows=bE L):(aK ml i).map (R.eZ g)=some (dU t es L):=by
 rw[h,hr];show some ((dU t es L).eZ g)=_;rw[eT]
inductive Flat:A->Prop
 |v (x:Value):Flat (.d (.v x))
 |eL (l:List Value):Flat (.eL (l.map λx=>.d (.v x)))
def Flat.den(h:Flat v){w w':World}{M M':Nat->Prop}{m m':Mem}{ρ ρ':Nat->Value}{y:Value}(hd:v.Den w M m ρ y):v.Den w' M' m' ρ' y:=by
 have key:∀{l:List Value}{ys:List Value},A.bR w M m ρ (l.map λx=>.d (.v x)) ys->A.bR w' M' m' ρ' (l.map λx=>.d (.v x)) ys:=by
  intro l;induction l with
  |nil=>intro ys h;simpa only[bM,A.bR]using h
  |cons x r ih=>
   intro ys h;simp[aG,A.bR,A.Den,C.Den]at h⊢;have⟨y,yr,e,h1,h2⟩:=h;exact⟨y,yr,e,h1,ih h2⟩
 cases h with
 |v x=>simpa only[A.Den,C.Den]using hd
 |eL l=>
  simp[A.Den]at hd⊢;have⟨vs,e,h1⟩:=hd;exact⟨vs,e,key h1⟩
def aJ.view(h:∀m,aJ P f (cs.map A.d) m (.ok v) m)(hv:Flat v)(hr:wJ m as cs):aJ P f as m (.ok v) m:=by
 refine⟨(h m).1,?_⟩;intro N T M0 S0 w0 ρ a w hs cX vs P2;have hM:dD M0 (λ_=>none) ρ=M0:=by
  funext b;refine propext ⟨?_,.inl⟩;rintro(e|⟨i,r,hi,_⟩)
  ·exact e
  ·cases hi
 have h0:bC M0 (λ_=>False) w ⟨N.n,none⟩ (λ_=>.x) (λ_=>none) ρ a w:=
  {keeps:=iF.refl _ _,size:=hs.size,defers:=λds e=>by cases e
   tmps:=λn=>by simp[A.Den]
   res:=λi r hi=>by cases hi
   own:=λi r b hi=>by cases hi
   apart:=λi j r s b hi=>by cases hi}
 have aYE:∀b,M0 b->b<w.heap.size:=λb hb=>cG (cX b hb) hs.keeps.size;refine((h λ_=>none).2 ⟨N.n,none⟩ (λ_=>.x) M0 (λ_=>False) w ρ a w h0 aYE vs (by rw[hM];exact FN (tC hs hr P2))).mono ?_;rintro e w' ⟨ρ',h1,hO,y,rfl,hy⟩;have hk:=h1.keeps;have HG:dV (dD M0 m ρ) w w':=hk.stays λb _ e=>e.elim;have hid:∀b,dD M0 m ρ b->b<w.heap.size->dD M0 m ρ b:=λb hb _=>hb;refine⟨ρ,?_,gL.refl m ρ,y,rfl,hv.den hy⟩
 exact{keeps:=hs.keeps.trans hk λb _ e=>e.elim,size:=h1.size
       defers:=λds e=>eJ HG hid (gL.refl m ρ) _ _ (hs.defers ds e)
       tmps:=λn=>A.dC HG hid (gL.refl m ρ) _ _ (hs.tmps n)
       res:=λi r hi=>by
        by_cases hd:r=.dead
        · subst hd;trivial
        · refine R.hU HG hid (gL.refl m ρ) (λb hb aVU=>hk.block b aVU (λe=>e)) (hs.res i r hi)
       own:=λi r b hi hl hb=>let⟨x,y,z⟩:=hs.own i r b hi hl hb;⟨x,y,cG z hk.size⟩
       apart:=hs.apart}
def fU(h:∀m,aJ P f (cs.map A.d) m (.ok v) m)(hv:Flat v)(hr:wJ (aK ml) as cs)(hk:k v []):dZ P f as ml k:=⟨v,[],aJ.view h hv hr,hk⟩
def HA{k:A->List (Nat×R)->Bool->Prop}(h:∀m,aJ P f (cs.map A.d) m (.ok v) m)(hv:Flat v)(hr:wJ (aK ml) as cs)(hk:k v [] true):xQ P f as ml nx k:=.BL v [] (aJ.view h hv hr) hk
def A.AQ:A->Bool
 |.d c=>match c with
  |.v _=>true
  |.nl _=>true
  |_=>false
 |.lp _ _=>true
 |.h _=>true
 |.x=>true
 |_=>false
def R.IZ:R->Prop
 |.dead=>True
 |.cells fz l=>fz=false/\∀a∈l,a.AQ=true
 |.fW fz _ _ l=>fz=false/\∀a∈l.flatten,a.AQ=true
 |.mp fz kv st=>fz=false/\st=[]/\∀a∈kv.map (·.2),a.AQ=true
 |_=>False
def aA8{ρ':Nat->Value}(hO:gL m m' ρ ρ'):∀{a:A}{y:Value},a.AQ=true->a.Den w M m ρ y->a.Den w M' m' ρ' y:=by
 intro a y h hd;cases a with
 |d c=>
  cases c with
  |v x=>simpa only[A.Den,C.Den]using hd
  |nl es=>simpa only[A.Den,C.Den]using hd
  |_=>cases h
 |lp i off=>
  simp[A.Den]at hd⊢;exact hd.mono hO λe _⟨b,h1,h2⟩=>⟨b,e.trans h1,h2⟩
 |h i=>
  simp[A.Den]at hd⊢;exact hd.mono hO λe _ h1=>h1.trans e.symm
 |x=>simp[A.Den]
 |_=>cases h
def yS{w:World}{M M':Nat->Prop}{m m':Mem}{ρ ρ':Nat->Value}(hO:gL m m' ρ ρ'):∀{l:List A}{ys:List Value},(∀a∈l,a.AQ=true)->A.bR w M m ρ l ys->A.bR w M' m' ρ' l ys
 |[],ys,_,hd=>by simpa only[A.bR]using hd
 |c::r,ys,h,hd=>by
  simp only[A.bR]at hd⊢;obtain⟨y,yr,hy,h1,h2⟩:=hd;exact⟨y,yr,hy,aA8 hO (h c sM) h1,yS hO (λa ha=>h a (by simp[ha])) h2⟩
def aA7{ρ':Nat->Value}{h:Value}(hO:gL m m' ρ ρ'){r:R}(hf:r.IZ)(hr:r.Ok w M m ρ h):r.Ok w M' m' ρ' h:=by
 cases r with
 |dead=>trivial
 |cells fz l=>
  obtain⟨rfl,hl⟩:=hf;have⟨b,cs,t,e,h1,h2,h3,h4⟩:=hr;exact⟨b,cs,t,e,h1,yS hO hl h2,(λe=>by cases e),h4⟩
 |fW fz t es l=>
  obtain⟨rfl,hl⟩:=hf;have⟨xs,h1,h2,h3,h4,h5⟩:=hr;exact⟨xs,h1,yS hO hl h2,h3,(λe=>by cases e),h5⟩
 |mp fz kv st=>
  obtain⟨rfl,rfl,hl⟩:=hf;have⟨b,es,cl,l,e,h1,h2,h3,h4,h5⟩:=hr;exact⟨b,es,cl,l,e,h1,h2,yS hO hl h3,(λe=>by cases e),λp hp=>by simp at hp⟩
 |_=>cases hf
def aJ.aC7{as1:List A}{m1 mF:Mem}{ups:List (Nat×R)}(h:aJ P f as1 m1 (.ok v) (aH m1 ups))(hv:Flat v)(hfz:∀i r,mF i=some r->m i=some r/\m1 i=none)(has:IX mF as as1)(hhs:∀i∈A.lQ as1,m1 i≠none)
 (hm:∀i r,m1 i=some r->m i=some r)(n0:∀i r,m1 i=some r->∀j∈r.hs,m1 j≠none)(aXW:∀p∈ups,m1 p.1=none->m p.1=none)(hfl:∀i r,aH m1 ups i=some r->r.IZ):aJ P f as m (.ok v) (aH m ups):=by
 refine⟨h.1,?_⟩;intro N T M0 S0 w0 ρ a w hs cX vs P2;let S1:Nat->Prop:=λb=>∃i r,m1 i=some r/\r.live=true/\blk (ρ i)=some b;have hfr:nE m mF m1:=⟨hfz,λi r h1 h2=>⟨r,hm i r h1,h2⟩⟩;have a1U:∀b,dD M0 m1 ρ b->dD M0 m ρ b:=hfr.sub;have rQ:∀j,m1 j≠none->Sh m m1 j:=by
  intro j hj;cases hq:m1 j with
  |none=>exact absurd hq hj
  |some r=>exact⟨hj,λhd=>⟨by rw[hm j r hq,<-hq];exact hd,λfz t es l e=>⟨fz,t,l,by rw[hq,<-hm j r hq];exact e,rfl⟩⟩⟩
 have h0:bC M0 S1 w ⟨N.n,none⟩ (λ_=>.x) m1 ρ a w:=
  {keeps:=iF.refl _ _,size:=hs.size,defers:=λds e=>by cases e
   tmps:=λn=>by simp only[A.Den]
   res:=λi r hi=>R.hU (dV.refl _ w) (λb hb _=>a1U b hb) (gL.refl m1 ρ) (λ_ _ _=>rfl) (R.rY hm (n0 i r hi) (hs.res i r (hm i r hi)))
   own:=λi r b hi hl hb=>by
    obtain⟨x,y,z⟩:=hs.own i r b (hm i r hi) hl hb;exact⟨.inr ⟨i,r,hi,hl,hb⟩,y,z⟩
   apart:=λi j r s b hi l1 hj l2 b1 b2=>hs.apart i j r s b (hm i r hi) l1 (hm j s hj) l2 b1 b2}
 have aYE:∀b,M0 b->b<w.heap.size:=λb hb=>cG (cX b hb) hs.keeps.size;refine(h.2 ⟨N.n,none⟩ (λ_=>.x) M0 S1 w ρ a w h0 aYE vs (NZ hs hfr has (λi hi=>rQ i (hhs i hi)) P2)).mono ?_;rintro e w' ⟨ρ',h1,hO,hv'⟩;let ρ2:Nat->Value:=λi=>if(aH m1 ups i).isSome then ρ' i else ρ i
 have hA:∀{i:Nat}{r:R},aH m1 ups i=some r->aH m ups i=some r/\ρ2 i=ρ' i:=λ{i r}e=>⟨pN ups hm i r e,by simp[ρ2,e]⟩;have hB:∀{i:Nat},aH m1 ups i=none->m1 i=none/\aH m ups i=m i/\ρ2 i=ρ i:=λ{i}e=>⟨(nP ups e).1,(nP ups e).2 m,by simp[ρ2,e]⟩;have kk:=h1.keeps;have hS1:∀b,S1 b->dD M0 m ρ b:=λb⟨i,r,e1,e2,e3⟩=>.inr ⟨i,r,hm i r e1,e2,e3⟩;have HG:dV (dD M0 m ρ) w w':=kk.stays λb _ e=>hS1 b e;have hon:gL m (aH m ups) ρ ρ2:=by
  intro i hi;cases h':aH m1 ups i with
  |none=>
   obtain⟨e1,e2,e3⟩:=hB h';rw[e2];exact⟨hi,λhd=>⟨hd,e3,λfz t es l e=>⟨fz,t,l,e,rfl⟩⟩⟩
  |some r=>
   obtain⟨e1,e2⟩:=hA h';rw[e1];refine⟨sM,λhd=>?_⟩;cases PE:m1 i with
   |none=>
    obtain⟨p,hp,rfl⟩:=xS ups PE (by rw[h'];simp);exact absurd (aXW p hp PE) hi
   |some r0=>
    have aYF:=hm i r0 PE;obtain⟨_,q⟩:=hO i (by rw[PE];simp);rw[h']at q;obtain⟨q1,q2,q3⟩:=q hd;rw[aYF];rw[PE]at q1 q3;exact⟨q1,by rw[e2];exact q2,q3⟩
 have aVM:∀b,dD M0 (aH m ups) ρ2 b->b<w.heap.size->dD M0 m ρ b:=by
  rintro b (e|⟨i,r,hi,hl,hb⟩) hbl
  ·exact .inl e
  ·cases h':aH m1 ups i with
   |none=>
    obtain⟨e1,e2,e3⟩:=hB h';rw[e2]at hi;rw[e3]at hb;exact .inr ⟨i,r,hi,hl,hb⟩
   |some r'=>
    obtain⟨e1,e2⟩:=hA h';rw[e1]at hi;simp at hi;subst hi;rw[e2]at hb;rcases(h1.own i r' b h' hl hb).1 with q|q
    ·omega
    ·exact hS1 b q
 have aY6:gL (aH m1 ups) (aH m ups) ρ' ρ2:=by
  intro i hi;cases h':aH m1 ups i with
  |none=>exact absurd h' hi
  |some r=>
   obtain⟨e1,e2⟩:=hA h';rw[e1];exact⟨sM,λhd=>⟨hd,e2,λfz t es l e=>⟨fz,t,l,e,rfl⟩⟩⟩
 have aZM:∀(i j:Nat)(r s:R)(b:Nat),aH m1 ups i=some r->r.live=true->blk (ρ' i)=some b->m1 j=none->m j=some s->s.live=true->blk (ρ j)=some b->False:=by
  intro i j r s b hi l1 b1 hj1 hj l2 b2;rcases(h1.own i r b hi l1 b1).1 with q|⟨k,rk,q1,q2,q3⟩
  ·have:=(hs.own j s b hj l2 b2).2.2;omega
  ·have:=hs.apart k j rk s b (hm k rk q1) q2 hj l2 q3 b2;subst this;rw[hj1]at q1;cases q1
 refine⟨ρ2,?_,hon,?_⟩
 ·refine{keeps:=hs.keeps.trans kk λb hb⟨i,r,e1,e2,e3⟩=>?_,size:=h1.size,defers:=λds e=>eJ HG aVM hon _ _ (hs.defers ds e)
         tmps:=λn=>A.dC HG aVM hon _ _ (hs.tmps n)
         res:=λi r hi=>?_,own:=λi r b hi hl hb=>?_,apart:=λi j r s b hi l1 hj l2 b1 b2=>?_}
  ·rcases(hs.own i r b (hm i r e1) e2 e3).1 with q|q
   ·omega
   ·exact q
  ·cases h':aH m1 ups i with
   |some r'=>
    obtain⟨e1,e2⟩:=hA h';rw[e1]at hi;simp at hi;subst hi;rw[e2];exact aA7 aY6 (hfl i r' h') (h1.res i r' h')
   |none=>
    obtain⟨e1,e2,e3⟩:=hB h';rw[e2]at hi;rw[e3];by_cases hd:r=.dead
    ·subst hd;trivial
    ·refine R.hU HG aVM hon (λb hb aVU=>?_) (hs.res i r hi);refine kk.block b aVU ?_;rintro⟨j,s,q1,q2,q3⟩;have hij:i≠j:=by rintro rfl;rw[e1]at q1;cases q1
     exact hs.other (hm j s q1) q2 q3 hi hd hij hb
  ·cases h':aH m1 ups i with
   |some r'=>
    obtain⟨e1,e2⟩:=hA h';rw[e1]at hi;simp at hi;subst hi;rw[e2]at hb;obtain⟨x,y,z⟩:=h1.own i r' b h' hl hb;refine⟨?_,y,z⟩;rcases x with q|⟨j,s,q1,q2,q3⟩
    ·exact .inl (cL hs.keeps.size q)
    ·exact(hs.own j s b (hm j s q1) q2 q3).1
   |none=>
    obtain⟨e1,e2,e3⟩:=hB h';rw[e2]at hi;rw[e3]at hb;obtain⟨x,y,z⟩:=hs.own i r b hi hl hb;exact⟨x,y,cG z kk.size⟩
  ·cases h':aH m1 ups i with
   |some r'=>
    obtain⟨e1,e2⟩:=hA h';rw[e1]at hi;simp at hi;subst hi;rw[e2]at b1;cases h2:aH m1 ups j with
    |some s'=>
     obtain⟨e3,e4⟩:=hA h2;rw[e3]at hj;simp at hj;subst hj;rw[e4]at b2;exact h1.apart i j r' s' b h' l1 h2 l2 b1 b2
    |none=>
     obtain⟨e3,e4,e5⟩:=hB h2;rw[e4]at hj;rw[e5]at b2;exact(aZM i j r' s b h' l1 b1 e3 hj l2 b2).elim
   |none=>
    obtain⟨e1,e2,e3⟩:=hB h';rw[e2]at hi;rw[e3]at b1;cases h2:aH m1 ups j with
    |some s'=>
     obtain⟨e4,e5⟩:=hA h2;rw[e4]at hj;simp at hj;subst hj;rw[e5]at b2;exact(aZM j i s' r b h2 l2 b2 e1 hi l1 b1).elim
    |none=>
     obtain⟨e4,e5,e6⟩:=hB h2;rw[e5]at hj;rw[e6]at b2;exact hs.apart i j r s b hi l1 hj l2 b1 b2
 ·obtain⟨y,rfl,hy⟩:=hv';exact⟨y,rfl,hv.den hy⟩
def lH(g:Nat->Nat)(ml:List (Nat×R)):List (Nat×R):=ml.map λp=>(g p.1,p.2.eZ g)
def aCA(a b:Nat):Nat.beq a b=decide (a=b):=by
 cases h:Nat.beq a b with
 |true=>simp[bB h]
 |false=>
  have:a≠b:=λe=>by subst e;simp at h
  simp[this]
def rJ{g gi:Nat->Nat}(h1:∀i,gi (g i)=i)(h2:∀i,g (gi i)=i):∀ml:List (Nat×R),nK g gi (aK ml)=aK (lH g ml)
 |[]=>rfl
 |p::r=>by
  funext i;have ih:=congrFun (rJ h1 h2 r) i;simp[nK,lH,aG,aK]at ih⊢;have e:Nat.beq p.1 (gi i)=Nat.beq (g p.1) i:=by
   rw[aCA,aCA,decide_eq_decide];exact⟨λe=>by rw[e,h2],λe=>by rw[<-e,h1]⟩
  rw[e];cases Nat.beq (g p.1) i with
  |true=>rfl
  |false=>exact ih
def hY:∀(u ml:List (Nat×R)),aH (aK ml) u=aK (u.reverse++ml)
 |[],ml=>rfl
 |(i,r)::u,ml=>by
  have:=hY u ((i,r)::ml);rw[fC,bG,qY,<-this,lR];rfl
def T6(g:Nat->Nat)(a b:List (Nat×R)):lH g (a++b)=lH g a++lH g b:=bP
def tZ{gi:Nat->Nat}(h1:∀i,gi (g i)=i)(h2:∀i,g (gi i)=i)(u ml:List (Nat×R)):nK g gi (aH (aK ml) u)=aH (aK (lH g ml)) (lH g u):=by
 rw[hY,rJ h1 h2,T6,hY];congr 2;simp[lH]
def RN(ml:List (Nat×R)):List (Nat×R)->Prop
 |[]=>True
 |p::r=>aK ml p.1=some p.2/\RN ml r
def RN.at{ml:List (Nat×R)}:∀{l:List (Nat×R)},RN ml l->∀i r,aK l i=some r->aK ml i=some r
 |[],_,i,r,h=>by simp[aK]at h
 |p::l,h,i,r,hr=>by
  simp only[aK]at hr;cases hb:Nat.beq p.1 i with
  |true=>
   rw[hb]at hr;simp only[cond_true,aA]at hr;have:=bB hb;subst this;subst hr;exact h.1
  |false=>rw[hb]at hr;exact h.2.at i r hr
def T8(l:List (Nat×R)):List Nat->Prop
 |[]=>True
 |i::r=>aK l i=none/\T8 l r
def T8.at{l:List (Nat×R)}:∀{V:List Nat},T8 l V->∀i,s9 i V=true->aK l i=none
 |[],_,i,h=>by cases h
 |j::r,h,i,hi=>by
  simp only[s9]at hi;cases hb:Nat.beq i j with
  |true=>have:=bB hb;subst this;exact h.1
  |false=>rw[hb]at hi;exact h.2.at i hi
def HH(ml l:List (Nat×R)):List (Nat×R)->Prop
 |[]=>True
 |p::r=>(aK l p.1≠none\/aK ml p.1=none)/\HH ml l r
def HH.at{ml l:List (Nat×R)}:∀{u:List (Nat×R)},HH ml l u->∀p∈u,aK l p.1=none->aK ml p.1=none
 |[],_,p,hp,_=>by simp at hp
 |q::r,h,p,hp,h0=>by
  simp[aO]at hp;rcases hp with rfl|hp
  ·exact h.1.resolve_left (λe=>e h0)
  ·exact h.2.at p hp h0
def sT:List (Nat×R)->Prop
 |[]=>True
 |p::r=>p.2.IZ/\sT r
def sT.at:∀{l:List (Nat×R)},sT l->∀i r,aK l i=some r->r.IZ
 |[],_,i,r,h=>by simp[aK]at h
 |p::l,h,i,r,hr=>by
  simp[aK]at hr;cases hb:Nat.beq p.1 i with
  |true=>
   rw[hb]at hr;simp[cond_true,aA]at hr;subst hr;exact h.1
  |false=>rw[hb]at hr;exact h.2.at i r hr
def sT.append:∀{l l':List (Nat×R)},sT l->sT l'->sT (l++l')
 |[],_,_,h=>h
 |p::l,_,h,h'=>⟨h.1,h.2.append h'⟩
def sT.reverse:∀{l:List (Nat×R)},sT l->sT l.reverse
 |[],_=>trivial
 |p::l,h=>by rw[fC];exact h.2.reverse.append ⟨h.1,tV⟩
def Flat.eZ{v:A}(h:Flat v)(g:Nat->Nat):v.eZ g=v:=by
 cases h with
 |v x=>rfl
 |eL l=>
  simp[A.eZ];congr 1;induction l with
  |nil=>rfl
  |cons x r ih=>simp[aG,A.iV,A.eZ,ih]
def aJ.use{as':List A}(h:aJ P f as (aK mb) (.ok v) (aH (aK mb) u))(hv:Flat v){g gi:Nat->Nat}(h1:∀i,gi (g i)=i)(h2:∀i,g (gi i)=i)(V:List Nat)
 (has:IX (EC V ml) as' (A.iV g as))(hhs:rB (lH g mb) (A.lQ (A.iV g as)))(hm:RN ml (lH g mb))(hV:T8 (lH g mb) V)(n0:H9 (lH g mb) (lH g mb))(hfr:HH ml (lH g mb) (lH g u))(hf1:sT (lH g mb))(hf2:sT (lH g u)):
 aJ P f as' (aK ml) (.ok v) (aH (aK ml) (lH g u)):=by
 have k:=h.eZ h1 h2;rw[rJ h1 h2,tZ h1 h2]at k;have e:(Rt.ok v).eZ g=.ok v:=by show Rt.ok (v.eZ g)=_;rw[hv.eZ]
 rw[e]at k;refine aJ.aC7 (mF:=EC V ml) k hv ?_ has hhs.at hm.at (λi r hi=>n0.at i r hi) hfr.at ?_
 ·intro i r hi;unfold EC at hi;cases hq:s9 i V with
  |false=>rw[hq]at hi;cases hi
  |true=>rw[hq]at hi;exact⟨hi,hV.at i hq⟩
 ·intro i r hi;rw[hY]at hi;exact(hf2.reverse.append hf1).at i r hi
def aJ.aXE(h:aJ P f as (aK mb) (.ok v) (aH (aK mb) u)){g gi:Nat->Nat}(h1:∀i,gi (g i)=i)(h2:∀i,g (gi i)=i)
 (hhs:rB (lH g mb) (A.lQ (A.iV g as)))(hm:RN ml (lH g mb))(n0:H9 (lH g mb) (lH g mb))(hfr:HH ml (lH g mb) (lH g u)):
 aJ P f (A.iV g as) (aK ml) (.ok (v.eZ g)) (aH (aK ml) (lH g u)):=by
 have k:=h.eZ h1 h2;rw[rJ h1 h2,tZ h1 h2]at k;exact aJ.frame k hhs.at hm.at (λi r hi=>n0.at i r hi) hfr.at
def I2(ml:List (Nat×R)):List Nat->List (Nat×R)->Prop
 |_,[]=>True
 |s,p::r=>(s9 p.1 s=true\/aK ml p.1=some p.2)/\I2 ml (p.1::s) r
def I2.at{ml:List (Nat×R)}:∀{l:List (Nat×R)}{s:List Nat},I2 ml s l->∀i r,s9 i s=false->aK l i=some r->aK ml i=some r
 |[],_,_,i,r,_,h=>by simp[aK]at h
 |p::l,s,h,i,r,hs,hr=>by
  simp only[aK]at hr;cases hb:Nat.beq p.1 i with
  |true=>
   rw[hb]at hr;simp only[cond_true,aA]at hr;have:=bB hb;subst this;subst hr;exact h.1.resolve_left (λe=>by rw[hs]at e;cases e)
  |false=>
   rw[hb]at hr;refine h.2.at i r ?_ hr;simp only[s9];have:Nat.beq i p.1=false:=by
    cases hq:Nat.beq i p.1 with
    |false=>rfl
    |true=>have:=bB hq;subst this;simp at hb
   rw[this];exact hs
def dA(h1:v=r)(h2:I2 ml [] (u.reverse++mb)):U8 mb r u v ml:=by
 refine⟨h1,λi q hq=>?_⟩;rw[hY]at hq;exact h2.at i q rfl hq
def V6(hm:P.follows .mixedOrders=true){f:FuncId}{fn:Func}{c:Code}{as:List A}{r:A}{mb u:List (Nat×R)}(nx:Nat)(hf:P.funcs[f]?=some fn)(hb:fn.body=some c)(n0:kW P f=true)(hn:as.length<=fn.ntmps)
 (hv:rB (u.reverse++mb) r.hs)(hc:H9 (u.reverse++mb) u)
 (h:vc P mb fn.ntmps c (C9 0 as) mb nx (JS P fn (U8 mb r u))):aJ P f as (aK mb) (.ok r) (aH (aK mb) u):=by
 refine OC hm nx hf hb n0 hn (λi hi=>?_) (λp hp j hj=>?_) h
 ·rw[hY];exact hv.at i hi
 ·rw[hY];have:∀{l:List (Nat×R)},H9 (u.reverse++mb) l->p∈l->∀j∈p.2.hs,aK (u.reverse++mb) j≠none:=by
   intro l;induction l with
   |nil=>intro _ h;simp at h
   |cons q l ih=>
    intro h hp;simp[aO]at hp;rcases hp with rfl|hp
    ·exact h.1.at
    ·exact ih h.2 hp
  exact this hc hp j hj
def YQ{rows:List (List A)}{L:List (List C)}(h:aK ml i=some (.fW false t es rows))(hr:rows=bE L):aK ml i=some (dU t es L):=by rw[h,hr];rfl
def ER(a b:List (List C)):bE (a++b)=bE a++bE b:=by simp[bE,bP]
def YF(i:Nat):id (id i)=i:=rfl
def sT.dU{i:Nat}{t:TypeId}{es:Nat}{L:List (List C)}(h:∀c∈L.flatten,A.AQ (.d c)=true):(Go.Pv.dU t es L).IZ:=by
 refine⟨rfl,λa ha=>?_⟩;rw[yT]at ha;obtain⟨c,hc,rfl⟩:=aA4.1 ha;exact h c hc
def cN.trans{l' l2:List (Nat×A)}{ml2:List (Nat×R)}(h1:cN mb n l ml l' ml')(h2:cN mb n l' ml' l2 ml2):cN mb n l ml l2 ml2:=by
 intro b ρb ρ a w hs ho;have⟨ρ1,s1,o1⟩:=h1 b ρb ρ a w hs ho;exact h2 b ρb ρ1 a w s1 o1
section
variable{M0 S0:Nat->Prop}{w0:World}{N:Fr}{T:Nat->A}{m:Mem}{ρ:Nat->Value}{a:Act}{w:World}
def EH:gL m (aX m i .dead) ρ ρ:=by
 intro j hj;by_cases e:j=i
 ·subst e;simp[aX]
 ·simp only[aX,e,if_false];exact⟨hj,λhd=>⟨hd,tV,λfz t es l e=>⟨fz,t,l,e,rfl⟩⟩⟩
def YT:∀b,dD M0 (aX m i .dead) ρ b->dD M0 m ρ b:=by
 rintro b (e|⟨j,r,h1,h2,h3⟩)
 ·exact .inl e
 ·by_cases e:j=i
  ·subst e;simp[aX,if_true,aA]at h1;subst h1;cases h2
  ·simp[aX,e,if_false]at h1;exact .inr ⟨j,r,h1,h2,h3⟩
def bC.die(h:bC M0 S0 w0 N T m ρ a w)(i:Nat):bC M0 S0 w0 N T (aX m i .dead) ρ a w:=by
 have HG:=dV.refl (dD M0 m ρ) w;have Q2:∀b,dD M0 (aX m i .dead) ρ b->b<w.heap.size->dD M0 m ρ b:=λb hb _=>YT b hb
 exact{keeps:=h.keeps,size:=h.size
       defers:=λds e=>eJ HG Q2 EH _ _ (h.defers ds e)
       tmps:=λn=>A.dC HG Q2 EH _ _ (h.tmps n)
       res:=λj r hj=>by
        by_cases e:j=i
        · subst e
          simp[aX,if_true,aA]at hj;subst hj;trivial
        · simp[aX,e,if_false]at hj
          exact R.hU HG Q2 EH (λ_ _ _=>rfl) (h.res j r hj)
       own:=λj r b hj hl hb=>by
        by_cases e:j=i
        · subst e
          simp[aX,if_true,aA]at hj;subst hj;cases hl
        · simp[aX,e,if_false]at hj
          exact h.own j r b hj hl hb
       apart:=λj k r s b hj l1 hk l2 b1 b2=>by
        by_cases e:j=i
        · subst e
          simp[aX,if_true,aA]at hj;subst hj;cases l1
        · by_cases e2:k=i
          · subst e2
            simp[aX,if_true,aA]at hk;subst hk;cases l2
          · simp[aX,e,e2,if_false]at hj hk
            exact h.apart j k r s b hj l1 hk l2 b1 b2}
end
def J7:List Nat->Mem->Mem
 |[],m=>m
 |i::r,m=>J7 r (aX m i .dead)
section
variable{M0 S0:Nat->Prop}{w0:World}{N:Fr}{T:Nat->A}{ρ:Nat->Value}{a:Act}{w:World}
def N5:∀(D:List Nat){m:Mem},bC M0 S0 w0 N T m ρ a w->bC M0 S0 w0 N T (J7 D m) ρ a w/\gL m (J7 D m) ρ ρ/\∀b,dD M0 (J7 D m) ρ b->dD M0 m ρ b
 |[],m,h=>⟨h,gL.refl m ρ,λb hb=>hb⟩
 |i::r,m,h=>by
  obtain⟨k1,k2,k3⟩:=N5 r (h.die i);exact⟨k1,EH.trans k2,λb hb=>YT b (k3 b hb)⟩
end
structure aGG(D:List Nat)(mb:List (Nat×R))(r:A)(u:List (Nat×R))(v:A)(ml:List (Nat×R)):Prop where
 val:v=r
 mem:∀i q,aH (aK mb) u i=some q->J7 D (aK ml) i=some q
def aAR{D:List Nat}(h:aGG D mb r u v ml)(hv:∀i∈r.hs,aH (aK mb) u i≠none)(hc:∀p∈u,∀j∈p.2.hs,aH (aK mb) u j≠none):aGH (aK mb) (aK ml) (.ok v) (aH (aK mb) u) (.ok r):=by
 intro N N1 T T1 M0 S0 w0 ρ ρ2 a a1 w w2 e hs s hO aWJ;obtain⟨y,rfl,hy⟩:=aWJ;obtain⟨rfl,aVM⟩:=h;have⟨k1,k2,k3⟩:=N5 D s;have hO2:=hO.trans k2;have hb:=hs.back k1 hO2;have hy2:=A.dC (dV.refl _ w2) (λb hb _=>k3 b hb) k2 _ _ hy;have⟨q1,q2,q3⟩:=hs.cut hb hO2 aVM hv hc hy2;exact⟨ρ2,q1,q2,y,rfl,q3⟩
def J8:∀(D:List Nat)(ml:List (Nat×R)),J7 D (aK ml)=aK ((D.map λi=>(i,.dead)).reverse++ml)
 |[],ml=>rfl
 |i::r,ml=>by
  have:=J8 r ((i,.dead)::ml);rw[lR]at this;simp[J7,this,aG,fC,bG,qY]
def XY{D:List Nat}(h1:v=r)(h2:I2 ((D.map λi=>(i,.dead)).reverse++ml) [] (u.reverse++mb)):aGG D mb r u v ml:=by
 refine⟨h1,λi q hq=>?_⟩;rw[hY]at hq;rw[J8];exact h2.at i q rfl hq
def V5(hm:P.follows .mixedOrders=true){f:FuncId}{fn:Func}{c:Code}{as:List A}{r:A}{mb u:List (Nat×R)}(D:List Nat)(nx:Nat)(hf:P.funcs[f]?=some fn)(hb:fn.body=some c)(n0:kW P f=true)(hn:as.length<=fn.ntmps)
 (hv:rB (u.reverse++mb) r.hs)(hc:H9 (u.reverse++mb) u)
 (h:vc P mb fn.ntmps c (C9 0 as) mb nx (JS P fn (aGG D mb r u))):aJ P f as (aK mb) (.ok r) (aH (aK mb) u):=by
 have h1:=uX hm c _ _ _ _ h;rw[IC]at h1;refine qG hf hb n0 hn h1 ?_;rintro ex T' m' ⟨l,ml,nx,rfl,rfl,h⟩;have⟨e1,v,e2,h3⟩:=IF h;refine⟨e1,⟨ml,rfl⟩,v,e2,aAR h3 (λi hi=>?_) (λp hp j hj=>?_)⟩
 ·rw[hY];exact hv.at i hi
 ·rw[hY];have:∀{l:List (Nat×R)},H9 (u.reverse++mb) l->p∈l->∀j∈p.2.hs,aK (u.reverse++mb) j≠none:=by
   intro l;induction l with
   |nil=>intro _ h;simp at h
   |cons q l ih=>
    intro h hp;simp[aO]at hp;rcases hp with rfl|hp
    ·exact h.1.at
    ·exact ih h.2 hp
  exact this hc hp j hj
def cN.perm(i:Nat){mb:List (Nat×R)}{n:Nat}{l:List (Nat×A)}{ml:List (Nat×R)}{fz:Bool}{kv kv':List (Ky×A)}(hp:kv.Perm kv'):cN mb n l ((i,.mp fz kv [])::ml) l ((i,.mp fz kv' [])::ml):=by
 intro b ρb ρ a w hs ho;rw[lR]at hs ho;rw[lR];have⟨k1,k2,k3⟩:=hs.aH8 hp;exact⟨ρ,k1,ho.trans k2⟩
end Go.Pv
