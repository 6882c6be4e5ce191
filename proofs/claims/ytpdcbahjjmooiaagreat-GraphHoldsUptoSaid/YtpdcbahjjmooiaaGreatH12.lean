import Derived.Test.YtpdcbahjjmooiaaGreatH11
/- A program logic over the model, contracts of the functions that the law reaches: part 12. (Names and blanks were shortened by program.) -/
set_option linter.unusedVariables false
set_option linter.unusedSimpArgs false
set_option linter.constructorNameAsVariable false
set_option linter.unusedSectionVars false
set_option linter.deprecated false
set_option maxRecDepth 100000
set_option maxHeartbeats 8000000
open Go
namespace Go.Pv
open Go.RowKit
variable{T:Nat->A}{ops:Array Oper}{l:List (Nat×A)}{ml mb ml':List (Nat×R)}{nx n:Nat}{c:Code}{m m2:Mem}{f:FuncId}{as:List A}{k:A->List (Nat×R)->Prop}{v:A}{fn:Func}{P:Program}{w:World}{M:Nat->Prop}{ρ:Nat->Value}
section
variable{P:Program}
theorem zK{T':Nat->A}{c:Call}(h:∀x∈c.operands.toList,dN T' x=dN T x):mO T' c=mO T c:=by
 obtain⟨callee,args,tys⟩:=c;unfold mO;cases callee with
 |value fo=>
  have e1:dN T' fo=dN T fo:=h fo (by simp[Call.operands]);have e2:args.toList.map (dN T')=args.toList.map (dN T):=cQ λx hx=>h x (by simp[Call.operands];simp at hx;first|exact .inr hx|exact .inl hx);simp only[e1,e2]
 |_=>rfl
theorem aGX{o:Oper}{k:A->Prop}(h:aJW P l ml nx o k):
 ∃v,k v/\∀(T':Nat->A)(m':Mem),(∀x∈o.looksAt ops,T' x=lT l x)->(∀i∈nx::(o.looksAt ops).flatMap λt=>(lT l t).hs,m' i=aK ml i)->qT P o T' m' v m':=by
 have key0:shallow o=true->∀{v:A},eM P (aK ml) (lT l) nx o=some (true,v,[])->k v->∃v,k v/\∀(T':Nat->A)(m':Mem),(∀x∈o.looksAt ops,T' x=lT l x)->(∀i∈nx::(o.looksAt ops).flatMap λt=>(lT l t).hs,m' i=aK ml i)->qT P o T' m' v m':=by
  intro rQ v he hk;refine⟨v,hk,λT' m' hT' zI=>?_⟩;have hag:MB o (lT l) T' (aK ml) m':=by
   refine⟨λx hx=>y7 λn e=>(hT' n (mX hx e)).symm,λx hx i hi=>?_⟩;obtain⟨t,e,CL⟩:=VQ hi;refine(zI i ?_).symm;simp only[aO,rP];exact .inr ⟨t,mX hx e,CL⟩
  have aYX:=FO (P:=P) (d:=nx) hag (zI nx sM).symm rQ;rw[he]at aYX;exact qT.sD aYX.symm rfl
 have key:shallow o=true->zZ (stOp o) (eM P (aK ml) (lT l) nx o) k->∃v,k v/\∀(T':Nat->A)(m':Mem),(∀x∈o.looksAt ops,T' x=lT l x)->(∀i∈nx::(o.looksAt ops).flatMap λt=>(lT l t).hs,m' i=aK ml i)->qT P o T' m' v m':=by
  intro rQ h;obtain⟨v,he,hk⟩:=aCO h;exact key0 rQ he hk
 have keyM:shallow o=true->H4 P (aK ml) (lT l) o (aKW k) (zZ (stOp o) (eM P (aK ml) (lT l) nx o) k)->∃v,k v/\∀(T':Nat->A)(m':Mem),(∀x∈o.looksAt ops,T' x=lT l x)->(∀i∈nx::(o.looksAt ops).flatMap λt=>(lT l t).hs,m' i=aK ml i)->qT P o T' m' v m':=by
  intro rQ h;rcases ED (d:=nx) h with⟨v,u,e,hk⟩|h
  ·cases u with
   |nil=>exact key0 rQ e hk
   |cons _ _=>exact hk.elim
  ·exact key rQ h
 unfold aJW at h;split at h
 ·rename_i c ho;split at h
  ·rename_i b hb;exact key (by unfold shallow;rw[ho];simp only[hb]) h
  ·split at h
   ·rename_i f as hc;obtain⟨v,aVN,hk⟩:=h;refine⟨v,hk,λT' m' hT' _=>?_⟩;have ec:mO T' c=some (f,as):=by
     rw[<-hc];exact zK λx hx=>y7 λn e=>hT' n (mX (by rw[ho];simpa [Op.operands]using hx) e)
    have I5:o8 P o T' m' [(.ok v,[])]:=o8.call ho ec (aVN m');intro ro N M0 S0 w0 ρ a w h cX next Q hn
    refine I5 ro N M0 S0 w0 ρ a w h cX next Q ?_
    intro u' y w' ρ' hu' h1 h2;simp only[aR]at hu';subst hu';exact⟨λv' e h3=>by simp only[Rt.ok.injEq]at e;subst e;exact hn y w' ρ' h1 h2 h3,λv' e=>by cases e⟩
   ·exact h.elim
 ·exact h.elim
 ·exact h.elim
 ·exact h.elim
 ·exact h.elim
 ·rename_i ho;have rQ:shallow o=true:=by unfold shallow;rw[ho]
  split at h
  ·rename_i hi;obtain⟨row,e,hk⟩:=J5 (m:=aK ml) (d:=nx) hi h;exact key0 rQ e hk
  ·exact keyM rQ h
 ·rename_i ho;exact keyM (by unfold shallow;rw[ho]) h
 ·rename_i ho;have rQ:shallow o=true:=by unfold shallow;rw[ho]
  rcases FG (m:=aK ml) (d:=nx) h with⟨v,e,hk⟩|h
  ·exact key0 rQ e hk
  ·exact key rQ h
 ·rename_i ho;have rQ:shallow o=true:=by unfold shallow;rw[ho]
  rcases FG (m:=aK ml) (d:=nx) h with⟨v,e,hk⟩|h
  ·exact key0 rQ e hk
  ·exact key rQ h
 ·rename_i ho;have rQ:shallow o=true:=by unfold shallow;rw[ho]
  rcases Q6 (m:=aK ml) (d:=nx) h with⟨v,e,hk⟩|h
  ·exact key0 rQ e hk
  ·exact key rQ h
 ·rename_i h1 h2 h3 h4 h5 h6 h7 h8 h9 h10;refine key ?_ h;unfold shallow;split
  ·rename_i c ho;exact absurd ho (h1 c)
  ·rename_i a b ho;exact absurd ho (h2 a b)
  ·rename_i a ho;exact absurd ho (h3 a)
  ·rename_i a b ho;exact absurd ho (h4 a b)
  ·rename_i a ho;exact absurd ho (h5 a)
  ·rfl
theorem ZJ{n:Nat}{ops:Array Oper}{l0:List (Nat×A)}{ml:List (Nat×R)}{nx:Nat}{K:List (Nat×A)->Prop}{accF:List qC}:∀(lo:List Oper)(acc accS:List qC)(l:List (Nat×A)),ops.toList.drop acc.length=lo->UX P ops lo l ml nx K->sQ P n ops (lT l0) (aK ml) acc (lT l) (aK ml)->qZ acc accS->LP n ops lo acc.length accS=some accF->
 ∃acc' l',sQ P n ops (lT l0) (aK ml) acc' (lT l') (aK ml)/\acc'.length=acc.length+lo.length/\qZ acc' accF/\K l'
 |[],acc,accS,l,hk,h,hi,ha,hs=>by
  simp only[LP,aA]at hs;subst hs;obtain⟨h⟩:=h;exact⟨acc,l,hi,sM,ha,h⟩
 |o::r,acc,accS,l,hk,h,hi,ha,hs=>by
  have QS:ops[acc.length]?=some o:=by
   have:ops.toList[acc.length]?=some o:=by
    have:=congrArg List.head? hk;simpa [pA]using this
   simpa using this
  have hkr:ops.toList.drop (acc.length+1)=r:=by
   have:(ops.toList.drop acc.length).drop 1=r:=by rw[hk];rfl
   simpa [lY]using this
  simp only[LP]at hs;split at hs
  ·rename_i an hd han;have a1X:kX acc acc.length o.after.toList=some an:=by rw[zT ha];exact han
   have step:∀(v:A)(F:List Nat)(l':List (Nat×A)),lT l'=lI (lT l) o.dst v->Good P n ops (lT l) (aK ml) o ⟨⟨o.dst,v,[]⟩,o.looksAt ops,F,an⟩->UX P ops r l' ml nx K->
    ∃acc' l',sQ P n ops (lT l0) (aK ml) acc' (lT l') (aK ml)/\acc'.length=acc.length+(o::r).length/\qZ acc' accF/\K l':=by
    intro v F l' qK hg hv;have hp:=hi.push (T':=lT l') (m':=aK ml) (D:=⟨⟨o.dst,v,[]⟩,o.looksAt ops,F,an⟩) QS qK rfl hg a1X rfl;obtain⟨acc',l2,k1,k2,k3,k4⟩:=ZJ r (_::acc) _ l' hkr hv hp (.cons (E:=⟨⟨o.dst,.x,[]⟩,o.looksAt ops,[],an⟩) ⟨rfl,rfl,rfl,rfl,rfl⟩ ha) hs;exact⟨acc',l2,k1,by rw[k2];simp;omega,k3,k4⟩
   simp only[UX]at h;rcases L7 h with⟨hw,h⟩|⟨hw,h⟩
   ·obtain⟨v,h,I5⟩:=aGX (ops:=ops) h;obtain⟨l',qK,h⟩:=BE h;exact step v (nx::(o.looksAt ops).flatMap λt=>(lT l t).hs) l' qK ⟨rfl,nS hd,rfl,sM,.inr ⟨hw,λT' m' hT' zI _=>I5 T' m' hT' zI⟩⟩ h
   ·obtain⟨l',qK,h⟩:=BE h;exact step (.eL []) [] l' qK ⟨rfl,nS hd,rfl,sM,.inl ⟨hw,rfl,rfl⟩⟩ h
  ·cases hs
theorem aGZ{o:Oper}{k:A->List (Nat×R)->Bool->Prop}(h:aJX P l ml nx o k):
 ∃v u t,k v u t/\∀(T':Nat->A)(m':Mem),(∀x∈o.looksAt ops,T' x=lT l x)->(t=true->m'=aK ml)->(∀i∈cond t [] (GZ ops o l nx),m' i=aK ml i)->qT P o T' m' v (aH m' u):=by
 have key0:shallow o=true->∀{v:A}{u:List (Nat×R)},eM P (aK ml) (lT l) nx o=some (true,v,u)->k v u false->∃v u t,k v u t/\∀(T':Nat->A)(m':Mem),(∀x∈o.looksAt ops,T' x=lT l x)->(t=true->m'=aK ml)->(∀i∈cond t [] (GZ ops o l nx),m' i=aK ml i)->qT P o T' m' v (aH m' u):=by
  intro rQ v u he hk;refine⟨v,u,false,hk,λT' m' hT' _ zI=>?_⟩;cases hmv:VZ o with
  |true=>
   obtain⟨x,ho⟩:∃x,o.op=.move x:=by
    unfold VZ at hmv;split at hmv
    ·rename_i x ho;exact⟨x,ho⟩
    ·cases hmv
   have e1:∀(m:Mem)(T:Nat->A),eM P m T nx o=some (true,B0 P o.type (dN T x),[]):=λm T=>by
    obtain⟨dst,op,ty,pos,after,guard⟩:=o;simp only at ho;subst ho;rfl
   have e2:dN T' x=dN (lT l) x:=y7 λn e=>hT' n (mX (by rw[ho];simp[Op.operands]) e);rw[e1]at he;have e3:=e1 m' T';rw[e2,he]at e3;exact qT.sD e3 rfl
  |false=>
  have hag:MB o (lT l) T' (aK ml) m':=by
   refine⟨λx hx=>y7 λn e=>(hT' n (mX hx e)).symm,λx hx i hi=>?_⟩;obtain⟨t,e,CL⟩:=VQ hi;refine(zI i ?_).symm;simp only[cond_false,GZ,hmv,aO,rP];exact .inr ⟨t,mX hx e,CL⟩
  have aYX:=FO (P:=P) (d:=nx) hag (zI nx (by simp[GZ])).symm rQ;rw[he]at aYX;exact qT.sD aYX.symm rfl
 have key:shallow o=true->oT (stOp o) (eM P (aK ml) (lT l) nx o) (λv u=>k v u false)->∃v u t,k v u t/\∀(T':Nat->A)(m':Mem),(∀x∈o.looksAt ops,T' x=lT l x)->(t=true->m'=aK ml)->(∀i∈cond t [] (GZ ops o l nx),m' i=aK ml i)->qT P o T' m' v (aH m' u):=by
  intro rQ h;obtain⟨v,u,he,hk⟩:=XX h;exact key0 rQ he hk
 have keyM:shallow o=true->H4 P (aK ml) (lT l) o (λv u=>k v u false) (oT (stOp o) (eM P (aK ml) (lT l) nx o) λv u=>k v u false)->∃v u t,k v u t/\∀(T':Nat->A)(m':Mem),(∀x∈o.looksAt ops,T' x=lT l x)->(t=true->m'=aK ml)->(∀i∈cond t [] (GZ ops o l nx),m' i=aK ml i)->qT P o T' m' v (aH m' u):=by
  intro rQ h;rcases ED (d:=nx) h with⟨v,u,e,hk⟩|h
  ·exact key0 rQ e hk
  ·exact key rQ h
 unfold aJX at h;split at h
 ·rename_i c ho;split at h
  ·rename_i b hb;have rQ:shallow o=true:=by unfold shallow;rw[ho];simp only[hb]
   split at h
   ·rcases XI ho hb h with⟨v,u,h1,h2⟩|h
    ·exact key0 rQ h1 h2
    ·exact key rQ h
   ·exact key rQ h
  ·split at h
   ·rename_i f as hc;have ec:∀T':Nat->A,(∀x∈o.looksAt ops,T' x=lT l x)->mO T' c=some (f,as):=λT' hT'=>by
     rw[<-hc];exact zK λx hx=>y7 λn e=>hT' n (mX (by rw[ho];simpa [Op.operands]using hx) e)
    have one:∀{T':Nat->A}{m':Mem}{v:A}{u:List (Nat×R)},o8 P o T' m' [(.ok v,u)]->qT P o T' m' v (aH m' u):=by
     intro T' m' v u I5 ro N M0 S0 w0 ρ a w h cX next Q hn
     refine I5 ro N M0 S0 w0 ρ a w h cX next Q ?_
     intro u' y w' ρ' hu' h1 h2;simp only[aR]at hu';subst hu';exact⟨λv' e h3=>by simp only[Rt.ok.injEq]at e;subst e;exact hn y w' ρ' h1 h2 h3,λv' e=>by cases e⟩
    cases h with
    |pure v aVN hk=>exact⟨v,[],false,hk,λT' m' hT' _ _=>one (o8.call ho (ec T' hT') (aVN m'))⟩
    |fresh F r aVN hf hk=>exact⟨F nx,[(nx,r)],false,hk,λT' m' hT' _ zI=>one (o8.call ho (ec T' hT') (aVN m' nx (by rw[zI nx (by simp[GZ])];exact hf)))⟩
    |BL v u aVN hk=>exact⟨v,u,true,hk,λT' m' hT' hm _=>by rw[hm rfl];exact one (o8.call ho (ec T' hT') aVN)⟩
   ·exact h.elim
 ·exact h.elim
 ·exact h.elim
 ·exact h.elim
 ·exact h.elim
 ·rename_i t x ix a ho;have rQ:shallow o=true:=by unfold shallow;rw[ho]
  rcases IP (d:=nx) (.inl ho) h with⟨v,u,e,hk⟩|h
  ·exact key0 rQ e hk
  ·exact key rQ h
 ·rename_i t x ix a ho;have rQ:shallow o=true:=by unfold shallow;rw[ho]
  rcases IP (d:=nx) (.inr ho) h with⟨v,u,e,hk⟩|h
  ·exact key0 rQ e hk
  ·exact key rQ h
 ·rename_i ho;have rQ:shallow o=true:=by unfold shallow;rw[ho]
  split at h
  ·rename_i hi;obtain⟨row,e,hk⟩:=J5 (m:=aK ml) (d:=nx) hi h;exact key0 rQ e hk
  ·exact keyM rQ h
 ·rename_i ho;exact keyM (by unfold shallow;rw[ho]) h
 ·rename_i ho;exact keyM (by unfold shallow;rw[ho]) h
 ·rename_i ho;have rQ:shallow o=true:=by unfold shallow;rw[ho]
  rcases FG (m:=aK ml) (d:=nx) h with⟨v,e,hk⟩|h
  ·exact key0 rQ e hk
  ·exact key rQ h
 ·rename_i ho;have rQ:shallow o=true:=by unfold shallow;rw[ho]
  rcases FG (m:=aK ml) (d:=nx) h with⟨v,e,hk⟩|h
  ·exact key0 rQ e hk
  ·exact key rQ h
 ·rename_i ho;have rQ:shallow o=true:=by unfold shallow;rw[ho]
  rcases aD1 (d:=nx) h with⟨v,e,hk⟩|h
  ·exact key0 rQ e hk
  ·exact key rQ h
 ·rename_i ho;have rQ:shallow o=true:=by unfold shallow;rw[ho]
  rcases Q6 (m:=aK ml) (d:=nx) h with⟨v,e,hk⟩|h
  ·exact key0 rQ e hk
  ·exact key rQ h
 ·rename_i h1 h2 h3 h4 h5 h6 h7 h8 h9 h10 h11 h12 h13 h14;refine key ?_ h;unfold shallow;split
  ·rename_i c ho;exact absurd ho (h1 c)
  ·rename_i a b ho;exact absurd ho (h2 a b)
  ·rename_i a ho;exact absurd ho (h3 a)
  ·rename_i a b ho;exact absurd ho (h4 a b)
  ·rename_i a ho;exact absurd ho (h5 a)
  ·rfl
def E5(ts:List Bool)(i:Nat):Bool:=(ts.reverse[i]?).getD false
theorem tW{t:Bool}{ts:List Bool}{i:Nat}(h:i<ts.length):E5 (t::ts) i=E5 ts i:=by
 unfold E5;rw[fC,bX (by simpa using h)]
theorem E6{t:Bool}{ts:List Bool}:E5 (t::ts) ts.length=t:=by
 unfold E5;rw[fC,bO sM];simp
theorem ZK{n:Nat}{ops:Array Oper}{l0:List (Nat×A)}{ml0:List (Nat×R)}{K:List (Nat×A)->List (Nat×R)->Nat->Prop}:∀(lo:List Oper)(acc:List qC)(ts:List Bool)(l:List (Nat×A))(ml:List (Nat×R))(nx:Nat),ops.toList.drop acc.length=lo->ts.length=acc.length->UY P n ops lo acc.length acc ts l ml nx K->IY P n ops (lT l0) (aK ml0) (E5 ts) acc (lT l) (aK ml)->
 ∃acc' ts' l' ml' nx',IY P n ops (lT l0) (aK ml0) (E5 ts') acc' (lT l') (aK ml')/\acc'.length=acc.length+lo.length/\ts'.length=acc'.length/\aGY acc' ts'=true/\K l' ml' nx'
 |[],acc,ts,l,ml,nx,hk,hts,h,hi=>by
  simp only[UY]at h;obtain⟨h1,h2⟩:=h;exact⟨acc,ts,l,ml,nx,hi,sM,hts,h1,h2⟩
 |o::r,acc,ts,l,ml,nx,hk,hts,h,hi=>by
  have QS:ops[acc.length]?=some o:=by
   have:ops.toList[acc.length]?=some o:=by
    have:=congrArg List.head? hk;simpa [pA]using this
   simpa using this
  have hkr:ops.toList.drop (acc.length+1)=r:=by
   have:(ops.toList.drop acc.length).drop 1=r:=by rw[hk];rfl
   simpa [lY]using this
  simp only[UY]at h;split at h
  ·rename_i an han;cases hd:vE n o.dst with
   |false=>rw[hd]at h;exact h.elim
   |true=>
    rw[hd]at h;have h:L6 _ _ _ _ _:=h;have step:∀(v:A)(u:List (Nat×R))(F:List Nat)(t:Bool)(l':List (Nat×A))(ml':List (Nat×R))(nx':Nat),lT l'=lI (lT l) o.dst v->aK ml'=aH (aK ml) u->XA P n ops (lT l) (aK ml) o ⟨⟨o.dst,v,u⟩,o.looksAt ops,F,an⟩ t->UY P n ops r (acc.length+1) (⟨⟨o.dst,v,u⟩,o.looksAt ops,F,an⟩::acc) (t::ts) l' ml' nx' K->
     ∃acc' ts' l' ml' nx',IY P n ops (lT l0) (aK ml0) (E5 ts') acc' (lT l') (aK ml')/\acc'.length=acc.length+(o::r).length/\ts'.length=acc'.length/\aGY acc' ts'=true/\K l' ml' nx':=by
     intro v u F t l' ml' nx' qK aZR hg hv;have hi2:IY P n ops (lT l0) (aK ml0) (E5 (t::ts)) acc (lT l) (aK ml):=hi.congr λi hi=>tW oM;have hg2:XA P n ops (lT l) (aK ml) o ⟨⟨o.dst,v,u⟩,o.looksAt ops,F,an⟩ (E5 (t::ts) acc.length):=by
      rw[<-hts,E6];exact hg
     have hp:=hi2.push (T':=lT l') (m':=aK ml') (D:=⟨⟨o.dst,v,u⟩,o.looksAt ops,F,an⟩) QS qK aZR hg2 han rfl;obtain⟨acc',ts',l2,ml2,nx2,k1,k2,k3,k4,k5⟩:=ZK r (_::acc) (t::ts) l' ml' nx' hkr (by simp[hts]) hv hp;exact⟨acc',ts',l2,ml2,nx2,k1,by rw[k2];simp;omega,k3,k4,k5⟩
    rcases L7 h with⟨hw,h⟩|⟨hw,h⟩
    ·obtain⟨v,u,t,h,I5⟩:=aGZ (ops:=ops) h;obtain⟨l',qK,h⟩:=BE h;obtain⟨ml',aZR,h⟩:=RA h;exact step v u _ t l' ml' _ qK aZR ⟨rfl,nS hd,rfl,.inr ⟨hw,λT' m' hT' hm zI _=>I5 T' m' hT' hm zI⟩⟩ h
    ·obtain⟨l',qK,h⟩:=BE h;exact step (.eL []) [] [] false l' ml _ qK rfl ⟨rfl,nS hd,rfl,.inl ⟨hw,rfl,rfl⟩⟩ h
  ·exact h.elim
theorem OX{p:qC}{t:Bool}:∀{acc:List qC}{ts:List Bool},ts.length=acc.length->OY.tot1 p t acc ts=true->∀i Di,acc.reverse[i]?=some Di->(E5 ts i=true\/t=true)->p.anc.testBit i=true\/(Di.r.u=[]/\p.r.u=[])
 |[],ts,_,_,i,Di,hi,_=>by simp at hi
 |q::r,[],hl,_,i,Di,hi,_=>by simp at hl
 |q::r,t'::ts,hl,h,i,Di,hi,ht=>by
  simp only[OY.tot1,aE]at h;have qK:ts.length=r.length:=by simpa using hl
  rw[fC,iJ]at hi;split at hi
  ·rename_i uJ;have a2W:i<r.length:=by simpa using uJ
   rw[tW oM]at ht;exact OX qK h.2 i Di hi ht
  ·rename_i uJ;have e:i=r.length:=by
    rcases eQ (i -r.reverse.length) 1 with x|x
    ·simp at uJ x;omega
    ·rw[c8 (by simpa using x)]at hi;cases hi
   subst e;simp at hi;subst hi;rw[<-qK,E6]at ht;have h1:=h.1;have:(t||t')=true:=by rcases ht with e|e<;>simp[e]
   rw[this]at h1;simp only[cond_true,gP,aE,List.isEmpty_iff]at h1;exact h1
theorem L0:∀{acc:List qC}{ts:List Bool},ts.length=acc.length->OY acc ts=true->∀i j Di Dj,i<j->acc.reverse[i]?=some Di->acc.reverse[j]?=some Dj->(E5 ts i=true\/E5 ts j=true)->Dj.anc.testBit i=true\/(Di.r.u=[]/\Dj.r.u=[])
 |[],ts,_,_,i,j,Di,Dj,_,hi,_,_=>by simp at hi
 |p::r,[],hl,_,i,j,Di,Dj,_,hi,_,_=>by simp at hl
 |p::r,t::ts,hl,h,i,j,Di,Dj,hij,hi,hj,ht=>by
  simp only[OY,aE]at h;have qK:ts.length=r.length:=by simpa using hl
  rw[fC,iJ]at hi hj;split at hj
  ·rename_i hjl;rw[aUF oM]at hi;have a2Y:j<r.length:=by simpa using hjl
   rw[tW oM,tW oM]at ht;exact L0 qK h.2 i j Di Dj hij hi hj ht
  ·rename_i hjl;have e:j=r.length:=by
    rcases eQ (j -r.reverse.length) 1 with x|x
    ·simp at hjl x;omega
    ·rw[c8 (by simpa using x)]at hj;cases hj
   subst e;simp at hj;subst hj;rw[aUF (by simpa using hij)]at hi;rw[tW oM,<-qK,E6]at ht;exact OX qK h.1 i Di hi ht
theorem NW:∀{acc:List qC}{ts:List Bool},ts.length=acc.length->aHI acc ts=true->∀i D,acc.reverse[i]?=some D->E5 ts i=false->∀p∈D.r.u,p.1∈D.F
 |[],ts,_,_,i,D,hi,_=>by simp at hi
 |p::r,[],hl,_,i,D,hi,_=>by simp at hl
 |p::r,t::ts,hl,h,i,D,hi,ht=>by
  simp only[aHI,aE]at h;have qK:ts.length=r.length:=by simpa using hl
  rw[fC,iJ]at hi;split at hi
  ·rename_i uJ;rw[tW (by simp at uJ;omega)]at ht;exact NW qK h.2 i D hi ht
  ·rename_i hjl;have e:i=r.length:=by
    rcases eQ (i -r.reverse.length) 1 with x|x
    ·simp at hjl x;omega
    ·rw[c8 (by simpa using x)]at hi;cases hi
   subst e;simp at hi;subst hi;rw[<-qK,E6]at ht;have h1:=h.1;rw[ht]at h1;simp only[cond_false,cV]at h1;intro q hq;exact AP.1 (h1 q hq)
theorem aCH{a:A}{X Y:Prop}(h:aCG a X Y):∃b,a=.d (.v (.bool b))/\bK b X Y:=by
 cases a with
 |d c=>cases c with
  |v x=>cases x with
   |bool b=>exact⟨b,rfl,O8.bK h⟩
   |_=>exact h.elim
  |_=>exact h.elim
 |_=>exact h.elim
theorem kD.of{Post2:Ex->(Nat->A)->Mem->Prop}(h:∀(rd:Bool)(ds:List DA),eU P rd n c T m ds λex T' m' ds'=>ds'=ds/\Post2 ex T' m'):kD P mb n c T m Post2:=by
 intro ro _ b ρb ρ a w hs hob cX Q hQ;refine h ro.isSome b.das ro b.M b.S b.w ρ a w rfl hs cX Q ?_;rintro ex e T' m' ds' ρ' a' w' ⟨rfl,q2⟩ s o d;exact hQ ex e T' m' b ρ' a' w' q2 (.refl b) (λ_=>rfl) cX s (hob.trans o) d
theorem kD.seq{mb:List (Nat×R)}{n:Nat}{x y:Code}{T:Nat->A}{m:Mem}{Post1 Post:Ex->(Nat->A)->Mem->Prop}(h:kD P mb n x T m Post1)(h1:∀T' m',Post1 .nm T' m'->kD P mb n y T' m' Post)(h2:∀ex T' m',ex.MQ=false->Post1 ex T' m'->Post ex T' m'):kD P mb n (.seq x y) T m Post:=by
 intro ro wB b ρb ρ a w hs hob cX Q hQ;have hN:sC (.seq x y)=true->sC x=true/\sC y=true:=λe=>by simpa [sC]using e
 refine wpIn_seq (h ro (wB.imp id λe=>(hN e).1) b ρb ρ a w hs hob cX _ ?_);intro ex e T' m' b' ρ' a' w' hp hE hb aVU h' ho hd;cases hx:ex.MQ with
 |true=>
  obtain⟨rfl,rfl⟩:=(BX hd).1 hx;exact h1 T' m' hp ro (wB.imp id λe=>(hN e).2) b' ρb ρ' a' w' h' ho aVU Q λex2 e2 T2 m2 b2 ρ2 a2 w2 p2 E2 n2 l2 s2 o2 d2=>hQ ex2 e2 T2 m2 b2 ρ2 a2 w2 p2 (hE.trans E2) (λq=>(n2 (hN q).2).trans (hb (hN q).1)) l2 s2 o2 d2
 |false=>
  have hZ:=(BX hd).2 hx;have:=hQ ex e T' m' b' ρ' a' w' (h2 ex T' m' hx hp) hE (λq=>hb (hN q).1) aVU h' ho hd;cases e<;>first|exact this|exact absurd rfl hZ
theorem kD.cond{mb:List (Nat×R)}{n:Nat}{c:Operand}{x y:Code}{b:Bool}{T:Nat->A}{m:Mem}{Post:Ex->(Nat->A)->Mem->Prop}(hc:dN T c=.d (.v (.bool b)))(h:kD P mb n (if b then x else y) T m Post):kD P mb n (.cond c x y) T m Post:=by
 intro ro wB bs ρb ρ a w hs hob cX Q hQ;have hd:=cU hs c;rw[hc]at hd;simp only[A.Den,C.Den]at hd;have hN:sC (.cond c x y)=true->sC (if b then x else y)=true:=λe=>by
  simp only[sC,aE]at e;cases b
  ·exact e.2
  ·exact e.1
 exact wpIn_cond hd (h ro (wB.imp id hN) bs ρb ρ a w hs hob cX Q λex e T' m' b' ρ' a' w' p E n=>hQ ex e T' m' b' ρ' a' w' p E λq=>n (hN q))
theorem kD.block{mb:List (Nat×R)}{n:Nat}{id:Nat}{c:Code}{T:Nat->A}{m:Mem}{Post1 Post:Ex->(Nat->A)->Mem->Prop}(h:kD P mb n c T m Post1)(h1:∀ex T' m',Post1 ex T' m'->Post (u6 id ex) T' m'):kD P mb n (.block id c) T m Post:=by
 intro ro wB b ρb ρ a w hs hob cX Q hQ;refine wpIn_block (h ro wB b ρb ρ a w hs hob cX _ ?_);intro ex e T' m' b' ρ' a' w' hp hE hn aVU h' ho hd;have:=λe=>hQ _ e T' m' b' ρ' a' w' (h1 ex T' m' hp) hE hn aVU h' ho;cases ex with
 |ext id'=>
  simp only[Ex.Den]at hd;subst hd;simp only[Exit.inBlock,u6]at this⊢;by_cases e:id'=id
  ·simp only[e,if_true]at this⊢;exact this _ rfl
  ·simp only[e,if_false]at this⊢;exact this _ rfl
 |nm=>simp only[Ex.Den]at hd;subst hd;exact this _ rfl
 |ret=>simp only[Ex.Den]at hd;subst hd;exact this _ rfl
 |sE v=>obtain⟨y,rfl,hy⟩:=hd;exact this _ ⟨y,rfl,hy⟩
theorem kD.scope{mb:List (Nat×R)}{n:Nat}{T:Nat->A}{m:Mem}{Post:Ex->(Nat->A)->Mem->Prop}{c:Code}(h:kD P mb n c T m Post):kD P mb n (.scope c) T m Post:=by
 intro ro wB b0 ρb ρ a w hs hob cX Q hQ;have h1:=h ro wB b0 ρb ρ a w hs hob cX (λe a' w'=>(∀l,e≠.goto l)/\e≠.outgrown/\Q e a' w') (λex e T' m' b' ρ' a' w' hp hE hn hl hs' ho hd=>⟨λl=>by cases ex<;>first|(simp only[Ex.Den]at hd;rw[hd];simp)|(obtain⟨y,hd,_⟩:=hd;rw[hd];simp),by cases ex<;>first|(simp only[Ex.Den]at hd;rw[hd];simp)|(obtain⟨y,hd,_⟩:=hd;rw[hd];simp),hQ ex e T' m' b' ρ' a' w' hp hE hn hl hs' ho hd⟩);intro b k cs hrb hb hr;have h0:(lone (b.atR a (.code (.scope c)::k)) cs w).fenced P (FW ro):=fenced_calm hb hr rfl;obtain⟨e,a₁,w₁,⟨hg,ho,hq⟩,aWS⟩:=h1 b (.inScope c::k) cs hrb hb hr;have hx:∀id,exitTo id (.inScope c::k)=exitTo id k:=λid=>by simp[exitTo]
 cases e with
 |normal=>exact⟨.normal,a₁,w₁,hq,.head h0 jE (StepsIn.trans aWS (.one (fenced_calm hb hr rfl) AY))⟩
 |exit id=>exact⟨_,a₁,w₁,hq,λk' hk=>.head h0 jE (aWS.1 k' (by rw[hx];exact hk)),λhr' hk=>let⟨k₁,h1,h2⟩:=aWS.2 hr' (by rw[hx];exact hk);⟨k₁,h1,.head h0 jE h2⟩⟩
 |goto l=>exact absurd rfl (hg l)
 |ret=>exact⟨_,a₁,w₁,hq,.of_steps (.one h0 jE) aWS⟩
 |panic ch=>exact⟨_,a₁,w₁,hq,.of_steps (.one h0 jE) aWS⟩
 |outgrown=>exact absurd rfl ho
theorem PK.of{K:KT}{ex:Ex}(h:K ex l ml nx):PK K ex (lT l) (aK ml):=⟨l,ml,nx,rfl,rfl,h⟩
theorem uX(hm:P.follows .mixedOrders=true){mb:List (Nat×R)}{n:Nat}:∀(c:Code)(l:List (Nat×A))(ml:List (Nat×R))(nx:Nat)(K:KT),vc P mb n c l ml nx K->kD P mb n c (lT l) (aK ml) (PK K)
 |.skip,l,ml,nx,K,h=>kD.of λrd ds=>eU.skip ⟨rfl,PK.of (nx:=nx) h⟩
 |.label _,l,ml,nx,K,h=>kD.of λrd ds=>eU.label ⟨rfl,PK.of (nx:=nx) h⟩
 |.exit i,l,ml,nx,K,h=>kD.of λrd ds=>eU.exit ⟨rfl,PK.of (nx:=nx) h⟩
 |.ret,l,ml,nx,K,h=>kD.of λrd ds=>eU.ret ⟨rfl,PK.of (nx:=nx) h⟩
 |.seq a b,l,ml,nx,K,h=>by
  rcases h with h|⟨α,Exi,I',J',nx2,h,h2⟩
  rotate_left
  ·refine kD.seq (uX hm a l ml nx _ h) ?_ ?_
   ·rintro T' m' ⟨l',ml',nx',rfl,rfl,y,q1,q2⟩;have k:=uX hm b (I' y) (J' y) nx2 K (h2 y q1);intro ro wB bs ρb ρ a' w' hs hob cX Q hQ;obtain⟨ρ2,hs2,ho2⟩:=q2 bs ρb ρ a' w' hs hob;exact k ro wB bs ρb ρ2 a' w' hs2 ho2 cX Q hQ
   ·rintro ex T' m' hx ⟨l',ml',nx',rfl,rfl,h'⟩;refine⟨l',ml',nx',rfl,rfl,?_⟩;cases ex<;>first|(cases hx;done)|exact h'
  refine kD.seq (uX hm a l ml nx _ h) ?_ ?_
  ·rintro T' m' ⟨l',ml',nx',rfl,rfl,h'⟩;exact uX hm b l' ml' nx' K h'
  ·rintro ex T' m' hx ⟨l',ml',nx',rfl,rfl,h'⟩;refine⟨l',ml',nx',rfl,rfl,?_⟩;cases ex<;>first|(cases hx;done)|exact h'
 |.cond c a b,l,ml,nx,K,h=>by
  obtain⟨x,hc,h⟩:=aCH h;refine kD.cond (b:=x) hc ?_;cases x with
  |true=>exact uX hm a l ml nx K h
  |false=>exact uX hm b l ml nx K h
 |.block id a,l,ml,nx,K,h=>by
  refine kD.block (uX hm a l ml nx _ h) ?_;rintro ex T' m' ⟨l',ml',nx',rfl,rfl,h'⟩;refine⟨l',ml',nx',rfl,rfl,?_⟩;cases ex with
  |ext i=>
   simp only[MP]at h';simp only[u6];cases hb:Nat.beq i id with
   |true=>rw[hb]at h';rw[aUF (bB hb)];exact h'
   |false=>rw[hb]at h';rw[aT7 (λe=>by subst e;simp at hb)];exact h'
  |nm=>exact h'
  |ret=>exact h'
  |sE v=>exact h'
 |.loop a,l,ml,nx,K,h=>by
  obtain⟨h⟩:=h;exact h
 |.scope a,l,ml,nx,K,h=>by
  exact kD.scope (uX hm a l ml nx K h)
 |.region id ops draw,l,ml,nx,K,h=>by
  cases draw with
  |false=>
   refine kD.of λrd ds=>eU.region ?_;have:=L5 (rd:=rd) (ds:=ds) (Post:=λex T' m' ds'=>ds'=ds/\PK K ex T' m') (λl ml nx h=>⟨rfl,l,ml,nx,rfl,rfl,h⟩) ops.toList 0 l ml nx sM h;rw[List.range_eq_range'];simpa using this
  |true=>
   cases h with
   |u h=>
    obtain⟨acc',ts',l',ml',nx',k1,k2,k3,k4,k5⟩:=ZK (n:=n) (l0:=l) (ml0:=ml) ops.toList [] [] l ml nx sM rfl h ⟨rfl,rfl,λi o D _ hD=>by simp at hD,λi o D _ hD=>by simp at hD⟩;simp only[aGY,aE]at k4;exact kD.of λrd ds=>VI hm k1 (by simpa using k2) k4.1 (NW k3 k4.2.2) (L0 k3 k4.2.1) ⟨rfl,l',ml',nx',rfl,rfl,k5⟩
   |r h=>
   have h:bK (aEU n ops) _ _:=h;cases hr:aEU n ops with
   |false=>rw[hr]at h;exact h.elim
   |true=>
    rw[hr]at h;have h:UX _ _ _ _ _ _ _:=h;unfold aEU at hr;split at hr
    ·rename_i accF hs;obtain⟨acc',l',k1,k2,k3,k4⟩:=ZJ (n:=n) (l0:=l) ops.toList [] [] l sM h ⟨rfl,rfl,λi o D _ hD=>by simp at hD,λi o D _ hD=>by simp at hD⟩ .nil hs;exact kD.of λrd ds=>NC hm k1 (by simpa using k2) (by rw[zJ k3];exact hr) ⟨rfl,l',ml,nx,rfl,rfl,k4⟩
    ·cases hr
 |.goto _,_,_,_,_,h=>h.elim
 |.rangeFunc g ps asg bod,l,ml,nx,K,h=>by
  obtain⟨h⟩:=h;exact h
 |.refuse _,_,_,_,_,h=>h.elim
section
variable{mb:List (Nat×R)}{n:Nat}{a b:Code}{l:List (Nat×A)}{ml:List (Nat×R)}{nx id i:Nat}{K:KT}{k:Ex->Prop}{X Y:Prop}{ops:Array Oper}{c:Operand}
theorem w1(h:vc P mb n a l ml nx λex l ml nx=>aGA ex (vc P mb n b l ml nx K) (K ex l ml nx)):vc P mb n (.seq a b) l ml nx K:=.p h
theorem tG{d:Bool}(h:vc P mb n (.region id ops d) l ml nx λex l ml nx=>aGA ex (vc P mb n b l ml nx K) (K ex l ml nx)):vc P mb n (.seq (.region id ops d) b) l ml nx K:=.p h
theorem TA(h:vc P mb n (.block id a) l ml nx λex l ml nx=>aGA ex (vc P mb n b l ml nx K) (K ex l ml nx)):vc P mb n (.seq (.block id a) b) l ml nx K:=.p h
theorem QH{a2:Code}(h:vc P mb n (.seq a a2) l ml nx λex l ml nx=>aGA ex (vc P mb n b l ml nx K) (K ex l ml nx)):vc P mb n (.seq (.seq a a2) b) l ml nx K:=.p h
theorem BH{α:Type}(Exi:α->Prop)(I':α->List (Nat×A))(J':α->List (Nat×R))(nx2:Nat)(h:vc P mb n a l ml nx (λex l ml nx=>aGA ex (∃y,Exi y/\cN mb n l ml (I' y) (J' y)) (K ex l ml nx)))(h2:∀y,Exi y->vc P mb n b (I' y) (J' y) nx2 K):vc P mb n (.seq a b) l ml nx K:=.c ⟨α,Exi,I',J',nx2,h,h2⟩
theorem w2(h:K .nm l ml nx):vc P mb n .skip l ml nx K:=h
theorem w3(h:K (.ext i) l ml nx):vc P mb n (.exit i) l ml nx K:=h
theorem w4(h:K .ret l ml nx):vc P mb n .ret l ml nx K:=h
theorem w5(h:vc P mb n a l ml nx λex l ml nx=>MP id ex λex=>K ex l ml nx):vc P mb n (.block id a) l ml nx K:=h
theorem w6(h:vc P mb n a l ml nx K):vc P mb n (.scope a) l ml nx K:=h
theorem w7(h:K .nm l ml nx):vc P mb n (.label i) l ml nx K:=h
theorem w8(h:XB P mb n a l ml K):vc P mb n (.loop a) l ml nx K:=h
theorem w9(h:X):aGA .nm X Y:=h
theorem wa(h:Y):aGA (.ext i) X Y:=h
theorem wb(h:Y):aGA .ret X Y:=h
theorem wc(h:k .nm):MP id .nm k:=h
theorem wd(h:k .ret):MP id .ret k:=h
theorem we(h:k .nm):MP id (.ext id) k:=by
 have e:Nat.beq id id=true:=sM;simp only[MP,e];exact h
theorem wr(h:O1 P n ops ops.toList l ml nx λl ml nx=>K .nm l ml nx):vc P mb n (.region id ops false) l ml nx K:=h
theorem wt(hu:aMU ops.toList=false)(hr:aEU n ops=true)(h:UX P ops ops.toList l ml nx λl=>K .nm l ml nx):vc P mb n (.region id ops true) l ml nx K:=.r (by rw[hr];exact h)
theorem wu(h:UY P n ops ops.toList 0 [] [] l ml nx λl ml nx=>K .nm l ml nx):vc P mb n (.region id ops true) l ml nx K:=.u h
theorem wg(h:X):wK true X Y:=h
theorem wh(h:Y):wK false X Y:=h
theorem wi(h:aCG (dN (lT l) c) (vc P mb n a l ml nx K) (vc P mb n b l ml nx K)):vc P mb n (.cond c a b) l ml nx K:=h
end
end
def YY(l:List (Nat×A)):List (Nat×A)->Prop
 |[]=>True
 |p::r=>lT l p.1=p.2/\YY l r
theorem YY.at{l:List (Nat×A)}:∀{l':List (Nat×A)},YY l l'->∀n,lT l' n=.x\/lT l' n=lT l n
 |[],_,n=>.inl rfl
 |p::r,h,n=>by
  simp only[lT];cases hb:Nat.beq p.1 n with
  |true=>have:=bB hb;subst this;exact .inr h.1.symm
  |false=>exact h.2.at n
theorem cN.U0{l':List (Nat×A)}(h:YY l l')(hm:aK ml=aK ml'):cN mb n l ml l' ml':=by
 intro b ρb ρ a w hs ho;rw[hm]at hs ho;refine⟨ρ,{keeps:=hs.keeps,size:=hs.size,defers:=hs.defers,res:=hs.res,own:=hs.own,apart:=hs.apart,tmps:=λk=>?_},ho⟩;rcases h.at k with e|e
 ·rw[e];simp only[A.Den]
 ·rw[e];exact hs.tmps k
def M3(i j:Nat)(ml':List (Nat×R)):List (Nat×R)->Prop
 |[]=>True
 |p::r=>(p.1≠i/\p.1≠j/\aK ml' p.1≠none)/\M3 i j ml' r
theorem M3.at{i j:Nat}{ml':List (Nat×R)}:∀{mb:List (Nat×R)},M3 i j ml' mb->∀k,aK mb k≠none->k≠i/\k≠j/\aK ml' k≠none
 |[],_,k,h=>absurd rfl h
 |p::r,h,k,hk=>by
  simp only[aK]at hk;cases hb:Nat.beq p.1 k with
  |true=>have:=bB hb;subst this;exact h.1
  |false=>rw[hb]at hk;exact h.2.at k hk
def swp(i j x:Nat):Nat:=bif Nat.beq x i then j else bif Nat.beq x j then i else x
theorem BJ(i j x:Nat):swp i j x=if x=i then j else if x=j then i else x:=by
 unfold swp;have hb:∀a b:Nat,Nat.beq a b=decide (a=b):=λa b=>by
  cases h:Nat.beq a b with
  |true=>have:=bB h;simp[this]
  |false=>have:a≠b:=λe=>by subst e;simp at h
          simp[this]
 rw[hb,hb];by_cases h1:x=i<;>by_cases h2:x=j<;>simp[h1,h2]
theorem fH(i j x:Nat):swp i j (swp i j x)=x:=by
 simp only[BJ];by_cases h1:x=i
 ·subst h1;by_cases h2:j=x<;>simp[h2]
 ·by_cases h2:x=j
  ·subst h2;simp[h1]
  ·simp[h1,h2]
def KP(g:Nat->Nat)(l:List (Nat×A)):List (Nat×A)->Prop
 |[]=>True
 |p::r=>(lT l p.1).eZ g=p.2/\KP g l r
theorem KP.at{g:Nat->Nat}{l:List (Nat×A)}:∀{l':List (Nat×A)},KP g l l'->∀n,lT l' n=.x\/lT l' n=(lT l n).eZ g
 |[],_,n=>.inl rfl
 |p::r,h,n=>by
  simp only[lT];cases hb:Nat.beq p.1 n with
  |true=>have:=bB hb;subst this;exact .inr h.1.symm
  |false=>exact h.2.at n
def I8(g:Nat->Nat)(ml:List (Nat×R)):List (Nat×R)->Prop
 |[]=>True
 |p::r=>(aK ml (g p.1)).map (R.eZ g)=some p.2/\I8 g ml r
theorem I8.at{g:Nat->Nat}{ml:List (Nat×R)}:∀{ml':List (Nat×R)},I8 g ml ml'->∀i q,aK ml' i=some q->(aK ml (g i)).map (R.eZ g)=some q
 |[],_,i,q,h=>by simp[aK]at h
 |p::r,h,i,q,hq=>by
  simp only[aK]at hq;cases hb:Nat.beq p.1 i with
  |true=>
   rw[hb]at hq;simp only[cond_true,aA]at hq;have:=bB hb;rw[<-this,<-hq];exact h.1
  |false=>rw[hb]at hq;exact h.2.at i q hq
def rB(ml':List (Nat×R)):List Nat->Prop
 |[]=>True
 |i::r=>aK ml' i≠none/\rB ml' r
theorem rB.at{ml':List (Nat×R)}:∀{l:List Nat},rB ml' l->∀i∈l,aK ml' i≠none
 |[],_,i,h=>by simp at h
 |j::r,h,i,hi=>by
  simp only[aO]at hi;rcases hi with rfl|hi
  ·exact h.1
  ·exact h.2.at i hi
def GF(ml':List (Nat×R)):List (Nat×A)->Prop
 |[]=>True
 |p::r=>rB ml' p.2.hs/\GF ml' r
theorem GF.at{ml':List (Nat×R)}:∀{l:List (Nat×A)},GF ml' l->∀n,∀i∈(lT l n).hs,aK ml' i≠none
 |[],_,n,i,h=>by simp[lT,A.hs]at h
 |p::r,h,n,i,hi=>by
  simp only[lT]at hi;cases hb:Nat.beq p.1 n with
  |true=>rw[hb]at hi;exact h.1.at i hi
  |false=>rw[hb]at hi;exact h.2.at n i hi
def H9(ml':List (Nat×R)):List (Nat×R)->Prop
 |[]=>True
 |p::r=>rB ml' p.2.hs/\H9 ml' r
theorem H9.at{ml':List (Nat×R)}:∀{l:List (Nat×R)},H9 ml' l->∀j q,aK l j=some q->∀i∈q.hs,aK ml' i≠none
 |[],_,j,q,h,i,hi=>by simp[aK]at h
 |p::r,h,j,q,hq,i,hi=>by
  simp only[aK]at hq;cases hb:Nat.beq p.1 j with
  |true=>rw[hb]at hq;simp only[cond_true,aA]at hq;subst hq;exact h.1.at i hi
  |false=>rw[hb]at hq;exact h.2.at j q hq i hi
theorem cN.swap(i j:Nat){mb:List (Nat×R)}{n:Nat}{l l':List (Nat×A)}{ml ml':List (Nat×R)}(hbk:M3 i j ml' mb)(hl:KP (swp i j) l l')(hm:I8 (swp i j) ml ml')(h1:GF ml' l')(h2:H9 ml' ml'):cN mb n l ml l' ml':=by
 intro b ρb ρ a w hs ho;obtain⟨s1,aWJ⟩:=hs.eZ (fH i j) (fH i j);have hs0:bC b.M b.S b.w ⟨n,some b.das⟩ (lT l') (nK (swp i j) (swp i j) (aK ml)) (λk=>ρ (swp i j k)) a w:=
  {keeps:=s1.keeps,size:=s1.size
   defers:=λds e=>by
    simp only[aA]at e;subst e;exact IL (hs.defers _ rfl)
   tmps:=λk=>by
    rcases hl.at k with e|e
    · rw[e];simp only[A.Den]
    · rw[e];exact aWJ _ _ (hs.tmps k)
   res:=s1.res,own:=s1.own,apart:=s1.apart}
 refine⟨_,hs0.drop (λk q hq=>hm.at k q hq) h1.at (λds e d hd i hi=>by simp only[aA]at e;subst e;exact(aEF d hd i hi).elim) (λk q hq=>h2.at k q hq),?_⟩;have VV:=TR (g:=swp i j) (gi:=swp i j) (fH i j) (λk hk=>by obtain⟨q1,q2,_⟩:=hbk.at k hk;simp[BJ,q1,q2]) ho;intro k hk;obtain⟨k1,k2⟩:=VV k hk;have hZ:=(hbk.at k hk).2.2;cases hq:aK ml' k with
 |none=>exact absurd hq hZ
 |some q=>
  have e:nK (swp i j) (swp i j) (aK ml) k=some q:=hm.at k q hq;rw[e]at k2;exact⟨sM,k2⟩
section
variable{P:Program}
theorem bV(hm:P.follows .mixedOrders=true){mb:List (Nat×R)}{n:Nat}{c:Code}{l:List (Nat×A)}{ml:List (Nat×R)}{K:KT}{α:Type}(Inv:α->Prop)(I:α->List (Nat×A))(J:α->List (Nat×R))(μ:α->Nat)(nx:Nat)(a0:α)(hi:Inv a0)(h0:cN mb n l ml (I a0) (J a0))
 (step:∀a,Inv a->vc P mb n c (I a) (J a) nx (λex l' ml' nx'=>aGA ex (∃a',μ a'<μ a/\Inv a'/\cN mb n l' ml' (I a') (J a')) (K ex l' ml' nx'))):XB P mb n c l ml K:=by
 refine⟨λro wB b ρb ρ a w hs hob cX Q hQ=>?_⟩;obtain⟨ρ1,hs1,ho1⟩:=h0 b ρb ρ a w hs hob;refine wpIn_loop_ghost (λj a' w'=>∃x ρ' b',μ x=j/\Inv x/\b.Ext b'/\(sC c=true->b'=b)/\(∀x,b'.M x->x<b'.w.heap.size)/\I1 b' n (lT (I x)) (aK (J x)) ρ' a' w'/\gL (aK mb) (aK (J x)) ρb ρ') (μ a0) ⟨a0,ρ1,b,rfl,hi,.refl b,λ_=>rfl,cX,hs1,ho1⟩ ?_;rintro j a' w' ⟨x,ρ',b1,rfl,K0,hE1,P0,aYE,hs',VV⟩;refine uX hm c _ _ nx _ (step x K0) ro wB b1 ρb ρ' a' w' hs' VV aYE _ ?_;rintro ex e T' m' b2 ρ2 a2 w2 ⟨l',ml',nx',rfl,rfl,h⟩ hE2 hn2 aW3 hs2 ho2 hd;cases hx:ex.MQ with
 |true=>
  obtain⟨rfl,rfl⟩:=(BX hd).1 hx;obtain⟨x',q1,q2,q3⟩:=h;obtain⟨ρ3,hs3,ho3⟩:=q3 b2 ρb ρ2 a2 w2 hs2 ho2;exact⟨μ x',q1,x',ρ3,b2,rfl,q2,hE1.trans hE2,λq=>(hn2 q).trans (P0 q),aW3,hs3,ho3⟩
 |false=>
  have hZ:=(BX hd).2 hx;have hk:PK K ex (lT l') (aK ml'):=⟨l',ml',nx',rfl,rfl,by cases ex<;>first|(cases hx;done)|exact h⟩;have:=hQ ex e _ _ b2 ρ2 a2 w2 hk (hE1.trans hE2) (λq=>(hn2 q).trans (P0 q)) aW3 hs2 ho2 hd;cases e<;>first|exact this|exact absurd rfl hZ
theorem aF(h:∀m,aJ P f as m (.ok v) m)(hk:k v []):dZ P f as ml k:=⟨v,[],h _,hk⟩
theorem fQ{F:Nat->A}{r:R}(h:∀(m:Mem)(d:Nat),m d=none->aJ P f as m (.ok (F d)) (aX m d r))(d:Nat)(hd:aK ml d=none)(hk:k (F d) [(d,r)]):dZ P f as ml k:=⟨F d,[(d,r)],h _ d hd,hk⟩
def C9:Nat->List A->List (Nat×A)
 |_,[]=>[]
 |k,a::r=>(k,a)::C9 (k+1) r
theorem RQ:∀(as:List A)(k n:Nat),lT (C9 k as) (k+n)=(as[n]?).getD .x
 |[],k,n=>by simp[C9,lT]
 |a::r,k,0=>by simp[C9,lT]
 |a::r,k,n+1=>by
  have hb:Nat.beq k (k+(n+1))=false:=by
   cases hb:Nat.beq k (k+(n+1))with
   |false=>rfl
   |true=>have:=bB hb;omega
  simp only[C9,lT,hb,cond_false];rw[show k+(n+1)=(k+1)+n by omega,RQ r (k+1) n];simp
theorem IC(as:List A):lT (C9 0 as)=uA as:=by
 funext n;have:=RQ as 0 n;rw[fF]at this;exact this
def aBE(P:Program)(fn:Func)(l:List (Nat×A))(ml:List (Nat×R))(k:A->Prop):Prop:=match GO P (aK ml) (lT l) fn.results.toList with
 |some v=>J0 v k
 |none=>False
def JS(P:Program)(fn:Func)(Q:A->List (Nat×R)->Prop):KT:=λex l ml _=>match ex with
 |.nm=>aBE P fn l ml λv=>Q v ml
 |.ret=>aBE P fn l ml λv=>Q v ml
 |_=>False
theorem wx{Q:A->List (Nat×R)->Prop}(h:aBE P fn l ml λv=>Q v ml):JS P fn Q .ret l ml nx:=h
theorem wy{Q:A->List (Nat×R)->Prop}(h:aBE P fn l ml λv=>Q v ml):JS P fn Q .nm l ml nx:=h
theorem IF{Q:A->List (Nat×R)->Prop}{ex:Ex}(h:JS P fn Q ex l ml nx):SI ex=some .ret/\∃v,GO P (aK ml) (lT l) fn.results.toList=some v/\Q v ml:=by
 have key:aBE P fn l ml (λv=>Q v ml)->∃v,GO P (aK ml) (lT l) fn.results.toList=some v/\Q v ml:=by
  intro h;unfold aBE at h;split at h
  ·rename_i v hv;exact⟨v,hv,s6 h⟩
  ·exact h.elim
 cases ex with
 |nm=>exact⟨rfl,key h⟩
 |ret=>exact⟨rfl,key h⟩
 |ext _=>exact h.elim
 |sE _=>exact h.elim
end
def aGH(m mf:Mem)(r0:Rt)(m2:Mem)(r:Rt):Prop:=
 ∀(N N1:Fr)(T T1:Nat->A)(M0 S0:Nat->Prop)(w0:World)(ρ ρ2:Nat->Value)(a a1:Act)(w w2:World)(e:Ending),bC M0 S0 w0 N T m ρ a w->bC M0 (oO m ρ) w N1 T1 mf ρ2 a1 w2->gL m mf ρ ρ2->r0.Den w2 (dD M0 mf ρ2) mf ρ2 e->
  ∃ρ',bC M0 S0 w0 N T m2 ρ' a w2/\gL m m2 ρ ρ'/\r.Den w2 (dD M0 m2 ρ') m2 ρ' e
theorem PV(hm:∀i r,m i=some r->m2 i=some r){t:TypeId}{x:A}{e:E}(h:jM P m t x=some e):jM P m2 t x=some e:=by
 unfold jM at h⊢;split at h
 ·split at h
  ·rename_i hi;simp only[hm _ _ hi];exact h
  ·cases h
 ·split at h
  ·rename_i hi;simp only[hm _ _ hi];exact h
  ·cases h
 ·exact h
 ·cases h
theorem aBD(hm:∀i r,m i=some r->m2 i=some r){r:ResultVar}{v:A}(h:aBC P m T r=some v):aBC P m2 T r=some v:=by
 cases r with
 |tmp t=>exact h
 |cell ad t=>
  simp only[aBC]at h⊢;split at h
  ·rename_i hl;rw[PV hm hl];exact h
  ·cases h
theorem OM{P:Program}{m m2:Mem}{T:Nat->A}(hm:∀i r,m i=some r->m2 i=some r):∀{rs:List ResultVar}{vs:List A},MS P m T rs=some vs->MS P m2 T rs=some vs
 |[],vs,h=>h
 |r::rs,vs,h=>by
  simp only[MS]at h⊢;split at h
  ·rename_i v vs' h1 h2;rw[aBD hm h1,OM hm h2];exact h
  ·cases h
theorem aBF(hm:∀i r,m i=some r->m2 i=some r){rs:List ResultVar}{v:A}(h:GO P m T rs=some v):GO P m2 T rs=some v:=by
 unfold GO at h⊢;cases hl:MS P m T rs with
 |none=>rw[hl]at h;cases h
 |some vs=>rw[hl]at h;rw[OM hm hl];exact h
def LZ:List Nat->Mem->Mem
 |[],m=>m
 |i::r,m=>LZ r (aX m i (.df true))
theorem OW:∀{L:List Nat}{m:Mem}{i:Nat},i∉L->LZ L m i=m i
 |[],m,i,_=>rfl
 |j::r,m,i,h=>by
  rw[LZ,OW (λe=>h (uE _ e))];unfold aX;rw[aT7 (λe=>h (by simp[e]))]
theorem KA{P:Program}{fn:Func}{T:Nat->A}{v:A}:∀(L:List Nat)(m:Mem),L.Nodup->(∀i∈L,m i=some (.df false))->GO P (LZ L m) T fn.results.toList=some v->pB P fn T m (L.map .s4) .ret (.ok v) (LZ L m)
 |[],m,_,_,h=>pB.ret h
 |i::r,m,hn,hi,h=>by
  have hn':=gR.1 hn;refine pB.s4 (hi i sM) (KA r _ hn'.2 (λj hj=>?_) h);unfold aX;rw[aT7 (λ(e:j=i)=>hn'.1 (by rw[<-e];exact hj))];exact hi j (by simp[hj])
def VW(N:Nat)(Ds:List Nat)(m:Mem):Mem:=λi=>if N<=i/\i<N+Ds.length then some (.df false)else m i
def aAO(N:Nat)(Ds:List Nat)(ρ:Nat->Value):Nat->Value:=λi=>if N<=i/\i<N+Ds.length then .pointer (some ⟨Ds.getD (i -N) 0,0,none⟩)else ρ i
theorem R5{w:World}{M:Nat->Prop}{m:Mem}{ρ:Nat->Value}:∀{Ds L:List Nat}{l:List Deferred},Ds.length=L.length->(∀(k:Nat)(h:k<L.length)(h2:k<Ds.length),m L[k]≠none/\ρ L[k]=.pointer (some ⟨Ds[k],0,none⟩))->l=Ds.map DI->iM w M m ρ (L.map .s4) l
 |[],[],l,_,_,e=>e
 |[],_::_,l,h,_,_=>by simp at h
 |_::_,[],l,h,_,_=>by simp at h
 |D::Ds,i::L,l,h,hk,e=>by
  subst e;have h0:=hk 0 sM sM;refine⟨D,Ds.map DI,rfl,⟨h0.1,λ_=>h0.2⟩,R5 (by simpa using h) (λk q q2=>?_) rfl⟩;exact hk (k+1) (by simpa using q) (by simpa using q2)
theorem aEG{w:World}{M:Nat->Prop}{m:Mem}{ρ:Nat->Value}:∀{ds:List Nat}{l:List Deferred},iM w M m ρ (ds.map λD=>.SK (DI D)) l->l=ds.map DI
 |[],l,h=>h
 |D::r,l,⟨rest,e,h⟩=>by rw[e,aEG h];rfl
theorem aJ8{b0 b:Bs}{l:List (Nat×R)}{a:Act}(hE:b0.Ext b)(hd:b0.ds=[])(cX:∀x,b0.M x->x<b0.w.heap.size)(aZP:∀x,b.M x->x<b.w.heap.size)(hs:I1 b n T (aK l) ρ a w)(hv:GO P (aK l) T fn.results.toList=some v)
 {Re:Ending->World->Prop}(hR:∀e w' ρ',bC b0.M b0.S b0.w ⟨n,some []⟩ T (aK l) ρ' {a with defers:=[]} w'->gL (aK l) (aK l) ρ ρ'->(Rt.ok v).Den w' (dD b0.M (aK l) ρ') (aK l) ρ' e->Re e w'):sY P fn a.tmps Re a.defers .returning w:=by
 obtain⟨Ds,h1,h2,h3,h4⟩:=hE.grown;rw[hd,dS]at h1;obtain⟨N,hN⟩:∃N,∀i,N<=i->aK l i=none:=by
  clear hs hv hR;induction l with
  |nil=>exact⟨0,λ_ _=>rfl⟩
  |cons p r ih=>
   obtain⟨N,h⟩:=ih;refine⟨max N (p.1+1),λi hi=>?_⟩;rw[lR];unfold aX;rw[aT7 oM];exact h i oM
 let L:=(List.range Ds.length).map (N+·);have hLl:L.length=Ds.length:=by simp[L]
 have hLm:∀i,i∈L↔N<=i/\i<N+Ds.length:=by
  intro i;simp only[L,aA4,jI];constructor
  ·rintro⟨k,hk,rfl⟩;omega
  ·rintro⟨q1,q2⟩;exact⟨i -N,oM,oM⟩
 have hLn:L.Nodup:=by
  refine List.pairwise_map.2 (List.nodup_range.imp λh e=>h ?_);omega
 let m2:=VW N Ds (aK l);let ρ2:=aAO N Ds ρ;have a0C:∀i r,aK l i=some r->m2 i=some r/\ρ2 i=ρ i:=by
  intro i r hi;have:¬(N<=i/\i<N+Ds.length):=λq=>by rw[hN i q.1]at hi;cases hi
  exact⟨by simp only[m2,VW];rw[aT7 this];exact hi,by simp only[ρ2,aAO];rw[aT7 this]⟩
 have hin:∀i r,m2 i=some r->(∃k,∃h:k<Ds.length,i=N+k/\r=.df false/\ρ2 i=.pointer (some ⟨Ds[k],0,none⟩))\/(aK l i=some r/\ρ2 i=ρ i):=by
  intro i r hi;by_cases hq:N<=i/\i<N+Ds.length
  ·left;refine⟨i -N,oM,oM,?_,?_⟩
   ·simp only[m2,VW]at hi;rw[aUF hq]at hi;exact(eY hi).symm
   ·simp only[ρ2,aAO];rw[aUF hq];have:i -N<Ds.length:=oM;simp[bF,this]
  ·right;exact⟨by simp only[m2,VW]at hi;rw[aT7 hq]at hi;exact hi,by simp only[ρ2,aAO];rw[aT7 hq]⟩
 have hon:gL (aK l) m2 ρ ρ2:=by
  intro i hi;cases hq:aK l i with
  |none=>exact absurd hq hi
  |some r=>
   obtain⟨e1,e2⟩:=a0C i r hq;rw[e1];exact⟨sM,λhd=>⟨hd,e2,λfz t es l' e=>⟨fz,t,l',e,rfl⟩⟩⟩
 have aXP:∀x,dD b0.M m2 ρ2 x↔dD b.M (aK l) ρ x:=by
  intro x;constructor
  ·rintro(e|⟨i,r,e1,e2,e3⟩)
   ·exact .inl ((h2 x).2 (.inl e))
   ·rcases hin i r e1 with⟨k,hk,rfl,rfl,e⟩|⟨q1,q2⟩
    ·rw[e]at e3;simp only[jK,aA]at e3;exact .inl ((h2 x).2 (.inr (by rw[<-e3];exact aY hk)))
    ·rw[q2]at e3;exact .inr ⟨i,r,q1,e2,e3⟩
  ·rintro(e|⟨i,r,e1,e2,e3⟩)
   ·rcases(h2 x).1 e with e|e
    ·exact .inl e
    ·obtain⟨k,hk,rfl⟩:=dH.1 e;refine .inr ⟨N+k,.df false,?_,rfl,?_⟩
     ·simp only[m2,VW];rw[aUF ⟨oM,oM⟩]
     ·simp only[ρ2,aAO];rw[aUF ⟨oM,oM⟩];have:N+k -N=k:=oM;simp[this,bF,hk,jK]
   ·obtain⟨q1,q2⟩:=a0C i r e1;exact .inr ⟨i,r,q1,e2,by rw[q2];exact e3⟩
 have aYN:dD b0.M m2 ρ2=dD b.M (aK l) ρ:=funext λx=>propext (aXP x);have eB:=dV.refl (dD b.M (aK l) ρ) w;have PE:∀x,dD b0.M m2 ρ2 x->x<w.heap.size->dD b.M (aK l) ρ x:=λx q _=>(aXP x).1 q;have hDw:∀D∈Ds,w.heap[D]?=some (.deferred (some []))/\D<w.heap.size:=λD hD=>by
  obtain⟨_,_,g3,g4,g5⟩:=h4 D hD;exact⟨(hs.keeps.block D g3 g4).trans g5,cG g3 hs.keeps.size⟩
 have hs2:bC b0.M b0.S b0.w ⟨n,some (L.map .s4)⟩ T m2 ρ2 a w:=
  {keeps:=hE.keeps.trans hs.keeps λx hx q=>(hE.own x q).resolve_left oM
   size:=hs.size
   defers:=λds e=>by
    simp only[aA]at e;subst e
    refine R5 (Ds:=Ds) (by simp[L]) (λk hk EN=>?_) (by
     have:=aEG (hs.defers _ rfl)
     rw[h1]at this;exact this)
    have e:L[k]=N+k:=by simp[L]
    rw[e];refine⟨by simp only[m2,VW];rw[aUF ⟨oM,oM⟩];simp,?_⟩;simp only[ρ2,aAO];rw[aUF ⟨oM,oM⟩];have:N+k -N=k:=oM;simp[this,bF,EN]
   tmps:=λk=>A.dC eB PE hon _ _ (hs.tmps k)
   res:=λi r hi=>by
    rcases hin i r hi with⟨k,hk,rfl,rfl,e⟩|⟨q1,q2⟩
    · rw[e]
      exact⟨Ds[k],rfl,by simpa using(hDw _ (aY hk)).1⟩
    · rw[q2]
      exact R.hU eB PE hon (λ_ _ _=>rfl) (hs.res i r q1)
   own:=λi r x hi hl hb=>by
    rcases hin i r hi with⟨k,hk,rfl,rfl,e⟩|⟨q1,q2⟩
    · rw[e]at hb
      simp only[jK,aA]at hb;subst hb;obtain⟨g1,g2,g3,g4,g5⟩:=h4 _ (aY hk);exact⟨g1,g2,(hDw _ (aY hk)).2⟩
    · rw[q2]at hb
      obtain⟨x1,x2,x3⟩:=hs.own i r x q1 hl hb;refine⟨?_,λe=>x2 ((h2 x).2 (.inl e)),x3⟩;rcases x1 with x1|x1
      · exact .inl (cL hE.keeps.size x1)
      · exact hE.own x x1
   apart:=λi j r s x hi l1 hj l2 c1 c2=>by
    have hbM:∀k(hk:k<Ds.length)i r,aK l i=some r->r.live=true->jK (ρ i)=some Ds[k]->False:=λk hk i r q1 q2 q3=>
     (hs.own i r _ q1 q2 q3).2.1 ((h2 _).2 (.inr (aY hk)))
    rcases hin i r hi with⟨k,hk,rfl,rfl,e⟩|⟨q1,q2⟩
    · rw[e]at c1
      simp only[jK,aA]at c1;rcases hin j s hj with⟨k',hk',rfl,rfl,e'⟩|⟨p1,p2⟩
      · rw[e']at c2
        simp only[jK,aA]at c2;have:k=k':=(jB h3).1 (c1.trans c2.symm);omega
      · rw[p2]at c2
        exact(hbM k hk j s p1 l2 (by rw[c1];exact c2)).elim
    · rw[q2]at c1
      rcases hin j s hj with⟨k',hk',rfl,rfl,e'⟩|⟨p1,p2⟩
      · rw[e']at c2
        simp only[jK,aA]at c2;exact(hbM k' hk' i r q1 l1 (by rw[c2];exact c1)).elim
      · rw[p2]at c2
        exact hs.apart i j r s x q1 l1 p1 l2 c1 c2}
 have hL2:∀i∈L,m2 i=some (.df false):=λi hi=>by
  simp only[m2,VW];rw[aUF ((hLm i).1 hi)]
 have hmf:∀i r,aK l i=some r->LZ L m2 i=some r:=λi r hi=>by
  rw[OW (λe=>by have:=((hLm i).1 e).1;rw[hN i this]at hi;cases hi)];exact(a0C i r hi).1
 have hlv:=KA (P:=P) (fn:=fn) (T:=T) (v:=v) L m2 hLn hL2 (aBF hmf hv);refine hlv n b0.M b0.S b0.w ρ2 a w .returning hs2 cX rfl Re ?_;intro e w' ρ' s o q;have hvh:∀i∈v.hs,aK l i≠none:=by
  obtain⟨y,_,hy⟩:=HQ (P:=P) hs hv;exact A.wC _ _ hy
 have hd2:=s.drop (m1:=aK l) hmf (λk i hi=>A.wC _ _ (hs.tmps k) i hi) (λds e d hd i hi=>by simp only[aA]at e;subst e;simp at hd) (λi r hi=>R.wC (hs.res i r hi));refine hR e w' ρ' hd2 (λi hi=>?_) ?_
 ·cases hq:aK l i with
  |none=>exact absurd hq hi
  |some r=>
   refine⟨sM,λhd=>⟨hd,?_,λfz t es l' e=>⟨fz,t,l',e,rfl⟩⟩⟩;obtain⟨g1,g2⟩:=a0C i r hq;have:=((o i (by rw[g1];simp)).2 (by rw[hmf i r hq];exact hd)).2.1;rw[this,g2]
 ·obtain⟨y,rfl,hy⟩:=q;refine⟨y,rfl,?_⟩;have Q2:∀x,dD b0.M (aK l) ρ' x->x<w'.heap.size->dD b0.M (LZ L m2) ρ' x:=by
   rintro x (e|⟨i,r,g1,g2,g3⟩) _
   ·exact .inl e
   ·exact .inr ⟨i,r,hmf i r g1,g2,g3⟩
  exact A.dC (dV.refl _ w') Q2 (gL.refl _ ρ') _ _ (A.kU hmf _ _ hvh hy)
theorem qG{r:Rt}{Post:Ex->(Nat->A)->Mem->Prop}(hf:P.funcs[f]?=some fn)(hb:fn.body=some c)(n0:kW P f=true)(hn:as.length<=fn.ntmps)
 (aYU:kD P mb fn.ntmps c (uA as) (aK mb) Post)(aYH:∀ex T' m',Post ex T' m'->SI ex=some .ret/\(∃l,m'=aK l)/\∃v,GO P m' T' fn.results.toList=some v/\aGH (aK mb) m' (.ok v) m2 r):aJ P f as (aK mb) r m2:=by
 refine⟨n0,?_⟩;intro N T M0 S0 w0 ρ a w h cX vs hd;have hlen:=(A.c9.1 hd).1;refine DE hf hb ?_;have aVU:∀b,M0 b->b<w.heap.size:=λb hb=>cG (cX b hb) h.keeps.size;let b0:Bs:=⟨M0,oO (aK mb) ρ,w,[]⟩;have h0:I1 b0 fn.ntmps (uA as) (aK mb) ρ {tmps:=vs.toArray++Array.replicate (fn.ntmps -vs.toArray.size) undef,defers:=[]} w:=
  {keeps:=iF.refl _ _,size:=by simp;omega
   defers:=λds e=>by simp[Bs.das,b0]at e;subst e;rfl
   tmps:=λn=>by
    unfold uA;rcases eQ n as.length with q|q
    · rw[aC q]
      have hv:n<vs.length:=oM;have e1:(vs.toArray++Array.replicate (fn.ntmps -vs.toArray.size) undef).getD n undef=vs[n]:=by
       rw[cZ,fY (by simpa using hv)];simp[hv]
      rw[e1];exact(A.c9.1 hd).2 n _ _ (aC q) (aC hv)
    · rw[c8 q]
      simp[A.Den]
   res:=h.res,own:=h.now.own,apart:=h.apart}
 refine aYU none (.inl rfl) b0 ρ ρ _ w h0 (gL.refl _ ρ) aVU _ ?_;intro ex e T' m' b' ρ' a' w' hp hE _ aZP h1 hO hex;obtain⟨T9,⟨l,rfl⟩,v,hv,a1I⟩:=aYH ex T' m' hp;have key:∀(e:Ending)(w2:World)(ρ2:Nat->Value),bC M0 (oO (aK mb) ρ) w ⟨fn.ntmps,some []⟩ T' (aK l) ρ2 {a' with defers:=[]} w2->gL (aK l) (aK l) ρ' ρ2->(Rt.ok v).Den w2 (dD M0 (aK l) ρ2) (aK l) ρ2 e->
  ∃ρ',bC M0 S0 w0 N T m2 ρ' a w2/\gL (aK mb) m2 ρ ρ'/\r.Den w2 (dD M0 m2 ρ') m2 ρ' e:=by
  intro e w2 ρ2 s o q;exact a1I N _ T _ M0 S0 w0 ρ ρ2 a _ w w2 e h s (hO.trans o) q
 have fin:=aJ8 (P:=P) (fn:=fn) (v:=v) hE rfl aVU aZP h1 hv key;cases ex with
 |nm=>simp only[Ex.Den]at hex;subst hex;exact fin
 |ret=>simp only[Ex.Den]at hex;subst hex;exact fin
 |sE v=>cases T9
 |ext id=>cases T9
mutual
inductive Rd(m:Mem):A->C->Prop
 |d (c:C):Rd m (.d c) c
 |nl (es:Nat):Rd m (.d (.nl es)) (.sl es [])
 |nz (es es':Nat):Rd m (.d (.nl es)) (.sl es' [])
 |os {i:Nat} {fz:Bool} {t:TypeId} {es:Nat} {rows:List (List A)} {l:List (List C)}:m i=some (.fW fz t es rows)->D6 m rows l->Rd m (.h i) (.sl es l)
 |lp {i:Nat} {fz:Bool} {l:List A} {cs:List C}:m i=some (.cells fz l)->wJ m l cs->Rd m (.lp i 0) (.ip cs)
 |mp {i:Nat} {fz:Bool} {kv:List (Ky×A)} {st:List (Ky×Nat)} {vs:List C}:m i=some (.mp fz kv st)->wJ m (kv.map (·.2)) vs->Rd m (.h i) (.im (kv.map (·.1)) vs)
 |agg {l:List A} {cs:List C}:wJ m l cs->Rd m (.agg l) (.agg cs)
 |AE {t:TypeId} {a:A} {c:C}:Rd m a c->Rd m (.AE t a) (.AE t c)
 |fn {f:Fn} {u v:List A} {cu cv:List C}:wJ m u cu->wJ m v cv->Rd m (.fn f u v) (.fn f cu cv)
inductive wJ(m:Mem):List A->List C->Prop
 |nil:wJ m [] []
 |cons {a:A} {c:C} {l:List A} {r:List C}:Rd m a c->wJ m l r->wJ m (a::l) (c::r)
inductive D6(m:Mem):List (List A)->List (List C)->Prop
 |nil:D6 m [] []
 |cons {a:List A} {c:List C} {l:List (List A)} {r:List (List C)}:wJ m a c->D6 m l r->D6 m (a::l) (c::r)
end
theorem wJ.data(m:Mem):∀l:List C,wJ m (l.map A.d) l
 |[]=>.nil
 |c::r=>.cons (.d c) (wJ.data m r)
theorem D6.data(m:Mem):∀l:List (List C),D6 m (l.map λx=>x.map A.d) l
 |[]=>.nil
 |x::r=>.cons (wJ.data m x) (D6.data m r)
theorem wJ.length{m:Mem}:∀{l:List A}{cs:List C},wJ m l cs->l.length=cs.length
 |_,_,.nil=>rfl
 |_,_,.cons _ h=>by simp[h.length]
theorem D6.length{m:Mem}:∀{l:List (List A)}{cs:List (List C)},D6 m l cs->l.length=cs.length
 |_,_,.nil=>rfl
 |_,_,.cons _ h=>by simp[h.length]
theorem D6.lens{m:Mem}{es:Nat}:∀{l:List (List A)}{cs:List (List C)},D6 m l cs->(∀e∈l,e.length=es)->∀e∈cs,e.length=es
 |_,_,.nil,_=>sM
 |_,_,.cons a b,h=>by
  intro e he;simp only[aO]at he;rcases he with rfl|he
  ·rw[<-a.length];exact h _ sM
  ·exact b.lens (λe he=>h e (by simp[he])) e he
section
variable{M0 S0:Nat->Prop}{w0:World}{N:Fr}{T:Nat->A}{m:Mem}{ρ:Nat->Value}{a:Act}{w:World}
theorem WK(s:bC M0 S0 w0 N T m ρ a w){i b:Nat}{r:R}(hi:m i=some r)(hb:jK (ρ i)=some b)(hr:r.live=false->¬dD M0 m ρ b):¬M0 b:=by
 cases hl:r.live with
 |true=>exact(s.own i r b hi hl hb).2.1
 |false=>exact λe=>hr hl (.inl e)
theorem xU{w:World}{M:Nat->Prop}:∀{l r:List C}{ys zs:List Value},C.bR w M l ys->C.bR w M r zs->C.bR w M (l++r) (ys++zs)
 |[],r,ys,zs,h1,h2=>by simp only[C.bR]at h1;subst h1;simpa using h2
 |c::l,r,ys,zs,h1,h2=>by
  simp only[C.bR]at h1;obtain⟨y,yr,rfl,k1,k2⟩:=h1;simp only[bW,C.bR];exact⟨y,yr++zs,rfl,k1,xU k2 h2⟩
mutual
theorem WJ(s:bC M0 S0 w0 N T m ρ a w):∀{v:A}{c:C}{y:Value},Rd m v c->v.Den w (dD M0 m ρ) m ρ y->C.Den w M0 c y
 |_,_,y,.d c,hy=>by
  simp only[A.Den]at hy;exact C.dC (dV.refl _ w) (λb hb _=>.inl hb) _ _ hy
 |_,_,y,.nl es,hy=>by
  simp only[A.Den,C.Den]at hy⊢;exact⟨none,0,by rw[hy];rfl,bT _,.inl tV⟩
 |_,_,y,.nz es es',hy=>by
  simp only[A.Den,C.Den]at hy⊢;exact⟨none,0,by rw[hy];rfl,bT _,.inl tV⟩
 |_,_,y,.os (i:=i) (fz:=fz) (es:=es) (rows:=rows) (l:=l) hi hl,hy=>by
  simp only[A.Den]at hy;have hv:=eH hy hi sM;obtain⟨xs,g1,g2,g3,g4,g5⟩:=s.res i _ hi;rw[hv];have hlen:=hl.length;simp only[C.Den];rcases g1 with⟨rfl,hn,ad,e⟩|⟨LR,g,og,cap,cur,e,hp,hg,hnc,hcm,aXM,htk⟩
  ·have:l=[]:=bL oM;subst this;exact⟨some ad,0,by rw[e];rfl,bT _,.inl rfl⟩
  ·refine⟨some ⟨g,og,none⟩,cap,by rw[e,hlen],oM,.inr ⟨g,og,rfl,?_,(aL.1 hg).1,?_⟩⟩
   ·refine WK s hi (b:=g) (by rw[e];simp[jK];omega) (λhlv=>g4 (by simpa [R.live]using hlv) g (by rw[e];simp[jK];omega))
   ·refine I7 l og xs (hl.lens g3) (TZ s hl g2) g5 (λj v hj=>?_);exact vV.cells (.inr ⟨LR,g,og,cap,cur,e,hp,hg,hnc,hcm,aXM,htk⟩) e j v hj
 |_,_,y,.lp (i:=i) (fz:=fz) (l:=l) (cs:=cs) hi hl,hy=>by
  simp only[A.Den]at hy;obtain⟨b,e1,e2⟩:=eH hy hi sM;obtain⟨b',vs,t,g1,g2,g3,g4,g5⟩:=s.res i _ hi;rw[e1]at g1;simp only[oN,aA,rX,and_true]at g1;subst g1;simp only[C.Den];refine⟨b,0,e2,?_,(aL.1 g2).1,?_⟩
  ·exact WK s hi (b:=b) (by rw[e1];rfl) (λhlv=>g4 (by simpa [R.live]using hlv))
  ·have hd:=C.c9.1 (tC s hl g3);rw[C.rA];intro j c hc;have hj:j<vs.toList.length:=by rw[<-hd.1];exact(bA.1 hc).1
   refine⟨vs.toList[j],?_,g5 _ (aY hj),hd.2 j c _ hc (aC hj)⟩;rw[fF,oR g2];simp at hj;simp[hj]
 |_,_,y,.mp (i:=i) (fz:=fz) (kv:=kv) (vs:=vs) hi hl,hy=>by
  simp only[A.Den]at hy;have hv:=eH hy hi sM;obtain⟨b,es,clock,l,g1,g2,g3,g4,g5,g6⟩:=s.res i _ hi;simp only[C.Den];refine⟨b,es,clock,l,by rw[hv,g1],?_,g2,g3,tC s hl g4⟩;exact WK s hi (b:=b) (by rw[g1];rfl) (λhlv=>g5 (by simpa [R.live]using hlv))
 |_,_,y,.agg hl,hy=>by
  simp only[A.Den,C.Den]at hy⊢;obtain⟨vs,e,h1,h2⟩:=hy;exact⟨vs,e,h1,tC s hl h2⟩
 |_,_,y,.AE h,hy=>by
  simp only[A.Den,C.Den]at hy⊢;obtain⟨v,e,h1⟩:=hy;exact⟨v,e,WJ s h h1⟩
 |_,_,y,.fn hu hv,hy=>by
  simp only[A.Den,C.Den]at hy⊢;obtain⟨us,vs,e,h1,h2⟩:=hy;exact⟨us,vs,e,tC s hu h1,tC s hv h2⟩
theorem tC(s:bC M0 S0 w0 N T m ρ a w):∀{l:List A}{cs:List C}{ys:List Value},wJ m l cs->A.bR w (dD M0 m ρ) m ρ l ys->C.bR w M0 cs ys
 |_,_,ys,.nil,hy=>by simpa only[A.bR,C.bR]using hy
 |_,_,ys,.cons h1 h2,hy=>by
  simp only[A.bR,C.bR]at hy⊢;obtain⟨y,yr,e,k1,k2⟩:=hy;exact⟨y,yr,e,WJ s h1 k1,tC s h2 k2⟩
theorem TZ(s:bC M0 S0 w0 N T m ρ a w):∀{l:List (List A)}{cs:List (List C)}{ys:List Value},D6 m l cs->A.bR w (dD M0 m ρ) m ρ l.flatten ys->C.bR w M0 cs.flatten ys
 |_,_,ys,.nil,hy=>by simpa only[A.bR,C.bR,List.flatten_nil]using hy
 |_,_,ys,.cons (a:=e) (c:=c) (l:=l) h1 h2,hy=>by
  rw[dL]at hy⊢;have t1:=A.mT e.length hy;have t2:=A.lL e.length hy;rw[List.take_left]at t1;rw[List.drop_left]at t2;have:=xU (tC s h1 t1) (TZ s h2 t2)
  rwa [gJ]at this
end
end
inductive A1(m:Mem):A->A->Prop
 |one {a:A} {c:C}:Rd m a c->A1 m a (.d c)
 |eL {l:List A} {cs:List C}:wJ m l cs->A1 m (.eL l) (.eL (cs.map A.d))
theorem FN{w:World}{M:Nat->Prop}{m:Mem}{ρ:Nat->Value}:∀{cs:List C}{ys:List Value},C.bR w M cs ys->A.bR w M m ρ (cs.map A.d) ys
 |[],ys,h=>by simpa only[C.bR,A.bR,bM]using h
 |c::r,ys,h=>by
  simp only[C.bR,A.bR,aG]at h⊢;obtain⟨y,yr,e,h1,h2⟩:=h;exact⟨y,yr,e,by simpa only[A.Den]using h1,FN h2⟩
theorem aAQ{mf:Mem}{r:A}(h:A1 mf v r):aGH (aK []) mf (.ok v) (aK []) (.ok r):=by
 intro N N1 T T1 M0 S0 w0 ρ ρ2 a a1 w w2 e hs s hO aWJ;obtain⟨y,rfl,hy⟩:=aWJ;have hb:=hs.back s hO;obtain⟨k1,k2,_⟩:=hs.cut (u:=[]) (v:=.x) (y:=y) hb hO (λi r h=>by simp[aH,aK]at h) (by simp[A.hs]) sM (by simp only[A.Den]);refine⟨ρ2,k1,k2,y,rfl,?_⟩;have hM:dD M0 (aK []) ρ2=M0:=by
  funext b;refine propext ⟨?_,.inl⟩;rintro(e|⟨i,r,hi,_⟩)
  ·exact e
  ·simp[aK]at hi
 rw[hM];cases h with
 |one h=>simpa only[A.Den]using WJ s h hy
 |eL h=>
  simp only[A.Den]at hy⊢;obtain⟨vs,e1,h2⟩:=hy;exact⟨vs,e1,FN (tC s h h2)⟩
theorem CV(hm:P.follows .mixedOrders=true){f:FuncId}{fn:Func}{c:Code}{as:List A}{r:A}(hf:P.funcs[f]?=some fn)(hb:fn.body=some c)(n0:kW P f=true)(hn:as.length<=fn.ntmps)(has:A.lQ as=[])
 (h:vc P [] fn.ntmps c (C9 0 as) [] 1 (JS P fn λv ml=>A1 (aK ml) v r))(m:Mem):aJ P f as m (.ok r) m:=by
 have h1:=uX hm c _ _ _ _ h;rw[IC]at h1;have h2:aJ P f as (aK []) (.ok r) (aH (aK []) []):=by
  refine qG (mb:=[]) hf hb n0 hn h1 ?_;rintro ex T' m' ⟨l,ml,nx,rfl,rfl,h⟩;obtain⟨e1,v,e2,h3⟩:=IF h;exact⟨e1,⟨ml,rfl⟩,v,e2,aAQ h3⟩
 exact aJ.frame (m:=m) (ups:=[]) h2 (by simp[has]) (by simp[aK]) (by simp[aK]) sM
theorem iW(hm:P.follows .mixedOrders=true){f:FuncId}{fn:Func}{c:Code}{as:List A}{F:Nat->A}{r:R}(hf:P.funcs[f]?=some fn)(hb:fn.body=some c)(n0:kW P f=true)(hn:as.length<=fn.ntmps)(has:A.lQ as=[])(hr:r.hs=[])
 (hF:∀g i,(F i).eZ g=F (g i))(hFh:∀i,∀j∈(F i).hs,j=i)(hri:∀g,r.eZ g=r)
 (h:vc P [] fn.ntmps c (C9 0 as) [] 1 (JS P fn λv ml=>∃i,v=F i/\aK ml i=some r))(m:Mem)(d:Nat)(hd:m d=none):aJ P f as m (.ok (F d)) (aX m d r):=by
 have h1:=uX hm c _ _ _ _ h;rw[IC]at h1;have h2:aJ P f as (aK []) (.ok (F d)) (aH (aK []) [(d,r)]):=by
  refine qG (mb:=[]) hf hb n0 hn h1 ?_;rintro ex T' m' ⟨l,ml,nx,rfl,rfl,h⟩;obtain⟨e1,v,e2,i,rfl,e3⟩:=IF h;refine⟨e1,⟨ml,rfl⟩,_,e2,?_⟩;intro N N1 T T1 M0 S0 w0 ρ ρ2 a a1 w w2 e hs s hO aWJ;obtain⟨s',a1D⟩:=s.eZ (fH i d) (fH i d);have hO':gL (aK []) (nK (swp i d) (swp i d) (aK ml)) ρ (λk=>ρ2 (swp i d k)):=λk hk=>absurd rfl hk;have hb:=hs.back s' hO';have ei:swp i d d=i:=by simp only[BJ];by_cases e:d=i<;>simp[e]
  have ed:swp i d i=d:=by simp[BJ]
  obtain⟨y,rfl,hy⟩:=aWJ;have hv:=a1D _ _ hy;rw[hF,ed]at hv
  obtain⟨k1,k2,k3⟩:=hs.cut (u:=[(d,r)]) hb hO' (λk q hk=>by
   simp only[aH,aX,aK]at hk;split at hk
   · rename_i e;subst e
     simp only[aA]at hk;subst hk;unfold nK;rw[ei,e3];simp only[dF,hri]
   · cases hk) (λk hk=>by have:=hFh d k hk;subst this;simp[aH,aX]) (by simp[hr]) hv
  exact⟨_,k1,k2,y,rfl,k3⟩
 exact aJ.frame (m:=m) (ups:=[(d,r)]) h2 (by simp[has]) (by simp[aK]) (by simp[aK]) (by simp[hd])
def bE(l:List (List C)):List (List A):=l.map λr=>r.map A.d
def dU(t:TypeId)(es:Nat)(l:List (List C)):R:=.fW false t es (bE l)
theorem OL(g:Nat->Nat):∀l:List C,A.iV g (l.map A.d)=l.map A.d
 |[]=>rfl
 |c::r=>by simp only[aG,A.iV,A.eZ,OL g r]
theorem wX:∀l:List C,A.lQ (l.map A.d)=[]
 |[]=>rfl
 |c::r=>by simp only[aG,A.lQ,A.hs,wX r,dS]
theorem GQ(g:Nat->Nat):∀l:List (List C),(bE l).map (A.iV g)=bE l
 |[]=>rfl
 |c::r=>by
  have:=GQ g r;simp only[bE]at this⊢;simp only[aG,OL,this]
theorem yT:∀l:List (List C),(bE l).flatten=l.flatten.map A.d
 |[]=>rfl
 |c::r=>by
  have:=yT r;simp only[bE]at this⊢;simp only[aG,dL,this,bP]
theorem eT(g:Nat->Nat)(t:TypeId)(es:Nat)(l:List (List C)):(dU t es l).eZ g=dU t es l:=by simp only[dU,R.eZ,GQ]
theorem oJ(t:TypeId)(es:Nat)(l:List (List C)):(dU t es l).hs=[]:=by simp only[dU,R.hs,yT,wX]
theorem Y1(t:TypeId)(es:Nat)(l r:List (List C)):R.fW false t es (bE l++bE r)=dU t es (l++r):=by simp only[dU,bE,bP]
def lv(es id:Nat)(rows:List (List C)):A:=match rows with
 |[]=>.d (.nl es)
 |_::_=>.h id
def lm(id:Nat)(t:TypeId)(es:Nat)(rows:List (List C))(ml:List (Nat×R)):List (Nat×R):=match rows with
 |[]=>ml
 |r::q=>(id,Go.Pv.dU t es (r::q))::ml
theorem cN.aVK(d id:Nat){mb:List (Nat×R)}{n:Nat}{l l':List (Nat×A)}{ml base:List (Nat×R)}{t:TypeId}{es:Nat}{rows:List (List C)}(hr:rows≠[])(hbk:M3 d id (lm id t es rows base) mb)(hl:KP (swp d id) l l')(hd:aK ml d=some (Go.Pv.dU t es rows))(hb:I8 (swp d id) ml base)
 (h1:GF (lm id t es rows base) l')(h2:H9 (lm id t es rows base) base):cN mb n l ml l' (lm id t es rows base):=by
 cases rows with
 |nil=>exact absurd rfl hr
 |cons r q=>
  refine cN.swap d id hbk hl ⟨?_,hb⟩ h1 ⟨by rw[oJ];trivial,h2⟩;have e:swp d id id=d:=by simp only[BJ];by_cases e:id=d<;>simp[e]
  rw[e,hd,dF,eT]
theorem Rd.lv{id:Nat}{t:TypeId}{es:Nat}{rows:List (List C)}{ml:List (Nat×R)}:Rd (aK (lm id t es rows ml)) (lv es id rows) (.sl es rows):=by
 cases rows with
 |nil=>exact .nl es
 |cons r q=>exact .os (fz:=false) (t:=t) (rows:=bE (r::q)) (by simp[lm,aK,Go.Pv.dU]) (D6.data _ _)
theorem Rd.dU{m:Mem}{i:Nat}{t:TypeId}{es:Nat}{l:List (List C)}(h:m i=some (dU t es l)):Rd m (.h i) (.sl es l):=.os h (D6.data m l)
structure U8(mb:List (Nat×R))(r:A)(u:List (Nat×R))(v:A)(ml:List (Nat×R)):Prop where
 val:v=r
 mem:∀i q,aH (aK mb) u i=some q->aK ml i=some q
theorem aCP{x r':R}{r:A}(h1:v=r)(h2:aK ml 0=some r'):U8 [(0,x)] r [(0,r')] v ml:=by
 refine⟨h1,λi q hq=>?_⟩;simp only[aH,aX,aK]at hq;by_cases e:i=0
 ·subst e;simp at hq;rw[h2,hq]
 ·have hb:Nat.beq 0 i=false:=by
   cases hb:Nat.beq 0 i with
   |false=>rfl
   |true=>exact absurd (bB hb).symm e
  simp[e,hb]at hq
theorem aDP{u:List (Nat×R)}{r:A}(h:U8 mb r u v ml)(hv:∀i∈r.hs,aH (aK mb) u i≠none)(hc:∀p∈u,∀j∈p.2.hs,aH (aK mb) u j≠none):aGH (aK mb) (aK ml) (.ok v) (aH (aK mb) u) (.ok r):=by
 intro N N1 T T1 M0 S0 w0 ρ ρ2 a a1 w w2 e hs s hO aWJ;obtain⟨y,rfl,hy⟩:=aWJ;obtain⟨rfl,aVM⟩:=h;have hb:=hs.back s hO;obtain⟨k1,k2,k3⟩:=hs.cut hb hO aVM hv hc hy;exact⟨ρ2,k1,k2,y,rfl,k3⟩
theorem OC(hm:P.follows .mixedOrders=true){f:FuncId}{fn:Func}{c:Code}{as:List A}{r:A}{mb u:List (Nat×R)}(nx:Nat)(hf:P.funcs[f]?=some fn)(hb:fn.body=some c)(n0:kW P f=true)(hn:as.length<=fn.ntmps)
 (hv:∀i∈r.hs,aH (aK mb) u i≠none)(hc:∀p∈u,∀j∈p.2.hs,aH (aK mb) u j≠none)
 (h:vc P mb fn.ntmps c (C9 0 as) mb nx (JS P fn (U8 mb r u))):aJ P f as (aK mb) (.ok r) (aH (aK mb) u):=by
 have h1:=uX hm c _ _ _ _ h;rw[IC]at h1;refine qG hf hb n0 hn h1 ?_;rintro ex T' m' ⟨l,ml,nx,rfl,rfl,h⟩;obtain⟨e1,v,e2,h3⟩:=IF h;exact⟨e1,⟨ml,rfl⟩,v,e2,aDP h3 hv hc⟩
theorem aJ.AK{r r':R}(h:aJ P f as (aK [(0,r)]) (.ok v) (aH (aK [(0,r)]) [(0,r')]))(hr:r.hs=[])(wV:∀g,r.eZ g=r)(a2K:∀g,r'.eZ g=r')(hv:v.hs=[])(has:∀j∈A.lQ as,j=0)
 (m:Mem)(i:Nat)(hi:m i=some r):aJ P f (A.iV (swp 0 i) as) m (.ok v) (aX m i r'):=by
 have h1:=h.eZ (fH 0 i) (fH 0 i);have e0:swp 0 i 0=i:=by simp[BJ]
 have ei:swp 0 i i=0:=by simp only[BJ];by_cases e:i=0<;>simp[e]
 have key:∀q:R,(∀g,q.eZ g=q)->nK (swp 0 i) (swp 0 i) (aX (λ_=>none) 0 q)=aX (λ_=>none) i q:=by
  intro q hq;funext k;unfold nK aX;by_cases e:k=i
  ·subst e;simp[ei,hq]
  ·have:swp 0 i k≠0:=by
    intro e2;have:=congrArg (swp 0 i) e2;rw[fH,e0]at this;exact e this
   simp[e,this]
 have m1:aK [(0,r)]=aX (λ_=>none) 0 r:=by rw[lR];rfl
 have m2:aH (aK [(0,r)]) [(0,r')]=aX (λ_=>none) 0 r':=by
  simp only[aH,m1];funext k;simp only[aX];split<;>rfl
 rw[m2,m1,key r wV,key r' a2K]at h1;have h2:aJ P f (A.iV (swp 0 i) as) (aX (λ_=>none) i r) (.ok v) (aH (aX (λ_=>none) i r) [(i,r')]):=by
  have e1:(Rt.ok v).eZ (swp 0 i)=.ok v:=by
   rw[Rt.lU (g:=λi=>i) _ (by simp[Rt.hs,hv]),Rt.uS]
  rw[e1]at h1;have e2:aH (aX (λ_=>none) i r) [(i,r')]=aX (λ_=>none) i r':=by
   simp only[aH];funext k;simp only[aX];split<;>rfl
  rw[e2];exact h1
 refine aJ.frame (m:=m) h2 ?_ ?_ ?_ ?_
 ·intro j hj;rw[A.qL]at hj;obtain⟨j0,hj0,rfl⟩:=aA4.1 hj;have:=has j0 hj0;subst this;rw[e0];simp[aX]
 ·intro j q hq;simp only[aX]at hq;split at hq
  ·rename_i e;subst e;rw[<-hq];exact hi
  ·cases hq
 ·intro j q hq k hk;simp only[aX]at hq;split at hq
  ·simp only[aA]at hq;subst hq;rw[hr]at hk;simp at hk
  ·cases hq
 ·intro p hp e;simp only[aR]at hp;subst hp;simp[aX]at e
theorem lN(i:Nat)(r':R)(h:aJ P f as (aK ml) (.ok v) (aX (aK ml) i r'))(hk:k v [(i,r')]):dZ P f as ml k:=⟨v,[(i,r')],h,hk⟩
theorem aJ.args{xs xs':List A}{m':Mem}{r:Rt}(h:aJ P f xs m r m')(hd:∀(w:World)(M:Nat->Prop)(ρ:Nat->Value)(vs:List Value),A.bR w M m ρ xs' vs->A.bR w M m ρ xs vs):aJ P f xs' m r m':=
 ⟨h.1,λN T M0 S0 w0 ρ a w hs cX vs P2=>h.2 N T M0 S0 w0 ρ a w hs cX vs (hd w _ ρ vs P2)⟩
theorem aCM{w:World}{M:Nat->Prop}{m:Mem}{ρ:Nat->Value}:∀{cs:List C}{ys:List Value},A.bR w M m ρ (cs.map A.d) ys->C.bR w M cs ys
 |[],ys,h=>by simpa only[C.bR,A.bR,bM]using h
 |c::r,ys,h=>by
  simp only[C.bR,A.bR,aG]at h⊢;obtain⟨y,yr,e,h1,h2⟩:=h;exact⟨y,yr,e,by simpa only[A.Den]using h1,aCM h2⟩
theorem I3{cs:List C}{y:Value}(h:(A.agg (cs.map A.d)).Den w M m ρ y):(A.d (.agg cs)).Den w M m ρ y:=by
 simp only[A.Den,C.Den]at h⊢;obtain⟨vs,e,h1,h2⟩:=h;exact⟨vs,e,h1,aCM h2⟩
theorem aCL{a b b':A}(hb:∀y,b'.Den w M m ρ y->b.Den w M m ρ y){vs:List Value}(h:A.bR w M m ρ [a,b'] vs):A.bR w M m ρ [a,b] vs:=by
 simp only[A.bR]at h⊢;obtain⟨y,yr,e,h1,z,zr,e2,h2,h3⟩:=h;exact⟨y,yr,e,h1,z,zr,e2,hb z h2,h3⟩
theorem aCK{b b':A}(hb:∀y,b'.Den w M m ρ y->b.Den w M m ρ y){vs:List Value}(h:A.bR w M m ρ [b'] vs):A.bR w M m ρ [b] vs:=by
 simp only[A.bR]at h⊢;obtain⟨z,zr,e2,h2,h3⟩:=h;exact⟨z,zr,e2,hb z h2,h3⟩
theorem fT{cs:List C}(h:∀m,aJ P f [.d (.agg cs)] m (.ok v) m)(hk:k v []):dZ P f [.agg (cs.map A.d)] ml k:=
 aF (λm=>(h m).args λw M ρ vs h=>aCK (λy h=>I3 h) h) hk
end Go.Pv
