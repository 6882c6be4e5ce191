import Derived.Test.YtpdcbahjjmooiaaGreatH5
/- A program logic over the model, contracts of the functions that the law reaches: part 6. (Names and blanks were shortened by program.) -/
set_option linter.unusedVariables false
set_option linter.unusedSimpArgs false
set_option linter.constructorNameAsVariable false
set_option linter.unusedSectionVars false
set_option linter.deprecated false
set_option maxRecDepth 100000
set_option maxHeartbeats 8000000
open Go
namespace Go.Pv
open Go.RowKit
variable{M:Nat->Prop}{P:Program}{m:Mem}{T:Nat->A}{o:Oper}{n id:Nat}{w:World}{ρ:Nat->Value}{c:Code}{a:Act}{f g:Nat->Nat}
def JK(m:Mem)(x:A):Option E:=
 match x with
 |.h d=>match m d with
  |some (.it i sc start (s::_))=>match m i with
   |some (.mp _ kv st)=>match st.find? λp=>p.2==s&&p.1 !=.agg []with
    |some (k,_)=>match fL k kv with
     |some a=>some (uW m (sc::start)&&decide ((Ky.agg [],sc)∈st),.eL [ZA k,a],[])
     |none=>none
    |none=>none
   |_=>none
  |_=>none
 |_=>none
theorem vJ{α:Type}{p:α->Bool}:∀{l:List α}{x:α},x∈l->p x=true->(∀y∈l,p y=true->y=x)->l.find? p=some x
 |[],x,h,_,_=>by simp at h
 |y::l,x,h,hp,hu=>by
  simp only[eN];cases hy:p y with
  |true=>rw[hu y sM hy]
  |false=>
   simp only;simp only[aO]at h;rcases h with rfl|h
   ·rw[hp]at hy;cases hy
   ·exact vJ h hp λz hz=>hu z (by simp[hz])
section
variable{M0 S0:Nat->Prop}{w0:World}{N:Fr}{T:Nat->A}{m:Mem}{ρ:Nat->Value}{a:Act}{w:World}{P:Program}
theorem aE8(h:bC M0 S0 w0 N T m ρ a w){x v:A}{y:Value}{pre:Bool}{ups:List (Nat×R)}(hx:x.Den w (dD M0 m ρ) m ρ y)(he:JK m x=some (pre,v,ups))(hp:pre=true):
 ups=[]/\∃z,(Instr.entry y).run P w=.ok z w/\v.Den w (dD M0 m ρ) m ρ z:=by
 unfold JK at he;split at he
 ·rename_i d;simp only[A.Den]at hx;split at he
  ·rename_i i sc start s seen hd;have hy:=eH hx hd sM;split at he
   ·rename_i fz kv st hi;split at he
    ·rename_i k s' hfi;split at he
     ·rename_i a0 hg;simp only[aA,aD]at he;obtain⟨rfl,rfl,rfl⟩:=he;obtain⟨b,mb,si,sa,e1,e2,e3,e5,e6⟩:=h.res d _ hd;obtain⟨b',es,cl,z,g1,g2,g3,g4⟩:=HO h hi;have e3':=eH e3 hi sM;rw[g1]at e3';simp at e3';subst e3';rw[e1]at hy;subst hy;rw[aE]at hp;have aYJ:=yU hp.1;have hsc:=aUL hp.2;have a06:dX ρ sc=si:=eH e5 (aYJ sc sM) sM;have aZ1:si=cl:=by
       have:=(eH (g4 _ hsc) (aYJ sc sM) sM).2.2 rfl;rw[a06]at this;exact this
      obtain⟨y4,a01,aWV,aVM,a0E⟩:=e6.2.2 (λj hj e=>by rw[aYJ j (by simp[hj])]at e;cases e);have aWE:=cT hfi;have hs':s'=s:=by have:=iD hfi;simp at this;exact this.1
      subst hs';rcases g3.find k with⟨_,q2⟩|⟨j,p,q1,q2,q3,q4⟩
      ·rw[q2]at hg;cases hg
      rw[q4]at hg;simp only[aA]at hg;subst hg;have hpz:=c6 q2;have hpe:p.2∈es.toList:=by rw[g3.toList];exact aA4.2 ⟨p,hpz,rfl⟩
      have hpk:p.2.key=k.val:=by rw[<-q3];exact g3.key p hpz
      have hbn:=(eH (g4 _ aWE) (aYJ s' (by simp[aVM s' sM])) sM).1 p.2 hpe hpk;have aWM:es.find? (λe=>e.born==dX ρ s')=some p.2:=by
       have:es.find? (λe=>e.born==dX ρ s')=es.toList.find? (λe=>e.born==dX ρ s'):=by
        conv=>lhs;rw[<-Array.toArray_toList (xs:=es)]
        exact List.find?_toArray _ _
       rw[this];refine vJ hpe (by simp[hbn]) λe he hb=>?_;rw[g3.toList]at he;obtain⟨q,hq,rfl⟩:=aA4.1 he;obtain⟨jq,hjq⟩:=dY.1 hq;have:=rH g3.born hjq q2 (by rw[hbn];simpa using hb);subst this;rw[q2]at hjq;cases hjq;rfl
      refine⟨rfl,.tuple #[p.2.key,p.2.val],?_,?_⟩
      ·simp only[Instr.entry,aV];rw[show(getObj b).run P w=.ok (.mapIter (some b') si sa si) w by simp[getObj,Sem.run,e2]];simp only[aN,a0E,List.head?_cons,dF,aV];rw[jS g2];simp only[aN,aZ1,bne_self_eq_false,bY,if_false,aV,cB,aWM]
      ·simp only[A.Den,A.bR];exact⟨_,rfl,_,_,rfl,by rw[hpk];exact IJ _ _,_,_,rfl,g3.den p hpz,rfl⟩
     ·cases he
    ·cases he
   ·cases he
  ·cases he
 ·cases he
def PU(P:Program)(t:TypeId)(x y:A):Option (Bool×Bool):=
 match keyOf x,keyOf y with
 |some (.agg a),some (.agg b)=>some ((Ky.agg a).fits P t&&(Ky.agg a).same (.agg b)&& !P.eqGuardType P.depth t,decide (a=b))
 |_,_=>none
theorem aE9{op:BinOp}{t:TypeId}{x y:A}{u v:Value}{ox oy:Operand}{pre b:Bool}(hx:x.Den w M m ρ u)(hy:y.Den w M m ρ v)(he:PU P t x y=some (pre,b))(hp:pre=true)(I5:op=.eql\/op=.neq):
 (do eqGuard op t ox oy u v;binOp op t u v).run P w=.ok (.bool (if op=.eql then b else !b)) w:=by
 unfold PU at he;split at he
 ·rename_i k l h1 h2;simp only[aA,aD]at he;obtain⟨rfl,rfl⟩:=he;have e1:=rF h1 hx;have e2:=rF h2 hy;subst e1;subst e2;simp only[aE,eC]at hp;have hq:=UC (w:=w) 9995 hp.1.1 hp.1.2;simp only[Ky.val]at hq⊢;simp only[aV,run_eqGuard_agg w op t ox oy _ _ hp.2,aN];rcases I5 with rfl|rfl
  ·rw[run_eql_struct w];simp only[hq,aN];simp
  ·rw[run_neq_struct w];simp only[hq,aN];simp
 ·cases he
def zY(P:Program)(t:TypeId)(x ix:A):Option E:=
 match x,ix with
 |.d (.v (.string s)),.d (.v (.int _ n))=>match s[n.toNat]? with
  |some b=>some (yJ P t&&decide (0<=n),.d (.v (.int .u8 b.toNat)),[])
  |none=>none
 |.agg l,.d (.v (.int _ n))=>match P.underlying t with
  |some (.array len e)=>match oP P e with
   |some true=>some (decide (0<=n/\n<len/\n.toNat*P.cellsOf e+P.cellsOf e<=l.length),.agg ((l.drop (n.toNat*P.cellsOf e)).take (P.cellsOf e)),[])
   |some false=>some (decide (0<=n/\n<len/\n.toNat*P.cellsOf e<l.length),l.getD (n.toNat*P.cellsOf e) .x,[])
   |none=>none
  |_=>none
 |.d (.agg l),.d (.v (.int _ n))=>match P.underlying t with
  |some (.array len e)=>match oP P e with
   |some true=>some (decide (0<=n/\n<len/\n.toNat*P.cellsOf e+P.cellsOf e<=l.length),.d (.agg ((l.drop (n.toNat*P.cellsOf e)).take (P.cellsOf e))),[])
   |some false=>some (decide (0<=n/\n<len/\n.toNat*P.cellsOf e<l.length),.d (l.getD (n.toNat*P.cellsOf e) default),[])
   |none=>none
  |_=>none
 |_,_=>none
theorem EU{t:TypeId}{vs:Array Value}{o:Nat}{l:List A}(h0:∀u∈vs.toList,u.oneCell'=true)(hd:A.bR w M m ρ l vs.toList):
 (oP P t=some true->o+P.cellsOf t<=l.length->∃y,(part t vs o).run P w=.ok y w/\(A.agg ((l.drop o).take (P.cellsOf t))).Den w M m ρ y)/\
 (oP P t=some false->o<l.length->∃y,(part t vs o).run P w=.ok y w/\(l.getD o .x).Den w M m ρ y):=by
 have hlen:=(A.c9.1 hd).1;constructor
 ·intro hg hle;refine⟨.agg (vs.extract o (o+P.cellsOf t)),by simp[part,lV hg,mB hg],?_⟩;simp only[A.Den];have e1:(vs.extract o (o+P.cellsOf t)).toList=(vs.toList.drop o).take (P.cellsOf t):=by
   rw[sK];simp[oG]
  exact⟨_,rfl,by rw[e1];exact λu hu=>h0 u (dI (dJ hu)),by rw[e1];exact A.mT _ (A.lL _ hd)⟩
 ·intro hg cX;have aVU:o<vs.toList.length:=oM;refine⟨vs.toList[o],?_,?_⟩
  ·have:vs[o]?=some vs.toList[o]:=by simp at aVU;simp[aVU]
   simp[part,lV hg,this]
  ·rw[bF,aC cX];exact(A.c9.1 hd).2 _ _ _ (aC cX) (aC aVU)
theorem aFB{t:TypeId}{x ix v:A}{y iy:Value}{pre:Bool}{ups:List (Nat×R)}(hx:x.Den w M m ρ y)(K0:ix.Den w M m ρ iy)(he:zY P t x ix=some (pre,v,ups))(hp:pre=true):
 ups=[]/\∃z,(Instr.index t y iy).run P w=.ok z w/\v.Den w M m ρ z:=by
 unfold zY at he;split at he
 ·rename_i s k n;simp only[A.Den,C.Den]at hx K0;subst hx;subst K0;split at he
  ·rename_i b hb;simp only[aA,aD]at he;obtain⟨rfl,rfl,rfl⟩:=he;rw[aE]at hp;have h0:=aUL hp.2;exact⟨rfl,.int .u8 b.toNat,by simp[Instr.index,asIntOf,run_underlying (oB hp.1),h0,hb],by simp[A.Den,C.Den]⟩
  ·cases he
 ·rename_i l k n;simp only[A.Den,C.Den]at K0;subst K0;simp only[A.Den]at hx;obtain⟨vs,rfl,h0,hd⟩:=hx;split at he
  ·rename_i len e hu;split at he
   ·rename_i hg;simp only[aA,aD]at he;obtain⟨rfl,rfl,rfl⟩:=he;obtain⟨p1,p2,p3⟩:=aUL hp;obtain⟨z,r1,r2⟩:=(EU (P:=P) (t:=e) (o:=n.toNat*P.cellsOf e) h0 hd).1 hg p3;exact⟨rfl,z,by simp[Instr.index,asIntOf,run_underlying hu,p1,p2,mB hg,r1],r2⟩
   ·rename_i hg;simp only[aA,aD]at he;obtain⟨rfl,rfl,rfl⟩:=he;obtain⟨p1,p2,p3⟩:=aUL hp;obtain⟨z,r1,r2⟩:=(EU (P:=P) (t:=e) (o:=n.toNat*P.cellsOf e) h0 hd).2 hg p3;exact⟨rfl,z,by simp[Instr.index,asIntOf,run_underlying hu,p1,p2,mB hg,r1],r2⟩
   ·cases he
  ·cases he
 ·rename_i l k n;simp only[A.Den,C.Den]at K0;subst K0;simp only[A.Den,C.Den]at hx;obtain⟨vs,rfl,h0,hd⟩:=hx;have hd':A.bR w M m ρ (l.map A.d) vs.toList:=A.iO.2 hd;split at he
  ·rename_i len e hu;split at he
   ·rename_i hg;simp only[aA,aD]at he;obtain⟨rfl,rfl,rfl⟩:=he;obtain⟨p1,p2,p3⟩:=aUL hp;obtain⟨z,r1,r2⟩:=(EU (P:=P) (t:=e) (o:=n.toNat*P.cellsOf e) h0 hd').1 hg (by simpa using p3);refine⟨rfl,z,by simp[Instr.index,asIntOf,run_underlying hu,p1,p2,mB hg,r1],?_⟩;rw[<-List.map_drop,<-List.map_take]at r2;simp only[A.Den,C.Den]at r2⊢;obtain⟨us,q1,q2,q3⟩:=r2;exact⟨us,q1,q2,A.iO.1 q3⟩
   ·rename_i hg;simp only[aA,aD]at he;obtain⟨rfl,rfl,rfl⟩:=he;obtain⟨p1,p2,p3⟩:=aUL hp;obtain⟨z,r1,r2⟩:=(EU (P:=P) (t:=e) (o:=n.toNat*P.cellsOf e) h0 hd').2 hg (by simpa using p3);refine⟨rfl,z,by simp[Instr.index,asIntOf,run_underlying hu,p1,p2,mB hg,r1],?_⟩;rw[bF,cK,aC p3]at r2;rw[bF,aC p3];exact r2
   ·cases he
  ·cases he
 ·cases he
end
def jZ(P:Program)(m:Mem)(T:Nat->A)(d:Nat)(o:Oper):Option E:=
 match o.op with
 |.lookup t x ix ok=>lO P m t (dN T x) (dN T ix) ok
 |.mapUpdate t x k v=>mW P m t (dN T x) (dN T k) (dN T v)
 |.insert t x k v=>mW P m t (dN T x) (dN T k) (dN T v)
 |.mapEntry t x k=>pQ P m d t (dN T x) (dN T k)
 |.entryStore t x s v=>mV m (dN T x) (dN T s) (dN T v)
 |.range t x=>JP P m d t (dN T x)
 |.entry x=>JK m (dN T x)
 |.index t x ix=>zY P t (dN T x) (dN T ix)
 |.binOp op t x y _=>match j9 P m T d o with
  |some e=>some e
  |none=>match op with
   |.eql=>(PU P t (dN T x) (dN T y)).map λr=>(r.1,.d (.v (.bool r.2)),[])
   |.neq=>(PU P t (dN T x) (dN T y)).map λr=>(r.1,.d (.v (.bool (!r.2))),[])
   |_=>none
 |.call c=>match j9 P m T d o with
  |some e=>some e
  |none=>match c.callee,c.args.toList,c.argTypes.toList with
   |.builtin .delete,[x,k],[t,_]=>tL P m t (dN T x) (dN T k)
   |_,_,_=>none
 |_=>j9 P m T d o
section
variable{M0 S0:Nat->Prop}{w0:World}{N:Fr}{T:Nat->A}{m:Mem}{ρ:Nat->Value}{a:Act}{w:World}{P:Program}
theorem aE5(h:bC M0 S0 w0 N T m ρ a w)(cX:∀b,M0 b->b<w0.heap.size){o:Oper}{d:Nat}{pre:Bool}{v:A}{ups:List (Nat×R)}(he:jZ P m T d o=some (pre,v,ups))(hp:pre=true):G1 P M0 S0 w0 N T m ρ a w o v (aH m ups):=by
 unfold jZ at he;split at he
 ·rename_i t x ix ok ho;obtain⟨rfl,z,hr,hv⟩:=aBO (P:=P) h (cU h x) (cU h ix) he hp;exact eO h (by simp[execOp,ho,hr]) hv
 ·rename_i t x k v' ho;obtain⟨w',hr,hs,hO,rfl⟩:=OP (P:=P) h (cU h x) (cU h k) (cU h v') he hp;exact⟨undef,w',ρ,_,by simp[execOp,ho,hr],.inr ⟨rfl,rfl⟩,hs,hO,by simp only[A.Den]⟩
 ·rename_i t x k v' ho;obtain⟨w',hr,hs,hO,rfl⟩:=OP (P:=P) h (cU h x) (cU h k) (cU h v') he hp;exact⟨undef,w',ρ,_,by simp[execOp,ho,hr],.inr ⟨rfl,rfl⟩,hs,hO,by simp only[A.Den]⟩
 ·rename_i t x k ho;obtain⟨z,w',ρ',hr,hs,hO,hv⟩:=UG (P:=P) h cX (cU h x) (cU h k) he hp;exact⟨z,w',ρ',_,by simp[execOp,ho,hr],.inl rfl,hs,hO,hv⟩
 ·rename_i t x s v' ho;obtain⟨w',hr,hs,hO,rfl⟩:=MV (P:=P) (t:=t) h (cU h x) (cU h s) (cU h v') he;exact⟨undef,w',ρ,_,by simp[execOp,ho,hr],.inr ⟨rfl,rfl⟩,hs,hO,by simp only[A.Den]⟩
 ·rename_i t x ho;obtain⟨z,w',ρ',hr,hs,hO,hv⟩:=aFD (P:=P) h cX (cU h x) he hp;exact⟨z,w',ρ',_,by simp[execOp,ho,hr],.inl rfl,hs,hO,hv⟩
 ·rename_i x ho;obtain⟨rfl,z,hr,hv⟩:=aE8 (P:=P) h (cU h x) he hp;exact eO h (by simp[execOp,ho,hr]) hv
 ·rename_i t x ix ho;obtain⟨rfl,z,hr,hv⟩:=aFB (P:=P) (w:=w) (cU h x) (cU h ix) he hp;exact eO h (by simp[execOp,ho,hr]) hv
 ·rename_i op t x y ty ho;split at he
  ·rename_i e heq;simp only[aA]at he;subst he;exact aFC h cX heq hp
  ·split at he
   ·simp only[bU]at he;obtain⟨⟨p,b⟩,h1,h2⟩:=he;simp only[aD]at h2;obtain⟨rfl,rfl,rfl⟩:=h2;have hr:=aE9 (P:=P) (w:=w) (op:=.eql) (ox:=x) (oy:=y) (cU h x) (cU h y) h1 hp (.inl rfl);refine eO h (y:=.bool b) ?_ (by simp[A.Den,C.Den]);simp only[execOp,ho,aV]at hr⊢;rw[hr];simp
   ·simp only[bU]at he;obtain⟨⟨p,b⟩,h1,h2⟩:=he;simp only[aD]at h2;obtain⟨rfl,rfl,rfl⟩:=h2;have hr:=aE9 (P:=P) (w:=w) (op:=.neq) (ox:=x) (oy:=y) (cU h x) (cU h y) h1 hp (.inr rfl);refine eO h (y:=.bool (!b)) ?_ (by simp[A.Den,C.Den]);simp only[execOp,ho,aV]at hr⊢;rw[hr];simp
   ·cases he
 ·rename_i c ho;split at he
  ·rename_i e heq;simp only[aA]at he;subst he;exact aFC h cX heq hp
  ·obtain⟨callee,args,tys⟩:=c;simp only at he;split at he
   ·rename_i x k t t' h2 h3;have e1:=ME h2;have e2:=ME h3;subst e1;subst e2;obtain⟨w',hr,hs,hO,rfl⟩:=aBN (P:=P) (t':=t') (ty:=o.type) h (cU h x) (cU h k) he hp;refine⟨.tuple #[],w',ρ,_,by simp[execOp,ho,resolve,invoke,builtin,hr],.inl rfl,hs,hO,?_⟩;simp only[A.Den,A.bR];exact⟨#[],rfl,rfl⟩
   ·cases he
 ·exact aFC h cX he hp
theorem zX{d:Nat}{e:E}(h:jZ P m T d o=some e):jO o=true:=by
 unfold jO;split
 ·rename_i c ho;simp[jZ,j9,ho]at h
 ·rfl
theorem qT.aKI{d:Nat}{pre:Bool}{v:A}{ups:List (Nat×R)}(he:jZ P m T d o=some (pre,v,ups))(hp:pre=true):qT P o T m v (aH m ups):=by
 intro ro N M0 S0 w0 ρ a w h cX next Q hn
 obtain⟨y,w',ρ',res,hr,aX0,hs,hO,hv⟩:=aE5 h cX he hp;exact qQ (zX he) hr aX0 (hn y w' ρ' hs hO hv)
end
inductive Tr(α:Type)where
 |nil
 |node(v:Option α)(l r:Tr α)
def Tr.DX{α:Type}(f:Nat):Tr α->Nat->Option α:=
 Nat.rec (motive:=λ_=>Tr α->Nat->Option α) (λt _=>Tr.casesOn (motive:=λ_=>Option α) t none (λv _ _=>v))
  (λ_ ih t n=>Tr.casesOn (motive:=λ_=>Option α) t none (λv l r=>Bool.casesOn (motive:=λ_=>Option α) (Nat.beq n 0) (Bool.casesOn (motive:=λ_=>Option α) (Nat.beq (Nat.mod n 2) 0) (ih l (Nat.div n 2)) (ih r (Nat.pred (Nat.div n 2)))) v)) f
def Tr.zG{α:Type}(x:α)(f:Nat):Tr α->Nat->Tr α:=
 Nat.rec (motive:=λ_=>Tr α->Nat->Tr α) (λt _=>Tr.casesOn (motive:=λ_=>Tr α) t (.node (some x) .nil .nil) (λ_ l r=>.node (some x) l r))
  (λ_ ih t n=>Tr.casesOn (motive:=λ_=>Tr α) t
    (Bool.casesOn (motive:=λ_=>Tr α) (Nat.beq n 0) (Bool.casesOn (motive:=λ_=>Tr α) (Nat.beq (Nat.mod n 2) 0) (.node none (ih .nil (Nat.div n 2)) .nil) (.node none .nil (ih .nil (Nat.pred (Nat.div n 2))))) (.node (some x) .nil .nil))
    (λv l r=>Bool.casesOn (motive:=λ_=>Tr α) (Nat.beq n 0) (Bool.casesOn (motive:=λ_=>Tr α) (Nat.beq (Nat.mod n 2) 0) (.node v (ih l (Nat.div n 2)) r) (.node v l (ih r (Nat.pred (Nat.div n 2))))) (.node (some x) l r))) f
theorem A3(a b:Nat):Nat.beq a b=decide (a=b):=by
 cases h:Nat.beq a b with
 |true=>simp[bB h]
 |false=>have:=Nat.ne_of_beq_eq_false h;simp[this]
theorem BD{α:Type}(c:Bool)(a b:α):Bool.casesOn (motive:=λ_=>α) c a b=if c=true then b else a:=by cases c<;>rfl
theorem Tr.AB{α:Type}:∀(f n:Nat),Tr.DX f (.nil:Tr α) n=none
 |0,_=>rfl
 |_+1,_=>rfl
theorem Tr.tM{α:Type}(f:Nat)(v:Option α)(l r:Tr α)(n:Nat):Tr.DX (f+1) (.node v l r) n=if n=0 then v else if n %2=0 then Tr.DX f r (n/2 -1)else Tr.DX f l (n/2):=by
 have e:Tr.DX (f+1) (.node v l r) n=Bool.casesOn (motive:=λ_=>Option α) (Nat.beq n 0) (Bool.casesOn (motive:=λ_=>Option α) (Nat.beq (Nat.mod n 2) 0) (Tr.DX f l (Nat.div n 2)) (Tr.DX f r (Nat.pred (Nat.div n 2)))) v:=rfl;rw[e,BD,BD,A3,A3];simp only[aUA];rfl
theorem Tr.NU{α:Type}(v:Option α)(l r:Tr α)(n:Nat):Tr.DX 0 (.node v l r) n=v:=rfl
theorem Tr.aFF{α:Type}(x:α)(f n:Nat):Tr.zG x (f+1) .nil n=if n=0 then .node (some x) .nil .nil else if n %2=0 then .node none .nil (Tr.zG x f .nil (n/2 -1))else .node none (Tr.zG x f .nil (n/2)) .nil:=by
 have e:Tr.zG x (f+1) .nil n=Bool.casesOn (motive:=λ_=>Tr α) (Nat.beq n 0) (Bool.casesOn (motive:=λ_=>Tr α) (Nat.beq (Nat.mod n 2) 0) (.node none (Tr.zG x f .nil (Nat.div n 2)) .nil) (.node none .nil (Tr.zG x f .nil (Nat.pred (Nat.div n 2))))) (.node (some x) .nil .nil):=rfl;rw[e,BD,BD,A3,A3];simp only[aUA];rfl
theorem Tr.aBQ{α:Type}(x:α)(f n:Nat)(v:Option α)(l r:Tr α):Tr.zG x (f+1) (.node v l r) n=if n=0 then .node (some x) l r else if n %2=0 then .node v l (Tr.zG x f r (n/2 -1))else .node v (Tr.zG x f l (n/2)) r:=by
 have e:Tr.zG x (f+1) (.node v l r) n=Bool.casesOn (motive:=λ_=>Tr α) (Nat.beq n 0) (Bool.casesOn (motive:=λ_=>Tr α) (Nat.beq (Nat.mod n 2) 0) (.node v (Tr.zG x f l (Nat.div n 2)) r) (.node v l (Tr.zG x f r (Nat.pred (Nat.div n 2))))) (.node (some x) l r):=rfl;rw[e,BD,BD,A3,A3];simp only[aUA];rfl
def Fit(f n:Nat):Prop:=n+1<2^(f+1)
theorem Fit.zero(h:Fit 0 n):n=0:=by unfold Fit at h;simp at h;omega
theorem Fit.left{f:Nat}(h:Fit (f+1) n)(hn:¬n %2=0):Fit f (n/2):=by
 unfold Fit at h⊢;rw[Nat.pow_succ]at h;omega
theorem Fit.right{f:Nat}(h:Fit (f+1) n)(h0:¬n=0)(hn:n %2=0):Fit f (n/2 -1):=by
 unfold Fit at h⊢;rw[Nat.pow_succ]at h;omega
theorem X8(n:Nat):Fit (Nat.log2 (n+1)) n:=Nat.lt_log2_self
theorem Tr.FV{α:Type}(x:α):∀(f g:Nat)(t:Tr α)(n k:Nat),Fit f n->Fit g k->Tr.DX g (Tr.zG x f t n) k=if k=n then some x else Tr.DX g t k
 |0,g,t,n,k,h1,h2=>by
  have hn:n=0:=h1.zero;subst hn;have e:∃l r,Tr.zG x 0 t 0=.node (some x) l r/\((t=.nil/\l=.nil/\r=.nil)\/∃v,t=.node v l r):=by
   cases t with
   |nil=>exact⟨_,_,rfl,.inl ⟨rfl,rfl,rfl⟩⟩
   |node v l r=>exact⟨_,_,rfl,.inr ⟨v,rfl⟩⟩
  obtain⟨l,r,e,ht⟩:=e;rw[e];cases g with
  |zero=>
   have hk:k=0:=h2.zero;subst hk;rw[aUF rfl];rfl
  |succ g=>
   rw[Tr.tM];by_cases hk:k=0
   ·rw[aUF hk,aUF hk]
   ·rw[aT7 hk,aT7 hk];rcases ht with⟨rfl,rfl,rfl⟩|⟨v,rfl⟩
    ·rw[Tr.AB,Tr.AB,Tr.AB,ite_self]
    ·rw[Tr.tM,aT7 hk]
 |f+1,g,t,n,k,h1,h2=>by
  have e:∃v l r,(t=.nil/\v=none/\l=.nil/\r=.nil\/t=.node v l r)/\Tr.zG x (f+1) t n=if n=0 then .node (some x) l r else if n %2=0 then .node v l (Tr.zG x f r (n/2 -1))else .node v (Tr.zG x f l (n/2)) r:=by
   cases t with
   |nil=>exact⟨none,.nil,.nil,.inl ⟨rfl,rfl,rfl,rfl⟩,Tr.aFF x f n⟩
   |node v l r=>exact⟨v,l,r,.inr rfl,Tr.aBQ x f n v l r⟩
  obtain⟨v,l,r,ht,e⟩:=e;have aXT:∀g k,Fit g k->Tr.DX g t k=if k=0 then v else if k %2=0 then Tr.DX (g -1) r (k/2 -1)else Tr.DX (g -1) l (k/2):=by
   intro g k hk;rcases ht with⟨rfl,rfl,rfl,rfl⟩|rfl
   ·simp only[Tr.AB,ite_self]
   ·cases g with
    |zero=>have:k=0:=hk.zero
           subst this;rfl
    |succ g=>rw[Tr.tM];rfl
  rw[e,aXT g k h2];cases g with
  |zero=>
   have hk:k=0:=h2.zero;subst hk;by_cases hn:n=0
   ·subst hn;simp[Tr.NU]
   ·rw[aT7 hn,aT7 (Ne.symm hn)];split<;>simp[Tr.NU]
  |succ g=>
   simp only[Nat.add_sub_cancel];by_cases hn:n=0
   ·subst hn;rw[aUF rfl,Tr.tM];by_cases hk:k=0
    ·rw[aUF hk,aUF hk]
    ·rw[aT7 hk,aT7 hk,aT7 hk]
   ·rw[aT7 hn];by_cases hm:n %2=0
    ·rw[aUF hm,Tr.tM];by_cases hk:k=0
     ·rw[aUF hk,aUF hk,aT7 oM]
     ·rw[aT7 hk,aT7 hk];by_cases EN:k %2=0
      ·rw[aUF EN,aUF EN,Tr.FV x f g r (n/2 -1) (k/2 -1) (h1.right hn hm) (h2.right hk EN)];by_cases e:k=n
       ·subst e;simp
       ·rw[aT7 e,aT7 oM]
      ·rw[aT7 EN,aT7 EN,aT7 (by rintro rfl;exact EN hm)]
    ·rw[aT7 hm,Tr.tM];by_cases hk:k=0
     ·rw[aUF hk,aUF hk,aT7 oM]
     ·rw[aT7 hk,aT7 hk];by_cases EN:k %2=0
      ·rw[aUF EN,aUF EN,aT7 (by rintro rfl;exact hm EN)]
      ·rw[aT7 EN,aT7 EN,Tr.FV x f g l (n/2) (k/2) (h1.left hm) (h2.left EN)];by_cases e:k=n
       ·subst e;simp
       ·rw[aT7 e,aT7 oM]
def Tr.get{α:Type}(t:Tr α)(n:Nat):Option α:=Tr.DX (Nat.log2 (Nat.succ n)) t n
def Tr.set{α:Type}(f:Nat)(t:Tr α)(n:Nat)(x:α):Tr α:=Tr.zG x (Nat.log2 (Nat.succ n)) t n
theorem Tr.get_nil{α:Type}(n:Nat):(Tr.nil:Tr α).get n=none:=Tr.AB _ _
theorem Tr.rV{α:Type}(f:Nat)(t:Tr α)(n k:Nat)(x:α):(Tr.set f t n x).get k=if k=n then some x else t.get k:=
 Tr.FV x _ _ t n k (X8 n) (X8 k)
def Tr.MW(f:Nat):Tr R->List (Nat×R)->Tr R
 |t,[]=>t
 |t,(i,r)::u=>Tr.MW f (Tr.set f t i r) u
theorem Tr.nV(f:Nat):∀(u:List (Nat×R))(t:Tr R),(Tr.MW f t u).get=aH t.get u
 |[],t=>rfl
 |(i,r)::u,t=>by
  simp only[Tr.MW,aH];rw[Tr.nV f u];congr 1;funext k;rw[Tr.rV];rfl
def Tr.fn(t:Tr A):Nat->A:=λn=>Option.casesOn (motive:=λ_=>A) (Tr.get t n) .x (λv=>v)
theorem Tr.aCW(t:Tr A)(n:Nat):t.fn n=(t.get n).getD .x:=by
 show(Option.casesOn (motive:=λ_=>A) (Tr.get t n) .x (λv=>v):A)=(Tr.get t n).getD .x;cases Tr.get t n<;>rfl
theorem Tr.FU(f:Nat)(t:Tr A)(n:Nat)(x:A):(Tr.set f t n x).fn=lI t.fn (some n) x:=by
 funext k;simp only[Tr.aCW,Tr.rV,lI];by_cases e:k=n
 ·subst e;simp
 ·have:¬(some n=some k):=λh=>e (by simpa using h.symm);simp[e,this]
def oO(m:Mem)(ρ:Nat->Value)(b:Nat):Prop:=∃i r,m i=some r/\r.live=true/\jK (ρ i)=some b
section
variable{M0 S0:Nat->Prop}{w0:World}{N:Fr}{T:Nat->A}{m:Mem}{ρ:Nat->Value}{a:Act}{w:World}{P:Program}
theorem bC.now(h:bC M0 S0 w0 N T m ρ a w):bC M0 (oO m ρ) w N T m ρ a w:=
 {keeps:=iF.refl _ _,size:=h.size,defers:=h.defers,tmps:=h.tmps,res:=h.res
  own:=λi r b hi hl hb=>⟨.inr ⟨i,r,hi,hl,hb⟩,(h.own i r b hi hl hb).2⟩,apart:=h.apart}
theorem bC.evo(h:bC M0 S0 w0 N T m ρ a w){N1:Fr}{T1:Nat->A}{m':Mem}{ρ':Nat->Value}{a1:Act}{w':World}(h1:bC M0 (oO m ρ) w N1 T1 m' ρ' a1 w'):
 dV (dD M0 m ρ) w w'/\∀b,dD M0 m' ρ' b->b<w.heap.size->dD M0 m ρ b:=by
 refine⟨h1.keeps.stays λb _ e=>.inr e,?_⟩;rintro b (e|⟨i,r,hi,hl,hb⟩) cX
 ·exact .inl e
 ·rcases(h1.own i r b hi hl hb).1 with q|q
  ·omega
  ·exact .inr q
theorem bC.back(h:bC M0 S0 w0 N T m ρ a w){N1:Fr}{T1:Nat->A}{m':Mem}{ρ':Nat->Value}{a1:Act}{w':World}(h1:bC M0 (oO m ρ) w N1 T1 m' ρ' a1 w')(hO:gL m m' ρ ρ'):bC M0 S0 w0 N T m' ρ' a w':=by
 obtain⟨e1,e2⟩:=h.evo h1;have aWZ:∀b,oO m ρ b->w0.heap.size<=b\/S0 b:=λb⟨i,r,hi,hl,hb⟩=>(h.own i r b hi hl hb).1
 exact{keeps:=h.keeps.trans h1.keeps λb hb e=>(aWZ b e).resolve_left oM,size:=h.size
       defers:=λds e=>eJ e1 e2 hO _ _ (h.defers ds e)
       tmps:=λn=>A.dC e1 e2 hO _ _ (h.tmps n)
       res:=h1.res
       own:=λi r b hi hl hb=>by
        obtain⟨x,y,z⟩:=h1.own i r b hi hl hb;refine⟨?_,y,z⟩;rcases x with x|x
        · exact .inl (cL h.keeps.size x)
        · exact aWZ b x
       apart:=h1.apart}
end
def aBC(P:Program)(m:Mem)(T:Nat->A):ResultVar->Option A
 |.tmp t=>some (T t)
 |.cell ad t=>match jM P m t (T ad)with
  |some (true,v,_)=>some v
  |_=>none
def MS(P:Program)(m:Mem)(T:Nat->A):List ResultVar->Option (List A)
 |[]=>some []
 |r::rs=>match aBC P m T r,MS P m T rs with
  |some v,some vs=>some (v::vs)
  |_,_=>none
def GO(P:Program)(m:Mem)(T:Nat->A)(rs:List ResultVar):Option A:=
 match MS P m T rs with
 |some [v]=>some v
 |some vs=>some (.eL vs)
 |none=>none
section
variable{M0 S0:Nat->Prop}{w0:World}{N:Fr}{T:Nat->A}{m:Mem}{ρ:Nat->Value}{a:Act}{w:World}{P:Program}
theorem T7(h:bC M0 S0 w0 N T m ρ a w):∀{rs:List ResultVar}{vs:List A},MS P m T rs=some vs->
 ∃ys:List Value,(rs.mapM λr=>(match r with|.tmp t=>pure (a.tmps.getD t undef)|.cell ad t=>(do loadVar t (<-asAddr (a.tmps.getD ad undef))):Sem Value)).run P w=.ok ys w/\A.bR w (dD M0 m ρ) m ρ vs ys
 |[],vs,hr=>by
  simp only[MS,aA]at hr;subst hr;exact⟨[],sM,by simp[A.bR]⟩
 |r::rs,vs,hr=>by
  simp only[MS]at hr;split at hr
  ·rename_i v vs' h1 h2;simp only[aA]at hr;subst hr;obtain⟨ys,k1,k2⟩:=T7 h h2;have key:∃y,((match r with|.tmp t=>pure (a.tmps.getD t undef)|.cell ad t=>(do loadVar t (<-asAddr (a.tmps.getD ad undef))):Sem Value)).run P w=.ok y w/\v.Den w (dD M0 m ρ) m ρ y:=by
    cases r with
    |tmp t=>
     simp only[aBC,aA]at h1;subst h1;exact⟨_,sM,h.tmps t⟩
    |cell ad t=>
     simp only[aBC]at h1;split at h1
     ·rename_i v' u he;simp only[aA]at h1;subst h1;obtain⟨_,z,q1,q2⟩:=Y7 (P:=P) h (h.tmps ad) he rfl;refine⟨z,?_,q2⟩;simp only[Instr.loadAt]at q1;have hp:∃ad',a.tmps.getD ad undef=.pointer (some ad'):=by
       generalize a.tmps.getD ad undef=y at q1;cases y<;>simp[Instr.sureAddr,asAddr]at q1
       rename_i o;cases o with
       |none=>simp[Instr.sureAddr,asAddr]at q1
       |some d=>exact⟨d,rfl⟩
      obtain⟨d,hd⟩:=hp;simp only[hd]at q1⊢;simpa [Instr.sureAddr,asAddr]using q1
     ·cases h1
   obtain⟨y,q1,q2⟩:=key;refine⟨y::ys,?_,by simp only[A.bR];exact⟨y,ys,rfl,q2,k2⟩⟩;rw[List.mapM_cons];simp only[aV,q1,aN,k1,cB]
  ·cases hr
end
section
variable{M0 S0:Nat->Prop}{w0:World}{N:Fr}{T:Nat->A}{m:Mem}{ρ:Nat->Value}{a:Act}{w:World}{P:Program}
theorem HQ(h:bC M0 S0 w0 N T m ρ a w){fn:Func}{v:A}(hr:GO P m T fn.results.toList=some v):∃y,(results fn a.tmps).run P w=.ok y w/\v.Den w (dD M0 m ρ) m ρ y:=by
 unfold GO at hr;have key:∀{vs:List A},MS P m T fn.results.toList=some vs->∃ys:List Value,(results fn a.tmps).run P w=.ok (if h:ys.toArray.size=1 then ys.toArray[0]else .tuple ys.toArray) w/\A.bR w (dD M0 m ρ) m ρ vs ys:=by
  intro vs hl;obtain⟨ys,k1,k2⟩:=T7 h hl;refine⟨ys,?_,k2⟩;unfold results;have e:fn.results=fn.results.toList.toArray:=sM;rw[aV];conv=>lhs;rw[e,List.mapM_toArray]
  rw[Sem.run_map]
  erw [k1]
  simp
 split at hr
 ·rename_i v' hl;simp only[aA]at hr;subst hr;obtain⟨ys,k1,k2⟩:=key hl;simp only[A.bR]at k2;obtain⟨y,yr,rfl,k3,rfl⟩:=k2;exact⟨y,by simpa using k1,k3⟩
 ·rename_i vs hZ hl;simp only[aA]at hr;subst hr;obtain⟨ys,k1,k2⟩:=key hl;have hlen:=(A.c9.1 k2).1;have h1:ys.length≠1:=by
   intro e;rw[e]at hlen
   match vs,hlen,hZ with
   |[v],_,hZ=>exact hZ v rfl
  exact⟨.tuple ys.toArray,by rw[k1];simp[h1],by simp only[A.Den];exact⟨_,rfl,by simpa using k2⟩⟩
 ·cases hr
end
mutual
theorem A.wC{w:World}{M:Nat->Prop}{m:Mem}{ρ:Nat->Value}:∀(a:A)(y:Value),a.Den w M m ρ y->∀i∈a.hs,m i≠none
 |.d c,y,_,i,hi=>by simp[A.hs]at hi
 |.lp j off,y,hd,i,hi=>by simp[A.hs]at hi;subst hi;simp only[A.Den]at hd;exact hd.1
 |.h j,y,hd,i,hi=>by simp[A.hs]at hi;subst hi;simp only[A.Den]at hd;exact hd.1
 |.ep j es k off,y,hd,i,hi=>by simp[A.hs]at hi;subst hi;simp only[A.Den]at hd;exact hd.1
 |.sv j lo n,y,hd,i,hi=>by simp[A.hs]at hi;subst hi;simp only[A.Den]at hd;exact hd.1
 |.fn f u v,y,hd,i,hi=>by
  simp only[A.Den]at hd;obtain⟨us,vs,_,h1,h2⟩:=hd;simp only[A.hs,bN]at hi;exact hi.elim (A.nD u _ h1 i) (A.nD v _ h2 i)
 |.agg l,y,hd,i,hi=>by
  simp only[A.Den]at hd;obtain⟨vs,_,_,h1⟩:=hd;simp only[A.hs]at hi;exact A.nD l _ h1 i hi
 |.eL l,y,hd,i,hi=>by
  simp only[A.Den]at hd;obtain⟨vs,_,h1⟩:=hd;simp only[A.hs]at hi;exact A.nD l _ h1 i hi
 |.AE t a,y,hd,i,hi=>by
  simp only[A.Den]at hd;obtain⟨v,_,h1⟩:=hd;simp only[A.hs]at hi;exact A.wC a _ h1 i hi
 |.x,y,_,i,hi=>by simp[A.hs]at hi
theorem A.nD{w:World}{M:Nat->Prop}{m:Mem}{ρ:Nat->Value}:∀(l:List A)(ys:List Value),A.bR w M m ρ l ys->∀i∈A.lQ l,m i≠none
 |[],ys,_,i,hi=>by simp[A.lQ]at hi
 |c::r,ys,hd,i,hi=>by
  simp only[A.bR]at hd;obtain⟨y,yr,_,h1,h2⟩:=hd;simp only[A.lQ,bN]at hi;exact hi.elim (A.wC c _ h1 i) (A.nD r _ h2 i)
end
theorem R.wC{w:World}{M:Nat->Prop}{m:Mem}{ρ:Nat->Value}{h:Value}{r:R}(hr:r.Ok w M m ρ h):∀i∈r.hs,m i≠none:=by
 intro i hi;cases r with
 |dead=>simp[R.hs]at hi
 |cells fz l=>obtain⟨_,_,_,_,_,h2,_⟩:=hr;exact A.nD _ _ h2 i (by simpa [R.hs]using hi)
 |fW fz t es l=>obtain⟨_,_,h2,_⟩:=hr;exact A.nD _ _ h2 i (by simpa [R.hs]using hi)
 |mp fz kv st=>
  obtain⟨_,_,_,_,_,_,_,h3,_,h5⟩:=hr;simp only[R.hs,bN]at hi;rcases hi with hi|hi
  ·exact A.nD _ _ h3 i hi
  ·obtain⟨p,hp,rfl⟩:=aA4.1 hi;exact(h5 p hp).1
 |fr l=>obtain⟨_,_,h2⟩:=hr;exact A.nD _ _ h2 i (by simpa [R.hs]using hi)
 |lo _ _ _ _ _ _=>obtain⟨_,_,_,_,_,_,h2⟩:=hr;exact A.nD _ _ h2 i (by simpa [R.hs]using hi)
 |it j sc start seen=>
  obtain⟨_,_,_,_,_,_,h1,h2,h3⟩:=hr;simp only[R.hs,aO]at hi;rcases hi with rfl|rfl|hi
  ·exact h1.1
  ·exact h2.1
  ·exact h3.2.1 i hi
 |cu src es l=>
  obtain⟨_,_,h1,_,h3⟩:=hr;simp only[R.hs,bN]at hi;rcases hi with hi|hi
  ·exact A.wC _ _ h1 i hi
  ·rcases h3 with rfl|⟨_,_,_,_,_,_,h6,_⟩
   ·simp[A.lQ]at hi
   ·exact A.nD _ _ h6 i hi
 |_=>simp[R.hs]at hi
def DA.hs:DA->List Nat
 |.call _ as cs=>A.lQ as++A.lQ cs
 |.s4 i=>[i]
 |.bi _ _ _ _ as=>A.lQ as
 |.SK _=>[]
section
variable{M0 S0:Nat->Prop}{w0:World}{N:Fr}{T:Nat->A}{m:Mem}{ρ:Nat->Value}{a:Act}{w:World}{P:Program}
theorem zQ{w:World}{M:Nat->Prop}{m:Mem}{ρ:Nat->Value}:∀{ds:List DA}{l:List Deferred},iM w M m ρ ds l->∀d∈ds,∀i∈d.hs,m i≠none
 |[],l,_,d,hd,i,hi=>by simp at hd
 |.call f as cs::r,l,⟨vs,us,rest,_,h1,h2,h3⟩,d,hd,i,hi=>by
  simp only[aO]at hd;rcases hd with rfl|hd
  ·simp only[DA.hs,bN]at hi;exact hi.elim (A.nD _ _ h1 i) (A.nD _ _ h2 i)
  ·exact zQ h3 d hd i hi
 |.bi b tys ty cs as::r,l,⟨vs,rest,_,h1,h3⟩,d,hd,i,hi=>by
  simp only[aO]at hd;rcases hd with rfl|hd
  ·simp only[DA.hs]at hi;exact A.nD _ _ h1 i hi
  ·exact zQ h3 d hd i hi
 |.s4 k::r,l,⟨D,rest,_,h1,h3⟩,d,hd,i,hi=>by
  simp only[aO]at hd;rcases hd with rfl|hd
  ·simp only[DA.hs,aR]at hi;subst hi;exact h1.1
  ·exact zQ h3 d hd i hi
 |.SK k::r,l,⟨rest,_,h3⟩,d,hd,i,hi=>by
  simp only[aO]at hd;rcases hd with rfl|hd
  ·simp[DA.hs]at hi
  ·exact zQ h3 d hd i hi
theorem lK{w:World}{M:Nat->Prop}{m m1:Mem}{ρ:Nat->Value}(hm:∀i r,m1 i=some r->m i=some r):∀{ds:List DA}{l:List Deferred},(∀d∈ds,∀i∈d.hs,m1 i≠none)->iM w M m ρ ds l->iM w M m1 ρ ds l
 |[],l,_,h=>h
 |.call f as cs::r,l,hi,⟨vs,us,rest,h0,h1,h2,h3⟩=>
  ⟨vs,us,rest,h0,A.fG hm _ _ (λi hii=>hi (.call f as cs) sM i (by simp[DA.hs,hii])) h1,A.fG hm _ _ (λi hii=>hi (.call f as cs) sM i (by simp[DA.hs,hii])) h2,lK hm (λd hd=>hi d (by simp[hd])) h3⟩
 |.bi b tys ty cs as::r,l,hi,⟨vs,rest,h0,h1,h3⟩=>
  ⟨vs,rest,h0,A.fG hm _ _ (λi hii=>hi (.bi b tys ty cs as) sM i (by simp[DA.hs,hii])) h1,lK hm (λd hd=>hi d (by simp[hd])) h3⟩
 |.s4 k::r,l,hi,⟨D,rest,h0,h1,h3⟩=>
  ⟨D,rest,h0,h1.restrict hm (hi (.s4 k) sM k (by simp[DA.hs])) λ_ q=>q,lK hm (λd hd=>hi d (by simp[hd])) h3⟩
 |.SK k::r,l,hi,⟨rest,h0,h3⟩=>⟨rest,h0,lK hm (λd hd=>hi d (by simp[hd])) h3⟩
theorem bC.drop(h:bC M0 S0 w0 N T m ρ a w){m1:Mem}(hm:∀i r,m1 i=some r->m i=some r)(hT:∀n,∀i∈(T n).hs,m1 i≠none)(hds:∀ds,N.ds=some ds->∀d∈ds,∀i∈d.hs,m1 i≠none)(n0:∀i r,m1 i=some r->∀j∈r.hs,m1 j≠none):bC M0 S0 w0 N T m1 ρ a w:=by
 have Q2:∀b,dD M0 m1 ρ b->b<w.heap.size->dD M0 m ρ b:=by
  rintro b (e|⟨i,r,h1,h2,h3⟩) _
  ·exact .inl e
  ·exact .inr ⟨i,r,hm i r h1,h2,h3⟩
 have aZT:∀{x:A}{y:Value},x.Den w (dD M0 m ρ) m1 ρ y->x.Den w (dD M0 m1 ρ) m1 ρ y:=λ{x y}hd=>A.dC (dV.refl _ w) Q2 (gL.refl m1 ρ) _ _ hd
 exact{keeps:=h.keeps,size:=h.size
       defers:=λds e=>eJ (dV.refl _ w) Q2 (gL.refl m1 ρ) _ _ (lK hm (hds ds e) (h.defers ds e))
       tmps:=λn=>aZT (A.kU hm _ _ (hT n) (h.tmps n))
       res:=λi r hi=>R.hU (dV.refl _ w) Q2 (gL.refl m1 ρ) (λ_ _ _=>rfl) (R.rY hm (n0 i r hi) (h.res i r (hm i r hi)))
       own:=λi r b hi hl hb=>h.own i r b (hm i r hi) hl hb
       apart:=λi j r s b hi l1 hj l2 b1 b2=>h.apart i j r s b (hm i r hi) l1 (hm j s hj) l2 b1 b2}
end
theorem C8:∀{u:List (Nat×R)}{m:Mem}{i:Nat}{r:R},aH m u i=some r->(i,r)∈u\/m i=some r
 |[],m,i,r,h=>.inr h
 |(j,q)::t,m,i,r,h=>by
  simp only[aH]at h;rcases C8 h with h|h
  ·exact .inl (by simp[h])
  ·unfold aX at h;split at h
   ·rename_i e;simp at h;subst h;subst e;exact .inl sM
   ·exact .inr h
theorem tH:∀{u:List (Nat×R)}{m:Mem}{i:Nat},m i≠none->aH m u i≠none
 |[],m,i,h=>h
 |(j,q)::t,m,i,h=>by
  simp only[aH];refine tH ?_;unfold aX;split
  ·simp
  ·exact h
inductive Rt where
 |ok(a:A)
 |sE(a:A)
 deriving Inhabited
def Rt.hs:Rt->List Nat
 |.ok a=>a.hs
 |.sE a=>a.hs
def Rt.Den(w:World)(M:Nat->Prop)(m:Mem)(ρ:Nat->Value):Rt->Ending->Prop
 |.ok a,e=>∃y,e=.returned y/\a.Den w M m ρ y
 |.sE a,e=>∃y,e=.panicked [{v:=y,recovered:=false}]/\a.Den w M m ρ y
def aJ(P:Program)(f:FuncId)(as:List A)(m:Mem)(r:Rt)(m':Mem):Prop:=
 kW P f=true/\∀(N:Fr)(T:Nat->A)(M0 S0:Nat->Prop)(w0:World)(ρ:Nat->Value)(a:Act)(w:World),bC M0 S0 w0 N T m ρ a w->(∀b,M0 b->b<w0.heap.size)->
  ∀vs:List Value,A.bR w (dD M0 m ρ) m ρ as vs->Calls P f vs.toArray w λe w'=>∃ρ',bC M0 S0 w0 N T m' ρ' a w'/\gL m m' ρ ρ'/\r.Den w' (dD M0 m' ρ') m' ρ' e
abbrev Ot:=Rt×List (Nat×R)
def o8(P:Program)(o:Oper)(T:Nat->A)(m:Mem)(outs:List Ot):Prop:=
 ∀(ro:Option Nat)(N:Fr)(M0 S0:Nat->Prop)(w0:World)(ρ:Nat->Value)(a:Act)(w:World),bC M0 S0 w0 N T m ρ a w->(∀b,M0 b->b<w0.heap.size)->
  ∀(next:Act->World->Prop)(Q:Exit->Act->World->Prop),
   (∀(u:Ot)(y:Value)(w':World)(ρ':Nat->Value),u∈outs->bC M0 S0 w0 N T (aH m u.2) ρ' a w'->gL m (aH m u.2) ρ ρ'->
     (∀v,u.1=.ok v->v.Den w' (dD M0 (aH m u.2) ρ') (aH m u.2) ρ' y->next (a.put o.dst y) w')/\
     (∀v,u.1=.sE v->v.Den w' (dD M0 (aH m u.2) ρ') (aH m u.2) ρ' y->Q (.panic [{v:=y,recovered:=false}]) a w'))->o.wpIn (FW ro) 0 P a w next Q
theorem o8.one{v:A}{u:List (Nat×R)}(h:qT P o T m v (aH m u)):o8 P o T m [(.ok v,u)]:=by
 intro ro N M0 S0 w0 ρ a w hs cX next Q hn
 exact h ro N M0 S0 w0 ρ a w hs cX next Q λy w' ρ' h1 h2 h3=>(hn (.ok v,u) y w' ρ' sM h1 h2).1 v rfl h3
theorem o8.next{P:Program}{o:Oper}{T:Nat->A}{m:Mem}{x:Operand}{b:Bool}{outs:List Out}(ho:o.op=.next x b)(he:IE m (dN T x) b=some (true,outs)):o8 P o T m (outs.map λu=>(.ok u.1,u.2)):=by
 intro ro N M0 S0 w0 ρ a w hs cX next Q hn
 obtain⟨u,hu,y,w',hr,h1,h2,h3⟩:=aIF (P:=P) (ty:=o.type) hs (cU hs x) he rfl;refine qQ (res:=.value y) (w':=w') (by unfold jO;rw[ho]) (by simp[execOp,ho,hr]) (.inl rfl) ?_;exact(hn (.ok u.1,u.2) y w' ρ (aA4.2 ⟨u,hu,rfl⟩) h1 h2).1 u.1 rfl h3
theorem o8.call{P:Program}{o:Oper}{T:Nat->A}{m:Mem}{u:List (Nat×R)}{c:Call}{f:FuncId}{as:List A}{r:Rt}(ho:o.op=.call c)(hc:mO T c=some (f,as))(hp:aJ P f as m r (aH m u)):o8 P o T m [(r,u)]:=by
 intro ro N M0 S0 w0 ρ a w h cX next Q hn
 obtain⟨vs,hr,hd⟩:=aCB h ho hc hp.1;refine W7 (by unfold jO;rw[ho]) hr ((hp.2 N T M0 S0 w0 ρ a w h cX vs hd).mono ?_);rintro e w' ⟨ρ',h1,h2,h3⟩;cases r with
 |ok v=>
  obtain⟨y,rfl,h4⟩:=h3;exact .inl ⟨y,rfl,(hn (.ok v,u) y w' ρ' sM h1 h2).1 v rfl h4⟩
 |sE v=>
  obtain⟨y,rfl,h4⟩:=h3;exact .inr ⟨_,rfl,(hn (.sE v,u) y w' ρ' sM h1 h2).2 v rfl h4⟩
def uA(as:List A):Nat->A:=λn=>(as[n]?).getD .x
inductive Ex where
 |nm
 |ext(id:Nat)
 |ret
 |sE(a:A)
 deriving Inhabited
def Ex.Den(w:World)(M:Nat->Prop)(m:Mem)(ρ:Nat->Value):Ex->Exit->Prop
 |.nm,e=>e=.normal
 |.ext id,e=>e=.exit id
 |.ret,e=>e=.ret
 |.sE a,e=>∃y,e=.panic [{v:=y,recovered:=false}]/\a.Den w M m ρ y
def Ex.MQ:Ex->Bool
 |.nm=>true
 |_=>false
abbrev qU:=Ex->(Nat->A)->Mem->List DA->Prop
def eU(P:Program)(rd:Bool)(n:Nat)(c:Code)(T:Nat->A)(m:Mem)(ds:List DA)(Post:qU):Prop:=
 ∀(ro:Option Nat)(M0 S0:Nat->Prop)(w0:World)(ρ:Nat->Value)(a:Act)(w:World),ro.isSome=rd->bC M0 S0 w0 ⟨n,some ds⟩ T m ρ a w->(∀b,M0 b->b<w0.heap.size)->
  ∀Q:Exit->Act->World->Prop,(∀ex e T' m' ds' ρ' a' w',Post ex T' m' ds'->bC M0 S0 w0 ⟨n,some ds'⟩ T' m' ρ' a' w'->gL m m' ρ ρ'->ex.Den w' (dD M0 m' ρ') m' ρ' e->Q e a' w')->c.wpIn (FW ro) 0 P Q a w
section
variable{P:Program}{rd:Bool}{n:Nat}{T:Nat->A}{m:Mem}{ds:List DA}{Post:qU}
theorem eU.mono{Post1:qU}(h:eU P rd n c T m ds Post1)(hp:∀ex T' m' ds',Post1 ex T' m' ds'->Post ex T' m' ds'):eU P rd n c T m ds Post:=by
 intro ro M0 S0 w0 ρ a w wB hs cX Q hQ;exact h ro M0 S0 w0 ρ a w wB hs cX Q λex e T' m' ds' ρ' a' w' q=>hQ ex e T' m' ds' ρ' a' w' (hp _ _ _ _ q)
theorem eU.skip(h:Post .nm T m ds):eU P rd n .skip T m ds Post:=by
 intro ro M0 S0 w0 ρ a w wB hs cX Q hQ;exact wpIn_skip (hQ .nm _ T m ds ρ a w h hs (gL.refl m ρ) rfl)
theorem eU.label{l:Nat}(h:Post .nm T m ds):eU P rd n (.label l) T m ds Post:=by
 intro ro M0 S0 w0 ρ a w wB hs cX Q hQ;exact wpIn_label (hQ .nm _ T m ds ρ a w h hs (gL.refl m ρ) rfl)
theorem eU.exit{id:Nat}(h:Post (.ext id) T m ds):eU P rd n (.exit id) T m ds Post:=by
 intro ro M0 S0 w0 ρ a w wB hs cX Q hQ;exact wpIn_exit (hQ (.ext id) _ T m ds ρ a w h hs (gL.refl m ρ) rfl)
theorem eU.ret(h:Post .ret T m ds):eU P rd n .ret T m ds Post:=by
 intro ro M0 S0 w0 ρ a w wB hs cX Q hQ;exact wpIn_ret (hQ .ret _ T m ds ρ a w h hs (gL.refl m ρ) rfl)
theorem BX{ex:Ex}{e:Exit}(h:ex.Den w M m ρ e):(ex.MQ=true->ex=.nm/\e=.normal)/\(ex.MQ=false->e≠.normal):=by
 cases ex with
 |nm=>exact⟨λ_=>⟨rfl,h⟩,λq=>by cases q⟩
 |ext id=>exact⟨λq=>(by cases q),λ_=>by rw[h];simp⟩
 |ret=>exact⟨λq=>(by cases q),λ_=>by rw[h];simp⟩
 |sE a=>exact⟨λq=>(by cases q),λ_=>by obtain⟨y,h,_⟩:=h;rw[h];simp⟩
theorem eU.seq{x y:Code}{Post1:qU}(h:eU P rd n x T m ds Post1)(h1:∀T' m' ds',Post1 .nm T' m' ds'->eU P rd n y T' m' ds' Post)(h2:∀ex T' m' ds',ex.MQ=false->Post1 ex T' m' ds'->Post ex T' m' ds'):eU P rd n (.seq x y) T m ds Post:=by
 intro ro M0 S0 w0 ρ a w wB hs cX Q hQ;refine wpIn_seq (h ro M0 S0 w0 ρ a w wB hs cX _ ?_);intro ex e T' m' ds' ρ' a' w' hp h' hO hd;cases hx:ex.MQ with
 |true=>
  obtain⟨rfl,rfl⟩:=(BX hd).1 hx;exact h1 T' m' ds' hp ro M0 S0 w0 ρ' a' w' wB h' cX Q λex e T2 m2 ds2 ρ2 a2 w2 q s o=>hQ ex e T2 m2 ds2 ρ2 a2 w2 q s (hO.trans o)
 |false=>
  have hZ:=(BX hd).2 hx;have:=hQ ex e T' m' ds' ρ' a' w' (h2 ex T' m' ds' hx hp) h' hO hd;cases e<;>first|exact this|exact absurd rfl hZ
theorem eU.cond{c:Operand}{x y:Code}{b:Bool}(hc:dN T c=.d (.v (.bool b)))(h:eU P rd n (if b then x else y) T m ds Post):eU P rd n (.cond c x y) T m ds Post:=by
 intro ro M0 S0 w0 ρ a w wB hs cX Q hQ;have hd:=cU hs c;rw[hc]at hd;simp only[A.Den,C.Den]at hd;exact wpIn_cond hd (h ro M0 S0 w0 ρ a w wB hs cX Q hQ)
def u6(id:Nat):Ex->Ex
 |.ext i=>if i=id then .nm else .ext i
 |e=>e
theorem eU.block{id:Nat}{c:Code}{Post1:qU}(h:eU P rd n c T m ds Post1)(h1:∀ex T' m' ds',Post1 ex T' m' ds'->Post (u6 id ex) T' m' ds'):eU P rd n (.block id c) T m ds Post:=by
 intro ro M0 S0 w0 ρ a w wB hs cX Q hQ;refine wpIn_block (h ro M0 S0 w0 ρ a w wB hs cX _ ?_);intro ex e T' m' ds' ρ' a' w' hp h' hO hd;have:=λe=>hQ _ e T' m' ds' ρ' a' w' (h1 ex T' m' ds' hp) h' hO;cases ex with
 |ext id'=>
  simp only[Ex.Den]at hd;subst hd;simp only[Exit.inBlock,u6]at this⊢;by_cases e:id'=id
  ·simp only[e,if_true]at this⊢;exact this _ rfl
  ·simp only[e,if_false]at this⊢;exact this _ rfl
 |nm=>simp only[Ex.Den]at hd;subst hd;exact this _ rfl
 |ret=>simp only[Ex.Den]at hd;subst hd;exact this _ rfl
 |sE v=>obtain⟨y,rfl,hy⟩:=hd;exact this _ ⟨y,rfl,hy⟩
def BT(P:Program)(rd:Bool)(n:Nat)(c:Code)(Post:qU):Nat->(Nat->A)->Mem->List DA->Prop
 |0,_,_,_=>False
 |k+1,T,m,ds=>∃Post1,eU P rd n c T m ds Post1/\(∀T' m' ds',Post1 .nm T' m' ds'->BT P rd n c Post k T' m' ds')/\∀ex T' m' ds',ex.MQ=false->Post1 ex T' m' ds'->Post ex T' m' ds'
theorem wpIn_loop_ghost{F:Fence}{Q:Exit->Act->World->Prop}(I:Nat->Act->World->Prop)(k:Nat)(h0:I k a w)
 (round:∀j a w,I j a w->c.wpIn F n P (Exit.then (λa' w'=>∃i,i<j/\I i a' w') Q) a w):(Code.loop c).wpIn F n P Q a w:=by
 intro b kk cs wB hb hr;have key:∀j a w,I j a w->
  ∃e a' w',Q e a' w'/\ArrivesIn (Machine.fenced P F) P (lone (b.atR a (.code c::.inLoop c::kk)) cs w) b kk cs e a' w':=by
  intro j;induction j using Nat.strongRecOn with
  |_ j ih=>
   intro a w hI;obtain⟨e,a₁,w₁,hq,aWS⟩:=round j a w hI b (.inLoop c::kk) cs wB hb hr;cases e with
   |normal=>
    obtain⟨i,cX,hI₁⟩:=hq;obtain⟨e₂,a₂,w₂,hq₂,aYT⟩:=ih i cX a₁ w₁ hI₁;exact⟨e₂,a₂,w₂,hq₂,.of_steps (StepsIn.trans aWS (.one (fenced_calm hb hr rfl) stepR_inLoop)) aYT⟩
   |exit id=>exact⟨_,a₁,w₁,hq,.pass (x:=.inLoop c) rfl (λ_ _=>.inl sM) aWS⟩
   |goto l=>exact⟨_,a₁,w₁,hq,.pass (x:=.inLoop c) rfl (λ_ _=>.inl sM) aWS⟩
   |ret=>exact⟨_,a₁,w₁,hq,.pass (x:=.inLoop c) rfl (λ_ _=>.inl sM) aWS⟩
   |panic ch=>exact⟨_,a₁,w₁,hq,.pass (x:=.inLoop c) rfl (λ_ _=>.inl sM) aWS⟩
   |outgrown=>exact⟨_,a₁,w₁,hq,.pass (x:=.inLoop c) rfl (λ_ _=>.inl sM) aWS⟩
 obtain⟨e,a',w',hq,aWS⟩:=key k a w h0;exact⟨e,a',w',hq,.of_steps (.one (fenced_calm hb hr rfl) stepR_loop) aWS⟩
theorem eU.loop{c:Code}{k:Nat}(h:BT P rd n c Post k T m ds):eU P rd n (.loop c) T m ds Post:=by
 intro ro M0 S0 w0 ρ a w wB hs cX Q hQ;refine wpIn_loop_ghost (λj a' w'=>∃T' m' ds' ρ',BT P rd n c Post j T' m' ds'/\bC M0 S0 w0 ⟨n,some ds'⟩ T' m' ρ' a' w'/\gL m m' ρ ρ') k ⟨T,m,ds,ρ,h,hs,gL.refl m ρ⟩ ?_;rintro j a' w' ⟨T',m',ds',ρ',hL,hs',hO⟩;cases j with
 |zero=>exact hL.elim
 |succ j=>
  obtain⟨Post1,h1,h2,h3⟩:=hL;refine h1 ro M0 S0 w0 ρ' a' w' wB hs' cX _ ?_;intro ex e T2 m2 ds2 ρ2 a2 w2 hp h' hO2 hd;cases hx:ex.MQ with
  |true=>
   obtain⟨rfl,rfl⟩:=(BX hd).1 hx;exact⟨j,Nat.lt_succ_self j,T2,m2,ds2,ρ2,h2 T2 m2 ds2 hp,h',hO.trans hO2⟩
  |false=>
   have hZ:=(BX hd).2 hx;have:=hQ ex e T2 m2 ds2 ρ2 a2 w2 (h3 ex T2 m2 ds2 hx hp) h' (hO.trans hO2) hd;cases e<;>first|exact this|exact absurd rfl hZ
def OpD(P:Program)(o:Oper)(T:Nat->A)(m:Mem)(da:DA):Prop:=
 ∀(N:Fr)(M0 S0:Nat->Prop)(w0:World)(ρ:Nat->Value)(a:Act)(w:World),bC M0 S0 w0 N T m ρ a w->∃d,(execOp a.eval o).run P w=.ok (.defer d) w/\iM w (dD M0 m ρ) m ρ [da] [d]
theorem O9{da:DA}{d:Deferred}{l:List DA}{ds:List Deferred}(h:iM w M m ρ [da] [d])(hl:iM w M m ρ l ds):iM w M m ρ (da::l) (d::ds):=by
 cases da with
 |call f as cs=>
  obtain⟨vs,us,rest,e,h1,h2,h3⟩:=h;simp only[iM]at h3;subst h3;simp only[iX,and_true]at e;subst e;exact⟨vs,us,ds,rfl,h1,h2,hl⟩
 |bi b tys ty cs as=>
  obtain⟨vs,rest,e,h1,h3⟩:=h;simp only[iM]at h3;subst h3;simp only[iX,and_true]at e;subst e;exact⟨vs,ds,rfl,h1,hl⟩
 |s4 i=>
  obtain⟨D,rest,e,h1,h3⟩:=h;simp only[iM]at h3;subst h3;simp only[iX,and_true]at e;subst e;exact⟨D,ds,rfl,h1,hl⟩
 |SK d=>
  obtain⟨rest,e,h3⟩:=h;simp only[iM]at h3;subst h3;simp only[iX,and_true]at e;subst e;exact⟨ds,rfl,hl⟩
def wO(P:Program)(rd:Bool)(n:Nat)(ops:Array Oper)(Post:qU):List Nat->(Nat->A)->Mem->List DA->Prop
 |[],T,m,ds=>Post .nm T m ds
 |i::r,T,m,ds=>match ops[i]? with
  |none=>wO P rd n ops Post r T m ds
  |some o=>(∀d,o.dst=some d->d<n)/\match kO ops T o with
   |some true=>(∃outs:List Ot,o8 P o T m outs/\∀u∈outs,(∀v,u.1=.ok v->wO P rd n ops Post r (lI T o.dst v) (aH m u.2) ds)/\∀v,u.1=.sE v->Post (.sE v) T (aH m u.2) ds)\/
    (rd=false/\∃da,OpD P o T m da/\wO P rd n ops Post r (lI T o.dst (.eL [])) m (da::ds))
   |some false=>wO P rd n ops Post r (lI T o.dst (.eL [])) m ds
   |none=>False
theorem bC.defer{M0 S0:Nat->Prop}{w0:World}(h:bC M0 S0 w0 ⟨n,some ds⟩ T m ρ a w){da:DA}{d:Deferred}(hd:iM w (dD M0 m ρ) m ρ [da] [d]):bC M0 S0 w0 ⟨n,some (da::ds)⟩ T m ρ {a with defers:=d::a.defers} w:=
 {keeps:=h.keeps,size:=h.size,defers:=λds' e=>by simp only[aA]at e;subst e;exact O9 hd (h.defers ds rfl),tmps:=h.tmps,res:=h.res,own:=h.own,apart:=h.apart}
theorem KX{ops:Array Oper}{ro:Option Nat}(wB:ro.isSome=rd){M0 S0:Nat->Prop}{w0:World}(cX:∀b,M0 b->b<w0.heap.size){Q:Exit->Act->World->Prop}{m0:Mem}{ρ0:Nat->Value}
 (hQ:∀ex e T' m' ds' ρ' a' w',Post ex T' m' ds'->bC M0 S0 w0 ⟨n,some ds'⟩ T' m' ρ' a' w'->gL m0 m' ρ0 ρ'->ex.Den w' (dD M0 m' ρ') m' ρ' e->Q e a' w'):
 ∀(l:List Nat)(T:Nat->A)(m:Mem)(ds:List DA)(ρ:Nat->Value)(a:Act)(w:World),wO P rd n ops Post l T m ds->bC M0 S0 w0 ⟨n,some ds⟩ T m ρ a w->gL m0 m ρ0 ρ->wpOpsIn (FW ro) 0 P ops Q l a w
 |[],T,m,ds,ρ,a,w,h,hs,hO=>hQ .nm _ T m ds ρ a w h hs hO rfl
 |i::r,T,m,ds,ρ,a,w,h,hs,hO=>by
  simp only[wO]at h;simp only[wpOpsIn];cases ho:ops[i]? with
  |none=>rw[ho]at h;exact KX wB cX hQ r T m ds ρ a w h hs hO
  |some o=>
   rw[ho]at h;obtain⟨hd,h⟩:=h;cases hw:kO ops T o with
   |none=>rw[hw]at h;exact h.elim
   |some b=>
    rw[hw]at h;simp only[L8 hs hw];cases b with
    |true=>
     simp only[if_true];rcases h with⟨outs,h1,h2⟩|⟨hrd,da,h1,h2⟩
     ·refine h1 ro ⟨n,some ds⟩ M0 S0 w0 ρ a w hs cX _ Q ?_;intro u y w' ρ' hu hs' hO';refine⟨λv e hv=>?_,λv e hv=>?_⟩
      ·exact KX wB cX hQ r _ _ ds ρ' _ w' ((h2 u hu).1 v e) (hs'.put _ (λd e=>hd d e) hv) (hO.trans hO')
      ·exact hQ (.sE v) _ _ _ ds ρ' _ w' ((h2 u hu).2 v e) hs' (hO.trans hO') ⟨y,rfl,hv⟩
     ·obtain⟨d,hr,aWJ⟩:=h1 _ M0 S0 w0 ρ a w hs;have a05:ro=none:=by cases ro with
       |none=>rfl
       |some _=>rw[hrd]at wB;cases wB
      subst a05;refine⟨λ_ _=>trivial,?_⟩;rw[show(FW none).round=none from rfl,Oper.semAt_none,hr,Oper.uponIn_defer];exact KX wB cX hQ r _ m _ ρ _ w h2 ((hs.defer aWJ).put _ (λd e=>hd d e) (by simp only[A.Den];exact⟨#[],rfl,rfl⟩)) hO
    |false=>
     simp only[bY,if_false];exact⟨λ_ _=>trivial,KX wB cX hQ r _ m ds ρ _ w h (hs.put _ (λd e=>hd d e) (by simp only[A.Den];exact⟨#[],rfl,rfl⟩)) hO⟩
theorem eU.region{id:Nat}{ops:Array Oper}(h:wO P rd n ops Post (List.range ops.size) T m ds):eU P rd n (.region id ops false) T m ds Post:=by
 intro ro M0 S0 w0 ρ a w wB hs cX Q hQ;exact wpIn_region (KX wB cX hQ _ T m ds ρ a w h hs (gL.refl m ρ))
theorem eU.draw{ops:Array Oper}{recs:List Rec}{anc:Nat->Nat->Bool}{F:Nat->Nat->Prop}{Rq:Nat->Mem->Prop}(hm:P.follows .mixedOrders=true)(mS:RL P ops recs anc F Rq n T m)(h:Post .nm (mK T recs) (kZ m recs) ds):eU P rd n (.region id ops true) T m ds Post:=by
 intro ro M0 S0 w0 ρ a w wB hs cX Q hQ;exact T5 (N:=⟨n,some ds⟩) hm mS cX hs λa' w' ρ' h' hO=>hQ .nm _ _ _ ds ρ' a' w' h h' hO rfl
end
def sY(P:Program)(fn:Func)(tmps:Array Value)(R:Ending->World->Prop):List Deferred->FrameMode->World->Prop
 |[],.returning,w=>∃v,(results fn tmps).run P w=.ok v w/\R (.returned v) w
 |[],.panicking chain,w=>R (.panicked chain) w
 |[],.run,_=>False
 |d::ds,u,w=>u≠.run/\
   ((∃r w',d.target=.collected r/\(Instr.takeDeferred r).run P w=.ok [] w'/\sY P fn tmps R ds u w')\/
    (∃fv cap f args,d.target=.fn fv cap/\(invoke d.target d.args).run P w=.ok (.enter f args) w/\
     CallsD P f args u w λ
      |.returned _,u',w'=>sY P fn tmps R ds (settle u') w'
      |.panicked chain,u',w'=>sY P fn tmps R ds (raised u' chain) w'
      |.outgrown,_,w'=>R .outgrown w')\/
    (∃b tys ty cs v w',d.target=.builtin b tys ty cs/\(invoke d.target d.args).run P w=.ok (.value v) w'/\sY P fn tmps R ds u w'))
theorem aFT{fr:Frame}{cs:List Frame}{w':World}{d:Deferred}{ds:List Deferred}{b:Builtin}{tys:Array TypeId}{ty:TypeId}{bs:Array Bool}{v:Value}
 (hm:fr.mode≠.run)(hd:fr.defers=d::ds)(ht:d.target=.builtin b tys ty bs)(hk:(invoke d.target d.args).run P w=.ok (.value v) w'):
 step P (lone fr cs w)=.next (lone {fr with defers:=ds} cs w'):=by
 obtain⟨t,a⟩:=d;simp only at ht hk;subst ht;refine step_lone_go ?_;cases aYG:fr.mode with
 |run=>exact absurd aYG hm
 |returning=>simp[stepG,unwind,callDeferred,aYG,hd,hk]
 |panicking chain=>simp[stepG,unwind,callDeferred,aYG,hd,hk]
theorem WX{fr:Frame}{cs:List Frame}{w':World}{d:Deferred}{r:Nat}{ds:List Deferred}
 (hm:fr.mode≠.run)(hd:fr.defers=d::ds)(ht:d.target=.collected r)(hk:(Instr.takeDeferred r).run P w=.ok [] w'):
 step P (lone fr cs w)=.next (lone {fr with defers:=ds} cs w'):=by
 obtain⟨t,a⟩:=d;simp only at ht;subst ht;refine step_lone_go ?_;cases aYG:fr.mode with
 |run=>exact absurd aYG hm
 |returning=>simp[stepG,unwind,aYG,hd,Sem.runT_eq,hk,rO]
 |panicking chain=>simp[stepG,unwind,aYG,hd,Sem.runT_eq,hk,rO]
theorem lE{P:Program}{fn:Func}{tmps:Array Value}{R:Ending->World->Prop}:∀(ds:List Deferred)(u:FrameMode)(w:World)(fr:Frame)(cs:List Frame),
 fr.mode=u->fr.defers=ds->fr.tmps=tmps->P.funcs[fr.fn]?=some fn->fr.kind=.normal->sY P fn tmps R ds u w->
 ∃e w' fr',R e w'/\Comes P (lone fr cs w) (lone fr' cs w') e/\fr'.fn=fr.fn/\fr'.leaving P w' e
 |[],u,w,fr,cs,hu,hd,ht,hf,hk,h=>by
  cases u with
  |run=>exact h.elim
  |returning=>
   obtain⟨v,hr,hR⟩:=h;exact⟨.returned v,w,fr,hR,Steps.refl _ _,rfl,hu,hd,hk,fn,hf,ht▸hr⟩
  |panicking chain=>exact⟨.panicked chain,w,fr,h,Steps.refl _ _,rfl,hu,hd,fn,hf⟩
 |d::ds,u,w,fr,cs,hu,hd,ht,hf,hk,h=>by
  obtain⟨aVL,h⟩:=h;rcases h with⟨r,w',aZ3,aX3,aZZ⟩|⟨fv,cap,f,args,aZ3,hinv,aVN⟩|⟨b,tys,ty,bs,v,w',aZ3,hinv,aZZ⟩
  rotate_left 2
  ·have h1:=aFT (cs:=cs) (hu▸aVL) hd aZ3 hinv;obtain⟨e',w'',fr',hR',hs',aY1,qK⟩:=lE ds u w' {fr with defers:=ds} cs hu rfl ht hf hk aZZ;exact⟨e',w'',fr',hR',lW (.one h1) hs',aY1,qK⟩
  ·have h1:=WX (cs:=cs) (hu▸aVL) hd aZ3 aX3;obtain⟨e',w'',fr',hR',hs',aY1,qK⟩:=lE ds u w' {fr with defers:=ds} cs hu rfl ht hf hk aZZ;exact⟨e',w'',fr',hR',lW (.one h1) hs',aY1,qK⟩
  ·have h1:=step_defer (cs:=cs) (hu▸aVL) hd aZ3 hinv;obtain⟨e,u',w',frX,hR,aX7,hkX,hgo⟩:=aVN {fr with defers:=ds} cs hu;cases e with
   |outgrown=>exact⟨.outgrown,w',fr,hR,Outgrown.of_steps (.one h1) aX7,rfl,tV⟩
   |returned v=>
    have h2:=step_going_returned (c:={{fr with defers:=ds}with mode:=u'}) (cs:=cs) hkX hgo;obtain⟨e',w'',fr',hR',hs',aY1,qK⟩:=lE ds (settle u') w' {{{fr with defers:=ds}with mode:=u'}with mode:=settle u'} cs rfl rfl ht hf hk hR;exact⟨e',w'',fr',hR',lW (.head h1 (n7 aX7 (.one h2))) hs',aY1,qK⟩
   |panicked chain=>
    have h2:=step_going_panicked (c:={{fr with defers:=ds}with mode:=u'}) (cs:=cs) hgo;obtain⟨e',w'',fr',hR',hs',aY1,qK⟩:=lE ds (raised u' chain) w' {{{fr with defers:=ds}with mode:=u'}with mode:=raised u' chain} cs rfl rfl ht hf hk hR;exact⟨e',w'',fr',hR',lW (.head h1 (n7 aX7 (.one h2))) hs',aY1,qK⟩
def aLP(P:Program)(fn:Func)(R:Ending->World->Prop):Exit->Act->World->Prop
 |.normal,a,w|.ret,a,w=>sY P fn a.tmps R a.defers .returning w
 |.panic chain,a,w=>sY P fn a.tmps R a.defers (.panicking chain) w
 |_,_,_=>False
theorem DE{f:FuncId}{fn:Func}{args:Array Value}{R:Ending->World->Prop}(hf:P.funcs[f]?=some fn)(hb:fn.body=some c)
 (h:c.wpIn (FW none) 0 P (aLP P fn R) {tmps:=args++Array.replicate (fn.ntmps -args.size) undef,defers:=[]} w):Calls P f args w R:=by
 have h:=wpIn_wide.1 h;intro cs;let b:Frame:={(default:Frame)with fn:=f,kind:=.normal};have aYP:Frame.enter P f args .normal=b.at {tmps:=args++Array.replicate (fn.ntmps -args.size) undef,defers:=[]} [.code c]:=by
  simp[Frame.enter,Frame.at,hf,hb,b]
 obtain⟨e,a',w',hq,aWS⟩:=h b [] cs;rw[<-aYP]at aWS;cases e with
 |normal=>
  obtain⟨e',w'',fr',hR,hs,hfn,hl⟩:=lE a'.defers .returning w' {b.at a' []with mode:=.returning} cs rfl rfl rfl hf rfl hq;exact⟨e',w'',fr',hR,lW (n7 aWS (.one step_end)) hs,hfn,hl⟩
 |ret=>
  obtain⟨todo,hs₀⟩:=aWS;obtain⟨e',w'',fr',hR,hs,hfn,hl⟩:=lE a'.defers .returning w' {b.at a' todo with mode:=.returning} cs rfl rfl rfl hf rfl hq;exact⟨e',w'',fr',hR,lW hs₀ hs,hfn,hl⟩
 |panic chain=>
  obtain⟨todo,hs₀⟩:=aWS;obtain⟨e',w'',fr',hR,hs,hfn,hl⟩:=lE a'.defers (.panicking chain) w' {b.at a' todo with mode:=.panicking chain} cs rfl rfl rfl hf rfl hq;exact⟨e',w'',fr',hR,lW hs₀ hs,hfn,hl⟩
 |exit id=>exact hq.elim
 |goto l=>exact hq.elim
 |outgrown=>exact hq.elim
theorem bC.cut{M0 S0:Nat->Prop}{w0:World}{N:Fr}{m3:Mem}{ρ':Nat->Value}{w':World}(hs:bC M0 S0 w0 N T m ρ a w)(h1:bC M0 S0 w0 N T m3 ρ' a w')(hO:gL m m3 ρ ρ')
 {u:List (Nat×R)}{v:A}{y:Value}(aVM:∀i r,aH m u i=some r->m3 i=some r)(hv:∀i∈v.hs,aH m u i≠none)(hc:∀p∈u,∀j∈p.2.hs,aH m u j≠none)(aWJ:v.Den w' (dD M0 m3 ρ') m3 ρ' y):
 bC M0 S0 w0 N T (aH m u) ρ' a w'/\gL m (aH m u) ρ ρ'/\v.Den w' (dD M0 (aH m u) ρ') (aH m u) ρ' y:=by
 have aZ9:∀i,m i≠none->aH m u i≠none:=λi hi=>tH hi
 have h2:=h1.drop aVM (λn i hi=>aZ9 i (A.wC _ _ (hs.tmps n) i hi)) (λds e d hd i hi=>aZ9 i (zQ (hs.defers ds e) d hd i hi)) (λi r hi j hj=>by
  rcases C8 hi with q|q
  · exact hc _ q j hj
  · exact aZ9 j (R.wC (hs.res i r q) j hj))
 refine⟨h2,?_,?_⟩
 ·intro i hi;have hZ:=aZ9 i hi;cases hq:aH m u i with
  |none=>exact absurd hq hZ
  |some r=>
   have:=hO i hi;rw[aVM i r hq]at this;exact⟨sM,this.2⟩
 ·have Q2:∀b,dD M0 (aH m u) ρ' b->b<w'.heap.size->dD M0 m3 ρ' b:=by
   rintro b (e|⟨i,r,g1,g2,g3⟩) _
   ·exact .inl e
   ·exact .inr ⟨i,r,aVM i r g1,g2,g3⟩
  exact A.dC (dV.refl _ w') Q2 (gL.refl _ ρ') _ _ (A.kU aVM _ _ hv aWJ)
theorem bC.take{M0 S0:Nat->Prop}{w0:World}{ds:List DA}{i:Nat}(h:bC M0 S0 w0 ⟨n,some (.s4 i::ds)⟩ T m ρ a w)(hi:m i=some (.df false)):
 ∃D dr w',a.defers={target:=.collected D,args:= #[]}::dr/\(Instr.takeDeferred D).run P w=.ok [] w'/\bC M0 S0 w0 ⟨n,some ds⟩ T (aX m i (.df true)) ρ {a with defers:=dr} w'/\gL m (aX m i (.df true)) ρ ρ:=by
 obtain⟨D,dr,e,hh,hr⟩:=h.defers _ rfl;have hρ:=eH hh hi sM;obtain⟨b,hb,hw⟩:=h.res i _ hi;rw[hρ]at hb;simp only[oN,aA,rX,and_true]at hb;subst hb;simp only[bY,if_false]at hw;refine⟨D,dr,w.gW D (.deferred none),e,?_,?_,?_⟩
 ·have e1:(getObj D).run P w=.ok (.deferred (some [])) w:=by simp[getObj,hw,Sem.run]
  unfold Instr.takeDeferred;simp only[aV,e1,aN];rw[uN hw (by intro c e f h;cases h)];simp[aN]
 ·have h':bC M0 S0 w0 ⟨n,some ds⟩ T m ρ {a with defers:=dr} w:=
   {keeps:=h.keeps,size:=h.size,defers:=λds' e'=>by simp only[aA]at e';subst e';exact hr,tmps:=h.tmps,res:=h.res,own:=h.own,apart:=h.apart}
  refine h'.write hi rfl rfl (λfz t es l e=>by cases e) (mJ w D _) (λb _ e=>by subst e;rw[hρ];rfl) ?_;intro _ _ _;exact⟨D,hρ,by simpa using tS hw⟩
 ·exact gL.set (m:=m) (ρ:=ρ) i (.df true) (ρ i) (λ_ _=>⟨by rw[hi];simp,rfl,λfz t es l e=>by rw[hi]at e;cases e⟩)|>λq=>by rwa [jP]at q
mutual
theorem A.lU{f g:Nat->Nat}:∀(a:A),(∀i∈a.hs,f i=g i)->a.eZ f=a.eZ g
 |.d c,_=>rfl
 |.lp i o,hh=>by simp only[A.eZ];rw[hh i (by simp[A.hs])]
 |.h i,hh=>by simp only[A.eZ];rw[hh i (by simp[A.hs])]
 |.ep i e k o,hh=>by simp only[A.eZ];rw[hh i (by simp[A.hs])]
 |.sv i l n,hh=>by simp only[A.eZ];rw[hh i (by simp[A.hs])]
 |.fn f' u v,hh=>by
  simp only[A.hs,bN]at hh;simp only[A.eZ];rw[A.mL u λi hi=>hh i (.inl hi),A.mL v λi hi=>hh i (.inr hi)]
 |.agg l,hh=>by simp only[A.hs]at hh;simp only[A.eZ];rw[A.mL l hh]
 |.eL l,hh=>by simp only[A.hs]at hh;simp only[A.eZ];rw[A.mL l hh]
 |.AE t a,hh=>by simp only[A.hs]at hh;simp only[A.eZ];rw[A.lU a hh]
 |.x,_=>rfl
theorem A.mL{f g:Nat->Nat}:∀(l:List A),(∀i∈A.lQ l,f i=g i)->A.iV f l=A.iV g l
 |[],_=>rfl
 |c::r,hh=>by
  simp only[A.lQ,bN]at hh;simp only[A.iV];rw[A.lU c λi hi=>hh i (.inl hi),A.mL r λi hi=>hh i (.inr hi)]
end
mutual
theorem A.uS:∀(a:A),a.eZ (λi=>i)=a
 |.d c=>rfl
 |.lp i o=>rfl
 |A.h i=>rfl
 |.ep i e k o=>rfl
 |.sv i l n=>rfl
 |.fn f u v=>by simp only[A.eZ];rw[A.tE u,A.tE v]
 |.agg l=>by simp only[A.eZ];rw[A.tE l]
 |.eL l=>by simp only[A.eZ];rw[A.tE l]
 |.AE t a=>by simp only[A.eZ];rw[A.uS a]
 |.x=>rfl
theorem A.tE:∀(l:List A),A.iV (λi=>i) l=l
 |[]=>rfl
 |c::r=>by simp only[A.iV];rw[A.uS c,A.tE r]
end
mutual
theorem A.AD(g:Nat->Nat):∀(a:A),(a.eZ g).hs=a.hs.map g
 |.d c=>rfl
 |.lp i o=>rfl
 |.h i=>rfl
 |.ep i e k o=>rfl
 |.sv i l n=>rfl
 |.fn f u v=>by simp only[A.eZ,A.hs,A.qL g u,A.qL g v,bP]
 |.agg l=>by simp only[A.eZ,A.hs,A.qL g l]
 |.eL l=>by simp only[A.eZ,A.hs,A.qL g l]
 |.AE t a=>by simp only[A.eZ,A.hs,A.AD g a]
 |.x=>rfl
theorem A.qL(g:Nat->Nat):∀(l:List A),A.lQ (A.iV g l)=(A.lQ l).map g
 |[]=>rfl
 |c::r=>by simp only[A.iV,A.lQ,A.AD g c,A.qL g r,bP]
end
theorem YD:∀(a b:List A),A.lQ (a++b)=A.lQ a++A.lQ b
 |[],b=>rfl
 |c::r,b=>by simp[A.lQ,YD r b]
theorem uR{f g:Nat->Nat}:∀(l:List (List A)),(∀i∈A.lQ l.flatten,f i=g i)->l.map (A.iV f)=l.map (A.iV g)
 |[],_=>rfl
 |e::r,h=>by
  simp only[dL,YD,bN]at h;simp only[aG];rw[A.mL e λi hi=>h i (.inl hi),uR r λi hi=>h i (.inr hi)]
theorem D7{f g:Nat->Nat}:∀(l:List (Ky×A)),(∀i∈A.lQ (l.map (·.2)),f i=g i)->(l.map λp=>(p.1,p.2.eZ f))=l.map λp=>(p.1,p.2.eZ g)
 |[],_=>rfl
 |e::r,h=>by
  simp only[aG,A.lQ,bN]at h;simp only[aG];rw[A.lU e.2 λi hi=>h i (.inl hi),D7 r λi hi=>h i (.inr hi)]
def R.aKG:R->Bool
 |.it _ _ _ _=>false
 |_=>true
theorem R.lU{f g:Nat->Nat}(r:R)(hn:r.aKG=true)(h:∀i∈r.hs,f i=g i):r.eZ f=r.eZ g:=by
 cases r with
 |cells fz l=>simp only[R.eZ];rw[A.mL l (by simpa only[R.hs]using h)]
 |fW fz t es l=>simp only[R.eZ];rw[uR l (by simpa only[R.hs]using h)]
 |mp fz kv st=>
  simp only[R.hs,bN]at h;simp only[R.eZ];rw[D7 kv λi hi=>h i (.inl hi)];congr 1;exact cQ λp hp=>by rw[h p.2 (.inr (aA4.2 ⟨p,hp,rfl⟩))]
 |fr l=>simp only[R.eZ];rw[A.mL l (by simpa only[R.hs]using h)]
 |it i sc a b=>cases hn
 |lo st pend ts ps asg bod=>simp only[R.eZ];rw[A.mL ts (by simpa only[R.hs]using h)]
 |cu src es l=>
  simp only[R.hs,bN]at h;simp only[R.eZ];rw[A.lU src λi hi=>h i (.inl hi),uR l λi hi=>h i (.inr hi)]
 |_=>rfl
theorem AO:∀(l:List (List A)),l.map (A.iV λi=>i)=l
 |[]=>rfl
 |e::r=>by simp only[aG];rw[A.tE,AO r]
theorem R.uS(r:R):r.eZ (λi=>i)=r:=by
 cases r with
 |cells fz l=>simp only[R.eZ];rw[A.tE]
 |fW fz t es l=>simp only[R.eZ];rw[AO]
 |mp fz kv st=>
  simp only[R.eZ];congr 1
  ·conv=>rhs;rw[<-List.map_id kv]
   exact cQ λp _=>by rw[A.uS];rfl
  ·conv=>rhs;rw[<-List.map_id st]
   exact cQ λp _=>rfl
 |fr l=>simp only[R.eZ];rw[A.tE]
 |it i sc a b=>simp only[R.eZ,List.map_id']
 |lo st pend ts ps asg bod=>simp only[R.eZ];rw[A.tE]
 |cu src es l=>simp only[R.eZ];rw[A.uS,AO]
 |_=>rfl
theorem R.AD(g:Nat->Nat)(r:R):(r.eZ g).hs=r.hs.map g:=by
 have e1:∀l:List (List A),A.lQ (l.map (A.iV g)).flatten=(A.lQ l.flatten).map g:=λl=>by rw[tD,A.qL]
 cases r with
 |cells fz l=>simp only[R.eZ,R.hs,A.qL]
 |fW fz t es l=>simp only[R.eZ,R.hs,e1]
 |mp fz kv st=>
  simp only[R.eZ,R.hs,bP];congr 1
  ·rw[<-A.qL,K7,bH,bH];rfl
  ·rw[bH,bH];rfl
 |fr l=>simp only[R.eZ,R.hs,A.qL]
 |it i sc a b=>simp only[R.eZ,R.hs,aG]
 |lo st pend ts ps asg bod=>simp only[R.eZ,R.hs,A.qL]
 |cu src es l=>simp only[R.eZ,R.hs,A.AD,e1,bP]
 |_=>rfl
def Rt.eZ(g:Nat->Nat):Rt->Rt
 |.ok a=>.ok (a.eZ g)
 |.sE a=>.sE (a.eZ g)
theorem Rt.uS(r:Rt):r.eZ (λi=>i)=r:=by cases r<;>simp only[Rt.eZ,A.uS]
theorem Rt.AD(g:Nat->Nat)(r:Rt):(r.eZ g).hs=r.hs.map g:=by cases r<;>simp only[Rt.eZ,Rt.hs,A.AD]
theorem Rt.lU{f g:Nat->Nat}(r:Rt)(h:∀i∈r.hs,f i=g i):r.eZ f=r.eZ g:=by
 cases r<;>simp only[Rt.eZ]<;>rw[A.lU _ h]
def nK(g gi:Nat->Nat)(m:Mem):Mem:=λi=>(m (gi i)).map (R.eZ g)
def RM(m mf:Mem)(r0:Rt)(m':Mem)(r:Rt):Prop:=
 ∃g gi:Nat->Nat,(∀i,gi (g i)=i)/\(∀i,g (gi i)=i)/\(∀i,m i≠none->g i=i)/\r=r0.eZ g/\∀i q,m' i=some q->(∃q0,mf (gi i)=some q0/\q=q0.eZ g)\/(m i=some q/\mf i=some q)
theorem RM.refl{mf m':Mem}{r:Rt}(h:∀i q,m' i=some q->mf i=some q):RM m mf r m' r:=
 ⟨λi=>i,λi=>i,λ_=>rfl,λ_=>rfl,λ_ _=>rfl,(Rt.uS r).symm,λi q hq=>.inl ⟨q,h i q hq,(R.uS q).symm⟩⟩
section
variable{M0 S0:Nat->Prop}{w0:World}{n:Nat}{ds:List DA}{T:Nat->A}{m mf:Mem}{ρ ρ':Nat->Value}{a:Act}{w:World}
theorem aA2{gi:Nat->Nat}(h1:∀i,gi (g i)=i)(m:Mem)(ρ:Nat->Value):G2 g m (nK g gi m) ρ (λi=>ρ (gi i)):=by
 intro i hi;have e:nK g gi m (g i)=(m i).map (R.eZ g):=by unfold nK;rw[h1]
 cases hm:m i with
 |none=>exact absurd hm hi
 |some r=>
  rw[hm]at e;refine⟨by rw[e];simp,λhd=>⟨?_,by simp only[h1],?_⟩⟩
  ·rintro e2;simp only[aA]at e2;subst e2;exact hd (by rw[e];rfl)
  ·rintro fz t es l e2;simp only[aA]at e2;subst e2;exact⟨fz,t,l.map (A.iV g),by rw[e];rfl,sM⟩
theorem bC.eZ{N:Fr}(s:bC M0 S0 w0 N T mf ρ a w){g gi:Nat->Nat}(h1:∀i,gi (g i)=i)(h2:∀i,g (gi i)=i):
 bC M0 S0 w0 ⟨N.n,none⟩ (λ_=>.x) (nK g gi mf) (λi=>ρ (gi i)) a w/\∀(v:A)(y:Value),v.Den w (dD M0 mf ρ) mf ρ y->(v.eZ g).Den w (dD M0 (nK g gi mf) (λi=>ρ (gi i))) (nK g gi mf) (λi=>ρ (gi i)) y:=by
 have hO:=aA2 h1 mf ρ;have live:∀i r,nK g gi mf i=some r->∃r0,mf (gi i)=some r0/\r=r0.eZ g/\r.live=r0.live:=by
  intro i r hr;unfold nK at hr;simp only[bU]at hr;obtain⟨r0,e,rfl⟩:=hr;exact⟨r0,e,rfl,R.aEV g r0⟩
 have hM:∀b,dD M0 (nK g gi mf) (λi=>ρ (gi i)) b->b<w.heap.size->dD M0 mf ρ b:=by
  rintro b (e|⟨i,r,hi,hl,hb⟩) _
  ·exact .inl e
  ·obtain⟨r0,e1,e2,e3⟩:=live i r hi;exact .inr ⟨gi i,r0,e1,by rw[<-e3];exact hl,hb⟩
 have hg:∀i j,g i=g j->i=j:=λi j e=>by rw[<-h1 i,e,h1]
 refine⟨?_,λv y hd=>A.C6 (dV.refl _ w) hM hO v y hd⟩
 refine{keeps:=s.keeps,size:=s.size,defers:=(λ_ e=>by cases e),tmps:=λ_=>by simp[A.Den]
        res:=λi r hi=>?_,own:=λi r b hi hl hb=>?_,apart:=λi j r r' b hi hl hj qK hb hb'=>?_}
 ·obtain⟨r0,e1,rfl,_⟩:=live i r hi;exact R.aGI hg (dV.refl _ w) hM hO (λ_ _ _=>rfl) (s.res _ r0 e1)
 ·obtain⟨r0,e1,rfl,e3⟩:=live i r hi;exact s.own (gi i) r0 b e1 (by rw[<-e3];exact hl) hb
 ·obtain⟨r0,e1,rfl,e3⟩:=live i r hi;obtain⟨r1,f1,rfl,f3⟩:=live j r' hj;have:=s.apart (gi i) (gi j) r0 r1 b e1 (by rw[<-e3];exact hl) f1 (by rw[<-f3];exact qK) hb hb';rw[<-h2 i,this,h2]
theorem TR{gi:Nat->Nat}(h1:∀i,gi (g i)=i)(aYQ:∀i,m i≠none->g i=i)(hO:gL m mf ρ ρ'):gL m (nK g gi mf) ρ (λi=>ρ' (gi i)):=by
 intro i hi;have e:=aYQ i hi;have e2:gi i=i:=by have:=h1 i;rwa [e]at this
 obtain⟨k1,k2⟩:=hO i hi;cases hm:mf i with
 |none=>exact absurd hm k1
 |some r=>
  have er:nK g gi mf i=some (r.eZ g):=by unfold nK;rw[e2,hm];rfl
  refine⟨by rw[er];simp,λhd=>?_⟩;have y4:mf i≠some .dead:=by
   rw[hm];rintro e3;simp only[aA]at e3;subst e3;exact hd (by rw[er];rfl)
  obtain⟨k3,k4,k5⟩:=k2 y4;refine⟨k3,by simp only[e2,k4],λfz t es l e3=>?_⟩;obtain⟨fz',t',l',e4,e5⟩:=k5 fz t es l e3;rw[hm]at e4;simp only[aA]at e4;subst e4;exact⟨fz',t',l'.map (A.iV g),by rw[er];rfl,by simpa using e5⟩
end
theorem HB:∀(ps:List (Nat×Nat)),(ps.map (·.1)).Nodup->(ps.map (·.2)).Nodup->
 ∃g gi:Nat->Nat,(∀i,gi (g i)=i)/\(∀i,g (gi i)=i)/\(∀p∈ps,g p.1=p.2)/\∀i,i∉ps.map (·.1)->i∉ps.map (·.2)->g i=i
 |[],_,_=>⟨λi=>i,λi=>i,λ_=>rfl,λ_=>rfl,sM,λ_ _ _=>rfl⟩
 |p::r,h1,h2=>by
  simp only[aG,gR]at h1 h2;obtain⟨g,gi,k1,k2,k3,k4⟩:=HB r h1.2 h2.2;have inj:∀i j,g i=g j->i=j:=λi j e=>by rw[<-k1 i,e,k1]
  let sw:Nat->Nat:=λi=>if i=g p.1 then p.2 else if i=p.2 then g p.1 else i
  have sw2:∀i,sw (sw i)=i:=by
   intro i;simp only[sw];by_cases e1:i=g p.1
   ·subst e1;simp only[if_true];by_cases e2:p.2=g p.1
    ·rw[aUF e2,e2]
    ·rw[aT7 e2]
   ·rw[aT7 e1];by_cases e2:i=p.2
    ·rw[aUF e2,aUF rfl,e2]
    ·rw[aT7 e2,aT7 e1,aT7 e2]
  refine⟨λi=>sw (g i),λi=>gi (sw i),λi=>by simp only[sw2,k1],λi=>by simp only[k2,sw2],?_,?_⟩
  ·intro q hq;simp only[aO]at hq;rcases hq with rfl|hq
   ·simp[sw]
   ·have e1:g q.1≠g p.1:=λe=>h1.1 (by have:=inj _ _ e;rw[<-this];exact aA4.2 ⟨q,hq,rfl⟩);have e2:g q.1≠p.2:=by rw[k3 q hq];exact λe=>h2.1 (by rw[<-e];exact aA4.2 ⟨q,hq,rfl⟩)
    simp only[sw,aT7 e1,aT7 e2];exact k3 q hq
  ·intro i hi hj;simp only[aG,aO,not_or]at hi hj;have e:=k4 i hi.2 hj.2;have e1:g i≠g p.1:=λq=>hi.1 (inj _ _ q);simp only[sw,aT7 e1];rw[e,aT7 hj.1]
end Go.Pv
