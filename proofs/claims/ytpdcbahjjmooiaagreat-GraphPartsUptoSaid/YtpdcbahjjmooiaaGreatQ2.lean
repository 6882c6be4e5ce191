import Derived.Test.YtpdcbahjjmooiaaGreatQ1
import Derived.OrdersIn
import Derived.RecoverIn
import Derived.Orders
/- Contracts of functions that the law reaches, and their logic. No conditions. -/
set_option linter.all false
set_option maxRecDepth 100000
set_option maxHeartbeats 8000000
open Go
namespace Go.Pv
open Go.RowKit
variable{P:Program}{t:TypeId}{y:Value}{m m' m1:Mem}{h:Int}{n:Nat}{M:Nat->Prop}{g:Nat->Nat}{ρ ρ':Nat->Value}{w w':World}{o:Oper}{X:Nat->Bool}
def MN(k:IntKind)(n:Int):Prop:=k.min<=n/\n<=k.max
instance(k:IntKind)(n:Int):Decidable (MN k n):=by unfold MN;infer_instance
def xO{k:IntKind}{n:Int}(h:MN k n):k.wrap n=n:=by
 unfold MN at h;cases k<;>simp[IntKind.min,IntKind.max,IntKind.signed,IntKind.bits]at h<;>simp[IntKind.wrap,IntKind.signed,IntKind.bits]<;>(try split)<;>omega
def aHK{n:Int}(h:-9223372036854775808<=n)(h':n<=9223372036854775807):MN .i64 n:=by
 simp[MN,IntKind.min,IntKind.max,IntKind.signed,IntKind.bits];omega
def a7O(op:BinOp)(k:IntKind)(x y:Int):Int:=
 let a:=BitVec.ofInt k.bits x;let b:=BitVec.ofInt k.bits y
 k.wrap (match op with
  |.and=>(a&&&b).toNat
  |.or=>(a|||b).toNat
  |.xor=>(a^^^b).toNat
  |_=>(a&&&~~~b).toNat:Nat)
def JM(op:BinOp)(k k':IntKind)(a b:Int):Option (Bool×C):=
 match op with
 |.add=>some (decide (k=k'/\MN k (a+b)),.v (.int k (a+b)))
 |.sub=>some (decide (k=k'/\MN k (a -b)),.v (.int k (a -b)))
 |.mul=>some (decide (k=k'/\MN k (a*b)),.v (.int k (a*b)))
 |.quo=>some (decide (k=k'/\b≠0/\MN k (a.tdiv b)),.v (.int k (a.tdiv b)))
 |.rem=>some (decide (k=k'/\b≠0),.v (.int k (a.tmod b)))
 |.and=>some (decide (k=k'),.v (.int k (a7O .and k a b)))
 |.or=>some (decide (k=k'),.v (.int k (a7O .or k a b)))
 |.xor=>some (decide (k=k'),.v (.int k (a7O .xor k a b)))
 |.andNot=>some (decide (k=k'),.v (.int k (a7O .andNot k a b)))
 |.shl=>some (decide (0<=b),.v (.int k (k.wrap (a*2^(min b.toNat k.bits)))))
 |.shr=>some (decide (0<=b),.v (.int k (a.fdiv (2^(min b.toNat k.bits)))))
 |.eql=>some (decide (k=k'),.v (.bool (decide (a=b))))
 |.neq=>some (decide (k=k'),.v (.bool (!decide (a=b))))
 |.lss=>some (decide (k=k'),.v (.bool (decide (a<b))))
 |.leq=>some (decide (k=k'),.v (.bool (decide (a<=b))))
 |.gtr=>some (decide (k=k'),.v (.bool (decide (b<a))))
 |.geq=>some (decide (k=k'),.v (.bool (decide (b<=a))))
def PZ:List C->List C->Option Bool
 |[],[]=>some true
 |.v (.int k a)::r,.v (.int k' b)::s=>if k=k' then(PZ r s).map λt=>decide (a=b)&&t else none
 |.v (.bool a)::r,.v (.bool b)::s=>(PZ r s).map λt=>decide (a=b)&&t
 |.v (.string a)::r,.v (.string b)::s=>(PZ r s).map λt=>decide (a=b)&&t
 |_,_=>none
def isNil(m:Mem):A->Option (Nat×Bool)
 |.d (.v (.pointer none))=>some (0,true)
 |.d (.v (.map none))=>some (1,true)
 |.d (.v .nilFunc)=>some (3,true)
 |.d (.nl _)=>some (2,true)
 |.d (.ip _)=>some (0,false)
 |.d (.im _ _)=>some (1,false)
 |.d (.fn _ _ _)=>some (3,false)
 |.lp i _=>if qF m i then some (0,false)else none
 |.ep i _ _ _=>if qF m i then some (0,false)else none
 |.h i=>match m i with
  |some (.mp _ _ _)=>some (1,false)
  |some (.fW _ _ _ _)=>some (2,false)
  |some (.lo _ _ _ _ _ _)=>some (3,false)
  |_=>none
 |.sv i _ _=>match m i with
  |some (.fW _ _ _ (_::_))=>some (2,false)
  |_=>none
 |.d (.sl _ (_::_))=>some (2,false)
 |.fn _ _ _=>some (3,false)
 |_=>none
def BR(P:Program)(t:TypeId):Option Nat:=
 match P.underlying t with
 |some (.pointer _)=>some 0
 |some (.map _ _)=>some 1
 |some (.slice _)=>some 2
 |some (.func _ _ _)=>some 3
 |_=>none
def IH(P:Program)(t:TypeId):Bool:=match P.underlying t with
 |some .bool=>true
 |_=>false
def uK(h:IH P t=true):P.underlying t=some .bool:=by
 unfold IH at h;split at h<;>simp_all
def yJ(P:Program)(t:TypeId):Bool:=match P.underlying t with
 |some .string=>true
 |_=>false
def oB(h:yJ P t=true):P.underlying t=some .string:=by
 unfold yJ at h;split at h<;>simp_all
def JL(P:Program)(m:Mem)(t:TypeId)(x y:A):Option (Bool×Bool):=
 match x,y with
 |.d (.v (.bool a)),.d (.v (.bool b))=>some (IH P t,decide (a=b))
 |.d (.v (.string a)),.d (.v (.string b))=>some (true,decide (a=b))
 |x,y=>match isNil m x,isNil m y with
  |some (k,true),some (k',b)=>some (decide (BR P t=some k/\k=k'),b)
  |some (k,b),some (k',true)=>some (decide (BR P t=some k/\k=k'),b)
  |_,_=>none
def xZ(P:Program)(m:Mem)(op:BinOp)(t:TypeId)(x y:A):Option E:=
 match x,y with
 |.d (.v (.int k a)),.d (.v (.int k' b))=>(JM op k k' a b).map λr=>(r.1,.d r.2,[])
 |x,y=>match op with
  |.eql=>(JL P m t x y).map λr=>(r.1,.d (.v (.bool r.2)),[])
  |.neq=>(JL P m t x y).map λr=>(r.1,.d (.v (.bool (!r.2))),[])
  |_=>none
section
variable{M0 S0:Nat->Prop}{w0:World}{N:Fr}{T:Nat->A}{m:Mem}{ρ:Nat->Value}{a:Act}{w:World}{P:Program}
def aK2{op:BinOp}{k k':IntKind}{x y:Int}{pre:Bool}{c:C}(he:JM op k k' x y=some (pre,c))(hp:pre=true):
 ∃z,(binOp op t (.int k x) (.int k' y)).run P w=.ok z w/\∀M,c.Den w M z:=by
 cases op<;>simp only[JM,aA,aD]at he<;>obtain⟨rfl,rfl⟩:=he<;>have hp:=aUL hp
 case add=>obtain⟨rfl,h⟩:=hp;exact⟨_,by simp[binOp_add,Op.intArith,xO h];rfl,λM=>by simp[C.Den]⟩
 case sub=>obtain⟨rfl,h⟩:=hp;exact⟨_,by simp[binOp_sub,Op.intArith,xO h];rfl,λM=>by simp[C.Den]⟩
 case mul=>obtain⟨rfl,h⟩:=hp;exact⟨_,by simp[binOp_mul,Op.intArith,xO h];rfl,λM=>by simp[C.Den]⟩
 case quo=>obtain⟨rfl,h0,h⟩:=hp;exact⟨_,by simp[binOp_quo,Op.intDiv,xO h,h0];rfl,λM=>by simp[C.Den]⟩
 case rem=>obtain⟨rfl,h0⟩:=hp;exact⟨_,by simp[binOp_rem,Op.intDiv,h0];rfl,λM=>by simp[C.Den]⟩
 case and=>subst hp;exact⟨_,by simp[binOp_and,Op.intBits];rfl,λM=>by simp[C.Den,a7O]⟩
 case or=>subst hp;exact⟨_,by simp[binOp_or,Op.intBits];rfl,λM=>by simp[C.Den,a7O]⟩
 case xor=>subst hp;exact⟨_,by simp[binOp_xor,Op.intBits];rfl,λM=>by simp[C.Den,a7O]⟩
 case andNot=>subst hp;exact⟨_,by simp[binOp_andNot,Op.intBits];rfl,λM=>by simp[C.Den,a7O]⟩
 case shl=>have:¬y<0:=by omega
           exact⟨_,by simp[binOp_shl,Op.shift,this];rfl,λM=>by simp[C.Den]⟩
 case shr=>have:¬y<0:=by omega
           exact⟨_,by simp[binOp_shr,Op.shift,this];rfl,λM=>by simp[C.Den]⟩
 case eql=>subst hp;exact⟨_,by simp[binOp_eql];rfl,λM=>by simp[C.Den];exact K0.2 sM⟩
 case neq=>subst hp;exact⟨_,by simp[binOp_neq];rfl,λM=>by simp[C.Den,bne];exact K0.2 sM⟩
 case lss=>subst hp;exact⟨_,by simp[binOp_lss];rfl,λM=>by simp[C.Den]⟩
 case leq=>subst hp;exact⟨_,by simp[binOp_leq];rfl,λM=>by simp[C.Den]⟩
 case gtr=>subst hp;exact⟨_,by simp[binOp_gtr];rfl,λM=>by simp[C.Den]⟩
 case geq=>subst hp;exact⟨_,by simp[binOp_geq];rfl,λM=>by simp[C.Den]⟩
def xE:Value->Option (Nat×Bool)
 |.pointer p=>some (0,p.isNone)
 |.map r=>some (1,r.isNone)
 |.slice a _ _=>some (2,a.isNone)
 |.nilFunc=>some (3,true)
 |.func _ _ _=>some (3,false)
 |_=>none
def FY(h:bC M0 S0 w0 N T m ρ a w){x:A}{y:Value}{b:Nat×Bool}(hx:x.Den w (dD M0 m ρ) m ρ y)(hn:isNil m x=some b):xE y=some b:=by
 cases x with
 |d c=>
  cases c with
  |v z=>
   simp[A.Den,C.Den]at hx;subst hx;cases y<;>simp[isNil]at hn
   ·rename_i p;cases p<;>simp[isNil]at hn;subst hn;rfl
   ·rename_i p;cases p<;>simp[isNil]at hn;subst hn;rfl
   ·subst hn;rfl
  |nl es=>simp[A.Den,C.Den]at hx;subst hx;simp[isNil]at hn;subst hn;rfl
  |ip l=>simp[A.Den,C.Den]at hx;obtain⟨_,_,rfl,_⟩:=hx;simp[isNil]at hn;subst hn;rfl
  |im l=>simp only[A.Den,C.Den]at hx;obtain⟨_,_,_,_,rfl,_⟩:=hx;simp[isNil]at hn;subst hn;rfl
  |fn f u v=>simp[A.Den,C.Den]at hx;obtain⟨_,_,rfl,_⟩:=hx;simp[isNil]at hn;subst hn;rfl
  |sl es l=>
   cases l with
   |nil=>simp[isNil]at hn
   |cons e r=>
    simp only[A.Den,C.Den]at hx;obtain⟨a',cap,rfl,_,h2⟩:=hx;simp[isNil]at hn;subst hn;rcases h2 with h2|⟨b,off,rfl,_⟩
    ·cases h2
    ·rfl
  |_=>simp[isNil]at hn
 |lp i off=>
  simp only[isNil]at hn;split at hn
  ·rename_i hi;simp at hn;subst hn;simp[A.Den]at hx;obtain⟨b,_,rfl⟩:=pU hx hi;rfl
  ·cases hn
 |ep i es k off=>
  simp only[isNil]at hn;split at hn
  ·rename_i hi;simp at hn;subst hn;simp[A.Den]at hx;obtain⟨b,_,_,_,_,rfl⟩:=pU hx hi;rfl
  ·cases hn
 |h i=>
  simp[isNil]at hn;split at hn
  ·rename_i fz kv st hi;simp at hn;subst hn;simp[A.Den]at hx;rw[eH hx hi sM];have⟨_,_,_,_,e,_⟩:=h.res i _ hi;rw[e];rfl
  ·rename_i fz t es r hi;simp at hn;subst hn;simp[A.Den]at hx;rw[eH hx hi sM];have⟨xs,h1,_⟩:=h.res i _ hi;rcases h1 with⟨_,_,_,e⟩|⟨_,g,og,cap,cur,e,_⟩<;>(rw[e];rfl)
  ·rename_i hi;simp at hn;subst hn;simp only[A.Den]at hx;rw[eH hx hi sM];obtain⟨_,_,_,_,e,_⟩:=h.res i _ hi;rw[e];rfl
  ·cases hn
 |sv i lo n=>
  simp only[isNil]at hn;split at hn
  ·rename_i fz t es e r hi;simp at hn;subst hn;simp only[A.Den]at hx;obtain⟨a',cap,rfl,_,es,fz,t,l,hm,_,h3⟩:=eH hx hi sM;rw[hi]at hm;simp at hm;obtain⟨_,_,_,rfl⟩:=hm;rcases h3 with⟨_,_,h3⟩|⟨b,og,n',cap',_,rfl,_⟩
   ·cases a' with
    |none=>simp at h3
    |some _=>rfl
   ·rfl
  ·cases hn
 |fn f u v=>simp only[A.Den]at hx;obtain⟨_,_,rfl,_⟩:=hx;simp[isNil]at hn;subst hn;rfl
 |_=>simp[isNil]at hn
def JT{x:Value}{k:Nat}{b c:Bool}(ht:BR P t=some k)(hx:xE x=some (k,b))(hy:xE y=some (k,c))(w:World)(hbc:b=true\/c=true):
 (Op.equal t x y).run P w=.ok (b&&c) w:=by
 suffices key:∀d,(Op.equalIn (d+1) t x y).run P w=.ok (b&&c) w from key 9999
 intro d;unfold BR at ht;split at ht
 ·rename_i e hu;simp at ht;subst ht;cases x<;>simp[xE]at hx
  cases y<;>simp[xE]at hy
  rename_i p q;subst hx;subst hy;cases p<;>cases q<;>simp at hbc<;>simp[Op.equalIn,run_underlying hu]
 ·rename_i e f hu;simp at ht;subst ht;cases x<;>simp[xE]at hx
  cases y<;>simp[xE]at hy
  rename_i p q;subst hx;subst hy;cases p<;>cases q<;>simp at hbc<;>simp[Op.equalIn,run_underlying hu]
 ·rename_i e hu;simp at ht;subst ht;cases x<;>simp[xE]at hx
  cases y<;>simp[xE]at hy
  rename_i p _ _ q _ _;subst hx;subst hy;cases p<;>cases q<;>simp at hbc<;>simp[Op.equalIn,run_underlying hu]
 ·rename_i e f g hu;simp at ht;subst ht;cases x<;>simp[xE]at hx<;>cases y<;>simp[xE]at hy<;>subst hx<;>subst hy<;>simp at hbc<;>simp[Op.equalIn,run_underlying hu]
 ·cases ht
def pF{op:BinOp}{x y:Operand}{u v:Value}(h:xE u≠none\/(∃b,u=.bool b)\/(∃s,u=.string s)\/∃k n,u=.int k n):eqGuard op t x y u v=pure ():=by
 cases u<;>first
  |(simp[xE]at h;done)
  |(cases op<;>rfl)
def aJC(h:bC M0 S0 w0 N T m ρ a w){op:BinOp}{t:TypeId}{x y:A}{u v:Value}{ox oy:Operand}{pre:Bool}{b:Bool}(hx:x.Den w (dD M0 m ρ) m ρ u)(hy:y.Den w (dD M0 m ρ) m ρ v)
 (he:JL P m t x y=some (pre,b))(hp:pre=true)(I5:op=.eql\/op=.neq):∃z,(do eqGuard op t ox oy u v;binOp op t u v).run P w=.ok z w/\z=.bool (if op=.eql then b else !b):=by
 unfold JL at he;split at he
 ·
  rename_i p q;simp only[aA,aD]at he;obtain⟨rfl,rfl⟩:=he;simp only[A.Den,C.Den]at hx hy;subst hx;subst hy;have hp:=uK hp;rcases I5 with rfl|rfl
  ·exact⟨.bool (p==q),by simp[pF,run_eql_bool w t p q hp],by cases p<;>cases q<;>rfl⟩
  ·exact⟨.bool (!(p==q)),by simp[pF,run_neq_bool w t p q hp],by cases p<;>cases q<;>rfl⟩
 ·rename_i p q;simp only[aA,aD]at he;obtain⟨rfl,rfl⟩:=he;simp only[A.Den,C.Den]at hx hy;subst hx;subst hy;have hs:(p.toList==q.toList)=decide (p=q):=by
   apply K0.2;simp only[beq_iff_eq,aUA]
   exact⟨λe=>by
    have e1:p.data.toList=q.data.toList:=by simpa [ByteArray.toList_eq]using e
    cases p;cases q;simp at e1;simp[e1],λe=>by rw[e]⟩
  rcases I5 with rfl|rfl
  ·exact⟨.bool (decide (p=q)),by simp[pF,binOp,Op.stringOp,hs],sM⟩
  ·exact⟨.bool (!decide (p=q)),by simp[pF,binOp,Op.stringOp,hs],sM⟩
 ·
  have key:∀{k:Nat}{b c:Bool},isNil m x=some (k,b)->isNil m y=some (k,c)->BR P t=some k->(b=true\/c=true)->∃z,(do eqGuard op t ox oy u v;binOp op t u v).run P w=.ok z w/\z=.bool (if op=.eql then b&&c else !(b&&c)):=by
   intro k b c h1 h2 h3 h4;have n1:=FY h hx h1;have n2:=FY h hy h2;have hr:=JT (P:=P) h3 n1 n2 w h4;have hg:eqGuard op t ox oy u v=pure ():=pF (.inl (by rw[n1];simp));have tO:binOp .eql t u v=(do pure (.bool (<-Op.equal t u v))):=by cases u<;>simp[xE]at n1<;>cases v<;>simp[xE]at n2<;>rfl
   have uB:binOp .neq t u v=(do pure (.bool (!(<-Op.equal t u v)))):=by cases u<;>simp[xE]at n1<;>cases v<;>simp[xE]at n2<;>rfl
   rcases I5 with rfl|rfl
   ·exact⟨_,by rw[hg];simp[tO,hr];rfl,sM⟩
   ·exact⟨_,by rw[hg];simp[uB,hr];rfl,sM⟩
  split at he
  ·rename_i k k' b' h1 h2;simp only[aA,aD]at he;obtain⟨rfl,rfl⟩:=he;obtain⟨h3,rfl⟩:=aUL hp;simpa using key h1 h2 h3 (.inl rfl)
  ·rename_i k b' k' _ h1 h2;simp only[aA,aD]at he;obtain⟨rfl,rfl⟩:=he;obtain⟨h3,rfl⟩:=aUL hp;simpa using key h1 h2 h3 (.inr rfl)
  ·cases he
def aK0(h:bC M0 S0 w0 N T m ρ a w){op:BinOp}{t:TypeId}{x y:A}{u v:Value}{ox oy:Operand}{pre:Bool}{r:A}{ups:List (Nat×R)}(hx:x.Den w (dD M0 m ρ) m ρ u)(hy:y.Den w (dD M0 m ρ) m ρ v)
 (he:xZ P m op t x y=some (pre,r,ups))(hp:pre=true):ups=[]/\∃z,(do eqGuard op t ox oy u v;binOp op t u v).run P w=.ok z w/\r.Den w (dD M0 m ρ) m ρ z:=by
 unfold xZ at he;split at he
 ·rename_i k p k' q;simp only[bU]at he;have⟨⟨pre',c⟩,h1,h2⟩:=he;simp[aD]at h2;have⟨rfl,rfl,rfl⟩:=h2;simp[A.Den,C.Den]at hx hy;subst hx;subst hy;have⟨z,h3,h4⟩:=aK2 (P:=P) (w:=w) (t:=t) h1 hp;exact⟨rfl,z,by rw[pF (.inr (.inr (.inr ⟨k,p,rfl⟩)))];simpa using h3,by simp[A.Den];exact h4 _⟩
 ·split at he
  ·simp only[bU]at he;have⟨⟨pre',b⟩,h1,h2⟩:=he;simp[aD]at h2;have⟨rfl,rfl,rfl⟩:=h2;have⟨z,h3,h4⟩:=aJC h (op:=.eql) (ox:=ox) (oy:=oy) hx hy h1 hp (.inl rfl);exact⟨rfl,z,h3,by simp[A.Den,C.Den];simpa using h4⟩
  ·simp only[bU]at he;have⟨⟨pre',b⟩,h1,h2⟩:=he;simp[aD]at h2;have⟨rfl,rfl,rfl⟩:=h2;have⟨z,h3,h4⟩:=aJC h (op:=.neq) (ox:=ox) (oy:=oy) hx hy h1 hp (.inr rfl);exact⟨rfl,z,h3,by simp[A.Den,C.Den];simpa using h4⟩
  ·cases he
end
def JX(P:Program)(t:TypeId)(f:Nat):Option (Nat×TypeId):=
 match P.underlying t with
 |some (.struct fs)=>match fs[f]? with
  |some fd=>if(P.info? fd.type).isSome&&P.cellsOf fd.type !=0 then some (fd.offset,fd.type)else none
  |none=>none
 |_=>none
def qO(m:Mem)(o:Nat):A->Option A
 |.lp i off=>if qF m i then some (.lp i (off+o))else none
 |.ep i es k off=>if qF m i then some (.ep i es k (off+o))else none
 |.d (.ip l)=>some (.d (.ip (l.drop o)))
 |_=>none
def mG(P:Program)(m:Mem)(t:TypeId)(x:A)(f:Nat):Option E:=
 match JX P t f with
 |some (o,_)=>(qO m o x).map λz=>(true,z,[])
 |none=>none
def uF(P:Program)(m:Mem)(t:TypeId)(x:A)(f:Nat):Option E:=
 match x,JX P t f with
 |.d (.agg l),some (o,ft)=>match oP P ft with
  |some true=>some (decide (o+P.cellsOf ft<=l.length),.d (.agg ((l.drop o).take (P.cellsOf ft))),[])
  |some false=>some (decide (o<l.length),.d (l.getD o default),[])
  |none=>none
 |.agg l,some (o,ft)=>match oP P ft with
  |some true=>some (decide (o+P.cellsOf ft<=l.length),.agg ((l.drop o).take (P.cellsOf ft)),[])
  |some false=>some (decide (o<l.length),l.getD o .x,[])
  |none=>none
 |_,_=>none
def j7(P:Program)(m:Mem)(t:TypeId)(x ix:A):Option E:=
 match ix with
 |.d (.v (.int k n))=>match P.underlying t with
  |some (.slice e)=>match x with
   |.h i=>match m i with
    |some (.fW _ _ es l)=>some (decide (es=P.cellsOf e/\0<es/\0<=n/\n<l.length),.ep i es n.toNat 0,[])
    |_=>none
   |.sv i lo c=>match m i with
    |some (.fW _ _ es l)=>some (decide (es=P.cellsOf e/\0<es/\0<=n/\n<c),.ep i es (lo+n.toNat) 0,[])
    |_=>none
   |.d (.sl es l)=>some (decide (es=P.cellsOf e/\0<es/\0<=n/\n<l.length),.d (.ip (l.getD n.toNat [])),[])
   |_=>none
  |some (.array len e)=>(qO m (n.toNat*P.cellsOf e) x).map λz=>(decide (0<P.cellsOf e/\0<=n/\n<len),z,[])
  |_=>none
 |_=>none
def CE(P:Program)(m:Mem)(t:TypeId)(x:A):Option E:=
 match x with
 |.d (.v (.string s))=>some (yJ P t,.d (.v (.int .i64 s.size)),[])
 |.d (.v (.map none))=>some (decide (BR P t=some 1),.d (.v (.int .i64 0)),[])
 |.h i=>match m i with
  |some (.fW _ _ _ l)=>some (decide (BR P t=some 2),.d (.v (.int .i64 l.length)),[])
  |some (.mp _ kv _)=>some (decide (BR P t=some 1),.d (.v (.int .i64 kv.length)),[])
  |_=>none
 |.d (.im ks _)=>some (decide (BR P t=some 1),.d (.v (.int .i64 ks.length)),[])
 |x=>(dO m x).map λl=>(decide (BR P t=some 2),.d (.v (.int .i64 l.length)),[])
def yB(P:Program)(src dst:TypeId)(x:A):Option E:=
 match x,P.underlying src,P.underlying dst with
 |.d (.v (.int _ n)),some _,some (.int k)=>some (decide (MN k n),.d (.v (.int k n)),[])
 |_,_,_=>none
def NF(op:UnOp)(x:A):Option E:=
 match op,x with
 |.not,.d (.v (.bool b))=>some (true,.d (.v (.bool (!b))),[])
 |.neg,.d (.v (.int k n))=>some (decide (MN k (0 -n)),.d (.v (.int k (0 -n))),[])
 |_,_=>none
def nT(m:Mem)(x:A):Option E:=
 match isNil m x with
 |some (0,false)=>some (true,x,[])
 |_=>match x with
  |.fn (.func g) f c=>some (true,.fn (.func g) f c,[])
  |.d (.fn (.func g) f c)=>some (true,.d (.fn (.func g) f c),[])
  |_=>none
def DJ(hi:Option A)(n:Nat):Option Int:=
 match hi with
 |none=>some n
 |some (.d (.v (.int _ h)))=>some h
 |_=>none
def uV(P:Program)(m:Mem)(e:TypeId)(i:Nat)(hi mx:Bool)(l h c:Int)(n:Nat):Bool:=
 (hi|| !mx)&&(match m i with|some (.fW _ _ es _)=>decide (es=P.cellsOf e)|_=>false)&&decide (0<P.cellsOf e/\0<=l/\l<=h/\h<=c/\c<=n)
def tF{e:TypeId}{i:Nat}{hi mx:Bool}{l c:Int}(hp:uV P m e i hi mx l h c n=true):
 (hi=true\/mx=false)/\(∃fz t' l',m i=some (.fW fz t' (P.cellsOf e) l'))/\0<P.cellsOf e/\0<=l/\l<=h/\h<=c/\c<=n:=by
 unfold uV at hp;simp[aE,aUA]at hp;have⟨⟨h1,h2⟩,h3⟩:=hp;refine⟨by cases hi<;>cases mx<;>simp_all,?_,h3⟩;split at h2
 ·rename_i fz t' es l' hm;have:=aUL h2;subst this;exact⟨fz,t',l',hm⟩
 ·cases h2
def jW(P:Program)(m:Mem)(t:TypeId)(x:A)(lo hi mx:Option A):Option E:=
 match x with
 |.d (.v (.string s))=>match DJ (lo.orElse λ_=>some (.d (.v (.int .i64 0)))) 0,DJ hi s.size,mx with
  |some l,some h,none=>some (yJ P t&&decide (0<=l/\l<=h/\h<=s.size),.d (.v (.string (s.extract l.toNat h.toNat))),[])
  |_,_,_=>none
 |x=>match dO m x,j8 P t with
  |some L,some e=>match DJ (lo.orElse λ_=>some (.d (.v (.int .i64 0)))) 0,DJ hi L.length,DJ mx L.length with
   |some l,some h,some c=>match x with
    |.h i=>some (uV P m e i hi.isSome mx.isSome l h c L.length,.sv i l.toNat (h -l).toNat,[])
    |.sv i o n=>some (uV P m e i hi.isSome mx.isSome l h c L.length,.sv i (o+l.toNat) (h -l).toNat,[])
    |.d (.sl es l0)=>some (decide ((hi.isSome=true\/mx.isSome=false)/\es=P.cellsOf e/\0<es/\0<=l/\l<=h/\h<=c/\c<=l0.length),.d (.sl es ((l0.drop l.toNat).take (h -l).toNat)),[])
    |.d (.nl es)=>some (decide ((hi.isSome=true\/mx.isSome=false)/\0<P.cellsOf e/\l=0/\h=0/\c=0),.d (.nl es),[])
    |_=>none
   |_,_,_=>none
  |_,_=>none
section
variable{M0 S0:Nat->Prop}{w0:World}{N:Fr}{T:Nat->A}{m:Mem}{ρ:Nat->Value}{a:Act}{w:World}{P:Program}
def LO(h:bC M0 S0 w0 N T m ρ a w){x z:A}{y:Value}{o:Nat}(hx:x.Den w (dD M0 m ρ) m ρ y)(hs:qO m o x=some z):
 ∃b off,y=.pointer (some ⟨b,off,none⟩)/\z.Den w (dD M0 m ρ) m ρ (.pointer (some ⟨b,off+o,none⟩)):=by
 cases x with
 |lp i off=>
  simp only[qO]at hs;split at hs
  ·rename_i hi;simp at hs;subst hs;simp only[A.Den]at hx⊢;obtain⟨b,h1,rfl⟩:=pU hx hi;exact⟨b,off,rfl,hx.1,λ_=>⟨b,h1,rfl⟩⟩
  ·cases hs
 |ep i es k off=>
  simp only[qO]at hs;split at hs
  ·rename_i hi;simp at hs;subst hs;simp only[A.Den]at hx⊢;obtain⟨b,og,n,cap,h1,rfl⟩:=pU hx hi;exact⟨b,_,rfl,hx.1,λ_=>⟨b,og,n,cap,h1,by simp[fP]⟩⟩
  ·cases hs
 |d c=>
  cases c with
  |ip l=>
   simp[qO]at hs;subst hs;simp only[A.Den,C.Den]at hx⊢;obtain⟨b,off,rfl,h1,h2,h3⟩:=hx;exact⟨b,off,rfl,b,off+o,rfl,h1,h2,C.U6 o h3⟩
  |_=>simp[qO]at hs
 |_=>simp[qO]at hs
def QV(h:bC M0 S0 w0 N T m ρ a w){t:TypeId}{x v:A}{y:Value}{f:Nat}{pre:Bool}{ups:List (Nat×R)}(hx:x.Den w (dD M0 m ρ) m ρ y)(he:mG P m t x f=some (pre,v,ups))(hp:pre=true):
 ups=[]/\∃z,(Instr.fieldAt t y f).run P w=.ok z w/\v.Den w (dD M0 m ρ) m ρ z:=by
 unfold mG at he;split at he
 ·rename_i o ft hf;simp only[bU]at he;have⟨z,h1,h2⟩:=he;simp[aD]at h2;have⟨_,rfl,rfl⟩:=h2;obtain⟨b,off,rfl,h3⟩:=LO h hx h1;unfold JX at hf;split at hf
  ·rename_i fs hu;split at hf
   ·rename_i fd hfd;split at hf
    ·rename_i hc;simp[aA,aD]at hf;have⟨rfl,rfl⟩:=hf;simp[aE,bne_iff_ne,ne_eq]at hc;have⟨ti,J3⟩:=eS.1 hc.1;refine⟨rfl,_,?_,h3⟩;simp[Instr.fieldAt,run_underlying hu,hfd,Instr.sureAddr,fieldPlace,run_sizeOf J3,hc.2,eP]
    ·cases hf
   ·cases hf
  ·cases hf
 ·cases he
def aFA(h:bC M0 S0 w0 N T m ρ a w){t:TypeId}{x v:A}{y:Value}{f:Nat}{pre:Bool}{ups:List (Nat×R)}(hx:x.Den w (dD M0 m ρ) m ρ y)(he:uF P m t x f=some (pre,v,ups))(hp:pre=true):
 ups=[]/\∃z,(Instr.field t y f).run P w=.ok z w/\v.Den w (dD M0 m ρ) m ρ z:=by
 have aVL:∀{o:Nat}{ft:TypeId},JX P t f=some (o,ft)->∃fs fd,P.underlying t=some (.struct fs)/\fs[f]?=some fd/\fd.offset=o/\fd.type=ft:=by
  intro o ft hf;unfold JX at hf;split at hf
  ·rename_i fs hu;split at hf
   ·rename_i fd hfd;split at hf
    ·simp[aA,aD]at hf;exact⟨fs,fd,hu,hfd,hf.1,hf.2⟩
    ·cases hf
   ·cases hf
  ·cases hf
 unfold uF at he;split at he
 ·rename_i l o ft hf;obtain⟨fs,fd,hu,hfd,rfl,rfl⟩:=aVL hf;simp only[A.Den,C.Den]at hx;obtain⟨vs,rfl,h0,hd⟩:=hx;have hlen:=(C.xJ.1 hd).1;split at he
  ·rename_i hg;simp[aA,aD]at he;have⟨rfl,rfl,rfl⟩:=he;have hp:=aUL hp;refine⟨rfl,.agg (vs.extract fd.offset (fd.offset+P.cellsOf fd.type)),by simp[Instr.field,run_underlying hu,hfd,part,asAgg,lV hg,mB hg],?_⟩;simp only[A.Den,C.Den];have e1:(vs.extract fd.offset (fd.offset+P.cellsOf fd.type)).toList=(vs.toList.drop fd.offset).take (P.cellsOf fd.type):=by
    rw[sK];simp[oG]
   exact⟨_,rfl,by rw[e1];exact λu hu=>h0 u (dI (dJ hu)),by rw[e1];exact C.mT _ (C.lL _ hd)⟩
  ·rename_i hg;simp only[aA,aD]at he;have⟨rfl,rfl,rfl⟩:=he;have hp:=aUL hp;have cX:fd.offset<vs.toList.length:=oM;refine⟨rfl,vs.toList[fd.offset],?_,?_⟩
   ·have:vs[fd.offset]?=some vs.toList[fd.offset]:=by simp at cX;simp[cX]
    simp[Instr.field,run_underlying hu,hfd,part,asAgg,lV hg,this]
   ·simp only[A.Den];rw[bF,aC hp];exact(C.xJ.1 hd).2 _ _ _ (aC hp) (aC cX)
  ·cases he
 ·rename_i l o ft hf;obtain⟨fs,fd,hu,hfd,rfl,rfl⟩:=aVL hf;simp only[A.Den]at hx;obtain⟨vs,rfl,h0,hd⟩:=hx;have hlen:=(A.xJ.1 hd).1;split at he
  ·rename_i hg;simp[aA,aD]at he;have⟨rfl,rfl,rfl⟩:=he;have hp:=aUL hp;refine⟨rfl,.agg (vs.extract fd.offset (fd.offset+P.cellsOf fd.type)),by simp[Instr.field,run_underlying hu,hfd,part,asAgg,lV hg,mB hg],?_⟩;simp only[A.Den];have e1:(vs.extract fd.offset (fd.offset+P.cellsOf fd.type)).toList=(vs.toList.drop fd.offset).take (P.cellsOf fd.type):=by
    rw[sK];simp[oG]
   exact⟨_,rfl,by rw[e1];exact λu hu=>h0 u (dI (dJ hu)),by rw[e1];exact A.mT _ (A.lL _ hd)⟩
  ·rename_i hg;simp only[aA,aD]at he;have⟨rfl,rfl,rfl⟩:=he;have hp:=aUL hp;have cX:fd.offset<vs.toList.length:=oM;refine⟨rfl,vs.toList[fd.offset],?_,?_⟩
   ·have:vs[fd.offset]?=some vs.toList[fd.offset]:=by simp at cX;simp[cX]
    simp[Instr.field,run_underlying hu,hfd,part,asAgg,lV hg,this]
   ·rw[bF,aC hp];exact(A.xJ.1 hd).2 _ _ _ (aC hp) (aC cX)
  ·cases he
 ·cases he
def EZ(h:bC M0 S0 w0 N T m ρ a w){x:A}{y:Value}{l:List (List A)}(hx:x.Den w (dD M0 m ρ) m ρ y)(hs:dO m x=some l):∃ad cap,y=.slice ad l.length cap/\l.length<=cap:=by
 cases x with
 |h i=>
  simp[dO]at hs;split at hs
  ·rename_i fz t es' l' hi;simp[aA]at hs;subst hs;simp[A.Den]at hx;rw[eH hx hi sM];have⟨xs,h1,_⟩:=h.res i _ hi;rcases h1 with⟨_,hn,ad,hv⟩|⟨_,g,og,cap,cur,hv,_,_,hc,_⟩
   ·exact⟨ad,0,by rw[hv,hn],oM⟩
   ·exact⟨_,cap,hv,hc⟩
  ·cases hs
 |sv i lo n=>
  simp[dO]at hs;split at hs
  ·rename_i fz t es' l' hi;simp[aA]at hs;subst hs;simp only[A.Den]at hx;obtain⟨ad,cap,rfl,hc,es2,fz',t',l2,e1,e2,_⟩:=eH hx hi sM;rw[hi]at e1;simp at e1;have⟨rfl,rfl,rfl,rfl⟩:=e1;have hlen:((l'.drop lo).take n).length=n:=zM;exact⟨ad,cap,by rw[hlen],by rw[hlen];exact hc⟩
  ·cases hs
 |d c=>
  cases c with
  |sl es' l'=>
   simp[dO,aA]at hs;subst hs;simp[A.Den,C.Den]at hx;obtain⟨ad,cap,rfl,hc,_⟩:=hx;exact⟨ad,cap,sM,by simpa using hc⟩
  |nl es'=>
   simp[dO,aA]at hs;subst hs;simp[A.Den,C.Den]at hx;subst hx;exact⟨none,0,rfl,sM⟩
  |_=>simp[dO]at hs
 |_=>simp[dO]at hs
def WA(h:BR P t=some 2):∃e,P.underlying t=some (.slice e):=by
 unfold BR at h;split at h<;>simp at h
 exact⟨_,aM⟩
def KW(h:BR P t=some 1):∃k e,P.underlying t=some (.map k e):=by
 unfold BR at h;split at h<;>simp at h
 exact⟨_,_,aM⟩
def M4.size{es:Array MapEntry}{clock:Nat}{ks:List Ky}{l:List MapEntry}(h:M4 es clock ks l):es.size=ks.length:=by
 have h1:=h.perm.length_eq;have h2:=congrArg List.length h.keys;simp at h1 h2;omega
def aK3(h:bC M0 S0 w0 N T m ρ a w){t ty:TypeId}{x v:A}{y:Value}{pre:Bool}{ups:List (Nat×R)}(hx:x.Den w (dD M0 m ρ) m ρ y)(he:CE P m t x=some (pre,v,ups))(hp:pre=true):
 ups=[]/\∃z,(Builtin.len_ #[t] ty #[y]).run P w=.ok z w/\v.Den w (dD M0 m ρ) m ρ z:=by
 have hsl:∀{l:List (List A)},dO m x=some l->BR P t=some 2->∃z,(Builtin.len_ #[t] ty #[y]).run P w=.ok z w/\(A.d (.v (.int .i64 l.length))).Den w (dD M0 m ρ) m ρ z:=by
  intro l hs ht;have⟨e,hu⟩:=WA ht;obtain⟨ad,cap,rfl,_⟩:=EZ h hx hs;exact⟨_,by simp[Builtin.len_,run_underlying hu];rfl,by simp[A.Den,C.Den,goInt]⟩
 unfold CE at he;split at he
 ·simp[aA,aD]at he;have⟨rfl,rfl,rfl⟩:=he;simp[A.Den,C.Den]at hx;subst hx;exact⟨rfl,_,by simp[Builtin.len_,run_underlying (oB hp)];rfl,by simp[A.Den,C.Den,goInt]⟩
 ·simp[aA,aD]at he;have⟨rfl,rfl,rfl⟩:=he;have⟨k,e,hu⟩:=KW (aUL hp);simp[A.Den,C.Den]at hx;subst hx;exact⟨rfl,_,by simp[Builtin.len_,run_underlying hu];rfl,by simp[A.Den,C.Den,goInt]⟩
 ·rename_i i;split at he
  ·rename_i fz t' es l hi;simp[aA,aD]at he;have⟨rfl,rfl,rfl⟩:=he;exact⟨rfl,hsl (by simp[dO,hi]) (aUL hp)⟩
  ·rename_i fz kv st hi;simp[aA,aD]at he;have⟨rfl,rfl,rfl⟩:=he;have⟨k,e,hu⟩:=KW (aUL hp);simp[A.Den]at hx;rw[eH hx hi sM];have⟨b,es,cl,l,h1,h2,h3,_⟩:=h.res i _ hi;rw[h1];refine⟨rfl,_,by simp[Builtin.len_,run_underlying hu,getObj,Sem.run,h2];rfl,?_⟩;have vZ:=h3.size;rw[aB]at vZ;simp[A.Den,C.Den,goInt,vZ]
  ·cases he
 ·simp[aA,aD]at he;have⟨rfl,rfl,rfl⟩:=he;have⟨k,e,hu⟩:=KW (aUL hp);simp only[A.Den,C.Den]at hx;obtain⟨b,es,cl,l,rfl,_,h2,h3,_⟩:=hx;refine⟨rfl,_,by simp[Builtin.len_,run_underlying hu,getObj,Sem.run,h2];rfl,?_⟩;simp[A.Den,C.Den,goInt,<-h3.size]
 ·simp only[bU]at he;have⟨l,h1,h2⟩:=he;simp[aD]at h2;have⟨rfl,rfl,rfl⟩:=h2;exact⟨rfl,hsl h1 (aUL hp)⟩
def WU{src dst:TypeId}{x v:A}{pre:Bool}{ups:List (Nat×R)}(hx:x.Den w M m ρ y)(he:yB P src dst x=some (pre,v,ups))(hp:pre=true):
 ups=[]/\∃z,(convert src dst y).run P w=.ok z w/\v.Den w M m ρ z:=by
 unfold yB at he;split at he
 ·rename_i k' n d k h1 h2;simp[aA,aD]at he;have⟨rfl,rfl,rfl⟩:=he;simp[A.Den,C.Den]at hx;subst hx;exact⟨rfl,.int k n,by simp[convert,run_underlying h1,run_underlying h2,Conv.intToInt,xO (aUL hp)],by simp[A.Den,C.Den]⟩
 ·cases he
def aMF{op:UnOp}{x v:A}{pre:Bool}{ups:List (Nat×R)}(hx:x.Den w M m ρ y)(he:NF op x=some (pre,v,ups))(hp:pre=true):
 ups=[]/\∃z,(Op.unary op y).run P w=.ok z w/\v.Den w M m ρ z:=by
 unfold NF at he;split at he
 ·simp[aA,aD]at he;have⟨rfl,rfl,rfl⟩:=he;simp[A.Den,C.Den]at hx;subst hx;exact⟨rfl,_,by simp[Op.unary];rfl,by simp[A.Den,C.Den]⟩
 ·rename_i k n;simp[aA,aD]at he;have⟨rfl,rfl,rfl⟩:=he;simp[A.Den,C.Den]at hx;subst hx;exact⟨rfl,.int k (0 -n),by simp[Op.unary,Op.intArith,cB,xO (aUL hp)],by simp[A.Den,C.Den]⟩
 ·cases he
end
section
variable{M0 S0:Nat->Prop}{w0:World}{N:Fr}{T:Nat->A}{m:Mem}{ρ:Nat->Value}{a:Act}{w:World}{P:Program}
def aH0(h:bC M0 S0 w0 N T m ρ a w){i es:Nat}{fz:Bool}{t:TypeId}{l:List (List A)}(hi:m i=some (.fW fz t es l))(hl:0<l.length):∃b o cap,ρ i=.slice (some ⟨b,o,none⟩) l.length cap:=by
 have⟨xs,h1,_⟩:=h.res i _ hi;have⟨g,o,cap,hv,_⟩:=EJ h1 hl;exact⟨g,o,cap,hv⟩
def sA{e:TypeId}(h:0<P.cellsOf e):∃i,P.info? e=some i:=by
 cases hq:P.info? e with
 |none=>simp[Program.cellsOf,hq]at h
 |some i=>exact⟨i,rfl⟩
def QW(h:bC M0 S0 w0 N T m ρ a w){t:TypeId}{x ix v:A}{y iy:Value}{pre:Bool}{ups:List (Nat×R)}(hx:x.Den w (dD M0 m ρ) m ρ y)(hix:ix.Den w (dD M0 m ρ) m ρ iy)
 (he:j7 P m t x ix=some (pre,v,ups))(hp:pre=true):ups=[]/\∃z,(Instr.indexAt t y iy).run P w=.ok z w/\v.Den w (dD M0 m ρ) m ρ z:=by
 unfold j7 at he;split at he
 ·rename_i k n;simp[A.Den,C.Den]at hix;subst hix;split at he
  ·rename_i e hu;have O2:P.elem t=e:=by simp[Program.elem,hu]
   have hu':P.underlying t=some (.slice (P.elem t)):=by rw[O2];exact hu
   have aVL:∀{d:Addr}{len cap es:Nat},es=P.cellsOf e->0<es->0<=n->n<len->(Instr.indexAt t (.slice (some d) len cap) (.int k n)).run P w=.ok (.pointer (some (d.add (n.toNat*es)))) w:=by
    intro d len cap es wP aWU h0 h1;obtain⟨i,hi⟩:=sA (P:=P) (by rw[<-wP];exact aWU);rw[run_indexAt_slice w t d len cap k n hu',aUF ⟨h0,oM⟩,O2,run_sizeOf hi,wP];rfl
   split at he
   ·rename_i i;split at he
    ·rename_i fz t' es l hi;simp only[aA,aD]at he;have⟨rfl,rfl,rfl⟩:=he;have⟨wP,aXV,h0,h1⟩:=aUL hp;simp[A.Den]at hx;have⟨b,og,cap,hb⟩:=aH0 h hi oM;rw[eH hx hi sM,hb];refine⟨rfl,_,aVL wP aXV h0 h1,?_⟩;simp only[A.Den];exact⟨hx.1,λ_=>⟨b,og,_,cap,hb,by rw[eP];simp⟩⟩
    ·cases he
   ·rename_i i lo c;split at he
    ·rename_i fz t' es l hi;simp only[aA,aD]at he;have⟨rfl,rfl,rfl⟩:=he;have⟨wP,aXV,h0,h1⟩:=aUL hp;simp only[A.Den]at hx;obtain⟨ad,cap,rfl,hc,es2,fz',t2,l2,e1,e2,h3⟩:=eH hx hi sM;rw[hi]at e1;simp at e1;have⟨rfl,rfl,rfl,rfl⟩:=e1;obtain⟨b,og,n',cap',h4,rfl,_⟩:=h3.resolve_left oM;refine⟨rfl,_,aVL wP aXV h0 h1,?_⟩;simp only[A.Den];exact⟨hx.1,λ_=>⟨b,og,_,cap',h4,by rw[eP];simp[fS,fP]⟩⟩
    ·cases he
   ·rename_i es l;simp only[aA,aD]at he;have⟨rfl,rfl,rfl⟩:=he;have⟨wP,aXV,h0,h1⟩:=aUL hp;simp[A.Den,C.Den]at hx;obtain⟨ad,cap,rfl,hc,hl⟩:=hx;obtain⟨b,off,rfl,hm,hb,hr⟩:=hl.resolve_left (by rintro rfl;simp at h1;omega);refine⟨rfl,_,aVL wP aXV h0 h1,?_⟩;simp only[A.Den,C.Den];refine⟨b,off+n.toNat*es,by rw[eP],hm,hb,?_⟩;rw[C.tX]at hr;exact(hr n.toNat _ (by rw[bF,aC oM];rfl)).2
   ·cases he
  ·rename_i len e hu;simp only[bU]at he;obtain⟨z,h1,h2⟩:=he;simp only[aD]at h2;obtain⟨rfl,rfl,rfl⟩:=h2;obtain⟨aWU,h3,h4⟩:=aUL hp;obtain⟨b,off,rfl,h5⟩:=LO h hx h1;obtain⟨i,hi⟩:=sA aWU;refine⟨rfl,_,?_,h5⟩;have O2:P.elem t=e:=by simp[Program.elem,hu]
   have hln:P.arrayLen t=len:=by simp[Program.arrayLen,hu]
   rw[run_indexAt_array w t ⟨b,off,none⟩ k n (by rw[O2,hln];exact hu),hln,aUF ⟨h3,oM⟩,O2,run_sizeOf hi];simp[eP]
  ·cases he
 ·cases he
def UH(h:bC M0 S0 w0 N T m ρ a w){x v:A}{y:Value}{pre:Bool}{ups:List (Nat×R)}(hx:x.Den w (dD M0 m ρ) m ρ y)(he:nT m x=some (pre,v,ups))(hp:pre=true):
 ups=[]/\(∃d,y=.pointer (some d)\/∃g f c,y=.func (.func g) f c)/\v.Den w (dD M0 m ρ) m ρ y:=by
 unfold nT at he;split at he
 ·rename_i hn;simp[aA,aD]at he;have⟨rfl,rfl,rfl⟩:=he;have:=FY h hx hn;cases y<;>simp[xE]at this
  rename_i p;cases p with
  |none=>simp at this
  |some d=>exact⟨rfl,⟨d,.inl rfl⟩,hx⟩
 ·split at he
  ·simp[aA,aD]at he;have⟨rfl,rfl,rfl⟩:=he;have hx':=hx;simp[A.Den]at hx';obtain⟨us,vs,rfl,_⟩:=hx';exact⟨rfl,⟨default,.inr ⟨_,_,_,rfl⟩⟩,hx⟩
  ·simp[aA,aD]at he;have⟨rfl,rfl,rfl⟩:=he;have hx':=hx;simp[A.Den,C.Den]at hx';obtain⟨us,vs,rfl,_⟩:=hx';exact⟨rfl,⟨default,.inr ⟨_,_,_,rfl⟩⟩,hx⟩
  ·cases he
def DK{hi:Option A}{vhi:Option Value}(hd:(hi=none/\vhi=none)\/∃x y,hi=some x/\vhi=some y/\x.Den w M m ρ y)(hc:DJ hi n=some h):(vhi=none/\hi=none/\h=n)\/∃k,vhi=some (.int k h)/\hi.isSome=true:=by
 rcases hd with⟨rfl,rfl⟩|⟨x,y,rfl,rfl,hxy⟩
 ·simp[DJ]at hc;exact .inl ⟨rfl,rfl,hc.symm⟩
 ·unfold DJ at hc;split at hc
  ·rename_i heq;cases heq
  ·rename_i k h' heq;simp at heq;subst heq;simp at hc;subst hc;simp[A.Den,C.Den]at hxy;subst hxy;exact .inr ⟨k,rfl,rfl⟩
  ·cases hc
def aXH{k:IntKind}{i:Int}{y:Nat}{code:BoundsCode}(h0:0<=i)(h1:i<=y):(Instr.sliceBound (.int k i) y code).run P w=.ok i.toNat w:=by
 simp[Instr.sliceBound,asIntOf,h0,h1]
def LD{isS:Bool}{len cap:Nat}{lo hi mx:Option Value}{l c:Int}(hl:lo=none/\l=0\/∃k,lo=some (.int k l))(hh:hi=none/\h=len\/∃k,hi=some (.int k h))(hm:mx=none\/∃k,mx=some (.int k c))
 (hhm:hi.isSome=true\/mx.isSome=false)(h0:0<=l)(h1:l<=h)(h2:h<=c)(h3:c<=len)(hlc:len<=cap):
 ∃M,(Instr.sliceBounds isS len cap lo hi mx).run P w=.ok (l.toNat,h.toNat,M) w/\h.toNat<=M/\M<=cap/\(mx.isSome=true->M=c.toNat):=by
 rcases hm with rfl|⟨km,rfl⟩
 ·refine⟨cap,?_,oM,oM,sM⟩;rcases hh with⟨rfl,rfl⟩|⟨kh,rfl⟩
  ·rcases hl with⟨rfl,rfl⟩|⟨kl,rfl⟩
   ·simp[Instr.sliceBounds]
   ·simp[Instr.sliceBounds,aXH (P:=P) (w:=w) (k:=kl) (i:=l) (y:=len) h0 h1]
  ·have r1:=aXH (P:=P) (w:=w) (k:=kh) (i:=h) (y:=cap) (code:=if isS then .sliceAcap else .sliceAlen) oM oM;rcases hl with⟨rfl,rfl⟩|⟨kl,rfl⟩
   ·simp[Instr.sliceBounds,r1]
   ·have r2:=aXH (P:=P) (w:=w) (k:=kl) (i:=l) (y:=h.toNat) (code:=.sliceB) h0 oM;simp[Instr.sliceBounds,r1,r2]
 ·rcases hh with⟨rfl,rfl⟩|⟨kh,rfl⟩
  ·simp at hhm
  ·have r0:=aXH (P:=P) (w:=w) (k:=km) (i:=c) (y:=cap) (code:=if isS then .slice3Acap else .slice3Alen) oM oM;have r1:=aXH (P:=P) (w:=w) (k:=kh) (i:=h) (y:=c.toNat) (code:=.slice3B) oM oM;refine⟨c.toNat,?_,oM,oM,λ_=>rfl⟩;rcases hl with⟨rfl,rfl⟩|⟨kl,rfl⟩
   ·simp[Instr.sliceBounds,r0,r1]
   ·have r2:=aXH (P:=P) (w:=w) (k:=kl) (i:=l) (y:=h.toNat) (code:=.slice3C) h0 oM;simp[Instr.sliceBounds,r0,r1,r2]
def vU(w:World)(M:Nat->Prop)(m:Mem)(ρ:Nat->Value)(x:Option A)(y:Option Value):Prop:=(x=none/\y=none)\/∃u v,x=some u/\y=some v/\u.Den w M m ρ v
def aGF(hi mx:Option A):Prop:=∃k k' q,hi=some (.d (.v (.int k q)))/\mx=some (.d (.v (.int k' q)))
def JA{hi mx:Option A}{n':Nat}{c:Int}(hc:aGF hi mx)(h1:DJ hi n=some h)(h2:DJ mx n'=some c):h=c:=by
 obtain⟨k,k',q,rfl,rfl⟩:=hc;simp[DJ,aA]at h1 h2;rw[<-h1,<-h2]
def OQ(h:bC M0 S0 w0 N T m ρ a w){t:TypeId}{x v:A}{y:Value}{lo hi mx:Option A}{vlo vhi vmx:Option Value}{pre:Bool}{ups:List (Nat×R)}(hx:x.Den w (dD M0 m ρ) m ρ y)
 (hlo:vU w (dD M0 m ρ) m ρ lo vlo)(hhi:vU w (dD M0 m ρ) m ρ hi vhi)(hmx:vU w (dD M0 m ρ) m ρ mx vmx)
 (he:jW P m t x lo hi mx=some (pre,v,ups))(hp:pre=true):ups=[]/\∃z,(Instr.sliceAt t y vlo vhi vmx).run P w=.ok z w/\v.Den w (dD M0 m ρ) m ρ z/\(aGF hi mx->∃a n,z=.slice a n n):=by
 have hL:∀{l:Int},DJ (lo.orElse λ_=>some (.d (.v (.int .i64 0)))) 0=some l->(vlo=none/\l=0)\/∃k,vlo=some (.int k l):=by
  intro l hl;rcases hlo with⟨rfl,rfl⟩|⟨u,q,rfl,rfl,hd⟩
  ·simp[DJ]at hl;exact .inl ⟨rfl,hl.symm⟩
  ·rcases DK (w:=w) (m:=m) (ρ:=ρ) (M:=dD M0 m ρ) (hi:=some u) (vhi:=some q) (.inr ⟨u,q,rfl,rfl,hd⟩) hl with⟨e,_⟩|⟨k,e,_⟩
   ·cases e
   ·exact .inr ⟨k,e⟩
 unfold jW at he;split at he
 ·rename_i s;simp[A.Den,C.Den]at hx;subst hx;split at he
  ·rename_i l hh h1 h2;simp only[aA,aD]at he;have⟨rfl,rfl,rfl⟩:=he;rw[aE]at hp;have⟨hu,h3⟩:=hp;have⟨h3,h4,h5⟩:=aUL h3;have hu:=oB hu;have hmn:vmx=none:=by
    rcases hmx with⟨_,e⟩|⟨u,q,e,_⟩
    ·exact e
    ·cases e
   subst hmn;have⟨Mx,hr,_,_,_⟩:=LD (P:=P) (w:=w) (isS:=false) (len:=s.size) (cap:=s.size) (c:=s.size) (mx:=none) (hL h1) ((DK hhi h2).imp (λ⟨q,_,r⟩=>⟨q,r⟩) (λ⟨k,q,_⟩=>⟨k,q⟩)) (.inl rfl) (.inr rfl) h3 h4 h5 (Int.le_refl _) (bT _);refine⟨rfl,.string (s.extract l.toNat hh.toNat),?_,by simp[A.Den,C.Den],?_⟩
   rotate_left 1
   ·rintro⟨_,_,_,_,e⟩;cases e
   simp[Instr.sliceAt,run_underlying hu,Instr.slice,hr]
  ·cases he
 ·rename_i hns;split at he
  ·rename_i L e hs O2;have hu:=nU O2;obtain⟨ad,cap,rfl,aZ6⟩:=EZ h hx hs;split at he
   ·rename_i l hh c h1 h2 h3;have aVL:(hi.isSome=true\/mx.isSome=false)->0<P.cellsOf e->0<=l->l<=hh->hh<=c->c<=L.length->
     ∃ad' cap',(Instr.sliceAt t (.slice ad L.length cap) vlo vhi vmx).run P w=.ok (.slice ad' (hh -l).toNat cap') w/\(hh -l).toNat<=cap'/\(cap'=0\/ad'=ad.map (·.add (l.toNat*P.cellsOf e)))/\(ad=none↔ad'=none)/\cap'+l.toNat<=cap/\(vmx.isSome=true->cap'=c.toNat -l.toNat):=by
     intro q0 q1 q2 q3 q4 q5;have qh:=DK hhi h2;have qm:=DK hmx h3;have e1:vhi.isSome=true\/vmx.isSome=false:=by
      rcases q0 with q|q
      ·rcases qh with⟨_,r,_⟩|⟨k,r,_⟩
       ·rw[r]at q;cases q
       ·left;rw[r];rfl
      ·rcases qm with⟨r,_⟩|⟨k,r,r2⟩
       ·right;rw[r];rfl
       ·rw[r2]at q;cases q
     have⟨Mx,hr,hM,hMc,hMm⟩:=LD (P:=P) (w:=w) (isS:=true) (len:=L.length) (cap:=cap) (hL h1) (qh.imp (λ⟨q,_,r⟩=>⟨q,r⟩) (λ⟨k,q,_⟩=>⟨k,q⟩)) (qm.imp (λ⟨q,_⟩=>q) (λ⟨k,q,_⟩=>⟨k,q⟩)) e1 q2 q3 q4 q5 aZ6;have⟨i,hi'⟩:=sA q1;refine⟨_,Mx -l.toNat,by simp[Instr.sliceAt,run_underlying hu,Instr.slice,hr,run_sizeOf hi'];exact⟨rfl,oM⟩,oM,?_,?_,oM,λe=>by rw[hMm e]⟩
     ·by_cases hM2:Mx=l.toNat
      ·left;omega
      ·right;simp[hM2]
     ·by_cases hM2:Mx=l.toNat<;>simp[hM2]
    have fin:∀{ad':Option Addr}{cap':Nat},0<=l->l<=hh->(aGF hi mx->hh=c)->(vmx.isSome=true->cap'=c.toNat -l.toNat)->(aGF hi mx->∃a n,Value.slice ad' (hh -l).toNat cap'=.slice a n n):=by
     intro ad' cap' q0 q1 e n0 hc;have e1:=e hc;have e2:vmx.isSome=true:=by
      have⟨_,_,_,_,e3⟩:=hc;rcases hmx with⟨e4,_⟩|⟨u,v,_,e4,_⟩
      ·rw[e3]at e4;cases e4
      ·rw[e4];rfl
     have e3:=n0 e2;exact⟨ad',_,by rw[e3,show c.toNat -l.toNat=(hh -l).toNat by omega]⟩
    split at he
    ·rename_i i;simp[aA,aD]at he;have⟨rfl,rfl,rfl⟩:=he;have⟨q0,⟨fz,t',l',hm⟩,q1,q2,q3,q4,q5⟩:=tF hp;have⟨ad',cap',hr,hc',had,hnn,a1A,n0⟩:=aVL q0 q1 q2 q3 q4 q5;refine⟨rfl,_,hr,?_,fin q2 q3 (JA · h2 h3) n0⟩;simp[dO,hm,aA]at hs;subst hs;simp only[A.Den]at hx⊢;refine⟨hx.1,λ_=>⟨ad',cap',rfl,hc',P.cellsOf e,fz,t',l',hm,oM,?_⟩⟩;have aY5:ad'=none->l'.length=0:=by
      intro q;have q:=hnn.2 q;subst q;have⟨xs,k1,_⟩:=h.res i _ hm;have hv:=eH hx hm sM;rw[<-hv]at k1;rcases k1 with⟨_,k1,_⟩|⟨_,_,_,_,_,k1,_⟩
      ·exact k1
      ·simp at k1
     by_cases hz:cap'=0
     ·exact .inl ⟨oM,hz,aY5⟩
     ·right;have had:=had.resolve_left hz;subst had;have hv:=eH hx hm sM;have⟨xs,k1,_⟩:=h.res i _ hm;rcases k1 with⟨_,_,a0,k1⟩|⟨_,b,og,cp,cur,k1,_⟩
      ·rw[k1]at hv;simp at hv;omega
      ·have hb:=k1;rw[k1]at hv;simp at hv;obtain⟨rfl,rfl⟩:=hv;exact⟨b,og,_,_,hb,by simp[eP],oM⟩
    ·rename_i i o n;simp[aA,aD]at he;have⟨rfl,rfl,rfl⟩:=he;have⟨q0,⟨fz,t',l',hm⟩,q1,q2,q3,q4,q5⟩:=tF hp;have⟨ad',cap',hr,hc',had,hnn,a1A,n0⟩:=aVL q0 q1 q2 q3 q4 q5;refine⟨rfl,_,hr,?_,fin q2 q3 (JA · h2 h3) n0⟩;simp only[dO,hm,aA]at hs;subst hs;simp only[A.Den]at hx⊢;obtain⟨ad2,cap2,hy,wF,es2,fz2,t2,l2,e1,e2,h4⟩:=eH hx hm sM;rw[hm]at e1;simp at e1;obtain⟨rfl,rfl,rfl,rfl⟩:=e1;have hln:((l'.drop o).take n).length=n:=zM;rw[hln]at q5;refine⟨hx.1,λ_=>⟨ad',cap',rfl,hc',P.cellsOf e,fz,t',l',hm,oM,?_⟩⟩;have aY5:ad'=none->l'.length=0:=by
      intro q;have q:=hnn.2 q;subst q;simp at hy;obtain⟨rfl,_⟩:=hy;rcases h4 with⟨_,_,k1⟩|⟨_,_,_,_,_,k1,_⟩
      ·exact k1 rfl
      ·simp at k1
     by_cases hz:cap'=0
     ·exact .inl ⟨oM,hz,aY5⟩
     ·right;have had:=had.resolve_left hz;subst had;simp at hy;obtain⟨rfl,hcc⟩:=hy;rcases h4 with⟨_,k0,_⟩|⟨b,og,n',cap'',h6,h7,h8⟩
      ·omega
      ·subst h7;exact⟨b,og,n',cap'',h6,by simp[eP,fS,fP],oM⟩
    ·rename_i es l';simp only[aA,aD]at he;obtain⟨rfl,rfl,rfl⟩:=he;obtain⟨q0,rfl,q1,q2,q3,q4,q5⟩:=aUL hp;simp only[dO,aA]at hs;subst hs;obtain⟨ad',cap',hr,hc',had,hnn,_,n0⟩:=aVL q0 q1 q2 q3 q4 (by simpa using q5);refine⟨rfl,_,hr,?_,fin q2 q3 (JA · h2 h3) n0⟩;simp only[A.Den,C.Den]at hx⊢;have hln:((l'.drop l.toNat).take (hh -l).toNat).length=(hh -l).toNat:=zM;refine⟨ad',cap',by rw[hln],by rw[hln];exact hc',?_⟩;by_cases hz:(hh -l).toNat=0
     ·left;rw[hz];simp
     ·right;obtain⟨ad2,cap2,hy,_,h4⟩:=hx;simp at hy;obtain⟨rfl,rfl⟩:=hy;obtain⟨b,off,rfl,h5,h6,h7⟩:=h4.resolve_left (by rintro rfl;simp at q5;omega);have:=had.resolve_left oM;subst this;exact⟨b,off+l.toNat*P.cellsOf e,by simp[eP],h5,h6,VF h7⟩
    ·rename_i es;simp only[aA,aD]at he;obtain⟨rfl,rfl,rfl⟩:=he;obtain⟨q0,q1,rfl,rfl,rfl⟩:=aUL hp;simp only[dO,aA]at hs;subst hs;obtain⟨ad',cap',hr,hc',had,hn,wF,_⟩:=aVL q0 q1 oM oM oM sM;simp only[A.Den,C.Den]at hx;simp only[Value.slice.injEq]at hx;obtain⟨rfl,_,rfl⟩:=hx;have e1:=hn.1 rfl;subst e1;have e2:cap'=0:=oM;subst e2;refine⟨rfl,_,hr,?_,λ_=>⟨none,0,rfl⟩⟩;simp only[A.Den,C.Den];rfl
    ·cases he
   ·cases he
  ·cases he
def aFE(h:bC M0 S0 w0 N T m ρ a w){t:TypeId}{x v:A}{y:Value}{lo hi mx:Option A}{vlo vhi vmx:Option Value}{pre:Bool}{ups:List (Nat×R)}(hx:x.Den w (dD M0 m ρ) m ρ y)
 (hlo:vU w (dD M0 m ρ) m ρ lo vlo)(hhi:vU w (dD M0 m ρ) m ρ hi vhi)(hmx:vU w (dD M0 m ρ) m ρ mx vmx)
 (he:jW P m t x lo hi mx=some (pre,v,ups))(hp:pre=true):ups=[]/\∃z,(Instr.sliceAt t y vlo vhi vmx).run P w=.ok z w/\v.Den w (dD M0 m ρ) m ρ z:=by
 have⟨h1,z,h2,h3,_⟩:=OQ h hx hlo hhi hmx he hp;exact⟨h1,z,h2,h3⟩
end
def aNB(P:Program)(t:TypeId):Nat:=
 match P.underlying t with
 |some (.slice e)=>P.cellsOf e
 |_=>0
def B0(P:Program)(t:TypeId):A->A
 |.d (.nl _)=>.d (.nl (aNB P t))
 |x=>x
def JJ(P:Program)(m:Mem)(T:Nat->A)(t:TypeId)(ps:List (Nat×Operand)):Option E:=
 match LQ P t,o5 P t,oX m (ps.map λp=>(p.1,dN T p.2))with
 |some pl,some z,some parts=>(NM pl (z.map .d) parts).map λout=>(true,.agg out,[])
 |_,_,_=>none
def jN(m:Mem)(d:Nat):Bool:=match m d with
 |none=>true
 |some _=>false
def hG{d:Nat}(h:jN m d=true):m d=none:=by
 unfold jN at h;split at h<;>simp_all
def vY(P:Program)(m:Mem)(T:Nat->A)(d:Nat)(t:TypeId)(len:Nat)(ps:List (Nat×Operand)):Option E:=
 match j8 P t with
 |some e=>match o5 P e,oX m (ps.map λp=>(p.1,dN T p.2))with
  |some z,some rp=>(NO (P.cellsOf e) (List.replicate len (z.map A.d)) rp).map λout=>
   (decide (z.length=P.cellsOf e/\0<P.cellsOf e/\len*P.cellsOf e<=16777216)&&jN m d,.h d,[(d,.fW false e (P.cellsOf e) out)])
  |_,_=>none
 |none=>none
def j3(P:Program)(m:Mem)(T:Nat->A)(t:TypeId)(ad x:Operand):Option E:=
 match dN T ad,(dN T x).cells m with
 |.lp i off,some vs=>match m i with
  |some (.cells false l)=>some (decide (vs.length=P.cellsOf t/\0<P.cellsOf t/\off+vs.length<=l.length),.x,[(i,.cells false (mM l off vs))])
  |_=>none
 |.ep i es k off,some vs=>match m i with
  |some (.fW false te es' l)=>some (decide (es'=es/\k<l.length/\vs.length=P.cellsOf t/\0<P.cellsOf t/\off+vs.length<=es),.x,[(i,.fW false te es (l.set k (mM (l.getD k []) off vs)))])
  |_=>none
 |_,_=>none
def zS(m:Mem)(e:TypeId)(es:Nat):Option Nat->Bool
 |none=>true
 |some i=>match m i with
  |some (.fW false e' es' _)=>decide (e'=e/\es'=es)
  |_=>false
def qW(m:Mem)(es:Nat):A->Bool
 |.h j=>match m j with
  |some (.fW _ _ es' _)=>decide (es'=es)
  |_=>false
 |.sv j _ _=>match m j with
  |some (.fW _ _ es' _)=>decide (es'=es)
  |_=>false
 |.d (.sl es' _)=>decide (es'=es)
 |.d (.nl _)=>true
 |_=>false
def aI7(k:Option Nat)(l:List (List A)):Bool:=match k,l with
 |none,[]=>false
 |_,_=>true
def tK(P:Program)(m:Mem)(T:Nat->A)(d:Nat)(t:TypeId)(od ox:Operand):Option E:=
 match j8 P t with
 |some e=>match iP m (dN T od),dO m (dN T ox),o5 P e with
  |some (k,l),some l2,some z=>some (decide (z.length=P.cellsOf e/\0<P.cellsOf e/\0<P.bytesOf e/\(l.length+l2.length)*P.bytesOf e<=140737488355328)&&(zS m e (P.cellsOf e) k&&(qW m (P.cellsOf e) (dN T ox)&&(jN m d&&aI7 k l2))),
    .h d,uL k++[(d,.fW false e (P.cellsOf e) (l++l2))])
  |_,_,_=>none
 |none=>none
def yC(P:Program)(m:Mem)(d:Nat)(t:TypeId)(l c:A):Option E:=
 match j8 P t,l,c with
 |some e,.d (.v (.int kl l)),.d (.v (.int kc c))=>(o5 P e).map λz=>
  (decide (z.length=P.cellsOf e/\0<P.cellsOf e/\0<=l/\l<=c/\(P.bytesOf e:Int)*c<=281474976710656/\c<=9223372036854775807)&&jN m d,.h d,[(d,.fW false e (P.cellsOf e) (List.replicate l.toNat (z.map A.d)))])
 |_,_,_=>none
def A5(mx:Bool)(x y:A):Option E:=
 match x,y with
 |.d (.v (.int k a)),.d (.v (.int k' b))=>some (decide (k=k'),.d (.v (.int k (if mx then(if b>a then b else a)else(if b<a then b else a)))),[])
 |_,_=>none
def j9(P:Program)(m:Mem)(T:Nat->A)(d:Nat)(o:Oper):Option E:=
 match o.op with
 |.move x=>some (true,B0 P o.type (dN T x),[])
 |.assign x=>some (true,B0 P o.type (dN T x),[])
 |.pick c a b=>match dN T c with
  |.d (.v (.bool t))=>some (true,bif t then dN T a else dN T b,[])
  |_=>none
 |.alloc t=>(o5 P t).map λl=>(jN m d,.lp d 0,[(d,.cells false (l.map .d))])
 |.box t x=>((dN T x).cells m).map λl=>(jN m d,.lp d 0,[(d,.cells false l)])
 |.build t ps=>JJ P m T t ps.toList
 |.buildSlice t n ps=>vY P m T d t n ps.toList
 |.load t x=>jM P m t (dN T x)
 |.store t x y=>j3 P m T t x y
 |.nilCheck x=>nT m (dN T x)
 |.binOp op t x y _=>xZ P m op t (dN T x) (dN T y)
 |.unOp op _ x=>NF op (dN T x)
 |.convert s t x=>yB P s t (dN T x)
 |.makeFunc f first caps=>some (true,.fn f (first.toList.map (dN T)) (caps.toList.map (dN T)),[])
 |.makeMap t none=>some (jN m d,.h d,[(d,.mp false [] [])])
 |.makeSlice t l c=>yC P m d t (dN T l) (dN T c)
 |.slice t x lo hi mx=>jW P m t (dN T x) (lo.map (dN T)) (hi.map (dN T)) (mx.map (dN T))
 |.fieldAddr t x f=>mG P m t (dN T x) f
 |.field t x f=>uF P m t (dN T x) f
 |.indexAddr t x i=>j7 P m t (dN T x) (dN T i)
 |.extract x i=>match dN T x with
  |.eL l=>some (decide (i<l.length),l.getD i .x,[])
  |_=>none
 |.call c=>match c.callee,c.args.toList,c.argTypes.toList with
  |.builtin .len,[x],[t]=>CE P m t (dN T x)
  |.builtin .append,[x,y],[t,t']=>(tK P m T d t x y).map λr=>(decide (t=t')&&r.1,r.2)
  |.builtin .max,[x,y],_=>A5 true (dN T x) (dN T y)
  |.builtin .min,[x,y],_=>A5 false (dN T x) (dN T y)
  |_,_,_=>none
 |_=>none
section
variable{M0 S0:Nat->Prop}{w0:World}{N:Fr}{T:Nat->A}{m:Mem}{ρ:Nat->Value}{a:Act}{w:World}{P:Program}
def YU{x:A}(h:x.Den w M m ρ y):(B0 P t x).Den w M m ρ y:=by
 unfold B0;split
 ·simp[A.Den,C.Den]at h⊢;exact h
 ·exact h
def G1(P:Program)(M0 S0:Nat->Prop)(w0:World)(N:Fr)(T:Nat->A)(m:Mem)(ρ:Nat->Value)(a:Act)(w:World)(o:Oper)(v:A)(m':Mem):Prop:=
 ∃y w' ρ' res,(execOp a.eval o).run P w=.ok res w'/\(res=.value y\/(res=.skip/\y=undef))/\bC M0 S0 w0 N T m' ρ' a w'/\gL m m' ρ ρ'/\v.Den w' (dD M0 m' ρ') m' ρ' y
def eO(h:bC M0 S0 w0 N T m ρ a w){o:Oper}{v:A}{y:Value}(hr:(execOp a.eval o).run P w=.ok (.value y) w)(hv:v.Den w (dD M0 m ρ) m ρ y):G1 P M0 S0 w0 N T m ρ a w o v m:=
 ⟨y,w,ρ,_,hr,.inl rfl,h,gL.refl _ _,hv⟩
def CQ(h:bC M0 S0 w0 N T m ρ a w){x:A}{y:Value}{l:List (List A)}{es:Nat}(hx:x.Den w (dD M0 m ρ) m ρ y)(hs:dO m x=some l)(he:qW m es x=true):∀r∈l,r.length=es:=by
 cases x with
 |h j=>
  simp[dO]at hs;simp[qW]at he;split at hs
  ·rename_i fz t es' l' hj;simp at hs;subst hs;rw[hj]at he;simp at he;subst he;have⟨xs,_,_,h3,_⟩:=h.res j _ hj;exact h3
  ·cases hs
 |sv j lo n=>
  simp[dO]at hs;simp[qW]at he;split at hs
  ·rename_i fz t es' l' hj;simp at hs;subst hs;rw[hj]at he;simp at he;subst he;have⟨xs,_,_,h3,_⟩:=h.res j _ hj;exact λr hr=>h3 r (dI (dJ hr))
  ·cases hs
 |d c=>
  cases c with
  |sl es' l'=>
   simp[dO]at hs;subst hs;simp only[qW]at he;have he:=aUL he;subst he;simp[A.Den,C.Den]at hx;have⟨ad,cap,_,_,hl⟩:=hx;rcases hl with rfl|⟨b,off,_,_,_,hr⟩
   ·simp
   ·intro r hr';rw[C.tX]at hr;obtain⟨r0,hr0,rfl⟩:=aA4.1 hr';obtain⟨k,hk,rfl⟩:=dH.1 hr0;rw[aB];exact(hr k _ (aC hk)).1
  |nl es'=>simp[dO]at hs;subst hs;simp
  |_=>simp[dO]at hs
 |_=>simp[dO]at hs
def aLO{α:Type}{a:Array α}{x:α}(h:a.toList=[x]):a= #[x]:=by cases a;simp_all
def ME{α:Type}{a:Array α}{x y:α}(h:a.toList=[x,y]):a= #[x,y]:=by cases a;simp_all
def pP(h:bC M0 S0 w0 N T m ρ a w):∀(l:List Operand),A.bR w (dD M0 m ρ) m ρ (l.map (dN T)) (l.map a.eval)
 |[]=>by simp[A.bR]
 |o::r=>by simp only[aG,A.bR];exact⟨_,_,rfl,cU h o,pP h r⟩
def CS(h:bC M0 S0 w0 N T m ρ a w)(o:Option Operand):vU w (dD M0 m ρ) m ρ (o.map (dN T)) (o.map a.eval):=by
 cases o with
 |none=>exact .inl ⟨rfl,rfl⟩
 |some o=>exact .inr ⟨_,_,rfl,rfl,cU h o⟩
def aFC(h:bC M0 S0 w0 N T m ρ a w)(cX:∀b,M0 b->b<w0.heap.size){o:Oper}{d:Nat}{pre:Bool}{v:A}{ups:List (Nat×R)}(he:j9 P m T d o=some (pre,v,ups))(hp:pre=true):G1 P M0 S0 w0 N T m ρ a w o v (aH m ups):=by
 unfold j9 at he;split at he
 case h_1 x ho=>
  simp[aA,aD]at he;obtain⟨_,rfl,rfl⟩:=he;exact eO h (by simp[execOp,ho]) (YU (cU h x))
 case h_2 x ho=>
  simp[aA,aD]at he;obtain⟨_,rfl,rfl⟩:=he;exact eO h (by simp[execOp,ho]) (YU (cU h x))
 case h_3 c x y ho=>
  split at he
  ·rename_i t hc;simp[aA,aD]at he;obtain⟨_,rfl,rfl⟩:=he;have hcv:=cU h c;rw[hc]at hcv;simp[A.Den,C.Den]at hcv;refine eO h (y:=if t then a.eval x else a.eval y) (by simp[execOp,ho,hcv,asBool]) ?_;cases t
   ·exact cU h y
   ·exact cU h x
  ·cases he
 case h_4 t ho=>
  simp only[bU]at he;have⟨l,h1,h2⟩:=he;simp[aD]at h2;have⟨rfl,rfl,rfl⟩:=h2;have⟨ρ',w',hr,hs,hO,hv⟩:=aE6 h cX h1 (hG hp);exact⟨_,w',ρ',_,by simp[execOp,ho,hr],.inl rfl,hs,hO,hv⟩
 case h_5 t x ho=>
  simp only[bU]at he;have⟨l,h1,h2⟩:=he;simp[aD]at h2;have⟨rfl,rfl,rfl⟩:=h2;have⟨ρ',w',hr,hs,hO,hv⟩:=aK1 (P:=P) (t:=t) h cX (cU h x) h1 (hG hp);exact⟨_,w',ρ',_,by simp[execOp,ho,hr],.inl rfl,hs,hO,hv⟩
 case h_6 t ps ho=>
  unfold JJ at he;split at he
  ·rename_i pl z parts h1 h2 h3;simp only[bU]at he;obtain⟨out,h4,h5⟩:=he;simp only[aD]at h5;obtain⟨rfl,rfl,rfl⟩:=h5;obtain⟨y,hr,hv⟩:=aE7 (P:=P) (w:=w) h1 h2 (yP h h3) h4;refine eO h (y:=y) ?_ hv;have e:(ps.map λ(i,x)=>(i,a.eval x))=(ps.toList.map λp=>(p.1,a.eval p.2)).toArray:=by cases ps;simp
   simp only[execOp,ho,e,aV,hr,aN,cB]
  ·cases he
 case h_7 t n ps ho=>
  unfold vY at he;split at he
  ·rename_i e O2;split at he
   ·rename_i z rp h1 h2;simp only[bU]at he;obtain⟨out,h4,h5⟩:=he;simp only[aD]at h5;obtain⟨rfl,rfl,rfl⟩:=h5;rw[aE]at hp;obtain⟨p1,p2,p3⟩:=aUL hp.1;obtain⟨ρ',y,w',hr,hs,hO,hv⟩:=MU h cX O2 h1 p1 p2 rfl p3 h2 h4 (hG hp.2);have e2:(ps.map λ(i,x)=>(i,a.eval x))=(ps.toList.map λp=>(p.1,a.eval p.2)).toArray:=by cases ps;simp
    exact⟨y,w',ρ',_,by simp only[execOp,ho,e2,aV,hr,aN,cB],.inl rfl,hs,hO,hv⟩
   ·cases he
  ·cases he
 case h_8 t x ho=>
  obtain⟨rfl,z,hr,hv⟩:=Y7 (P:=P) h (cU h x) he hp;exact eO h (by simp[execOp,ho,hr]) hv
 case h_9 t x y ho=>
  unfold j3 at he;split at he
  ·rename_i i off vs hx h2;split at he
   ·rename_i l h1;simp only[aA,aD]at he;obtain⟨rfl,rfl,rfl⟩:=he;obtain⟨p1,p2,p3⟩:=aUL hp;have v8:=cU h x;rw[hx]at v8;obtain⟨ti,J3⟩:=sA p2;obtain⟨w',hr,hs,hO⟩:=UJ (P:=P) (t:=t) h v8 h1 h2 p1 p3 (by rw[J3];rfl);exact⟨undef,w',ρ,_,by simp[execOp,ho,hr],.inr ⟨rfl,rfl⟩,hs,hO,by simp only[A.Den]⟩
   ·cases he
  ·rename_i i es k off vs hx h1;split at he
   ·rename_i te es' l h2;simp only[aA,aD]at he;obtain⟨rfl,rfl,rfl⟩:=he;obtain⟨rfl,p1,p2,p3,p4⟩:=aUL hp;obtain⟨ti,J3⟩:=sA p3;have v8:=cU h x;rw[hx]at v8;obtain⟨w',hr,hs,hO⟩:=UI (P:=P) (t:=t) h v8 h2 h1 p1 p2 (by rintro rfl;simp at p2;omega) p4 (by rw[J3];rfl);exact⟨undef,w',ρ,_,by simp[execOp,ho,hr],.inr ⟨rfl,rfl⟩,hs,hO,by simp only[A.Den]⟩
   ·cases he
  ·cases he
 case h_10 x ho=>
  obtain⟨rfl,⟨d,hy⟩,hv⟩:=UH h (cU h x) he hp;refine eO h (y:=a.eval x) ?_ hv;rcases hy with hy|⟨g,f,c,hy⟩<;>simp[execOp,ho,hy]
 case h_11 op t x y ty ho=>
  obtain⟨rfl,z,hr,hv⟩:=aK0 (P:=P) (ox:=x) (oy:=y) h (cU h x) (cU h y) he hp;refine eO h (y:=z) ?_ hv;simp only[execOp,ho,aV]at hr⊢;rw[hr];rfl
 case h_12 op ty x ho=>
  obtain⟨rfl,z,hr,hv⟩:=aMF (P:=P) (cU h x) he hp;exact eO h (by simp[execOp,ho,hr]) hv
 case h_13 s t x ho=>
  obtain⟨rfl,z,hr,hv⟩:=WU (P:=P) (cU h x) he hp;exact eO h (by simp[execOp,ho,hr]) hv
 case h_14 f first caps ho=>
  simp only[aA,aD]at he;obtain⟨_,rfl,rfl⟩:=he;refine eO h (y:=.func f (first.map a.eval) (caps.map a.eval)) (by simp[execOp,ho,Instr.makeFunc]) ?_;simp only[A.Den];exact⟨_,_,rfl,by simpa using pP h first.toList,by simpa using pP h caps.toList⟩
 case h_15 t ho=>
  simp only[aA,aD]at he;obtain⟨rfl,rfl,rfl⟩:=he;obtain⟨ρ',y,w',hr,hs,hO,hv⟩:=WV (P:=P) (t:=t) h cX (hG hp);exact⟨y,w',ρ',_,by simp[execOp,ho,hr],.inl rfl,hs,hO,hv⟩
 case h_16 t l c ho=>
  unfold yC at he;split at he
  ·rename_i e kl l' kc c' h1 h2 h3;simp only[bU]at he;obtain⟨z,h4,h5⟩:=he;simp only[aD]at h5;obtain⟨rfl,rfl,rfl⟩:=h5;rw[aE]at hp;obtain⟨p1,p2,p3,p4,p5,p6⟩:=aUL hp.1;obtain⟨ρ',y,w',hr,hs,hO,hv⟩:=QX (P:=P) (kl:=kl) (kc:=kc) h cX h1 h4 p1 p2 rfl rfl p3 p4 p5 p6 (hG hp.2);have hl:=cU h l;have hc:=cU h c;rw[h2]at hl;rw[h3]at hc;simp only[A.Den,C.Den]at hl hc;exact⟨y,w',ρ',_,by simp[execOp,ho,hl,hc,hr],.inl rfl,hs,hO,hv⟩
  ·cases he
 case h_17 t x lo hi mx ho=>
  obtain⟨rfl,z,hr,hv⟩:=aFE (P:=P) h (cU h x) (CS h lo) (CS h hi) (CS h mx) he hp;exact eO h (by simp[execOp,ho,hr]) hv
 case h_18 t x f ho=>
  obtain⟨rfl,z,hr,hv⟩:=QV (P:=P) h (cU h x) he hp;exact eO h (by simp[execOp,ho,hr]) hv
 case h_19 t x f ho=>
  obtain⟨rfl,z,hr,hv⟩:=aFA (P:=P) h (cU h x) he hp;exact eO h (by simp[execOp,ho,hr]) hv
 case h_20 t x i ho=>
  obtain⟨rfl,z,hr,hv⟩:=QW (P:=P) h (cU h x) (cU h i) he hp;exact eO h (by simp[execOp,ho,hr]) hv
 case h_21 x i ho=>
  split at he
  ·rename_i l hx;simp only[aA,aD]at he;obtain⟨rfl,rfl,rfl⟩:=he;have hp:=aUL hp;have v8:=cU h x;rw[hx]at v8;simp only[A.Den]at v8;obtain⟨vs,hv,hd⟩:=v8;have hlen:=(A.xJ.1 hd).1;have aVU:i<vs.toList.length:=oM;refine eO h (y:=vs.toList[i]) ?_ ?_
   ·have:vs[i]?=some vs.toList[i]:=by simp at aVU;simp[aVU]
    simp[execOp,ho,hv,Instr.extract,this]
   ·rw[bF,aC hp];exact(A.xJ.1 hd).2 _ _ _ (aC hp) (aC aVU)
  ·cases he
 case h_22 c ho=>
  obtain⟨callee,args,tys⟩:=c;simp only at he;split at he
  ·rename_i x t h2 h3;have e1:=aLO h2;have e2:=aLO h3;subst e1;subst e2;obtain⟨rfl,z,hr,hv⟩:=aK3 (P:=P) (ty:=o.type) h (cU h x) he hp;exact eO h (by simp[execOp,ho,resolve,invoke,builtin,hr]) hv
  ·rename_i x y t t' h2 h3;have e1:=ME h2;have e2:=ME h3;subst e1;subst e2;simp only[bU]at he;obtain⟨⟨p,q,r⟩,h4,h5⟩:=he;simp only[aD]at h5;obtain⟨rfl,rfl,rfl⟩:=h5;rw[aE]at hp;obtain⟨htt,hp⟩:=hp;have htt:=aUL htt;subst htt;unfold tK at h4;split at h4
   ·rename_i e O2;split at h4
    ·rename_i k l l2 z g1 g2 g3;simp only[aA,aD]at h4;obtain⟨rfl,rfl,rfl⟩:=h4;simp only[aE]at hp;obtain⟨p0,p4,p5,p6⟩:=hp;obtain⟨p1,p2,p3,p7⟩:=aUL p0;obtain⟨p6,p8⟩:=p6;have p6:=hG p6;have hk:∀i,k=some i->∃l',m i=some (.fW false e (P.cellsOf e) l'):=by
      rintro i rfl;simp only[zS]at p4;split at p4
      ·rename_i e' es' l' hi;obtain⟨rfl,rfl⟩:=aUL p4;exact⟨l',hi⟩
      ·cases p4
     have hle:∀r∈l,r.length=P.cellsOf e:=by
      cases BF:dN T x with
      |h i=>
       rw[BF]at g1;simp only[iP]at g1;split at g1
       ·rename_i t2 es2 l2' hi;simp at g1;obtain⟨rfl,rfl⟩:=g1;obtain⟨l',hi'⟩:=hk i rfl;rw[hi]at hi';simp at hi';obtain⟨rfl,rfl,rfl⟩:=hi';obtain⟨xs,_,_,h3,_⟩:=h.res i _ hi;exact h3
       ·cases g1
      |d c=>
       rw[BF]at g1;cases c<;>simp[iP]at g1
       obtain⟨_,rfl⟩:=g1;simp
      |_=>rw[BF]at g1;simp[iP]at g1
     obtain⟨ρ',y',w',hr,hs,hO,hv⟩:=aBM (P:=P) (ty:=o.type) h cX g1 g2 O2 g3 p1 p2 rfl rfl p3 hle (CQ h (cU h y) g2 p5) hk p6 (λe1 e2=>by subst e1;subst e2;cases p8) p7;rw[vX];exact⟨y',w',ρ',_,by simp[execOp,ho,resolve,invoke,builtin,hr],.inl rfl,hs,hO,hv⟩
    ·cases h4
   ·cases h4
  ·rename_i x y h2;have e1:=ME h2;subst e1;unfold A5 at he;split at he
   ·rename_i k p k' q hx hy;simp only[aA,aD]at he;obtain⟨rfl,rfl,rfl⟩:=he;have hp:=aUL hp;subst hp;have v8:=cU h x;have hyd:=cU h y;rw[hx]at v8;rw[hy]at hyd;simp only[A.Den,C.Den]at v8 hyd;exact eO h (by simp[execOp,ho,resolve,invoke,builtin,Builtin.max_,Builtin.max2,v8,hyd];rfl) (by simp[A.Den,C.Den])
   ·cases he
  ·rename_i x y h2;have e1:=ME h2;subst e1;unfold A5 at he;split at he
   ·rename_i k p k' q hx hy;simp only[aA,aD]at he;obtain⟨rfl,rfl,rfl⟩:=he;have hp:=aUL hp;subst hp;have v8:=cU h x;have hyd:=cU h y;rw[hx]at v8;rw[hy]at hyd;simp only[A.Den,C.Den]at v8 hyd;exact eO h (by simp[execOp,ho,resolve,invoke,builtin,Builtin.min_,Builtin.min2,v8,hyd];rfl) (by simp[A.Den,C.Den])
   ·cases he
  ·cases he
 case h_23=>cases he
end
mutual
def A.eZ(g:Nat->Nat):A->A
 |.lp i off=>.lp (g i) off
 |.h i=>.h (g i)
 |.ep i es k off=>.ep (g i) es k off
 |.sv i lo n=>.sv (g i) lo n
 |.fn f a c=>.fn f (A.iV g a) (A.iV g c)
 |.agg l=>.agg (A.iV g l)
 |.eL l=>.eL (A.iV g l)
 |.AE t a=>.AE t (A.eZ g a)
 |.d c=>.d c
 |.x=>.x
def A.iV(g:Nat->Nat):List A->List A
 |[]=>[]
 |c::r=>A.eZ g c::A.iV g r
end
def HP(g:Nat->Nat):∀l r:List A,A.iV g (l++r)=A.iV g l++A.iV g r
 |[],r=>rfl
 |c::l,r=>by simp[A.iV,HP g l r]
def K7(g:Nat->Nat):∀l:List A,A.iV g l=l.map (A.eZ g)
 |[]=>rfl
 |c::l=>by simp[A.iV,K7 g l]
def AS(g:Nat->Nat):∀l:List A,(A.iV g l).length=l.length
 |[]=>rfl
 |c::l=>by simp[A.iV,AS g l]
def tD(g:Nat->Nat):∀l:List (List A),(l.map (A.iV g)).flatten=A.iV g l.flatten
 |[]=>rfl
 |e::l=>by simp[aG,dL,HP,tD g l]
def R.eZ(g:Nat->Nat):R->R
 |.cells fz l=>.cells fz (A.iV g l)
 |.fW fz t es l=>.fW fz t es (l.map (A.iV g))
 |.mp fz kv st=>.mp fz (kv.map λp=>(p.1,p.2.eZ g)) (st.map λp=>(p.1,g p.2))
 |.fr l=>.fr (A.iV g l)
 |.it i sc a b=>.it (g i) (g sc) (a.map g) (b.map g)
 |.lo st pend ts ps asg bod=>.lo st pend (A.iV g ts) ps asg bod
 |.cu src es l=>.cu (src.eZ g) es (l.map (A.iV g))
 |r=>r
def G2(g:Nat->Nat)(m m':Mem)(ρ ρ':Nat->Value):Prop:=∀i,m i≠none->m' (g i)≠none/\(m' (g i)≠some .dead->m i≠some .dead/\ρ' (g i)=ρ i/\∀fz t es l,m i=some (.fW fz t es l)->∃fz' t' l',m' (g i)=some (.fW fz' t' es l')/\l'.length=l.length)
def Has.KV(hO:G2 g m m' ρ ρ'){i:Nat}{p q:Prop}(h:Has m i p)
 (hpq:ρ' (g i)=ρ i->(∀fz t es l,m i=some (.fW fz t es l)->∃fz' t' l',m' (g i)=some (.fW fz' t' es l')/\l'.length=l.length)->p->q):Has m' (g i) q:=by
 have⟨h1,h2⟩:=hO i h.1;exact⟨h1,λhd=>hpq (h2 hd).2.1 (h2 hd).2.2 (h.2 (h2 hd).1)⟩
mutual
def A.C6{g:Nat->Nat}{w w':World}{M M':Nat->Prop}{m m':Mem}{ρ ρ':Nat->Value}(h:dV M w w')(hM:∀b,M' b->b<w.heap.size->M b)(hO:G2 g m m' ρ ρ'):
 ∀(a:A)(y:Value),a.Den w M m ρ y->(a.eZ g).Den w' M' m' ρ' y
 |.d c,y,hd=>by
  simp only[A.eZ,A.Den]at hd⊢;exact C.dC h hM c y hd
 |.lp i off,y,hd=>by
  simp only[A.eZ,A.Den]at hd⊢;exact hd.KV hO λe _⟨b,h1,h2⟩=>⟨b,e.trans h1,h2⟩
 |.h i,y,hd=>by
  simp only[A.eZ,A.Den]at hd⊢;exact hd.KV hO λe _ h1=>h1.trans e.symm
 |.ep i es k off,y,hd=>by
  simp only[A.eZ,A.Den]at hd⊢;exact hd.KV hO λe _⟨b,o,n,cap,h1,h2⟩=>⟨b,o,n,cap,e.trans h1,h2⟩
 |.sv i lo n,y,hd=>by
  simp only[A.eZ,A.Den]at hd⊢;refine hd.KV hO λe e2⟨a,cap,h1,h2,es,fz,t,l,h5,h6,h3⟩=>?_;obtain⟨fz',t',l',h7,h8⟩:=e2 fz t es l h5;exact⟨a,cap,h1,h2,es,fz',t',l',h7,oM,h3.imp (λ⟨q1,q0,q2⟩=>⟨q1,q0,λq=>by rw[h8];exact q2 q⟩) λ⟨b,o,n',cap',h9,h10⟩=>⟨b,o,n',cap',e.trans h9,h10⟩⟩
 |.fn f first caps,y,hd=>by
  simp[A.eZ,A.Den]at hd⊢;have⟨us,vs,hy,h1,h2⟩:=hd;exact⟨us,vs,hy,A.lM h hM hO first _ h1,A.lM h hM hO caps _ h2⟩
 |.agg l,y,hd=>by
  simp[A.eZ,A.Den]at hd⊢;have⟨vs,hy,h0,h1⟩:=hd;exact⟨vs,hy,h0,A.lM h hM hO l _ h1⟩
 |.eL l,y,hd=>by
  simp[A.eZ,A.Den]at hd⊢;have⟨vs,hy,h1⟩:=hd;exact⟨vs,hy,A.lM h hM hO l _ h1⟩
 |.AE t a,y,hd=>by
  simp[A.eZ,A.Den]at hd⊢;have⟨v,hy,h1⟩:=hd;exact⟨v,hy,A.C6 h hM hO a _ h1⟩
 |.x,y,hd=>by simp[A.eZ,A.Den]
def A.lM{g:Nat->Nat}{w w':World}{M M':Nat->Prop}{m m':Mem}{ρ ρ':Nat->Value}(h:dV M w w')(hM:∀b,M' b->b<w.heap.size->M b)(hO:G2 g m m' ρ ρ'):
 ∀(l:List A)(ys:List Value),A.bR w M m ρ l ys->A.bR w' M' m' ρ' (A.iV g l) ys
 |[],ys,hd=>by simpa only[A.iV,A.bR]using hd
 |c::r,ys,hd=>by
  simp only[A.iV,A.bR]at hd⊢;obtain⟨y,yr,hy,h1,h2⟩:=hd;exact⟨y,yr,hy,A.C6 h hM hO c y h1,A.lM h hM hO r yr h2⟩
end
def FA.push(hO:G2 g m m' ρ ρ'){ids:List Nat}{p q:Prop}(h:FA m ids p)(hpq:(∀i∈ids,dX ρ' (g i)=dX ρ i)->p->q):FA m' (ids.map g) q:=by
 refine⟨λi hi=>?_,λhd=>hpq (λi hi=>?_) (h.2 λi hi=>?_)⟩
 ·obtain⟨j,hj,rfl⟩:=aA4.1 hi;exact(hO j (h.1 j hj)).1
 ·unfold dX;rw[((hO i (h.1 i hi)).2 (hd (g i) (aA4.2 ⟨i,hi,rfl⟩))).2.1]
 ·exact((hO i (h.1 i hi)).2 (hd (g i) (aA4.2 ⟨i,hi,rfl⟩))).1
def vW.push(hO:G2 g m m' ρ ρ'){st:List (Ky×Nat)}{l:List MapEntry}{cl:Nat}(h:vW m ρ st l cl):vW m' ρ' (st.map λp=>(p.1,g p.2)) l cl:=by
 intro p hp;obtain⟨q,hq,rfl⟩:=aA4.1 hp;exact(h q hq).KV hO λhe _ r=>by
  have e1:dX ρ' (g q.2)=dX ρ q.2:=by unfold dX;rw[he]
  show(∀e∈l,e.key=q.1.val->e.born=dX ρ' (g q.2))/\dX ρ' (g q.2)<=cl/\(q.1=.agg []->dX ρ' (g q.2)=cl);rw[e1];exact r
def U9.push{g:Nat->Nat}(hg:∀i j,g i=g j->i=j){m m':Mem}{ρ ρ':Nat->Value}(hO:G2 g m m' ρ ρ'){start seen:List Nat}{since:Nat}{sa:Array Nat}(h:U9 m ρ start seen since sa):U9 m' ρ' (start.map g) (seen.map g) since sa:=
 ⟨λi hi=>by
   obtain⟨j,hj,rfl⟩:=aA4.1 hi
   exact aA4.2 ⟨j,h.1 j hj,rfl⟩,FA.push hO h.2 λhe⟨h0,h1,h2,h3,h4⟩=>⟨h0.map g (λa b hab e=>hab (hg a b e)),by rw[bH,show(start.map (dX ρ'∘g))=start.map (dX ρ)from cQ he];exact h1,λi hi=>by
   obtain⟨j,hj,rfl⟩:=aA4.1 hi;rw[he j hj];refine⟨(h2 j hj).1,(h2 j hj).2.trans ?_⟩;have:(g j∈seen.map g)↔j∈seen:=⟨λh=>by obtain⟨k,hk,e⟩:=aA4.1 h;rw[hg _ _ e]at hk;exact hk,λh=>aA4.2 ⟨j,h,rfl⟩⟩;simp only[this],λi hi=>by
    obtain⟨j,hj,rfl⟩:=aA4.1 hi;exact aA4.2 ⟨j,h3 j hj,rfl⟩,by
    rw[h4];cases seen with
    |nil=>rfl
    |cons s r=>simp only[aG,List.head?_cons,dF];rw[he s (h3 s sM)]⟩⟩
def R.aGI(hg:∀i j,g i=g j->i=j){w w':World}{M M':Nat->Prop}{m m':Mem}{ρ ρ':Nat->Value}(h:dV M w w')(hM:∀b,M' b->b<w.heap.size->M b)(hO:G2 g m m' ρ ρ')
 {hd:Value}(hb:∀b,blk hd=some b->b<w.heap.size->w'.heap[b]?=w.heap[b]?){r:R}(hr:r.Ok w M m ρ hd):(r.eZ g).Ok w' M' m' ρ' hd:=by
 cases r with
 |dead=>trivial
 |cells fz l=>
  obtain⟨b,cs,t,rfl,h1,h2,h3,h4⟩:=hr;have cX:b<w.heap.size:=(aL.1 h1).1;exact⟨b,cs,t,rfl,(hb b rfl cX).trans h1,A.lM h hM hO l _ h2,λe f=>h3 e (hM b f cX),h4⟩
 |fW fz t es l=>
  obtain⟨xs,h1,h2,h3,h4,h5⟩:=hr;refine⟨xs,?_,by rw[tD];exact A.lM h hM hO _ _ h2,?_,?_,h5⟩
  rotate_left 1
  ·intro e he;obtain⟨e',he',rfl⟩:=aA4.1 he;rw[AS];exact h3 e' he'
  rotate_left 1
  ·rw[aB];rcases h1 with hn|⟨hl,g,og,cap,cur,rfl,hp,hh,rest⟩
   ·exact .inl hn
   ·exact .inr ⟨hl,g,og,cap,cur,rfl,hp,(hb g (by simp[blk];omega) (aL.1 hh).1).trans hh,rest⟩
  ·intro e b BO f;rcases h1 with⟨_,_,a,rfl⟩|⟨hl,g,og,cap,cur,rfl,hp,hh,rest⟩
   ·cases a<;>simp[blk]at BO
   ·simp[blk]at BO;obtain⟨_,rfl⟩:=BO;exact h4 e _ (by simp[blk];omega) (hM _ f (aL.1 hh).1)
 |mp fz kv st=>
  obtain⟨b,es,cl,l,rfl,h1,h2,h3,h4,h5⟩:=hr;have cX:b<w.heap.size:=(aL.1 h1).1;have e1:(kv.map λp=>(p.1,p.2.eZ g)).map (·.1)=kv.map (·.1):=by rw[bH];rfl
  have e2:(kv.map λp=>(p.1,p.2.eZ g)).map (·.2)=A.iV g (kv.map (·.2)):=by rw[K7,bH,bH];rfl
  refine⟨b,es,cl,l,rfl,(hb b rfl cX).trans h1,by rw[e1];exact h2,by rw[e2];exact A.lM h hM hO _ _ h3,λe f=>h4 e (hM b f cX),h5.push hO⟩
 |fr l=>
  obtain⟨vs,rfl,h1⟩:=hr;exact⟨vs,rfl,A.lM h hM hO _ _ h1⟩
 |it i sc start seen=>
  obtain⟨b,mb,si,sa,rfl,h1,h2,h5,h4⟩:=hr;have cX:b<w.heap.size:=(aL.1 h1).1;exact⟨b,mb,si,sa,rfl,(hb b rfl cX).trans h1,h2.KV hO λe _ q=>e.trans q,h5.KV hO λe _ q=>by unfold dX at q⊢;rw[e];exact q,h4.push hg hO⟩
 |wL=>exact hr
 |AV=>
  obtain⟨b,rfl,h1⟩:=hr;exact⟨b,rfl,(hb b rfl (aL.1 h1).1).trans h1⟩
 |si s pos=>
  obtain⟨b,rfl,h1⟩:=hr;exact⟨b,rfl,(hb b rfl (aL.1 h1).1).trans h1⟩
 |lo st pend ts ps asg bod=>
  obtain⟨l,fn,vs,D,rfl,h1,h2⟩:=hr;exact⟨l,fn,vs,D,rfl,(hb l rfl (aL.1 h1).1).trans h1,A.lM h hM hO _ _ h2⟩
 |df tk=>
  obtain⟨b,rfl,h1⟩:=hr;exact⟨b,rfl,(hb b rfl (aL.1 h1).1).trans h1⟩
 |di cur rest=>
  obtain⟨b,mb,es,cl,sa,ll,rfl,h1,h2,h3,h4,h5,h6,h7,h8,h9⟩:=hr;have cX:mb<w.heap.size:=(aL.1 h3).1;exact⟨b,mb,es,cl,sa,ll,rfl,(hb b rfl (aL.1 h1).1).trans h1,λf=>h2 (hM mb f cX),(h.2 mb cX h2).trans h3,h4,h5,h6,h7,C.dK h hM _ _ h8,h9.mono h hM⟩
 |cu src es l=>
  obtain⟨a,rfl,h1,h2,h3⟩:=hr;refine⟨a,by rw[aB],A.C6 h hM hO _ _ h1,?_,h3.imp (λe=>by rw[e];rfl) ?_⟩
  ·intro e he;obtain⟨e',he',rfl⟩:=aA4.1 he;rw[AS];exact h2 e' he'
  ·rintro⟨b,off,xs,e,h4,h5,h6,h7,h8⟩;exact⟨b,off,xs,e,λf=>h4 (hM b f h5),cG h5 h.1,by rw[tD];exact A.lM h hM hO _ _ h6,h7,λj v hj=>(h.cell h5 h4).trans (h8 j v hj)⟩
def R.aEV(g:Nat->Nat)(r:R):(r.eZ g).live=r.live:=by cases r<;>rfl
def kW(P:Program)(f:FuncId):Bool:=
 match P.funcs[f]? with
 |some fn=> !(fn.name== "runtime.NumGoroutine")&&fn.body.isSome
 |none=>false
def B3{f:FuncId}(h:kW P f=true)(args:Array Value)(w:World):(callFunc f args).run P w=.ok (.enter f args) w:=by
 unfold kW at h;split at h
 ·rename_i fn hf;simp[aE,eC]at h;have⟨b,hb⟩:=eS.1 h.2;have:(fn.name= "runtime.NumGoroutine")=False:=by simpa using h.1
  simp[callFunc,hf,h.1,hb,this]
 ·cases h
def FW(ro:Option Nat):Fence:={fn:=λ_=>True,depth:=none,alive:=false,round:=ro}
def jO(o:Oper):Bool:=match o.op with
 |.defer _=>false
 |_=>true
def WB(h:jO o=true):∀c,o.op≠.defer c:=by
 intro c e;unfold jO at h;rw[e]at h;cases h
def L9{ro:Option Nat}{a:Act}{next:Act->World->Prop}{Q:Exit->Act->World->Prop}(hd:jO o=true)(h:o.uponIn (FW ro) 0 P a next Q ((execOp a.eval o).run P w)):o.wpIn (FW ro) 0 P a w next Q:=by
 refine⟨λ_ _=>trivial,?_⟩;rw[Oper.semAt_eq _ _ _ (WB hd)];exact h
def qQ{ro:Option Nat}{a:Act}{res:Next}{next:Act->World->Prop}{Q:Exit->Act->World->Prop}(hd:jO o=true)(hr:(execOp a.eval o).run P w=.ok res w')(aX0:res=.value y\/(res=.skip/\y=undef))(h:next (a.put o.dst y) w'):o.wpIn (FW ro) 0 P a w next Q:=by
 refine L9 hd ?_;rw[hr];rcases aX0 with rfl|⟨rfl,rfl⟩
 ·exact h
 ·exact h
def W7{ro:Option Nat}{a:Act}{f:FuncId}{args:Array Value}{next:Act->World->Prop}{Q:Exit->Act->World->Prop}(hd:jO o=true)(hr:(execOp a.eval o).run P w=.ok (.enter f args) w')
 (h:Calls P f args w' λe w''=>(∃y,e=.returned y/\next (a.put o.dst y) w'')\/∃ch,e=.panicked ch/\Q (.panic ch) a w''):o.wpIn (FW ro) 0 P a w next Q:=by
 refine L9 hd ?_;rw[hr,Oper.uponIn_enter];refine⟨λe=>(by cases e),?_⟩;have h1:CallsIn (FW ro) (0 -1) P f args w' _:=callsIn_wide.2 h;refine⟨h1.1,λcs aYI=>?_⟩;have⟨e,w3,fr,q,r⟩:=h1.2 cs aYI;refine⟨e,w3,fr,?_,r⟩;rcases q with⟨y,rfl,q⟩|⟨ch,rfl,q⟩
 ·exact q
 ·exact q
def qT(P:Program)(o:Oper)(T:Nat->A)(m:Mem)(v:A)(m':Mem):Prop:=
 ∀(ro:Option Nat)(N:Fr)(M0 S0:Nat->Prop)(w0:World)(ρ:Nat->Value)(a:Act)(w:World),bC M0 S0 w0 N T m ρ a w->(∀b,M0 b->b<w0.heap.size)->
  ∀(next:Act->World->Prop)(Q:Exit->Act->World->Prop),
   (∀(y:Value)(w':World)(ρ':Nat->Value),bC M0 S0 w0 N T m' ρ' a w'->gL m m' ρ ρ'->v.Den w' (dD M0 m' ρ') m' ρ' y->next (a.put o.dst y) w')->o.wpIn (FW ro) 0 P a w next Q
section
variable{M0 S0:Nat->Prop}{w0:World}{N:Fr}{T:Nat->A}{m:Mem}{ρ:Nat->Value}{a:Act}{w:World}{P:Program}
def mO(T:Nat->A)(c:Call):Option (FuncId×List A):=
 match c.callee with
 |.value fo=>match dN T fo with
  |.fn (.func f) us vs=>some (f,us++(c.args.toList.map (dN T)++vs))
  |.d (.fn (.func f) us vs)=>some (f,us.map A.d++(c.args.toList.map (dN T)++vs.map A.d))
  |_=>none
 |_=>none
def aCB(h:bC M0 S0 w0 N T m ρ a w){o:Oper}{c:Call}{f:FuncId}{as:List A}(ho:o.op=.call c)(hc:mO T c=some (f,as))(n0:kW P f=true):
 ∃vs:List Value,(execOp a.eval o).run P w=.ok (.enter f vs.toArray) w/\A.bR w (dD M0 m ρ) m ρ as vs:=by
 have⟨callee,args,tys⟩:=c;unfold mO at hc;simp only at hc;split at hc
 ·rename_i _ fo;have hfo:=cU h fo;have key:∀{us vs:Array Value},a.eval fo=.func (.func f) us vs->(execOp a.eval o).run P w=.ok (.enter f (us.toList++(args.toList.map a.eval++vs.toList)).toArray) w:=by
   intro us vs he;have:us++args.map a.eval++vs=(us.toList++(args.toList.map a.eval++vs.toList)).toArray:=by
    cases us;cases vs;cases args;simp
   simp[execOp,ho,resolve,he,Deferred.ofValue,aV,cB,aN,invoke,B3 n0,this]
  split at hc
  ·rename_i f' us vs he;simp[aA,aD]at hc;have⟨rfl,rfl⟩:=hc;rw[he]at hfo;simp[A.Den]at hfo;have⟨u,v,hv,h1,h2⟩:=hfo;exact⟨_,key hv,A.iH h1 (A.iH (pP h args.toList) h2)⟩
  ·rename_i f' us vs he;simp[aA,aD]at hc;have⟨rfl,rfl⟩:=hc;rw[he]at hfo;simp[A.Den,C.Den]at hfo;have⟨u,v,hv,h1,h2⟩:=hfo;exact⟨_,key hv,A.iH (A.iO.2 h1) (A.iH (pP h args.toList) (A.iO.2 h2))⟩
  ·cases hc
 ·cases hc
def V8(h:bC M0 S0 w0 N T m ρ a w)(cX:∀b,M0 b->b<w0.heap.size):∀b,dD M0 m ρ b->b<w.heap.size:=by
 rintro b (e|⟨i,r,hi,hl,hb⟩)
 ·exact cG (cX b e) h.keeps.size
 ·exact(h.own i r b hi hl hb).2.2
end
def R.hs:R->List Nat
 |.cells _ l=>A.lQ l
 |.fW _ _ _ l=>A.lQ l.flatten
 |.mp _ kv st=>A.lQ (kv.map (·.2))++st.map (·.2)
 |.fr l=>A.lQ l
 |.it i sc start _=>i::sc::start
 |.lo _ _ ts _ _ _=>A.lQ ts
 |.cu src _ l=>src.hs++A.lQ l.flatten
 |_=>[]
def Has.restrict(hm:∀i r,m1 i=some r->m i=some r){i:Nat}(hi:m1 i≠none){p q:Prop}(h:Has m i p)(hpq:m1 i=m i->p->q):Has m1 i q:=by
 refine⟨hi,λhd=>?_⟩;cases h1:m1 i with
 |none=>exact absurd h1 hi
 |some r=>
  have h2:=hm i r h1;exact hpq (by rw[h1,h2]) (h.2 (by rw[h2];rw[h1]at hd;exact hd))
def FA.restrict(hm:∀i r,m1 i=some r->m i=some r){ids:List Nat}(hi:∀i∈ids,m1 i≠none){p:Prop}(h:FA m ids p):FA m1 ids p:=by
 refine⟨hi,λhd=>h.2 λi hii e=>hd i hii ?_⟩;cases h1:m1 i with
 |none=>exact absurd h1 (hi i hii)
 |some r=>rw[<-e,hm i r h1]
mutual
def A.kU{w:World}{M:Nat->Prop}{m m1:Mem}{ρ:Nat->Value}(hm:∀i r,m1 i=some r->m i=some r):∀(a:A)(y:Value),(∀i∈a.hs,m1 i≠none)->a.Den w M m ρ y->a.Den w M m1 ρ y
 |.d c,y,_,hd=>by simpa only[A.Den]using hd
 |.lp i off,y,hi,hd=>by
  simp only[A.Den]at hd⊢;exact hd.restrict hm (hi i (by simp[A.hs])) λ_ e=>e
 |.h i,y,hi,hd=>by
  simp only[A.Den]at hd⊢;exact hd.restrict hm (hi i (by simp[A.hs])) λ_ e=>e
 |.ep i es k off,y,hi,hd=>by
  simp only[A.Den]at hd⊢;exact hd.restrict hm (hi i (by simp[A.hs])) λ_ e=>e
 |.sv i lo n,y,hi,hd=>by
  simp only[A.Den]at hd⊢;exact hd.restrict hm (hi i (by simp[A.hs])) λe⟨a,cap,h1,h2,es,fz,t,l,h5,h6⟩=>⟨a,cap,h1,h2,es,fz,t,l,e.trans h5,h6⟩
 |.fn f first caps,y,hi,hd=>by
  simp only[A.Den]at hd⊢;obtain⟨us,vs,hy,h1,h2⟩:=hd;exact⟨us,vs,hy,A.fG hm first _ (λi h=>hi i (by simp[A.hs,h])) h1,A.fG hm caps _ (λi h=>hi i (by simp[A.hs,h])) h2⟩
 |.agg l,y,hi,hd=>by
  simp[A.Den]at hd⊢;have⟨vs,hy,h0,h1⟩:=hd;exact⟨vs,hy,h0,A.fG hm l _ (λi h=>hi i (by simpa [A.hs]using h)) h1⟩
 |.eL l,y,hi,hd=>by
  simp[A.Den]at hd⊢;have⟨vs,hy,h1⟩:=hd;exact⟨vs,hy,A.fG hm l _ (λi h=>hi i (by simpa [A.hs]using h)) h1⟩
 |.AE t a,y,hi,hd=>by
  simp[A.Den]at hd⊢;have⟨v,hy,h1⟩:=hd;exact⟨v,hy,A.kU hm a _ (λi h=>hi i (by simpa [A.hs]using h)) h1⟩
 |.x,y,_,hd=>by simp[A.Den]
def A.fG{w:World}{M:Nat->Prop}{m m1:Mem}{ρ:Nat->Value}(hm:∀i r,m1 i=some r->m i=some r):∀(l:List A)(ys:List Value),(∀i∈A.lQ l,m1 i≠none)->A.bR w M m ρ l ys->A.bR w M m1 ρ l ys
 |[],ys,_,hd=>by simpa only[A.bR]using hd
 |c::r,ys,hi,hd=>by
  simp only[A.bR]at hd⊢;obtain⟨y,yr,hy,h1,h2⟩:=hd;exact⟨y,yr,hy,A.kU hm c y (λi h=>hi i (by simp[A.lQ,h])) h1,A.fG hm r yr (λi h=>hi i (by simp[A.lQ,h])) h2⟩
end
def R.rY(hm:∀i r,m1 i=some r->m i=some r){r:R}{h:Value}(hi:∀i∈r.hs,m1 i≠none)(hr:r.Ok w M m ρ h):r.Ok w M m1 ρ h:=by
 cases r with
 |dead=>trivial
 |cells fz l=>
  obtain⟨b,cs,t,e,h1,h2,h3⟩:=hr;exact⟨b,cs,t,e,h1,A.fG hm _ _ (λi q=>hi i (by simpa [R.hs]using q)) h2,h3⟩
 |fW fz t es l=>
  obtain⟨xs,h1,h2,h3⟩:=hr;exact⟨xs,h1,A.fG hm _ _ (λi q=>hi i (by simpa [R.hs]using q)) h2,h3⟩
 |fr l=>
  obtain⟨vs,e,h1⟩:=hr;exact⟨vs,e,A.fG hm _ _ (λi q=>hi i (by simpa [R.hs]using q)) h1⟩
 |it i sc start seen=>
  obtain⟨b,mb,si,sa,e,h1,h2,h5,h4⟩:=hr;exact⟨b,mb,si,sa,e,h1,h2.restrict hm (hi i (by simp[R.hs])) λ_ q=>q,h5.restrict hm (hi sc (by simp[R.hs])) λ_ q=>q,h4.1,FA.restrict hm (λj hj=>hi j (by simp[R.hs,hj])) h4.2⟩
 |wL=>exact hr
 |AV=>exact hr
 |si s pos=>exact hr
 |di cur rest=>exact hr
 |df tk=>exact hr
 |cu src es l=>
  obtain⟨a,e,h1,h2,h3⟩:=hr;refine⟨a,e,A.kU hm _ _ (λi q=>hi i (by simp only[R.hs,bN];exact .inl q)) h1,h2,h3.imp id ?_⟩;rintro⟨b,off,xs,e,h4,h5,h6,h7⟩;exact⟨b,off,xs,e,h4,h5,A.fG hm _ _ (λi q=>hi i (by simp only[R.hs,bN];exact .inr q)) h6,h7⟩
 |lo st pend ts ps asg bod=>
  obtain⟨l,fn,vs,D,e,h1,h2⟩:=hr;exact⟨l,fn,vs,D,e,h1,A.fG hm _ _ (λi q=>hi i (by simpa [R.hs]using q)) h2⟩
 |mp fz kv st=>
  obtain⟨b,es,cl,l,e,h1,h2,h3,h4,h5⟩:=hr;exact⟨b,es,cl,l,e,h1,h2,A.fG hm _ _ (λi q=>hi i (by simp[R.hs,q])) h3,h4,λp hp=>(h5 p hp).restrict hm (hi p.2 (by simp only[R.hs,bN];exact .inr (aA4.2 ⟨p,hp,rfl⟩))) λ_ q=>q⟩
def pN:∀(u:List (Nat×R)){m1 m:Mem},(∀i r,m1 i=some r->m i=some r)->∀i r,aH m1 u i=some r->aH m u i=some r
 |[],m1,m,h,i,r,e=>h i r e
 |(j,q)::t,m1,m,h,i,r,e=>by
  simp[aH]at e⊢;refine pN t (λk s hk=>?_) i r e;by_cases hkj:k=j
  ·subst hkj;simpa [aX]using hk
  ·simp[aX,hkj]at hk⊢;exact h k s hk
def nP:∀(u:List (Nat×R)){m1:Mem}{i:Nat},aH m1 u i=none->m1 i=none/\∀m:Mem,aH m u i=m i
 |[],m1,i,e=>⟨e,λ_=>rfl⟩
 |(j,q)::t,m1,i,e=>by
  simp only[aH]at e⊢;obtain⟨h1,h2⟩:=nP t e;have hij:i≠j:=by rintro rfl;simp[aX]at h1
  exact⟨by simpa [aX,hij]using h1,λm=>by rw[h2];simp[aX,hij]⟩
def xS:∀(u:List (Nat×R)){m1:Mem}{i:Nat},m1 i=none->aH m1 u i≠none->∃p∈u,p.1=i
 |[],m1,i,h,e=>absurd h e
 |(j,q)::t,m1,i,h,e=>by
  by_cases hij:i=j
  ·exact⟨(j,q),sM,hij.symm⟩
  ·simp only[aH]at e;obtain⟨p,hp,hpi⟩:=xS t (m1:=aX m1 j q) (by simp[aX,hij,h]) e;exact⟨p,by simp[hp],hpi⟩
def qT.frame{T1 T:Nat->A}{v:A}{ups:List (Nat×R)}(h:qT P o T1 m1 v (aH m1 ups))(hT:∀n,T1 n=.x\/(T1 n=T n/\∀i∈(T n).hs,m1 i≠none))
 (hm:∀i r,m1 i=some r->m i=some r)(n0:∀i r,m1 i=some r->∀j∈r.hs,m1 j≠none)(aXW:∀p∈ups,m1 p.1=none->m p.1=none):qT P o T m v (aH m ups):=by
 intro ro N M0 S0 w0 ρ a w hs cX next Q hn
 let M1:Nat->Prop:=λb=>M0 b\/∃i r,m i=some r/\m1 i=none/\r.live=true/\blk (ρ i)=some b;let S1:Nat->Prop:=λb=>∃i r,m1 i=some r/\r.live=true/\blk (ρ i)=some b;have aXP:∀b,dD M1 m1 ρ b↔dD M0 m ρ b:=by
  intro b;constructor
  ·rintro((e|⟨i,r,e1,_,e2,e3⟩)|⟨i,r,e1,e2,e3⟩)
   ·exact .inl e
   ·exact .inr ⟨i,r,e1,e2,e3⟩
   ·exact .inr ⟨i,r,hm i r e1,e2,e3⟩
  ·rintro(e|⟨i,r,e1,e2,e3⟩)
   ·exact .inl (.inl e)
   ·cases hi:m1 i with
    |none=>exact .inl (.inr ⟨i,r,e1,hi,e2,e3⟩)
    |some r'=>
     have:=hm i r' hi;rw[e1]at this;simp at this;subst this;exact .inr ⟨i,r,hi,e2,e3⟩
 have aYN:dD M1 m1 ρ=dD M0 m ρ:=funext λb=>propext (aXP b);have h0:bC M1 S1 w ⟨N.n,none⟩ T1 m1 ρ a w:=
  {keeps:=iF.refl _ _,size:=hs.size,defers:=λds e=>by cases e
   tmps:=λn=>by
    rw[aYN];rcases hT n with e|⟨e,a2C⟩
    · rw[e];simp only[A.Den]
    · rw[e];exact A.kU hm _ _ a2C (hs.tmps n)
   res:=λi r hi=>by rw[aYN];exact R.rY hm (n0 i r hi) (hs.res i r (hm i r hi))
   own:=λi r b hi hl hb=>by
    obtain⟨x,y,z⟩:=hs.own i r b (hm i r hi) hl hb;refine⟨.inr ⟨i,r,hi,hl,hb⟩,?_,z⟩;rintro(e|⟨j,s,e1,e2,e3,e4⟩)
    · exact y e
    · have:=hs.apart i j r s b (hm i r hi) hl e1 e3 hb e4
      subst this;rw[hi]at e2;cases e2
   apart:=λi j r s b hi l1 hj l2 b1 b2=>hs.apart i j r s b (hm i r hi) l1 (hm j s hj) l2 b1 b2}
 have aYE:∀b,M1 b->b<w.heap.size:=λb hb=>V8 hs cX b ((aXP b).1 (.inl hb));refine h ro ⟨N.n,none⟩ M1 S1 w ρ a w h0 aYE next Q ?_
 intro y w' ρ' h1 hO hv;let ρ2:Nat->Value:=λi=>if(aH m1 ups i).isSome then ρ' i else ρ i
 have hA:∀{i:Nat}{r:R},aH m1 ups i=some r->aH m ups i=some r/\ρ2 i=ρ' i:=λ{i r}e=>⟨pN ups hm i r e,by simp[ρ2,e]⟩;have hB:∀{i:Nat},aH m1 ups i=none->m1 i=none/\aH m ups i=m i/\ρ2 i=ρ i:=λ{i}e=>⟨(nP ups e).1,(nP ups e).2 m,by simp[ρ2,e]⟩;have kk:=h1.keeps;have hS1:∀b,S1 b->dD M0 m ρ b:=λb⟨i,r,e1,e2,e3⟩=>.inr ⟨i,r,hm i r e1,e2,e3⟩;have HG:dV (dD M0 m ρ) w w':=kk.stays λb _ e=>hS1 b e;have hon:gL m (aH m ups) ρ ρ2:=by
  intro i hi;cases h':aH m1 ups i with
  |none=>
   obtain⟨e1,e2,e3⟩:=hB h';rw[e2];exact⟨hi,λhd=>⟨hd,e3,λfz t es l e=>⟨fz,t,l,e,rfl⟩⟩⟩
  |some r=>
   obtain⟨e1,e2⟩:=hA h';rw[e1];refine⟨sM,λhd=>?_⟩;cases PE:m1 i with
   |none=>
    obtain⟨p,hp,rfl⟩:=xS ups PE (by rw[h'];simp);exact absurd (aXW p hp PE) hi
   |some r0=>
    have aYF:=hm i r0 PE;obtain⟨_,q⟩:=hO i (by rw[PE];simp);rw[h']at q;obtain⟨q1,q2,q3⟩:=q hd;rw[aYF];rw[PE]at q1 q3;exact⟨q1,by rw[e2];exact q2,q3⟩
 have aVM:∀b,dD M0 (aH m ups) ρ2 b->b<w.heap.size->dD M0 m ρ b:=by
  rintro b (e|⟨i,r,hi,hl,hb⟩) hbl
  ·exact .inl e
  ·cases h':aH m1 ups i with
   |none=>
    obtain⟨e1,e2,e3⟩:=hB h';rw[e2]at hi;rw[e3]at hb;exact .inr ⟨i,r,hi,hl,hb⟩
   |some r'=>
    obtain⟨e1,e2⟩:=hA h';rw[e1]at hi;simp at hi;subst hi;rw[e2]at hb;rcases(h1.own i r' b h' hl hb).1 with q|q
    ·omega
    ·exact hS1 b q
 have aYY:∀b,dD M0 (aH m ups) ρ2 b->dD M1 (aH m1 ups) ρ' b:=by
  rintro b (e|⟨i,r,hi,hl,hb⟩)
  ·exact .inl (.inl e)
  ·cases h':aH m1 ups i with
   |none=>
    obtain⟨e1,e2,e3⟩:=hB h';rw[e2]at hi;rw[e3]at hb;exact .inl (.inr ⟨i,r,hi,e1,hl,hb⟩)
   |some r'=>
    obtain⟨e1,e2⟩:=hA h';rw[e1]at hi;simp at hi;subst hi;rw[e2]at hb;exact .inr ⟨i,r',h',hl,hb⟩
 have aY6:gL (aH m1 ups) (aH m ups) ρ' ρ2:=by
  intro i hi;cases h':aH m1 ups i with
  |none=>exact absurd h' hi
  |some r=>
   obtain⟨e1,e2⟩:=hA h';rw[e1];exact⟨sM,λhd=>⟨hd,e2,λfz t es l e=>⟨fz,t,l,e,rfl⟩⟩⟩
 refine hn y w' ρ2 ?_ hon (A.dC (dV.refl _ w') (λb hb _=>aYY b hb) aY6 _ _ hv)
 refine{keeps:=hs.keeps.trans kk λb hb⟨i,r,e1,e2,e3⟩=>?_,size:=h1.size,defers:=λds e=>eJ HG aVM hon _ _ (hs.defers ds e)
        tmps:=λn=>A.dC HG aVM hon _ _ (hs.tmps n)
        res:=λi r hi=>?_,own:=λi r b hi hl hb=>?_,apart:=λi j r s b hi l1 hj l2 b1 b2=>?_}
 ·rcases(hs.own i r b (hm i r e1) e2 e3).1 with q|q
  ·omega
  ·exact q
 ·cases h':aH m1 ups i with
  |some r'=>
   obtain⟨e1,e2⟩:=hA h';rw[e1]at hi;simp at hi;subst hi;rw[e2];exact R.hU (dV.refl _ w') (λb hb _=>aYY b hb) aY6 (λ_ _ _=>rfl) (h1.res i r' h')
  |none=>
   obtain⟨e1,e2,e3⟩:=hB h';rw[e2]at hi;rw[e3];by_cases hd:r=.dead
   ·subst hd;trivial
   ·refine R.hU HG aVM hon (λb hb aVU=>?_) (hs.res i r hi);refine kk.block b aVU ?_;rintro⟨j,s,q1,q2,q3⟩;have hij:i≠j:=by rintro rfl;rw[e1]at q1;cases q1
    exact hs.other (hm j s q1) q2 q3 hi hd hij hb
 ·cases h':aH m1 ups i with
  |some r'=>
   obtain⟨e1,e2⟩:=hA h';rw[e1]at hi;simp at hi;subst hi;rw[e2]at hb;obtain⟨x,y,z⟩:=h1.own i r' b h' hl hb;refine⟨?_,λe=>y (.inl e),z⟩;rcases x with q|⟨j,s,q1,q2,q3⟩
   ·exact .inl (cL hs.keeps.size q)
   ·exact(hs.own j s b (hm j s q1) q2 q3).1
  |none=>
   obtain⟨e1,e2,e3⟩:=hB h';rw[e2]at hi;rw[e3]at hb;obtain⟨x,y,z⟩:=hs.own i r b hi hl hb;exact⟨x,y,cG z kk.size⟩
 ·cases h':aH m1 ups i with
  |some r'=>
   obtain⟨e1,e2⟩:=hA h';rw[e1]at hi;simp at hi;subst hi;rw[e2]at b1;cases h2:aH m1 ups j with
   |some s'=>
    obtain⟨e3,e4⟩:=hA h2;rw[e3]at hj;simp at hj;subst hj;rw[e4]at b2;exact h1.apart i j r' s' b h' l1 h2 l2 b1 b2
   |none=>
    obtain⟨e3,e4,e5⟩:=hB h2;rw[e4]at hj;rw[e5]at b2;exact absurd (.inr ⟨j,s,hj,e3,l2,b2⟩) (h1.own i r' b h' l1 b1).2.1
  |none=>
   obtain⟨e1,e2,e3⟩:=hB h';rw[e2]at hi;rw[e3]at b1;cases h2:aH m1 ups j with
   |some s'=>
    obtain⟨e4,e5⟩:=hA h2;rw[e4]at hj;simp at hj;subst hj;rw[e5]at b2;exact absurd (.inr ⟨i,r,hi,e1,l1,b1⟩) (h1.own j s' b h2 l2 b2).2.1
   |none=>
    obtain⟨e4,e5,e6⟩:=hB h2;rw[e5]at hj;rw[e6]at b2;exact hs.apart i j r s b hi l1 hj l2 b1 b2
structure Rec where
 dst:Option Nat
 v:A
 u:List (Nat×R)
def mK(T:Nat->A):List Rec->Nat->A
 |[]=>T
 |r::rs=>mK (lI T r.dst r.v) rs
def kZ(m:Mem):List Rec->Mem
 |[]=>m
 |r::rs=>kZ (aH m r.u) rs
def nM(X:Nat->Bool):Nat->List Rec->List Rec
 |_,[]=>[]
 |k,r::rs=>if X k then r::nM X (k+1) rs else nM X (k+1) rs
def n9:∀(u:List (Nat×R))(m:Mem){n:Nat},(∀p∈u,p.1≠n)->aH m u n=m n
 |[],m,n,_=>rfl
 |(i,r)::t,m,n,h=>by
  simp only[aH];rw[n9 t _ (λp hp=>h p (by simp[hp]))];have:n≠i:=λe=>h (i,r) sM e.symm;simp[aX,this]
def sZ:∀(u:List (Nat×R)){m m':Mem}{n:Nat},m n=m' n->aH m u n=aH m' u n
 |[],m,m',n,h=>h
 |(i,r)::t,m,m',n,h=>by
  simp[aH];refine sZ t ?_;unfold aX;split
  ·rfl
  ·exact h
def RP(u v:List (Nat×R))(m:Mem)(h:∀p∈u,∀q∈v,q.1≠p.1):aH (aH m u) v=aH (aH m v) u:=by
 funext n;by_cases hn:∃p∈u,p.1=n
 ·obtain⟨p,hp,rfl⟩:=hn;rw[n9 v _ (λq hq=>h p hp q hq)];exact sZ u (n9 v _ (λq hq=>h p hp q hq)).symm
 ·have hn':∀p∈u,p.1≠n:=λp hp e=>hn ⟨p,hp,e⟩;rw[n9 u (aH m v) hn'];exact sZ v (n9 u _ hn')
def aBS(T:Nat->A)(d e:Option Nat)(v x:A)(h:∀n,d=some n->e≠some n):lI (lI T d v) e x=lI (lI T e x) d v:=by
 funext n;unfold lI;by_cases h1:d=some n
 ·have:=h n h1;simp[h1,this]
 ·simp[h1]
def OI(u:List (Nat×R)):∀(l:List Rec)(m:Mem),(∀q∈l,∀p∈u,∀x∈q.u,x.1≠p.1)->kZ (aH m u) l=aH (kZ m l) u
 |[],m,_=>rfl
 |r::l,m,h=>by
  simp[kZ];rw[RP u r.u m (h r sM)];exact OI u l _ (λq hq=>h q (by simp[hq]))
def OJ(d:Option Nat)(v:A):∀(l:List Rec)(T:Nat->A),(∀q∈l,∀n,d=some n->q.dst≠some n)->mK (lI T d v) l=lI (mK T l) d v
 |[],T,_=>rfl
 |r::l,T,h=>by
  simp[mK];rw[aBS T d r.dst v r.v (h r sM)];exact OJ d v l _ (λq hq=>h q (by simp[hq]))
def QY{X:Nat->Bool}:∀{l:List Rec}{k:Nat}{r:Rec},r∈nM X k l->∃i,X (k+i)=true/\l[i]?=some r
 |[],k,r,h=>by simp[nM]at h
 |q::l,k,r,h=>by
  simp only[nM]at h;split at h
  ·rename_i hx;simp only[aO]at h;rcases h with rfl|h
   ·exact⟨0,by simpa using hx,rfl⟩
   ·obtain⟨i,h1,h2⟩:=QY h;exact⟨i+1,by rw[show k+(i+1)=k+1+i by omega];exact h1,by simpa using h2⟩
  ·have⟨i,h1,h2⟩:=QY h;exact⟨i+1,by rw[show k+(i+1)=k+1+i by omega];exact h1,by simpa using h2⟩
def OR{X Y:Nat->Bool}:∀(l:List Rec)(k:Nat),(∀i,k<=i->X i=Y i)->nM X k l=nM Y k l
 |[],k,_=>rfl
 |r::l,k,h=>by
  simp[nM,h k (bT _)];rw[OR l (k+1) (λi hi=>h i oM)]
def Y8{X:Nat->Bool}:∀(l:List Rec)(k:Nat),(∀i,k<=i->i<k+l.length->X i=true)->nM X k l=l
 |[],k,_=>rfl
 |r::l,k,h=>by
  simp[nM,h k (bT _) sM,if_true];rw[Y8 l (k+1) (λi h1 h2=>h i oM zM)]
def LK{X:Nat->Bool}:∀(l:List Rec)(k:Nat),(∀i,X i=false)->nM X k l=[]
 |[],k,_=>rfl
 |r::l,k,h=>by
  simp[nM,h k,bY,if_false];exact LK l (k+1) h
def FE(X:Nat->Bool)(j:Nat):Nat->Bool:=λi=>if i=j then true else X i
def LJ(X:Nat->Bool)(r:Rec):∀(l:List Rec)(k j:Nat)(T:Nat->A)(m:Mem),X (k+j)=false->l[j]?=some r->
 (∀i q,j<i->X (k+i)=true->l[i]?=some q->(∀p∈r.u,∀x∈q.u,x.1≠p.1)/\∀n,r.dst=some n->q.dst≠some n)->
 kZ m (nM (FE X (k+j)) k l)=aH (kZ m (nM X k l)) r.u/\mK T (nM (FE X (k+j)) k l)=lI (mK T (nM X k l)) r.dst r.v
 |[],k,j,T,m,_,h,_=>by simp at h
 |q::l,k,0,T,m,hX,h,hd=>by
  simp at h;subst h;have h1:FE X k k=true:=by simp[FE]
  simp[iE]at hX⊢;simp[nM,h1,if_true,hX,bY,if_false,kZ,mK];have e:nM (FE X k) (k+1) l=nM X (k+1) l:=OR l (k+1) λi hi=>by unfold FE;rw[aT7 oM]
  rw[e];have hm:∀x∈nM X (k+1) l,(∀p∈q.u,∀y∈x.u,y.1≠p.1)/\∀n,q.dst=some n->x.dst≠some n:=by
   intro x hx;have⟨i,h2,h3⟩:=QY hx;exact hd (i+1) x oM (by rw[show k+(i+1)=k+1+i by omega];exact h2) (by simpa using h3)
  exact⟨OI _ _ _ λx hx=>(hm x hx).1,OJ _ _ _ _ λx hx=>(hm x hx).2⟩
 |q::l,k,j+1,T,m,hX,h,hd=>by
  have e:FE X (k+(j+1)) k=X k:=by unfold FE;rw[aT7 oM]
  have ih:=λT m=>LJ X r l (k+1) j T m (by rw[show k+1+j=k+(j+1) by omega];exact hX) (by simpa using h) (λi q' hi hx hq=>hd (i+1) q' oM (by rw[show k+(i+1)=k+1+i by omega];exact hx) (by simpa using hq));rw[show k+1+j=k+(j+1) by omega]at ih;simp[nM,e];split
  ·simp[kZ,mK];exact ih _ _
  ·exact ih _ _
def nZ{X Y:Nat->Bool}{n:Nat}:∀(l:List Rec)(k:Nat)(m m':Mem),(∀i q,l[i]?=some q->X (k+i)≠Y (k+i)->∀p∈q.u,p.1≠n)->m n=m' n->kZ m (nM X k l) n=kZ m' (nM Y k l) n
 |[],k,m,m',_,h=>h
 |q::l,k,m,m',hd,h=>by
  have hd':∀i q',l[i]?=some q'->X (k+1+i)≠Y (k+1+i)->∀p∈q'.u,p.1≠n:=λi q' hq hx=>hd (i+1) q' (by simpa using hq) (by rw[show k+(i+1)=k+1+i by omega];exact hx);have h0:=hd 0 q rfl;simp only[iE]at h0;simp only[nM];cases hx:X k<;>cases hy:Y k<;>simp only[if_true,bY,if_false,kZ]
  ·exact nZ l (k+1) m m' hd' h
  ·exact nZ l (k+1) _ _ hd' (h.trans (n9 _ _ (h0 (by simp[hx,hy]))).symm)
  ·exact nZ l (k+1) _ _ hd' ((n9 _ _ (h0 (by simp[hx,hy]))).trans h)
  ·exact nZ l (k+1) _ _ hd' (sZ _ h)
def pI{X Y:Nat->Bool}{n:Nat}:∀(l:List Rec)(k:Nat)(T T':Nat->A),(∀i q,l[i]?=some q->X (k+i)≠Y (k+i)->q.dst≠some n)->T n=T' n->mK T (nM X k l) n=mK T' (nM Y k l) n
 |[],k,m,m',_,h=>h
 |q::l,k,m,m',hd,h=>by
  have hd':∀i q',l[i]?=some q'->X (k+1+i)≠Y (k+1+i)->q'.dst≠some n:=λi q' hq hx=>hd (i+1) q' (by simpa using hq) (by rw[show k+(i+1)=k+1+i by omega];exact hx);have h0:=hd 0 q rfl;simp[iE]at h0;simp[nM];cases hx:X k<;>cases hy:Y k<;>simp[if_true,bY,if_false,mK]
  ·exact pI l (k+1) m m' hd' h
  ·exact pI l (k+1) _ _ hd' (h.trans (by unfold lI;rw[aT7 (h0 (by simp[hx,hy]))]))
  ·exact pI l (k+1) _ _ hd' (Eq.trans (by unfold lI;rw[aT7 (h0 (by simp[hx,hy]))]) h)
  ·refine pI l (k+1) _ _ hd' ?_;unfold lI;split
   ·rfl
   ·exact h
def kO(ops:Array Oper)(T:Nat->A)(o:Oper):Option Bool:=
 match o.guard with
 |none=>some true
 |some (j,want)=>match(ops[j]?).bind (·.dst)with
  |some d=>match T d with
   |.d (.v (.bool b))=>some (b==want)
   |.eL _=>some false
   |_=>none
  |none=>none
section
variable{M0 S0:Nat->Prop}{w0:World}{N:Fr}{T:Nat->A}{m:Mem}{ρ:Nat->Value}{a:Act}{w:World}{P:Program}
def L8(h:bC M0 S0 w0 N T m ρ a w){ops:Array Oper}{o:Oper}{b:Bool}(hw:kO ops T o=some b):Region.wanted o (yielded ops a.tmps)=b:=by
 unfold kO at hw;unfold Region.wanted;split at hw
 ·rename_i hg;simp only[hg];simpa using hw
 ·rename_i j want hg;simp only[hg];split at hw
  ·rename_i d hd;split at hw
   ·rename_i t ht;simp only[aA]at hw;have h1:=h.tmps d;rw[ht]at h1;simp only[A.Den,C.Den]at h1;have h2:a.tmps[d]?=some (.bool t):=by
     rw[cZ]at h1;cases hq:a.tmps[d]? with
     |none=>rw[hq]at h1;simp[undef]at h1
     |some x=>rw[hq]at h1;simp at h1;rw[h1]
    unfold yielded;rw[hd];simp only[Option.bind_some,h2];rw[<-hw];cases t<;>cases want<;>rfl
   ·rename_i l ht;simp only[aA]at hw;have h1:=h.tmps d;rw[ht]at h1;simp only[A.Den]at h1;obtain⟨vs,h1,_⟩:=h1;have h2:a.tmps[d]?=none\/a.tmps[d]?=some (.tuple vs):=by
     rw[cZ]at h1;cases hq:a.tmps[d]? with
     |none=>exact .inl rfl
     |some x=>rw[hq]at h1;simp at h1;rw[h1];exact .inr rfl
    unfold yielded;rw[hd];rcases h2 with h2|h2<;>simp only[Option.bind_some,h2]<;>(subst hw;rfl)
   ·cases hw
  ·cases hw
def bC.drew(h:bC M0 S0 w0 N T m ρ a w)(k:Nat):bC M0 S0 w0 N T m ρ a {w with drawn:=k}:=by
 have HG:dV (dD M0 m ρ) w {w with drawn:=k}:=⟨bT _,λ_ _ _=>rfl⟩
 exact{keeps:=h.keeps.trans (S':=λ_=>False) ⟨rfl,rfl,rfl,bT _,λ_ _ _=>rfl⟩ (λ_ _ e=>e.elim),size:=h.size
       defers:=λds e=>eJ HG (λ_ e _=>e) (gL.refl m ρ) _ _ (h.defers ds e)
       tmps:=λn=>A.dC HG (λ_ e _=>e) (gL.refl m ρ) _ _ (h.tmps n)
       res:=λi r hi=>R.hU HG (λ_ e _=>e) (gL.refl m ρ) (λ_ _ _=>rfl) (h.res i r hi)
       own:=h.own,apart:=h.apart}
end
structure RL(P:Program)(ops:Array Oper)(recs:List Rec)(anc:Nat->Nat->Bool)(F:Nat->Nat->Prop)(Rq:Nat->Mem->Prop)(n:Nat)(T:Nat->A)(m:Mem):Prop where
 len:recs.length=ops.size
 dst:∀(k:Nat)(o:Oper)(r:Rec),ops[k]?=some o->recs[k]?=some r->r.dst=o.dst/\∀d,o.dst=some d->d<n
 gA:∀(k:Nat)(o:Oper)(r:Rec),ops[k]?=some o->recs[k]?=some r->
  ((kO ops (mK T (nM (anc k) 0 recs)) o=some false/\r.v=.eL []/\r.u=[])\/
   (kO ops (mK T (nM (anc k) 0 recs)) o=some true/\∀(T':Nat->A)(m':Mem),(∀x∈o.looksAt ops,T' x=mK T (nM (anc k) 0 recs) x)->(∀i,F k i->m' i=kZ m (nM (anc k) 0 recs) i)->
     Rq k m'->(∀p∈r.u,kZ m (nM (anc k) 0 recs) p.1=none->m' p.1=none)->qT P o T' m' r.v (aH m' r.u)))
 rq:∀(k:Nat)(o:Oper)(X:Nat->Bool),ops[k]?=some o->X k=false->(∀i q,recs[i]?=some q->X i≠anc k i->i≠k/\anc i k=false/\anc k i=false)->Rq k (kZ m (nM X 0 recs))
 guard:∀(k:Nat)(o:Oper)(j:Nat)(b:Bool),ops[k]?=some o->o.guard=some (j,b)->∀d,(ops[j]?).bind (·.dst)=some d->d∈o.looksAt ops
 fresh:∀(k:Nat)(r:Rec),recs[k]?=some r->∀p∈r.u,kZ m (nM (anc k) 0 recs) p.1=none->F k p.1
 apart:∀(i j:Nat)(p q:Rec)(o:Oper),i≠j->recs[i]?=some p->recs[j]?=some q->ops[j]?=some o->anc i j=false->anc j i=false->
  (∀d,p.dst=some d->d∉o.looksAt ops/\q.dst≠some d)/\∀x∈p.u,¬F j x.1/\∀y∈q.u,y.1≠x.1
 down:∀(k:Nat)(o:Oper),ops[k]?=some o->∀e∈o.after,Region.binds .any e=true->e.on<k
 anc:∀(k:Nat)(o:Oper)(j:Nat),ops[k]?=some o->anc k j=true->∃e∈o.after,Region.binds .any e=true/\(e.on=j\/anc e.on j=true)
def xA{p q:Nat->Bool}:∀{l:List Nat}{i:Nat},(∀j,q j=true->p j=true)->i∈l->p i=true->q i=false->(l.filter q).length<(l.filter p).length
 |[],i,_,h,_,_=>by simp at h
 |x::l,i,hpq,h,hp,hq=>by
  have hle:∀(l:List Nat),(l.filter q).length<=(l.filter p).length:=by
   intro l;induction l with
   |nil=>simp
   |cons y l ih=>
    simp[lZ];cases hy:q y
    ·cases p y<;>simp<;>omega
    ·simp[hpq y hy];omega
  simp[lZ];simp[aO]at h;by_cases hx:i=x
  ·subst hx;have:=hle l;simp[hp,hq];omega
  ·have ih:=xA hpq (h.resolve_left hx) hp hq;cases hy:q x
   ·cases p x<;>simp<;>omega
   ·simp[hpq x hy];exact ih
section
variable{M0 S0:Nat->Prop}{w0:World}{N:Fr}{T:Nat->A}{m:Mem}{ρ:Nat->Value}{P:Program}{ops:Array Oper}{recs:List Rec}{anc:Nat->Nat->Bool}{F:Nat->Nat->Prop}{Rq:Nat->Mem->Prop}
def WM{ro:Option Nat}(hok:RL P ops recs anc F Rq N.n T m)(cX:∀b,M0 b->b<w0.heap.size){Q:Exit->Act->World->Prop}
 (hQ:∀(a:Act)(w:World)(ρ':Nat->Value),bC M0 S0 w0 N (mK T recs) (kZ m recs) ρ' a w->gL m (kZ m recs) ρ ρ'->Q .normal a w):
 ∀(fuel:Nat)(listed:Array Bool)(ρ':Nat->Value)(a:Act)(w:World),listed.size=ops.size->((List.range ops.size).filter λi=> !listed.getD i false).length<=fuel->
  (∀k o,ops[k]?=some o->listed.getD k false=true->∀e∈o.after,Region.binds .any e=true->listed.getD e.on false=true)->
  bC M0 S0 w0 N (mK T (nM (λi=>listed.getD i false) 0 recs)) (kZ m (nM (λi=>listed.getD i false) 0 recs)) ρ' a w->gL m (kZ m (nM (λi=>listed.getD i false) 0 recs)) ρ ρ'->
  wpAnyIn (FW ro) 0 P .any ops Q fuel listed a w:=by
 have aWW:∀(listed:Array Bool)(ρ':Nat->Value)(a:Act)(w:World),listed.size=ops.size->Region.ready .any ops listed=[]->
  bC M0 S0 w0 N (mK T (nM (λi=>listed.getD i false) 0 recs)) (kZ m (nM (λi=>listed.getD i false) 0 recs)) ρ' a w->gL m (kZ m (nM (λi=>listed.getD i false) 0 recs)) ρ ρ'->Q .normal a w:=by
  intro listed ρ' a w vZ hr hs hO;have aWV:∀i,i<ops.size->listed.getD i false=true:=by
   intro i;induction i using Nat.strongRecOn with
   |_ i ih=>
    intro hi;cases hX:listed.getD i false with
    |true=>rfl
    |false=>
     exfalso;have aWE:i∈Region.ready .any ops listed:=by
      unfold Region.ready;rw[a39];refine⟨by simpa using hi,?_⟩;have h1:listed.getD i true=false:=by
       have:i<listed.size:=oM;simp[Array.getD,this]at hX⊢;exact hX
      rw[h1,cF hi];simp only[fB,dF,gZ,cA,Array.all_eq_true'];intro e he;cases hb:Region.binds .any e with
      |false=>simp
      |true=>
       have hd:=hok.down i _ (cF hi) e he hb;simp[ih e.on hd oM]
     rw[hr]at aWE;simp at aWE
  have aYB:nM (λi=>listed.getD i false) 0 recs=recs:=Y8 recs 0 λi _ h=>aWV i (by have:=hok.len;omega);rw[aYB]at hs hO;exact hQ a w ρ' hs hO
 intro fuel;induction fuel with
 |zero=>
  intro listed ρ' a w vZ hf n0 hs hO;have hr:Region.ready .any ops listed=[]:=by
   unfold Region.ready;rw[aJ7];intro i hi;have h0:(List.range ops.size).filter (λi=> !listed.getD i false)=[]:=bL oM;rw[aJ7]at h0;have h1:=h0 i hi;have uJ:i<listed.size:=by have:=jI.1 hi;omega
   simp[Array.getD,uJ]at h1⊢;simp[h1]
  exact⟨hr,aWW listed ρ' a w vZ hr hs hO⟩
 |succ fuel ih=>
  intro listed ρ' a w vZ hf n0 hs hO;refine⟨λhr=>aWW listed ρ' a w vZ hr hs hO,λk hk=>?_⟩;unfold Region.ready at hk;rw[a39]at hk;obtain⟨hk1,EN⟩:=hk;have hkn:k<ops.size:=by simpa using hk1
  have QS:ops[k]?=some ops[k]:=cF hkn;rw[QS]at EN;simp only[dF,gZ,aE,eC,Array.all_eq_true',gP]at EN;obtain⟨hk3,hk4⟩:=EN;have hkl:k<listed.size:=oM;have hXk:listed.getD k false=false:=by simp[Array.getD,hkl]at hk3⊢;exact hk3
  have aZ8:∀e∈(ops[k]).after,Region.binds .any e=true->listed.getD e.on false=true:=by
   intro e he hb;rcases hk4 e he with h|h
   ·rw[hb]at h;cases h
   ·exact h
  have a0U:∀(i:Nat)(o:Oper),ops[i]?=some o->(∀e∈o.after,Region.binds .any e=true->listed.getD e.on false=true)->∀j,anc i j=true->listed.getD j false=true:=by
   intro i;induction i using Nat.strongRecOn with
   |_ i ih2=>
    intro o ho aZ8 j hj;obtain⟨e,he,hb,h⟩:=hok.anc i o j ho hj;have O2:=aZ8 e he hb;rcases h with rfl|h
    ·exact O2
    ·have aW3:=hok.down i o ho e he hb;have hio:i<ops.size:=(aL.1 ho).1;exact ih2 e.on aW3 _ (cF oM) (n0 e.on _ (cF oM) O2) j h
  have a1E:∀(i:Nat)(o:Oper),ops[i]?=some o->∀j,anc i j=true->j<i:=by
   intro i;induction i using Nat.strongRecOn with
   |_ i ih2=>
    intro o ho j hj;obtain⟨e,he,hb,h⟩:=hok.anc i o j ho hj;have aW3:=hok.down i o ho e he hb;rcases h with rfl|h
    ·exact aW3
    ·have hio:i<ops.size:=(aL.1 ho).1;exact Nat.lt_trans (ih2 e.on aW3 _ (cF oM) j h) aW3
  have a08:∀j,anc k j=true->listed.getD j false=true:=a0U k _ QS aZ8;have hrk:k<recs.length:=by have:=hok.len;omega
  have hr:recs[k]?=some recs[k]:=aC hrk;have aYD:∀i q,recs[i]?=some q->listed.getD i false≠anc k i->i≠k/\anc i k=false/\anc k i=false:=by
   intro i q hq hZ;have hio:i<ops.size:=by have:=(bA.1 hq).1;have:=hok.len;omega
   have hXi:listed.getD i false=true:=by
    cases h:listed.getD i false with
    |true=>rfl
    |false=>
     cases h2:anc k i with
     |true=>exact(a08 i h2).symm.trans h▸rfl
     |false=>rw[h,h2]at hZ;exact absurd rfl hZ
   have hki:anc k i=false:=by
    cases h2:anc k i with
    |true=>rw[hXi,h2]at hZ;exact absurd rfl hZ
    |false=>rfl
   refine⟨(by rintro rfl;rw[hXk]at hXi;cases hXi),?_,hki⟩;cases h3:anc i k with
   |false=>rfl
   |true=>
    have:=a0U i _ (cF hio) (n0 i _ (cF hio) hXi) k h3;rw[hXk]at this;cases this
  have hTk:∀x∈(ops[k]).looksAt ops,mK T (nM (λi=>listed.getD i false) 0 recs) x=mK T (nM (anc k) 0 recs) x:=by
   intro x hx;refine pI recs 0 T T (λi q hq hZ=>?_) rfl;rw[fF]at hZ;obtain⟨h1,h2,h3⟩:=aYD i q hq hZ;exact λe=>((hok.apart i k q _ _ h1 hq hr QS h2 h3).1 x e).1 hx
  have hmk:∀n,F k n->kZ m (nM (λi=>listed.getD i false) 0 recs) n=kZ m (nM (anc k) 0 recs) n:=by
   intro n hn;refine nZ recs 0 m m (λi q hq hZ p hp e=>?_) rfl;rw[fF]at hZ;obtain⟨h1,h2,h3⟩:=aYD i q hq hZ;exact((hok.apart i k q _ _ h1 hq hr QS h2 h3).2 p hp).1 (e▸hn)
  have aYB:=LJ (λi=>listed.getD i false) recs[k] recs 0 k T m (by simpa using hXk) hr (λi q hi hX hq=>by
   have hX':listed.getD i false=true:=by simpa using hX
   have hio:i<ops.size:=by have:=(bA.1 hq).1;have:=hok.len;omega
   have h2:anc i k=false:=by
    cases h3:anc i k with
    |false=>rfl
    |true=>
     have:=a0U i _ (cF hio) (n0 i _ (cF hio) hX') k h3;rw[hXk]at this;cases this
   have h3:anc k i=false:=by
    cases h3:anc k i with
    |false=>rfl
    |true=>have:=a1E k _ QS i h3;omega
   have:=hok.apart k i _ q _ oM hr hq (cF hio) h3 h2
   exact⟨λp hp=>(this.2 p hp).2,λn hn=>(this.1 n hn).2⟩)
  have hX':(λi=>(listed.setIfInBounds k true).getD i false)=FE (λi=>listed.getD i false) (0+k):=by
   funext i;unfold FE;rw[fF];by_cases e:i=k
   ·subst e;simp[Array.getD,hkl]
   ·rw[aT7 e];show(listed.setIfInBounds k true).getD i false=listed.getD i false;rw[cZ,cZ,aB3 (Ne.symm e)]
  obtain⟨hd1,hd2⟩:=hok.dst k _ _ QS hr;have a0M:∀(ρ2:Nat->Value)(a2:Act)(w2:World),bC M0 S0 w0 N (lI (mK T (nM (λi=>listed.getD i false) 0 recs)) recs[k].dst recs[k].v) (aH (kZ m (nM (λi=>listed.getD i false) 0 recs)) recs[k].u) ρ2 a2 w2->
   gL (kZ m (nM (λi=>listed.getD i false) 0 recs)) (aH (kZ m (nM (λi=>listed.getD i false) 0 recs)) recs[k].u) ρ' ρ2->wpAnyIn (FW ro) 0 P .any ops Q fuel (listed.setIfInBounds k true) a2 w2:=by
   intro ρ2 a2 w2 hs2 hO2;refine ih _ ρ2 a2 w2 (by simpa using vZ) ?_ ?_ ?_ ?_
   ·have:=xA (l:=List.range ops.size) (p:=λi=> !listed.getD i false) (q:=λi=> !(listed.setIfInBounds k true).getD i false) (i:=k) (λj hj=>by
     have QB:(λi=>(listed.setIfInBounds k true).getD i false) j=false:=by simpa using hj
     rw[hX']at QB;unfold FE at QB;split at QB
     · cases QB
     · simpa using QB) (by simpa using hkn) (by simp only[hXk];rfl) (by
       have:(λi=>(listed.setIfInBounds k true).getD i false) k=true:=by rw[hX'];simp[FE]
       simpa using this)
    omega
   ·intro i o ho hi e he hb;have hi':(λi=>(listed.setIfInBounds k true).getD i false) i=true:=hi;show(λi=>(listed.setIfInBounds k true).getD i false) e.on=true;rw[hX']at hi'⊢;unfold FE at hi'⊢;rw[fF]at hi'⊢;split
    ·rfl
    ·split at hi'
     ·rename_i hik;subst hik;rw[QS]at ho;simp at ho;subst ho;exact aZ8 e he hb
     ·exact n0 i o ho hi' e he hb
   ·rw[hX',aYB.1,aYB.2];exact hs2
   ·rw[hX',aYB.1];exact hO.trans hO2
  unfold wpOpIn;rw[QS];simp only;have a0R:∀b,kO ops (mK T (nM (anc k) 0 recs)) ops[k]=some b->kO ops (mK T (nM (λi=>listed.getD i false) 0 recs)) ops[k]=some b:=by
   intro b hb;unfold kO at hb⊢;split at hb
   ·exact hb
   ·rename_i j want hg;split at hb
    ·rename_i d hd;rw[hTk d (hok.guard k _ j want QS hg d hd)];simpa [hg,hd]using hb
    ·cases hb
  rcases hok.gA k _ _ QS hr with⟨hw,hv,hu⟩|⟨hw,I5⟩
  ·rw[L8 hs (a0R _ hw)];simp only[bY,if_false];refine⟨λ_ _=>trivial,a0M ρ' _ w ?_ (by rw[hu];exact gL.refl _ _)⟩;rw[hu,hv,hd1];exact hs.put _ (λn hn=>hd2 n hn) (by simp only[A.Den];exact⟨#[],rfl,rfl⟩)
  ·rw[L8 hs (a0R _ hw)];simp only[if_true];refine I5 _ _ hTk hmk (hok.rq k _ _ QS hXk aYD) (λp hp hn=>?_) ro N M0 S0 w0 ρ' a w hs cX _ Q ?_
   ·rw[hmk _ (hok.fresh k _ hr p hp hn)];exact hn
   ·intro y w' ρ2 hs2 hO2 aWJ;refine a0M ρ2 _ w' ?_ hO2;rw[hd1];exact hs2.put _ (λn hn=>hd2 n hn) aWJ
def T5{ro:Option Nat}(hm:P.follows .mixedOrders=true)(hok:RL P ops recs anc F Rq N.n T m)(cX:∀b,M0 b->b<w0.heap.size){id:Nat}{Q:Exit->Act->World->Prop}{a:Act}{w:World}(hs:bC M0 S0 w0 N T m ρ a w)
 (hQ:∀(a:Act)(w:World)(ρ':Nat->Value),bC M0 S0 w0 N (mK T recs) (kZ m recs) ρ' a w->gL m (kZ m recs) ρ ρ'->Q .normal a w):(Code.region id ops true).wpIn (FW ro) 0 P Q a w:=by
 refine wpIn_region_any hm ?_;have h0:(λi=>(Array.replicate ops.size false).getD i false)=λ_=>false:=by
  funext i;by_cases h:i<ops.size<;>simp[Array.getD,h]
 refine WM hok cX hQ ops.size _ ρ a _ sM ?_ ?_ ?_ ?_
 ·have:=YC (λi=> !(Array.replicate ops.size false).getD i false) (List.range ops.size);simpa using this
 ·intro k o _ hk;have:(λi=>(Array.replicate ops.size false).getD i false) k=true:=hk;rw[h0]at this;cases this
 ·rw[h0,LK recs 0 (λ_=>rfl)];exact hs.drew _
 ·rw[h0,LK recs 0 (λ_=>rfl)];exact gL.refl _ _
end
end Go.Pv
