import Derived.Test.YtpdcbahjjmooiaaGreatH10
/- A program logic over the model, contracts of the functions that the law reaches: part 11. (Names and blanks were shortened by program.) -/
set_option linter.unusedVariables false
set_option linter.unusedSimpArgs false
set_option linter.constructorNameAsVariable false
set_option linter.unusedSectionVars false
set_option linter.deprecated false
set_option maxRecDepth 100000
set_option maxHeartbeats 8000000
open Go
namespace Go.Pv
open Go.RowKit
variable{X:Prop}{k:A->List (Nat×R)->Prop}{P:Program}{m:Mem}{T:Nat->A}{d:Nat}{o:Oper}{t:TypeId}
def lT:List (Nat×A)->Nat->A
 |[],_=>.x
 |p::r,n=>bif Nat.beq p.1 n then p.2 else lT r n
def aK:List (Nat×R)->Mem
 |[],_=>none
 |p::r,i=>bif Nat.beq p.1 i then some p.2 else aK r i
theorem aHO(d:Nat)(v:A)(l:List (Nat×A)):lT ((d,v)::l)=lI (lT l) (some d) v:=by
 funext n;simp only[lT,lI,aA];by_cases h:d=n
 ·subst h;simp
 ·have:Nat.beq d n=false:=by
   cases hb:Nat.beq d n with
   |false=>rfl
   |true=>exact absurd (bB hb) h
  simp[h,this]
theorem lR(i:Nat)(r:R)(l:List (Nat×R)):aK ((i,r)::l)=aX (aK l) i r:=by
 funext n;simp only[aK,aX];by_cases h:n=i
 ·subst h;simp
 ·have:Nat.beq i n=false:=by
   cases hb:Nat.beq i n with
   |false=>rfl
   |true=>exact absurd (bB hb).symm h
  simp[h,this]
def bK(b:Bool)(X Y:Prop):Prop:=match b with
 |true=>X
 |false=>Y
inductive O8(b:Bool)(X Y:Prop):Prop
 |t (h:b=true) (x:X)
 |f (h:b=false) (y:Y)
theorem nQ{b:Bool}{Y:Prop}(h1:b=true->X)(h2:b=false->Y):O8 b X Y:=by
 cases b with
 |true=>exact .t rfl (h1 rfl)
 |false=>exact .f rfl (h2 rfl)
theorem O8.bK{b:Bool}{X Y:Prop}(h:O8 b X Y):Go.Pv.bK b X Y:=by
 cases h with
 |t h x=>subst h;exact x
 |f h y=>subst h;exact y
def aJ3(x:Value)(k:Value->Prop):Prop:=match x with
 |.int kd n=>match kd with
  |.i8=>k (.int .i8 n)|.i16=>k (.int .i16 n)|.i32=>k (.int .i32 n)|.i64=>k (.int .i64 n)
  |.u8=>k (.int .u8 n)|.u16=>k (.int .u16 n)|.u32=>k (.int .u32 n)|.u64=>k (.int .u64 n)
 |.bool b=>k (.bool b)
 |.string s=>k (.string s)
 |.pointer none=>k (.pointer none)
 |.map none=>k (.map none)
 |y=>k y
def aLY(c:C)(k:C->Prop):Prop:=match c with
 |.v x=>aJ3 x λx=>k (.v x)
 |.sl es l=>k (.sl es l)
 |.nl es=>k (.nl es)
 |.ip l=>k (.ip l)
 |.im ks vs=>k (.im ks vs)
 |.fn f a b=>k (.fn f a b)
 |.agg l=>k (.agg l)
 |.AE t c=>k (.AE t c)
def J0(a:A)(k:A->Prop):Prop:=match a with
 |.d c=>aLY c λc=>k (.d c)
 |.lp i off=>k (.lp i off)
 |.h i=>k (.h i)
 |.ep i es j off=>k (.ep i es j off)
 |.sv i lo n=>k (.sv i lo n)
 |.fn f a b=>k (.fn f a b)
 |.agg l=>k (.agg l)
 |.eL l=>k (.eL l)
 |.AE t a=>k (.AE t a)
 |.x=>k .x
theorem aHC{x:Value}{k:Value->Prop}(h:aJ3 x k):k x:=by
 unfold aJ3 at h;split at h
 ·split at h<;>exact h
 all_goals exact h
theorem aHA{c:C}{k:C->Prop}(h:aLY c k):k c:=by
 cases c<;>first|exact h|exact aHC (k:=λx=>k (.v x)) h
theorem s6{a:A}{k:A->Prop}(h:J0 a k):k a:=by
 cases a<;>first|exact h|exact aHA (k:=λx=>k (.d x)) h
def aM9(d:Option Nat)(v:A)(l:List (Nat×A))(k:List (Nat×A)->Prop):Prop:=match d with
 |some d=>k ((d,v)::l)
 |none=>k l
theorem BE{d:Option Nat}{v:A}{l:List (Nat×A)}{k:List (Nat×A)->Prop}(h:aM9 d v l k):∃l',lT l'=lI (lT l) d v/\k l':=by
 cases d with
 |some d=>exact⟨_,aHO d v l,h⟩
 |none=>exact⟨l,by funext n;simp[lI],h⟩
def SR:List A->(List A->Prop)->Prop
 |[],k=>k []
 |a::r,k=>J0 a λa=>SR r λr=>k (a::r)
theorem SS:∀{l:List A}{k:List A->Prop},SR l k->k l
 |[],k,h=>h
 |a::r,k,h=>SS (k:=λr=>k (a::r)) (s6 (k:=λa=>SR r λr=>k (a::r)) h)
def aLZ(r:R)(k:R->Prop):Prop:=match r with
 |.dead=>k .dead
 |.cells fz l=>match fz with
  |true=>SR l λl=>k (.cells true l)
  |false=>SR l λl=>k (.cells false l)
 |.fW fz t es l=>match fz with
  |true=>k (.fW true t es l)
  |false=>k (.fW false t es l)
 |.mp fz kv st=>match fz with
  |true=>k (.mp true kv st)
  |false=>k (.mp false kv st)
 |r=>k r
theorem aHB{r:R}{k:R->Prop}(h:aLZ r k):k r:=by
 cases r with
 |cells fz l=>cases fz<;>exact SS (k:=λl=>k (.cells _ l)) h
 |fW fz t es l=>cases fz<;>exact h
 |mp fz kv st=>cases fz<;>exact h
 |_=>exact h
def aF4:List (Nat×R)->List (Nat×R)->(List (Nat×R)->Prop)->Prop
 |[],ml,k=>k ml
 |p::u,ml,k=>match p with
  |(i,r)=>aLZ r λr=>aF4 u ((i,r)::ml) k
theorem RA:∀{u ml:List (Nat×R)}{k:List (Nat×R)->Prop},aF4 u ml k->∃ml',aK ml'=aH (aK ml) u/\k ml'
 |[],ml,k,h=>⟨ml,rfl,h⟩
 |(i,r)::u,ml,k,h=>by
  obtain⟨ml',e,h'⟩:=RA (u:=u) (aHB (k:=λr=>aF4 u ((i,r)::ml) k) h);exact⟨ml',by rw[e,lR];rfl,h'⟩
inductive dZ(P:Program)(f:FuncId)(as:List A)(ml:List (Nat×R))(k:A->List (Nat×R)->Prop):Prop
 |mk (v:A) (u:List (Nat×R)) (h:aJ P f as (aK ml) (.ok v) (aH (aK ml) u)) (hk:k v u)
inductive XD(P:Program)(f:FuncId)(as:List A)(k:A->Prop):Prop
 |mk (v:A) (h:∀m,aJ P f as m (.ok v) m) (hk:k v)
inductive xR(pre:Bool)(X:Prop):Prop
 |mk (h:pre=true) (hx:X)
theorem xV{p:Prop}{_:Decidable p}(h:p)(hx:X):xR (decide p) X:=⟨aUZ h,hx⟩
def stOp(o:Oper):Bool:=match o.op with
 |.binOp op _ _ _ _=>match op with
  |.add=>true|.sub=>true|.mul=>true|.quo=>true|.rem=>true|.shl=>true|.shr=>true
  |_=>false
 |.unOp op _ _=>match op with
  |.neg=>true
  |_=>false
 |.convert _ _ _=>true
 |.slice _ _ _ _ _=>true
 |.makeSlice .. =>true
 |.call c=>match c.callee with
  |.builtin b=>match b with
   |.len=>false
   |_=>true
  |_=>false
 |_=>false
def aKV(st:Bool)(pre:Bool)(X:Prop):Prop:=match st with
 |true=>xR pre X
 |false=>bK pre X False
theorem Y3{st pre:Bool}(h:aKV st pre X):pre=true/\X:=by
 cases st with
 |true=>obtain⟨h1,h2⟩:=h;exact⟨h1,h2⟩
 |false=>cases pre with
  |true=>exact⟨rfl,h⟩
  |false=>exact h.elim
def oT(st:Bool)(e:Option E)(k:A->List (Nat×R)->Prop):Prop:=match e with
 |some (pre,v,u)=>aKV st pre (J0 v λv=>k v u)
 |none=>False
def zZ(st:Bool)(e:Option E)(k:A->Prop):Prop:=match e with
 |some (pre,v,u)=>match u with
  |[]=>aKV st pre (J0 v k)
  |_=>False
 |none=>False
inductive PA(es ce:Nat)(l:List (List C))(n:Int)(k:List C->Prop):Prop
 |mk (h:es=ce/\0<es/\0<=n/\n<l.length) (hk:k (l.getD n.toNat []))
theorem cD{α:Type}{es ce:Nat}{L:List α}{f:α->List C}{i:Nat}{k:List C->Prop}(h1:es=ce)(h2:0<es)(hi:i<L.length)(hk:k (f L[i])):PA es ce (L.map f) (i:Int) k:=by
 refine⟨⟨h1,h2,oM,by simpa using hi⟩,?_⟩;have:(L.map f).getD (i:Int).toNat []=f L[i]:=by simp[bF,hi]
 rw[this];exact hk
theorem eE{α:Type}{es ce:Nat}{L:List α}{f g:α->List C}{i:Nat}{k:List C->Prop}(hfg:∀x,f x=g x)(h1:es=ce)(h2:0<es)(hi:i<L.length)(hk:k (g L[i])):PA es ce (L.map f) (i:Int) k:=by
 have:f=g:=funext hfg;subst this;exact cD h1 h2 hi hk
def aDM(P:Program)(T:Nat->A)(o:Oper):Option (Nat×Nat×List (List C)×Int):=match o.op with
 |.indexAddr t x ix=>match dN T x with
  |.d c=>match c with
   |.sl es l=>match dN T ix with
    |.d c=>match c with
     |.v x=>match x with
      |.int _ n=>match P.underlying t with
       |some (.slice e)=>some (es,P.cellsOf e,l,n)
       |_=>none
      |_=>none
     |_=>none
    |_=>none
   |_=>none
  |_=>none
 |_=>none
theorem J5{es ce:Nat}{l:List (List C)}{n:Int}{k:List C->Prop}(h:aDM P T o=some (es,ce,l,n))(hk:PA es ce l n k):∃row,eM P m T d o=some (true,.d (.ip row),[])/\k row:=by
 obtain⟨h1,h2⟩:=hk;refine⟨_,?_,h2⟩;unfold aDM at h;split at h
 ·rename_i t x ix ho;split at h
  ·rename_i c hx;split at h
   ·split at h
    ·rename_i K0;split at h
     ·split at h
      ·split at h
       ·rename_i e hu;simp only[aA,aD]at h;obtain⟨rfl,rfl,rfl,rfl⟩:=h;unfold eM gV;simp only[ho];unfold kT kG;simp only[ho];unfold jZ;simp only[ho];unfold j9;simp only[ho,j7,hx,K0,hu];simp only[aUZ h1]
       ·cases h
      ·cases h
     ·cases h
    ·cases h
   ·cases h
  ·cases h
 ·cases h
inductive FC(kd:IntKind)(n:Int)(X:Prop):Prop
 |mk (h:MN kd n) (hx:X)
def QJ:IntKind->Nat
 |.i8=>0|.i16=>1|.i32=>2|.i64=>3|.u8=>4|.u16=>5|.u32=>6|.u64=>7
theorem aHL{a b:IntKind}(h:Nat.beq (QJ a) (QJ b)=true):a=b:=by
 have:=bB h;cases a<;>cases b<;>simp[QJ]at this<;>rfl
def ZP:A->Option (IntKind×Int)
 |.d c=>match c with
  |.v x=>match x with
   |.int k n=>some (k,n)
   |_=>none
  |_=>none
 |_=>none
theorem I4{a:A}{k:IntKind}{n:Int}(h:ZP a=some (k,n)):a=.d (.v (.int k n)):=by
 cases a with
 |d c=>cases c with
  |v x=>cases x with
   |int k' n'=>simp only[ZP,aA,aD]at h;rw[h.1,h.2]
   |_=>cases h
  |_=>cases h
 |_=>cases h
def arT(P:Program)(T:Nat->A)(o:Oper):Option (IntKind×Int):=match o.op with
 |.binOp op t x y _=>match op with
  |.add=>match ZP (dN T x),ZP (dN T y)with
   |some (k,a),some (k',b)=>bif Nat.beq (QJ k) (QJ k')then some (k,a+b)else none
   |_,_=>none
  |.sub=>match ZP (dN T x),ZP (dN T y)with
   |some (k,a),some (k',b)=>bif Nat.beq (QJ k) (QJ k')then some (k,a -b)else none
   |_,_=>none
  |.mul=>match ZP (dN T x),ZP (dN T y)with
   |some (k,a),some (k',b)=>bif Nat.beq (QJ k) (QJ k')then some (k,a*b)else none
   |_,_=>none
  |_=>none
 |.convert s d x=>match ZP (dN T x),P.underlying s,P.underlying d with
  |some (_,n),some _,some (.int k)=>some (k,n)
  |_,_,_=>none
 |_=>none
theorem aGN{kd:IntKind}{n:Int}(h:arT P T o=some (kd,n))(hr:MN kd n):eM P m T d o=some (true,.d (.v (.int kd n)),[]):=by
 have key:∀e:Option E,j9 P m T d o=e->(∀c,o.op≠.call c)->j9 P m T d o=some (true,.d (.v (.int kd n)),[])->(∃op t x y z,o.op=.binOp op t x y z)\/(∃s t x,o.op=.convert s t x)->eM P m T d o=some (true,.d (.v (.int kd n)),[]):=by
  intro e he hc h1 h2;unfold eM gV;rcases h2 with⟨op,t,x,y,z,ho⟩|⟨s,t,x,ho⟩
  ·simp only[ho];unfold kT kG;simp only[ho];unfold jZ;simp only[ho,h1]
  ·simp only[ho];unfold kT kG;simp only[ho];unfold jZ;simp only[ho,h1]
 unfold arT at h;split at h
 ·rename_i op t x y yt ho;refine key _ rfl (by rw[ho];simp) ?_ (.inl ⟨_,_,_,_,_,ho⟩)
  have fin:∀(f:Int->Int->Int),(∀k a b,JM op k k a b=some (decide (k=k/\MN k (f a b)),.v (.int k (f a b))))->(match ZP (dN T x),ZP (dN T y)with
   |some (k,a),some (k',b)=>bif Nat.beq (QJ k) (QJ k')then some (k,f a b)else none
   |_,_=>none)=some (kd,n)->j9 P m T d o=some (true,.d (.v (.int kd n)),[]):=by
   intro f hf h;split at h
   ·rename_i k a k' b h1 h2;cases hk:Nat.beq (QJ k) (QJ k')with
    |false=>rw[hk]at h;cases h
    |true=>
     rw[hk]at h;simp only[cond_true,aA,aD]at h;obtain⟨rfl,rfl⟩:=h;have:=aHL hk;subst this;unfold j9;simp only[ho,xZ,I4 h1,I4 h2,hf,dF];simp[hr]
   ·cases h
  split at h
  ·exact fin (· +·) (λk a b=>rfl) h
  ·exact fin (· -·) (λk a b=>rfl) h
  ·exact fin (· *·) (λk a b=>rfl) h
  ·cases h
 ·rename_i s t x ho;refine key _ rfl (by rw[ho];simp) ?_ (.inr ⟨_,_,_,ho⟩);split at h
  ·rename_i k' a h1 h2 h3;simp only[aA,aD]at h;obtain⟨rfl,rfl⟩:=h;unfold j9;simp only[ho,yB,I4 h1,h2,h3];simp[hr]
  ·cases h
 ·cases h
def GH(P:Program)(T:Nat->A)(o:Oper)(k:A->Prop)(X:Prop):Prop:=match arT P T o with
 |some (kd,n)=>FC kd n (k (.d (.v (.int kd n))))
 |none=>X
theorem FG{k:A->Prop}(h:GH P T o k X):(∃v,eM P m T d o=some (true,v,[])/\k v)\/X:=by
 unfold GH at h;split at h
 ·rename_i kd n hr;obtain⟨h1,h2⟩:=h;exact .inl ⟨_,aGN hr h1,h2⟩
 ·exact .inr h
inductive n5(fit:Bool)(g:Option A)(k1:A->Prop)(k0:Prop):Prop
 |CL (a:A) (hf:fit=true) (h:g=some a) (hk:k1 a)
 |BP (hf:fit=true) (h:g=none) (hk:k0)
def lkD(P:Program)(m:Mem)(t:TypeId)(x ix:A):Option (TypeId×Ky×List (Ky×A)×A):=match CR P t,keyOf ix with
 |some (kt,et),some k=>match U2 P et with
  |some z=>match x with
   |.h i=>match m i with
    |some (.mp _ kv _)=>some (kt,k,kv,z)
    |_=>none
   |.d c=>match c with
    |.im ks vs=>some (kt,k,ks.zip (vs.map A.d),z)
    |_=>none
   |_=>none
  |none=>none
 |_,_=>none
theorem aHP{x ix z:A}{kt:TypeId}{k:Ky}{kv:List (Ky×A)}{ok:Bool}(h:lkD P m t x ix=some (kt,k,kv,z)):lO P m t x ix ok=match fL k kv with
 |some a=>some (kH P kt k kv,QK ok a true,[])
 |none=>some (kH P kt k kv,QK ok z false,[]):=by
 unfold lkD at h;unfold lO;split at h
 ·rename_i h1 h2;simp only[h1,h2];split at h
  ·rename_i h3;simp only[h3];split at h
   ·split at h
    ·rename_i h4;simp only[aA,aD]at h;obtain⟨rfl,rfl,rfl,rfl⟩:=h;simp only[h4];cases fL _ _<;>rfl
    ·cases h
   ·split at h
    ·simp only[aA,aD]at h;obtain⟨rfl,rfl,rfl,rfl⟩:=h;dsimp only;rename_i ks vs;cases fL _ (ks.zip (vs.map A.d))<;>rfl
    ·cases h
   ·cases h
  ·cases h
 ·cases h
def lkK(P:Program)(m:Mem)(T:Nat->A)(o:Oper)(k:A->Prop)(X:Prop):Prop:=match o.op with
 |.lookup t x ix ok=>match lkD P m t (dN T x) (dN T ix)with
  |some (kt,key,kv,z)=>n5 (kH P kt key kv) (fL key kv) (λa=>J0 (QK ok a true) k) (J0 (QK ok z false) k)
  |none=>X
 |_=>X
theorem aD1{k:A->Prop}(h:lkK P m T o k X):(∃v,eM P m T d o=some (true,v,[])/\k v)\/X:=by
 unfold lkK at h;split at h
 ·rename_i t x ix ok ho;split at h
  ·rename_i kt key kv z hl;left;have he:eM P m T d o=lO P m t (dN T x) (dN T ix) ok:=by
    unfold eM gV;simp only[ho];unfold kT kG;simp only[ho];unfold jZ;simp only[ho];cases lO P m t (dN T x) (dN T ix) ok with
    |some e=>rfl
    |none=>unfold qI;simp only[ho]
   rw[he,aHP hl];cases h with
   |CL a hf hg hk=>exact⟨QK ok a true,by rw[hg,hf],s6 hk⟩
   |BP hf hg hk=>exact⟨QK ok z false,by rw[hg,hf],s6 hk⟩
  ·exact .inr h
 ·exact .inr h
inductive BN(L:List (List C))(kt kf:Prop):Prop
 |mk (ht:L=[]->kt) (hf:kf)
theorem BN.outs{L:List (List C)}(h:BN L (k (.d (.v (.bool true))) []) (k (.d (.v (.bool false))) [])):∀q∈A7 L,∃v,q.1=.ok v/\k v q.2:=by
 obtain⟨h1,h2⟩:=h;intro q hq;cases L with
 |nil=>
  simp only[A7,aO,List.not_mem_nil,or_false]at hq;rcases hq with rfl|rfl
  ·exact⟨_,rfl,h2⟩
  ·exact⟨_,rfl,h1 rfl⟩
 |cons p r=>
  simp only[A7,aR]at hq;subst hq;exact⟨_,rfl,h2⟩
inductive fZ(rows:List (List A))(j:Nat)(K:List A->Prop):Prop
 |mk (row:List A) (h:rows[j]?=some row) (hk:K row)
inductive lG(n:Int)(len:Nat)(K:Nat->Prop):Prop
 |mk (j:Nat) (h:n=j) (cX:j<len) (hk:K j)
def H4(P:Program)(m:Mem)(T:Nat->A)(o:Oper)(k:A->List (Nat×R)->Prop)(X:Prop):Prop:=match o.op with
 |.load t x=>match dN T x with
  |.ep i es j off=>match m i with
   |some r=>match r with
    |.fW _ _ es' rows=>match Nat.beq es' es with
     |true=>match oP P t with
      |some ag=>fZ rows j λrow=>match ag with
       |true=>bK (decide (off+P.cellsOf t<=es)) (k (.agg ((row.drop off).take (P.cellsOf t))) []) False
       |false=>bK (decide (off<es)) (J0 (row.getD off .x) λa=>k a []) False
      |none=>X
     |false=>X
    |_=>X
   |none=>X
  |_=>X
 |.store t ad x=>match dN T ad with
  |.ep i es j off=>match m i with
   |some r=>match r with
    |.fW fz te es' rows=>match fz with
     |false=>match Nat.beq es' es with
      |true=>match(dN T x).cells m with
       |some vs=>fZ rows j λrow=>bK (decide (vs.length=P.cellsOf t/\0<P.cellsOf t/\off+vs.length<=es)) (k .x [(i,.fW false te es (rows.set j (mM row off vs)))]) False
       |none=>X
      |false=>X
     |true=>X
    |_=>X
   |none=>X
  |_=>X
 |.indexAddr t x ix=>match dN T x with
  |.h i=>match m i with
   |some r=>match r with
    |.fW _ _ es rows=>match dN T ix with
     |.d c=>match c with
      |.v y=>match y with
       |.int _ n=>match P.underlying t with
        |some (.slice e)=>bK (decide (es=P.cellsOf e/\0<es)) (lG n rows.length λj=>k (.ep i es j 0) []) False
        |_=>X
       |_=>X
      |_=>X
     |_=>X
    |_=>X
   |none=>X
  |_=>X
 |_=>X
theorem XM{p:Prop}{h:Decidable p}(hb:bK (decide p) X False):p/\X:=by
 cases hd:decide p with
 |true=>rw[hd]at hb;exact⟨aUL hd,hb⟩
 |false=>rw[hd]at hb;exact hb.elim
theorem DL{e:E}(h:(∃t x,o.op=.load t x)\/(∃t x y,o.op=.store t x y)\/(∃t x y,o.op=.indexAddr t x y))(he:j9 P m T d o=some e):eM P m T d o=some e:=by
 unfold eM gV;rcases h with⟨t,x,ho⟩|⟨t,x,y,ho⟩|⟨t,x,y,ho⟩
 all_goals
  simp only[ho];unfold kT kG;simp only[ho];unfold jZ;simp only[ho,he]
theorem ED(h:H4 P m T o k X):(∃v u,eM P m T d o=some (true,v,u)/\k v u)\/X:=by
 unfold H4 at h;split at h
 ·rename_i t x ho;split at h
  ·rename_i i es j off hx;split at h
   ·rename_i r hi;split at h
    ·rename_i rows;split at h
     ·rename_i wP;have wP:=bB wP;subst wP;split at h
      ·rename_i ag hag;obtain⟨row,hr,h⟩:=h;have cX:=(bA.1 hr).1;have hgd:rows.getD j []=row:=by simp[bF,hr]
       split at h
       ·obtain⟨h1,h2⟩:=XM h;refine .inl ⟨_,_,DL (.inl ⟨t,x,ho⟩) ?_,h2⟩;unfold j9;simp only[ho,hx,jM,hi,hag,hgd,cX,h1,and_self,decide_true]
       ·obtain⟨h1,h2⟩:=XM h;refine .inl ⟨_,_,DL (.inl ⟨t,x,ho⟩) ?_,s6 (k:=λa=>k a []) h2⟩;unfold j9;simp only[ho,hx,jM,hi,hag,hgd,cX,h1,and_self,decide_true]
      ·exact .inr h
     ·exact .inr h
    ·exact .inr h
   ·exact .inr h
  ·exact .inr h
 ·rename_i t ad x ho;split at h
  ·rename_i i es j off hx;split at h
   ·rename_i r hi;split at h
    ·rename_i fz te es' rows;split at h
     ·split at h
      ·rename_i wP;have wP:=bB wP;subst wP;split at h
       ·rename_i vs P2;obtain⟨row,hr,h⟩:=h;have cX:=(bA.1 hr).1;have hgd:rows.getD j []=row:=by simp[bF,hr]
        obtain⟨h1,h2⟩:=XM h;refine .inl ⟨_,_,DL (.inr (.inl ⟨t,ad,x,ho⟩)) ?_,h2⟩;unfold j9;simp only[ho,j3,hx,hi,P2,hgd,cX,h1.1,h1.2.1,h1.1▸h1.2.2,true_and,decide_true]
       ·exact .inr h
      ·exact .inr h
     ·exact .inr h
    ·exact .inr h
   ·exact .inr h
  ·exact .inr h
 ·rename_i t x ix ho;split at h
  ·rename_i i hx;split at h
   ·rename_i r hi;split at h
    ·rename_i es rows;split at h
     ·split at h
      ·split at h
       ·rename_i y n K0;split at h
        ·rename_i e hu;obtain⟨⟨h1,h2⟩,j,hn,cX,hk⟩:=XM h;refine .inl ⟨_,_,DL (.inr (.inr ⟨t,x,ix,ho⟩)) ?_,hk⟩;unfold j9;have h3:(0:Int)<=n:=oM;have h4:n<(rows.length:Int):=oM;have h5:n.toNat=j:=oM;subst h1;simp only[ho,j7,hx,K0,hu,hi,h3,h4,h5,h2,true_and,and_self,decide_true]
        ·exact .inr h
       ·exact .inr h
      ·exact .inr h
     ·exact .inr h
    ·exact .inr h
   ·exact .inr h
  ·exact .inr h
 ·exact .inr h
def clD(P:Program)(T:Nat->A)(o:Oper):Option (Nat×List (List C)×Int×Int×Bool):=match o.op with
 |.slice t x lo hi mx=>match lo with
  |none=>match hi with
   |some h=>match mx with
    |some c=>match dN T x with
     |.d v=>match v with
      |.sl es L=>match ZP (dN T h),ZP (dN T c),j8 P t with
       |some (_,a),some (_,b),some e=>some (es,L,a,b,decide (es=P.cellsOf e/\0<es))
       |_,_,_=>none
      |_=>none
     |_=>none
    |none=>none
   |none=>none
  |some _=>none
 |_=>none
inductive aIW(L:List (List C))(a b:Int)(ok:Bool)(X:Prop):Prop
 |mk (ha:a=L.length) (hb:b=L.length) (ho:ok=true) (x:X)
def aJR(P:Program)(m:Mem)(T:Nat->A)(nx:Nat)(o:Oper)(k:A->List (Nat×R)->Prop)(X:Prop):Prop:=match clD P T o with
 |some (es,L,a,b,ok)=>aIW L a b (ok&&jN m nx) (k (.h nx) [(nx,.cu (.d (.sl es L)) es (L.map λx=>x.map A.d))])
 |none=>X
theorem aGT(h:aJR P m T d o k X):(∃v u,eM P m T d o=some (true,v,u)/\k v u)\/X:=by
 unfold aJR at h;split at h
 ·rename_i es L a b ok hd;obtain⟨ha,hb,ho,hk⟩:=h;refine .inl ⟨_,_,?_,hk⟩;unfold clD at hd;split at hd
  ·rename_i t x lo hi mx I5;split at hd
   ·split at hd
    ·rename_i h';split at hd
     ·rename_i c';split at hd
      ·rename_i v hx;split at hd
       ·split at hd
        ·rename_i kk1 a' kk2 b' e h1 h2 h3;simp only[aA,aD]at hd;obtain⟨rfl,rfl,rfl,rfl,rfl⟩:=hd;simp only[aE,aUA]at ho;obtain⟨⟨g1,g2⟩,g3⟩:=ho;unfold eM gV;simp only[I5,I4 h1,I4 h2,hx,jW,dO,h3,Option.map_none,dF,DJ,Option.orElse_none,zL];subst ha;subst hb;simp[g1,g3];rw[<-g1];exact g2
        ·cases hd
       ·cases hd
      ·cases hd
     ·cases hd
    ·cases hd
   ·cases hd
  ·cases hd
 ·exact .inr h
inductive aB4(fit:Bool)(g:Option A)(k1 k0:Prop):Prop
 |CL (hf:fit=true) (h:g≠none) (hk:k1)
 |BP (hf:fit=true) (h:g=none) (hk:k0)
def msD(P:Program)(m:Mem)(t:TypeId)(x ix:A):Option (TypeId×Ky×Nat×List (Ky×A)×List (Ky×Nat)):=match CR P t,keyOf ix with
 |some (kt,_),some k=>match x with
  |.h i=>match m i with
   |some r=>match r with
    |.mp fz kv st=>match fz with
     |false=>some (kt,k,i,kv,st)
     |true=>none
    |_=>none
   |_=>none
  |_=>none
 |_,_=>none
theorem YR{x ix a:A}{kt:TypeId}{k:Ky}{i:Nat}{kv:List (Ky×A)}{st:List (Ky×Nat)}(h:msD P m t x ix=some (kt,k,i,kv,st)):mW P m t x ix a=match fL k kv with
 |some _=>some (kH P kt k kv,.x,[(i,.mp false (kv.map λp=>if p.1=k then(k,a)else p) st)])
 |none=>some (kH P kt k kv,.x,[(i,.mp false (kv++[(k,a)]) (st.filter λp=>p.1 !=k&&p.1 !=.agg []))]):=by
 unfold msD at h;unfold mW;split at h
 ·rename_i h1 h2;simp only[h1,h2];split at h
  ·split at h
   ·rename_i h3;split at h
    ·split at h
     ·simp only[aA,aD]at h;obtain⟨rfl,rfl,rfl,rfl,rfl⟩:=h;simp only[h3];cases fL _ _<;>rfl
     ·cases h
    ·cases h
   ·cases h
  ·cases h
 ·cases h
def aBR(P:Program)(m:Mem)(t:TypeId)(x ix a:A)(k:A->List (Nat×R)->Prop)(X:Prop):Prop:=match msD P m t x ix with
 |some (kt,key,i,kv,st)=>aB4 (kH P kt key kv) (fL key kv) (k .x [(i,.mp false (kv.map λp=>if p.1=key then(key,a)else p) st)]) (k .x [(i,.mp false (kv++[(key,a)]) (st.filter λp=>p.1 !=key&&p.1 !=.agg []))])
 |none=>X
theorem IP{x ix a:Operand}(ho:o.op=.mapUpdate t x ix a\/o.op=.insert t x ix a)(h:aBR P m t (dN T x) (dN T ix) (dN T a) k X):(∃v u,eM P m T d o=some (true,v,u)/\k v u)\/X:=by
 unfold aBR at h;split at h
 ·rename_i kt key i kv st hl;left;have he:eM P m T d o=mW P m t (dN T x) (dN T ix) (dN T a):=by
   have hs:=YR (a:=dN T a) hl;rcases ho with ho|ho
   all_goals
    unfold eM gV;simp only[ho];unfold kT kG;simp only[ho];unfold jZ;simp only[ho,hs];cases fL key kv<;>rfl
  rw[he,YR hl];cases h with
  |CL hf hg hk=>
   cases hq:fL key kv with
   |none=>exact absurd hq hg
   |some b=>exact⟨_,_,by rw[hf],hk⟩
  |BP hf hg hk=>exact⟨_,_,by rw[hg,hf],hk⟩
 ·exact .inr h
inductive aLL(ks:List Ky)(vs:List C)(free:Bool)(k:List (Ky×C)->Prop):Prop
 |mk (kv:List (Ky×C)) (h1:ks=kv.map (·.1)) (h2:vs=kv.map (·.2)) (hf:free=true) (hk:k kv)
theorem xI{α:Type}{L:List α}{f:α->Ky}{g:α->C}{free:Bool}{k:List (Ky×C)->Prop}(hf:free=true)(hk:k (L.map λx=>(f x,g x))):aLL (L.map f) (L.map g) free k:=
 ⟨_,by rw[bH];rfl,by rw[bH];rfl,hf,hk⟩
inductive XC(d:Nat)(rest:List (Ky×C))(k:A->List (Nat×R)->Prop):Prop
 |mk (h0:rest=[]->k (.eL [.d (.v (.bool false))]) []) (h1:∀i(h:i<rest.length),k (.eL [.d (.v (.bool true)),ZA rest[i].1,.d rest[i].2]) [(d,.di (some rest[i]) (rest.eraseIdx i))])
theorem EI{α:Type}{L:List α}{f:α->Ky×C}(h0:L=[]->k (.eL [.d (.v (.bool false))]) [])(h1:∀i(h:i<L.length),k (.eL [.d (.v (.bool true)),ZA (f L[i]).1,.d (f L[i]).2]) [(d,.di (some (f L[i])) ((L.eraseIdx i).map f))]):XC d (L.map f) k:=by
 refine⟨λh=>h0 (by simpa using h),λi h=>?_⟩;have h':i<L.length:=by simpa using h
 have:=h1 i h';simp only[fO,rD];exact this
theorem XC.outs{rest:List (Ky×C)}(h:XC d rest k):∀q∈xD d rest,∃v,q.1=.ok v/\k v q.2:=by
 obtain⟨h0,h1⟩:=h;intro q hq;cases rest with
 |nil=>
  simp only[xD,aR]at hq;subst hq;exact⟨_,rfl,h0 rfl⟩
 |cons p r=>
  unfold xD at hq;obtain⟨i,hi,rfl⟩:=aA4.1 hq;have hi':=jI.1 hi;have e:(p::r).getD i p=(p::r)[i]:=by simp only[bF,aC hi',gZ]
  have:=h1 i hi';rw[e];exact⟨_,rfl,this⟩
inductive TO(n b:Nat)(X:Prop):Prop
 |mk (h:n*b<=140737488355328) (hx:X)
inductive E9(l:List (List A))(X Y:Prop):Prop
 |mk (h1:l=[]->X) (h2:l≠[]->Y)
def aLN(P:Program)(m:Mem)(T:Nat->A)(nx:Nat)(c:Call):Option (TypeId×Option Nat×List (List A)×List (List A)×Bool):=match c.args.toList,c.argTypes.toList with
 |[x,y],[t,t']=>match j8 P t with
  |some e=>match iP m (dN T x),dO m (dN T y),o5 P e with
   |some (k,l),some l2,some z=>some (e,k,l,l2,decide (t=t'/\z.length=P.cellsOf e/\0<P.cellsOf e/\0<P.bytesOf e)&&(zS m e (P.cellsOf e) k&&(qW m (P.cellsOf e) (dN T y)&&jN m nx)))
   |_,_,_=>none
  |none=>none
 |_,_=>none
def aGM(P:Program)(m:Mem)(T:Nat->A)(nx:Nat)(c:Call)(k:A->List (Nat×R)->Prop)(X:Prop):Prop:=match aLN P m T nx c with
 |some (e,i,l,l2,st)=>match i with
  |none=>bK st (TO l2.length (P.bytesOf e) (E9 l2 (k (.d (.nl (P.cellsOf e))) []) (k (.h nx) [(nx,.fW false e (P.cellsOf e) l2)]))) False
  |some i=>bK st (TO (l.length+l2.length) (P.bytesOf e) (k (.h nx) [(i,.dead),(nx,.fW false e (P.cellsOf e) (l++l2))])) False
 |none=>X
theorem yA{args:Array Operand}{tys:Array TypeId}{x y:Operand}{t':TypeId}{kk:Option Nat×List (List A)}{e:E}(ho:o.op=.call ⟨.builtin .append,args,tys⟩)(ha:args.toList=[x,y])(hty:tys.toList=[t,t'])(h1:iP m (dN T x)=some kk)(he:kT P m T d o=some e):eM P m T d o=some e:=by
 have hc:gV P m T d o=none:=by
  unfold gV;simp only[ho,ha,hty];unfold iP at h1;split at h1
  ·split at h1
   ·rename_i q1 _ _ _ _ q2;simp only[q1,q2]
   ·cases h1
  ·rename_i q1;simp only[q1]
  ·cases h1
 unfold eM;rw[hc];exact he
theorem XI{nx:Nat}{c:Call}(ho:o.op=.call c)(hb:c.callee=.builtin .append)(h:aGM P m T nx c k X):(∃v u,eM P m T nx o=some (true,v,u)/\k v u)\/X:=by
 obtain⟨callee,args,tys⟩:=c;simp only at hb;subst hb;unfold aGM at h;split at h
 ·rename_i e i l l2 st ht;unfold aLN at ht;simp only at ht;split at ht
  ·rename_i x y t t' ha hty;split at ht
   ·rename_i e' he;split at ht
    ·rename_i kk l' l2' z h1 h2 h3;simp only[aA,aD]at ht;obtain⟨rfl,rfl,rfl,rfl,rfl⟩:=ht;have app:∀(hg:aI7 kk l2'=true)(eB:(decide (t=t'/\z.length=P.cellsOf e'/\0<P.cellsOf e'/\0<P.bytesOf e')&&(zS m e' (P.cellsOf e') kk&&(qW m (P.cellsOf e') (dN T y)&&jN m nx)))=true)(vZ:(l'.length+l2'.length)*P.bytesOf e'<=140737488355328),
      jZ P m T nx o=some (true,.h nx,uL kk++[(nx,.fW false e' (P.cellsOf e') (l'++l2'))]):=by
      intro hg eB vZ;simp only[aE,aUA]at eB;obtain⟨⟨q1,q2,q3,q4⟩,q5,q6,q7⟩:=eB;unfold jZ;simp only[ho];unfold j9;simp only[ho,ha,hty,tK,he,h1,h2,h3,dF];simp[q1,q2,q3,q4,q5,q6,q7,hg,vZ]
     split at h
     ·cases eB:(decide (t=t'/\z.length=P.cellsOf e'/\0<P.cellsOf e'/\0<P.bytesOf e')&&(zS m e' (P.cellsOf e') none&&(qW m (P.cellsOf e') (dN T y)&&jN m nx)))with
      |false=>rw[eB]at h;exact h.elim
      |true=>
       rw[eB]at h;have h:TO _ _ _:=h;obtain⟨vZ,hk⟩:=h;have hx:∃es,dN T x=.d (.nl es)/\l'=[]:=by
        unfold iP at h1;split at h1
        ·split at h1<;>simp at h1
        ·rename_i es wP;simp at h1;exact⟨_,wP,h1⟩
        ·cases h1
       obtain⟨es,hx,rfl⟩:=hx;by_cases hl:l2'=[]
       ·refine .inl ⟨_,_,yA (e:=(true,.d (.nl (P.cellsOf e')),[])) ho ha hty h1 ?_,hk.1 hl⟩;subst hl;have aYC:=eB;simp only[aE,aUA]at aYC;obtain⟨⟨q1,q2,q3,q4⟩,q5,q6,q7⟩:=aYC;unfold kT kG;simp only[ho,ha,hty,hx,h2,he,h3];simp[q1,q2,q3,q6]
       ·refine .inl ⟨_,_,yA (e:=(true,.h nx,[(nx,.fW false e' (P.cellsOf e') l2')])) ho ha hty h1 ?_,hk.2 hl⟩;have ha':=app (by cases l2' with|nil=>exact absurd rfl hl|cons=>rfl) eB (by simpa using vZ);unfold kT;have hp:kG P m T o=none:=by
         unfold kG;simp only[ho,ha,hty,hx,h2,he]
         try split
         ·rename_i q1 q2 q3;simp only[aA]at q2;exact absurd q2 hl
         ·rfl
        rw[hp];simp only[ha'];simp[uL]
     ·rename_i i;cases eB:(decide (t=t'/\z.length=P.cellsOf e'/\0<P.cellsOf e'/\0<P.bytesOf e')&&(zS m e' (P.cellsOf e') (some i)&&(qW m (P.cellsOf e') (dN T y)&&jN m nx)))with
      |false=>rw[eB]at h;exact h.elim
      |true=>
       rw[eB]at h;have h:TO _ _ _:=h;obtain⟨vZ,hk⟩:=h;have ha':=app rfl eB vZ;refine .inl ⟨_,_,yA (e:=(true,.h nx,[(i,.dead),(nx,.fW false e' (P.cellsOf e') (l'++l2'))])) ho ha hty h1 ?_,hk⟩;unfold kT;have hp:kG P m T o=none:=by
        unfold kG;simp only[ho,ha,hty,h2,he];split
        ·rename_i q1 q2 q3;have hx:dN T x=.h i:=JI h1;rw[hx]at q1;cases q1
        ·rfl
       rw[hp];simp only[ha'];simp[uL]
    ·cases ht
   ·cases ht
  ·cases ht
 ·exact .inr h
inductive aJL(s:ByteArray)(n:Int)(ok:Bool)(k:A->Prop):Prop
 |mk (b:UInt8) (h0:0<=n) (h:s[n.toNat]?=some b) (ho:ok=true) (hk:k (.d (.v (.int .u8 b.toNat))))
def aMJ(P:Program)(T:Nat->A)(o:Oper):Option (ByteArray×Int×Bool):=match o.op with
 |.index t x ix=>match dN T x with
  |.d c=>match c with
   |.v y=>match y with
    |.string s=>match dN T ix with
     |.d c=>match c with
      |.v z=>match z with
       |.int _ n=>some (s,n,yJ P t)
       |_=>none
      |_=>none
     |_=>none
    |_=>none
   |_=>none
  |_=>none
 |_=>none
def aFW(P:Program)(T:Nat->A)(o:Oper)(k:A->Prop)(X:Prop):Prop:=match aMJ P T o with
 |some (s,n,ok)=>aJL s n ok k
 |none=>X
theorem Q6{k:A->Prop}(h:aFW P T o k X):(∃v,eM P m T d o=some (true,v,[])/\k v)\/X:=by
 unfold aFW at h;split at h
 ·rename_i s n ok hs;obtain⟨b,h0,h1,ho,hk⟩:=h;left;refine⟨_,?_,hk⟩;unfold aMJ at hs;split at hs
  ·rename_i t x ix I5;split at hs
   ·rename_i c hx;split at hs
    ·split at hs
     ·split at hs
      ·rename_i K0;split at hs
       ·split at hs
        ·simp only[aA,aD]at hs;obtain⟨rfl,rfl,rfl⟩:=hs;unfold eM gV;simp only[I5];unfold kT kG;simp only[I5];unfold jZ;simp only[I5,zY,hx,K0,h1,ho,h0,decide_true,Bool.and_self]
        ·cases hs
       ·cases hs
      ·cases hs
     ·cases hs
    ·cases hs
   ·cases hs
  ·cases hs
 ·exact .inr h
inductive OpK(P:Program)(o:Oper)(l:List (Nat×A))(ml:List (Nat×R))(k:A->List (Nat×R)->Prop):Prop
 |mk (v:A) (u:List (Nat×R)) (h:o8 P o (lT l) (aK ml) [(.ok v,u)]) (hk:k v u)
def aLA(P:Program)(l:List (Nat×A))(ml:List (Nat×R))(nx:Nat)(o:Oper)(k:A->List (Nat×R)->Prop):Prop:=match o.op with
 |.call c=>match c.callee with
  |.builtin b=>match b with
   |.append=>aGM P (aK ml) (lT l) nx c k (oT (stOp o) (eM P (aK ml) (lT l) nx o) k)
   |_=>oT (stOp o) (eM P (aK ml) (lT l) nx o) k
  |_=>match mO (lT l) c with
   |some (f,as)=>dZ P f as ml k
   |none=>OpK P o l ml k
 |.next x b=>match b with
  |false=>match dN (lT l) x with
   |.h d=>match aK ml d with
    |some r=>match r with
     |.di _ rest=>XC d rest k
     |_=>False
    |none=>False
   |_=>False
  |true=>False
 |.entry x=>match dN (lT l) x with
  |.h d=>match aK ml d with
   |some r=>match r with
    |.di cur _=>match cur with
     |some p=>J0 (ZA p.1) λa=>J0 (.d p.2) λc=>k (.eL [a,c]) []
     |none=>False
    |_=>False
   |none=>False
  |_=>False
 |.range t x=>match dN (lT l) x with
  |.d c=>match c with
   |.im ks vs=>match CR P t with
    |some _=>aLL ks vs (jN (aK ml) nx) λkv=>k (.h nx) [(nx,.di none kv)]
    |none=>False
   |_=>oT (stOp o) (eM P (aK ml) (lT l) nx o) k
  |_=>oT (stOp o) (eM P (aK ml) (lT l) nx o) k
 |.mapUpdate t x ix a=>aBR P (aK ml) t (dN (lT l) x) (dN (lT l) ix) (dN (lT l) a) k (oT (stOp o) (eM P (aK ml) (lT l) nx o) k)
 |.insert t x ix a=>aBR P (aK ml) t (dN (lT l) x) (dN (lT l) ix) (dN (lT l) a) k (oT (stOp o) (eM P (aK ml) (lT l) nx o) k)
 |.indexAddr _ _ _=>match aDM P (lT l) o with
  |some (es,ce,l,n)=>PA es ce l n λrow=>k (.d (.ip row)) []
  |none=>H4 P (aK ml) (lT l) o k (oT (stOp o) (eM P (aK ml) (lT l) nx o) k)
 |.load _ _=>H4 P (aK ml) (lT l) o k (oT (stOp o) (eM P (aK ml) (lT l) nx o) k)
 |.slice _ _ _ _ _=>aJR P (aK ml) (lT l) nx o k (oT (stOp o) (eM P (aK ml) (lT l) nx o) k)
 |.store _ _ _=>H4 P (aK ml) (lT l) o k (oT (stOp o) (eM P (aK ml) (lT l) nx o) k)
 |.binOp _ _ _ _ _=>match aJZ P (lT l) o with
  |some L=>BN L (k (.d (.v (.bool true))) []) (k (.d (.v (.bool false))) [])
  |none=>GH P (lT l) o (λv=>k v []) (oT (stOp o) (eM P (aK ml) (lT l) nx o) k)
 |.convert _ _ _=>GH P (lT l) o (λv=>k v []) (oT (stOp o) (eM P (aK ml) (lT l) nx o) k)
 |.lookup _ _ _ _=>lkK P (aK ml) (lT l) o (λv=>k v []) (oT (stOp o) (eM P (aK ml) (lT l) nx o) k)
 |.index _ _ _=>aFW P (lT l) o (λv=>k v []) (oT (stOp o) (eM P (aK ml) (lT l) nx o) k)
 |_=>oT (stOp o) (eM P (aK ml) (lT l) nx o) k
def aKW(k:A->Prop)(v:A)(u:List (Nat×R)):Prop:=match u with
 |[]=>k v
 |_::_=>False
def aJW(P:Program)(l:List (Nat×A))(ml:List (Nat×R))(nx:Nat)(o:Oper)(k:A->Prop):Prop:=match o.op with
 |.call c=>match c.callee with
  |.builtin _=>zZ (stOp o) (eM P (aK ml) (lT l) nx o) k
  |_=>match mO (lT l) c with
   |some (f,as)=>XD P f as k
   |none=>False
 |.next _ _=>False
 |.entry _=>False
 |.range _ _=>False
 |.defer _=>False
 |.indexAddr _ _ _=>match aDM P (lT l) o with
  |some (es,ce,l,n)=>PA es ce l n λrow=>k (.d (.ip row))
  |none=>H4 P (aK ml) (lT l) o (aKW k) (zZ (stOp o) (eM P (aK ml) (lT l) nx o) k)
 |.load _ _=>H4 P (aK ml) (lT l) o (aKW k) (zZ (stOp o) (eM P (aK ml) (lT l) nx o) k)
 |.binOp _ _ _ _ _=>GH P (lT l) o k (zZ (stOp o) (eM P (aK ml) (lT l) nx o) k)
 |.convert _ _ _=>GH P (lT l) o k (zZ (stOp o) (eM P (aK ml) (lT l) nx o) k)
 |.index _ _ _=>aFW P (lT l) o k (zZ (stOp o) (eM P (aK ml) (lT l) nx o) k)
 |_=>zZ (stOp o) (eM P (aK ml) (lT l) nx o) k
inductive xQ(P:Program)(f:FuncId)(as:List A)(ml:List (Nat×R))(nx:Nat)(k:A->List (Nat×R)->Bool->Prop):Prop
 |pure (v:A) (h:∀m,aJ P f as m (.ok v) m) (hk:k v [] false)
 |fresh (F:Nat->A) (r:R) (h:∀(m:Mem)(d:Nat),m d=none->aJ P f as m (.ok (F d)) (aX m d r)) (hf:aK ml nx=none) (hk:k (F nx) [(nx,r)] false)
 |BL (v:A) (u:List (Nat×R)) (h:aJ P f as (aK ml) (.ok v) (aH (aK ml) u)) (hk:k v u true)
theorem cH{f:FuncId}{as:List A}{ml:List (Nat×R)}{nx:Nat}{k:A->List (Nat×R)->Bool->Prop}{v:A}(h:∀m,aJ P f as m (.ok v) m)(hk:k v [] false):xQ P f as ml nx k:=.pure v h hk
def aJX(P:Program)(l:List (Nat×A))(ml:List (Nat×R))(nx:Nat)(o:Oper)(k:A->List (Nat×R)->Bool->Prop):Prop:=match o.op with
 |.call c=>match c.callee with
  |.builtin b=>match b with
   |.append=>aGM P (aK ml) (lT l) nx c (λv u=>k v u false) (oT (stOp o) (eM P (aK ml) (lT l) nx o) λv u=>k v u false)
   |_=>oT (stOp o) (eM P (aK ml) (lT l) nx o) λv u=>k v u false
  |_=>match mO (lT l) c with
   |some (f,as)=>xQ P f as ml nx k
   |none=>False
 |.next _ _=>False
 |.entry _=>False
 |.range _ _=>False
 |.defer _=>False
 |.mapUpdate t x ix a=>aBR P (aK ml) t (dN (lT l) x) (dN (lT l) ix) (dN (lT l) a) (λv u=>k v u false) (oT (stOp o) (eM P (aK ml) (lT l) nx o) λv u=>k v u false)
 |.insert t x ix a=>aBR P (aK ml) t (dN (lT l) x) (dN (lT l) ix) (dN (lT l) a) (λv u=>k v u false) (oT (stOp o) (eM P (aK ml) (lT l) nx o) λv u=>k v u false)
 |.indexAddr _ _ _=>match aDM P (lT l) o with
  |some (es,ce,l,n)=>PA es ce l n λrow=>k (.d (.ip row)) [] false
  |none=>H4 P (aK ml) (lT l) o (λv u=>k v u false) (oT (stOp o) (eM P (aK ml) (lT l) nx o) λv u=>k v u false)
 |.load _ _=>H4 P (aK ml) (lT l) o (λv u=>k v u false) (oT (stOp o) (eM P (aK ml) (lT l) nx o) λv u=>k v u false)
 |.store _ _ _=>H4 P (aK ml) (lT l) o (λv u=>k v u false) (oT (stOp o) (eM P (aK ml) (lT l) nx o) λv u=>k v u false)
 |.binOp _ _ _ _ _=>GH P (lT l) o (λv=>k v [] false) (oT (stOp o) (eM P (aK ml) (lT l) nx o) λv u=>k v u false)
 |.convert _ _ _=>GH P (lT l) o (λv=>k v [] false) (oT (stOp o) (eM P (aK ml) (lT l) nx o) λv u=>k v u false)
 |.lookup _ _ _ _=>lkK P (aK ml) (lT l) o (λv=>k v [] false) (oT (stOp o) (eM P (aK ml) (lT l) nx o) λv u=>k v u false)
 |.index _ _ _=>aFW P (lT l) o (λv=>k v [] false) (oT (stOp o) (eM P (aK ml) (lT l) nx o) λv u=>k v u false)
 |_=>oT (stOp o) (eM P (aK ml) (lT l) nx o) λv u=>k v u false
def aN7(o:Oper):Bool:=match o.op with
 |.call c=>match c.callee with
  |.builtin b=>match b with
   |.append=>true
   |_=>false
  |_=>false
 |.mapUpdate .. =>true
 |.insert .. =>true
 |.store .. =>true
 |.alloc .. =>true
 |.box .. =>true
 |.buildSlice .. =>true
 |.makeSlice .. =>true
 |.makeMap .. =>true
 |_=>false
def aMU:List Oper->Bool
 |[]=>false
 |o::r=>bif aN7 o then true else aMU r
def OY:List qC->List Bool->Bool
 |[],_=>true
 |_::_,[]=>false
 |p::r,t::ts=>tot1 p t r ts&&OY r ts
where tot1 (p:qC) (t:Bool):List qC->List Bool->Bool
 |[],_=>true
 |_::_,[]=>false
 |q::r,t'::ts=>(cond (t||t') (p.anc.testBit r.length||(q.r.u.isEmpty&&p.r.u.isEmpty)) true)&&tot1 p t r ts
def aHI:List qC->List Bool->Bool
 |[],_=>true
 |_::_,[]=>false
 |p::r,t::ts=>(cond t true (p.r.u.all λq=>s9 q.1 p.F))&&aHI r ts
def aGY(acc:List qC)(ts:List Bool):Bool:=nO acc&&(OY acc ts&&aHI acc ts)
inductive aJH(b:Bool)(X:Prop):Prop
 |mk (h:b=true) (x:X)
def wK(w:Bool)(X Y:Prop):Prop:=match w with
 |true=>X
 |false=>Y
def aMX(a:A)(w:Bool)(X Y:Prop):Prop:=match a with
 |.d c=>match c with
  |.v x=>match x with
   |.bool b=>O8 b (wK w X Y) (wK w Y X)
   |_=>False
  |_=>False
 |.eL _=>Y
 |_=>False
def L6(ops:Array Oper)(l:List (Nat×A))(o:Oper)(X Y:Prop):Prop:=match o.guard with
 |none=>X
 |some (j,w)=>match(ops[j]?).bind (·.dst)with
  |some d=>aMX (lT l d) w X Y
  |none=>False
inductive nN(X:Prop):Prop
 |mk (x:X)
def O1(P:Program)(n:Nat)(ops:Array Oper):List Oper->List (Nat×A)->List (Nat×R)->Nat->(List (Nat×A)->List (Nat×R)->Nat->Prop)->Prop
 |[],l,ml,nx,K=>nN (K l ml nx)
 |o::r,l,ml,nx,K=>bK (vE n o.dst) (L6 ops l o
   (aLA P l ml nx o λv u=>aM9 o.dst v l λl'=>aF4 u ml λml'=>O1 P n ops r l' ml' (nx+8) K)
   (aM9 o.dst (.eL []) l λl'=>O1 P n ops r l' ml nx K)) False
def UX(P:Program)(ops:Array Oper):List Oper->List (Nat×A)->List (Nat×R)->Nat->(List (Nat×A)->Prop)->Prop
 |[],l,ml,nx,K=>nN (K l)
 |o::r,l,ml,nx,K=>L6 ops l o
   (aJW P l ml nx o λv=>aM9 o.dst v l λl'=>UX P ops r l' ml nx K)
   (aM9 o.dst (.eL []) l λl'=>UX P ops r l' ml nx K)
def VZ(o:Oper):Bool:=match o.op with
 |.move _=>true
 |_=>false
def GZ(ops:Array Oper)(o:Oper)(l:List (Nat×A))(nx:Nat):List Nat:=nx::bif VZ o then []else(o.looksAt ops).flatMap λt=>(lT l t).hs
def UY(P:Program)(n:Nat)(ops:Array Oper):List Oper->Nat->List qC->List Bool->List (Nat×A)->List (Nat×R)->Nat->(List (Nat×A)->List (Nat×R)->Nat->Prop)->Prop
 |[],_,acc,ts,l,ml,nx,K=>aJH (aGY acc ts) (K l ml nx)
 |o::r,k,acc,ts,l,ml,nx,K=>match kX acc k o.after.toList with
  |some an=>bK (vE n o.dst) (L6 ops l o
   (aJX P l ml nx o λv u t=>aM9 o.dst v l λl'=>aF4 u ml λml'=>UY P n ops r (k+1) (⟨⟨o.dst,v,u⟩,o.looksAt ops,cond t [] (GZ ops o l nx),an⟩::acc) (t::ts) l' ml' (nx+8) K)
   (aM9 o.dst (.eL []) l λl'=>UY P n ops r (k+1) (⟨⟨o.dst,.eL [],[]⟩,o.looksAt ops,[],an⟩::acc) (false::ts) l' ml nx K)) False
  |none=>False
def LP(n:Nat)(ops:Array Oper):List Oper->Nat->List qC->Option (List qC)
 |[],_,acc=>some acc
 |o::r,k,acc=>match vE n o.dst,kX acc k o.after.toList with
  |true,some an=>LP n ops r (k+1) (⟨⟨o.dst,.x,[]⟩,o.looksAt ops,[],an⟩::acc)
  |_,_=>none
def aEU(n:Nat)(ops:Array Oper):Bool:=match LP n ops ops.toList 0 []with
 |some acc=>nO acc
 |none=>false
abbrev KT:=Ex->List (Nat×A)->List (Nat×R)->Nat->Prop
def sC:Code->Bool
 |.seq a b=>sC a&&sC b
 |.cond _ a b=>sC a&&sC b
 |.block _ a=>sC a
 |.loop a=>sC a
 |.scope a=>sC a
 |.rangeFunc .. =>false
 |_=>true
structure Bs where
 M:Nat->Prop
 S:Nat->Prop
 w:World
 ds:List Nat
def DI(D:Nat):Deferred:={target:=.collected D,args:= #[]}
def Bs.das(b:Bs):List DA:=b.ds.map λD=>.SK (DI D)
structure Bs.Ext(b b':Bs):Prop where
 grown:∃Ds:List Nat,b'.ds=Ds++b.ds/\(∀x,b'.M x↔(b.M x\/x∈Ds))/\Ds.Nodup/\∀D∈Ds,(b.w.heap.size<=D\/b.S D)/\¬b.M D/\D<b'.w.heap.size/\¬b'.S D/\b'.w.heap[D]?=some (.deferred (some []))
 keeps:iF b.S b.w b'.w
 own:∀x,b'.S x->b.w.heap.size<=x\/b.S x
theorem Bs.Ext.refl(b:Bs):b.Ext b:=⟨⟨[],rfl,sM,List.nodup_nil,sM⟩,iF.refl _ _,λ_ h=>.inr h⟩
theorem Bs.Ext.trans{a b c:Bs}(h:a.Ext b)(k:b.Ext c):a.Ext c:=by
 obtain⟨Ds,h1,h2,h3,h4⟩:=h.grown;obtain⟨Es,k1,k2,k3,k4⟩:=k.grown;refine⟨⟨Es++Ds,by rw[k1,h1,bG],λx=>?_,?_,?_⟩,h.keeps.trans k.keeps λx hx hs=>?_,λx hx=>?_⟩
 ·rw[k2,h2,bN,or_assoc,or_comm (a:=x∈Es)]
 ·refine iS.2 ⟨k3,h3,λx hx y hy e=>?_⟩;subst e;exact(k4 x hx).2.1 ((h2 x).2 (.inr hy))
 ·intro D hD;rcases bN.1 hD with hD|hD
  ·obtain⟨g1,g2,g3,g4,g5⟩:=k4 D hD;refine⟨?_,λe=>g2 ((h2 D).2 (.inl e)),g3,g4,g5⟩;rcases g1 with g1|g1
   ·exact .inl (cL h.keeps.size g1)
   ·exact h.own D g1
  ·obtain⟨g1,g2,g3,g4,g5⟩:=h4 D hD;have hn:¬c.S D:=λe=>by
    rcases k.own D e with q|q
    ·omega
    ·exact g4 q
   exact⟨g1,g2,cG g3 k.keeps.size,hn,(k.keeps.block D g3 g4).trans g5⟩
 ·rcases h.own x hs with q|q
  ·omega
  ·exact q
 ·rcases k.own x hx with q|q
  ·exact .inl (cL h.keeps.size q)
  ·exact h.own x q
def I1(b:Bs)(n:Nat)(T:Nat->A)(m:Mem)(ρ:Nat->Value)(a:Act)(w:World):Prop:=bC b.M b.S b.w ⟨n,some b.das⟩ T m ρ a w
theorem IL{w w':World}{M M':Nat->Prop}{m m':Mem}{ρ ρ':Nat->Value}:∀{ds:List Nat}{l:List Deferred},iM w M m ρ (ds.map λD=>.SK (DI D)) l->iM w' M' m' ρ' (ds.map λD=>.SK (DI D)) l
 |[],l,h=>h
 |D::r,l,⟨rest,e,h⟩=>⟨rest,e,IL h⟩
theorem aEF{ds:List Nat}:∀d∈(ds.map λD=>DA.SK (DI D)),∀i∈d.hs,False:=by
 intro d hd i hi;obtain⟨D,_,rfl⟩:=aA4.1 hd;simp[DA.hs]at hi
def kD(P:Program)(mb:List (Nat×R))(n:Nat)(c:Code)(T:Nat->A)(m:Mem)(Post:Ex->(Nat->A)->Mem->Prop):Prop:=
 ∀(ro:Option Nat),(ro=none\/sC c=true)->∀(b:Bs)(ρb ρ:Nat->Value)(a:Act)(w:World),I1 b n T m ρ a w->gL (aK mb) m ρb ρ->(∀x,b.M x->x<b.w.heap.size)->
  ∀Q:Exit->Act->World->Prop,(∀ex e T' m' b' ρ' a' w',Post ex T' m'->b.Ext b'->(sC c=true->b'=b)->(∀x,b'.M x->x<b'.w.heap.size)->I1 b' n T' m' ρ' a' w'->gL (aK mb) m' ρb ρ'->ex.Den w' (dD b'.M m' ρ') m' ρ' e->Q e a' w')->c.wpIn (FW ro) 0 P Q a w
def PK(K:KT):Ex->(Nat->A)->Mem->Prop:=λex T m=>∃l ml nx,T=lT l/\m=aK ml/\K ex l ml nx
inductive XB(P:Program)(mb:List (Nat×R))(n:Nat)(c:Code)(l:List (Nat×A))(ml:List (Nat×R))(K:KT):Prop
 |mk (h:kD P mb n (.loop c) (lT l) (aK ml) (PK K))
def aGA(ex:Ex)(X Y:Prop):Prop:=match ex with
 |.nm=>X
 |.ext _=>Y
 |.ret=>Y
 |.sE _=>Y
def MP(id:Nat)(ex:Ex)(k:Ex->Prop):Prop:=match ex with
 |.nm=>k .nm
 |.ext i=>bK (Nat.beq i id) (k .nm) (k (.ext i))
 |.ret=>k .ret
 |.sE a=>k (.sE a)
def aCG(a:A)(X Y:Prop):Prop:=match a with
 |.d c=>match c with
  |.v x=>match x with
   |.bool b=>O8 b X Y
   |_=>False
  |_=>False
 |_=>False
def cN(mb:List (Nat×R))(n:Nat)(l:List (Nat×A))(ml:List (Nat×R))(l':List (Nat×A))(ml':List (Nat×R)):Prop:=
 ∀(b:Bs)(ρb ρ:Nat->Value)(a:Act)(w:World),I1 b n (lT l) (aK ml) ρ a w->gL (aK mb) (aK ml) ρb ρ->∃ρ',I1 b n (lT l') (aK ml') ρ' a w/\gL (aK mb) (aK ml') ρb ρ'
inductive aM0(X Y:Prop):Prop
 |p (x:X)
 |c (y:Y)
inductive RfK(P:Program)(mb:List (Nat×R))(n:Nat)(g:Operand)(ps:Array Tmp)(asg bod:Code)(l:List (Nat×A))(ml:List (Nat×R))(K:KT):Prop
 |mk (h:kD P mb n (.rangeFunc g ps asg bod) (lT l) (aK ml) (PK K))
inductive aLH(X Y:Prop):Prop
 |r (x:X)
 |u (y:Y)
def vc(P:Program)(mb:List (Nat×R))(n:Nat):Code->List (Nat×A)->List (Nat×R)->Nat->KT->Prop
 |.skip,l,ml,nx,K=>K .nm l ml nx
 |.label _,l,ml,nx,K=>K .nm l ml nx
 |.exit i,l,ml,nx,K=>K (.ext i) l ml nx
 |.ret,l,ml,nx,K=>K .ret l ml nx
 |.seq a b,l,ml,nx,K=>aM0 (vc P mb n a l ml nx λex l ml nx=>aGA ex (vc P mb n b l ml nx K) (K ex l ml nx)) (∃(α:Type)(Exi:α->Prop)(I':α->List (Nat×A))(J':α->List (Nat×R))(nx2:Nat),vc P mb n a l ml nx (λex l ml nx=>aGA ex (∃y,Exi y/\cN mb n l ml (I' y) (J' y)) (K ex l ml nx))/\∀y,Exi y->vc P mb n b (I' y) (J' y) nx2 K)
 |.cond c a b,l,ml,nx,K=>aCG (dN (lT l) c) (vc P mb n a l ml nx K) (vc P mb n b l ml nx K)
 |.block id a,l,ml,nx,K=>vc P mb n a l ml nx λex l ml nx=>MP id ex λex=>K ex l ml nx
 |.loop a,l,ml,nx,K=>XB P mb n a l ml K
 |.scope a,l,ml,nx,K=>vc P mb n a l ml nx K
 |.region _ ops draw,l,ml,nx,K=>match draw with
  |false=>O1 P n ops ops.toList l ml nx λl ml nx=>K .nm l ml nx
  |true=>aLH (bK (aEU n ops) (UX P ops ops.toList l ml nx λl=>K .nm l ml nx) False) (UY P n ops ops.toList 0 [] [] l ml nx λl ml nx=>K .nm l ml nx)
 |.rangeFunc g ps asg bod,l,ml,nx,K=>RfK P mb n g ps asg bod l ml K
 |_,_,_,_,_=>False
section
variable{P:Program}
theorem XX{st:Bool}{e:Option E}(h:oT st e k):∃v u,e=some (true,v,u)/\k v u:=by
 unfold oT at h;split at h
 ·rename_i pre v u;obtain⟨h1,h2⟩:=Y3 h;subst h1;exact⟨v,u,rfl,s6 (k:=λv=>k v u) h2⟩
 ·exact h.elim
theorem aCO{st:Bool}{e:Option E}{k:A->Prop}(h:zZ st e k):∃v,e=some (true,v,[])/\k v:=by
 unfold zZ at h;split at h
 ·rename_i pre v u;split at h
  ·obtain⟨h1,h2⟩:=Y3 h;subst h1;exact⟨v,rfl,s6 h2⟩
  ·exact h.elim
 ·exact h.elim
theorem aIU{l:List (Nat×A)}{ml:List (Nat×R)}{nx:Nat}(h:aLA P l ml nx o k):∃outs,o8 P o (lT l) (aK ml) outs/\∀q∈outs,∃v,q.1=.ok v/\k v q.2:=by
 have one:∀{v:A}{u:List (Nat×R)},o8 P o (lT l) (aK ml) [(.ok v,u)]->k v u->∃outs,o8 P o (lT l) (aK ml) outs/\∀q∈outs,∃v,q.1=.ok v/\k v q.2:=λh hk=>
  ⟨_,h,λq hq=>by simp only[aR]at hq;subst hq;exact⟨_,rfl,hk⟩⟩
 have key:oT (stOp o) (eM P (aK ml) (lT l) nx o) k->∃outs,o8 P o (lT l) (aK ml) outs/\∀q∈outs,∃v,q.1=.ok v/\k v q.2:=by
  intro h;obtain⟨v,u,e,hk⟩:=XX h;exact one (o8.one (qT.sD e rfl)) hk
 unfold aLA at h;split at h
 ·rename_i c ho;split at h
  ·rename_i b hb;split at h
   ·rcases XI ho hb h with⟨v,u,h1,h2⟩|h
    ·exact one (o8.one (qT.sD h1 rfl)) h2
    ·exact key h
   ·exact key h
  ·split at h
   ·rename_i f as hc;obtain⟨v,u,aVN,hk⟩:=h;exact one (o8.call ho hc aVN) hk
   ·obtain⟨v,u,I5,hk⟩:=h;exact one I5 hk
 ·rename_i x b ho;split at h
  ·split at h
   ·rename_i d hx;split at h
    ·rename_i r hm;split at h
     ·exact⟨_,o8.aL8 ho hx hm,h.outs⟩
     ·exact h.elim
    ·exact h.elim
   ·exact h.elim
  ·exact h.elim
 ·rename_i x ho;split at h
  ·rename_i d hx;split at h
   ·rename_i r hm;split at h
    ·split at h
     ·rename_i p;exact one (o8.one (u:=[]) (qT.aJY ho hx hm)) (s6 (k:=λc=>k (.eL [ZA p.1,c]) []) (s6 (k:=λa=>J0 (.d p.2) λc=>k (.eL [a,c]) []) h))
     ·exact h.elim
    ·exact h.elim
   ·exact h.elim
  ·exact h.elim
 ·rename_i t x ho;split at h
  ·rename_i c hx;split at h
   ·split at h
    ·rename_i kt hm;obtain⟨kv,h1,h2,hf,hk⟩:=h;exact one (o8.one (qT.aKX ho hx hm h1 h2 (hG hf))) hk
    ·exact h.elim
   ·exact key h
  ·exact key h
 ·rename_i t x ix a ho;rcases IP (d:=nx) (.inl ho) h with⟨v,u,e,hk⟩|h
  ·exact one (o8.one (qT.sD e rfl)) hk
  ·exact key h
 ·rename_i t x ix a ho;rcases IP (d:=nx) (.inr ho) h with⟨v,u,e,hk⟩|h
  ·exact one (o8.one (qT.sD e rfl)) hk
  ·exact key h
 ·split at h
  ·rename_i hi;obtain⟨row,e,hk⟩:=J5 (m:=aK ml) (d:=nx) hi h;exact one (o8.one (qT.sD e rfl)) hk
  ·rcases ED (d:=nx) h with⟨v,u,e,hk⟩|h
   ·exact one (o8.one (qT.sD e rfl)) hk
   ·exact key h
 ·rcases ED (d:=nx) h with⟨v,u,e,hk⟩|h
  ·exact one (o8.one (qT.sD e rfl)) hk
  ·exact key h
 ·rcases aGT (d:=nx) h with⟨v,u,e,hk⟩|h
  ·exact one (o8.one (qT.sD e rfl)) hk
  ·exact key h
 ·rcases ED (d:=nx) h with⟨v,u,e,hk⟩|h
  ·exact one (o8.one (qT.sD e rfl)) hk
  ·exact key h
 ·split at h
  ·rename_i L he;exact⟨_,o8.aLW he,h.outs⟩
  ·rcases FG (m:=aK ml) (d:=nx) h with⟨v,e,hk⟩|h
   ·exact one (u:=[]) (o8.one (qT.sD e rfl)) hk
   ·exact key h
 ·rcases FG (m:=aK ml) (d:=nx) h with⟨v,e,hk⟩|h
  ·exact one (u:=[]) (o8.one (qT.sD e rfl)) hk
  ·exact key h
 ·rcases aD1 (d:=nx) h with⟨v,e,hk⟩|h
  ·exact one (u:=[]) (o8.one (qT.sD e rfl)) hk
  ·exact key h
 ·rcases Q6 (m:=aK ml) (d:=nx) h with⟨v,e,hk⟩|h
  ·exact one (u:=[]) (o8.one (qT.sD e rfl)) hk
  ·exact key h
 ·exact key h
theorem L7{ops:Array Oper}{l:List (Nat×A)}{Y:Prop}(h:L6 ops l o X Y):(kO ops (lT l) o=some true/\X)\/(kO ops (lT l) o=some false/\Y):=by
 unfold L6 at h;unfold kO;cases hg:o.guard with
 |none=>rw[hg]at h;exact .inl ⟨rfl,h⟩
 |some q=>
  obtain⟨j,w⟩:=q;rw[hg]at h;cases hd:(ops[j]?).bind (·.dst)with
  |none=>simp only[hd]at h
  |some d=>
   simp only[hd]at h⊢;generalize lT l d=a at h⊢;cases a with
   |d c=>cases c with
    |v x=>cases x with
     |bool b=>
      have h:bK b (wK w X Y) (wK w Y X):=O8.bK h;cases b<;>cases w
      ·exact .inl ⟨rfl,h⟩
      ·exact .inr ⟨rfl,h⟩
      ·exact .inr ⟨rfl,h⟩
      ·exact .inl ⟨rfl,h⟩
     |_=>exact h.elim
    |_=>exact h.elim
   |eL _=>exact .inr ⟨rfl,h⟩
   |_=>exact h.elim
theorem L5{n:Nat}{ops:Array Oper}{K:List (Nat×A)->List (Nat×R)->Nat->Prop}{Post:qU}{rd:Bool}{ds:List DA}(hK:∀l ml nx,K l ml nx->Post .nm (lT l) (aK ml) ds):∀(lo:List Oper)(k:Nat)(l:List (Nat×A))(ml:List (Nat×R))(nx:Nat),ops.toList.drop k=lo->O1 P n ops lo l ml nx K->wO P rd n ops Post (List.range' k lo.length) (lT l) (aK ml) ds
 |[],k,l,ml,nx,hk,⟨h⟩=>hK l ml nx h
 |o::r,k,l,ml,nx,hk,h=>by
  have QS:ops[k]?=some o:=by
   have:ops.toList[k]?=some o:=by
    have:=congrArg List.head? hk;simpa [pA]using this
   simpa using this
  have hkr:ops.toList.drop (k+1)=r:=by
   have:(ops.toList.drop k).drop 1=r:=by rw[hk];rfl
   simpa [lY]using this
  simp only[O1]at h;cases hd:vE n o.dst with
  |false=>rw[hd]at h;exact h.elim
  |true=>
   rw[hd]at h;have h:L6 _ _ _ _ _:=h;simp only[aQ,List.range'_succ,wO,QS];refine⟨nS hd,?_⟩;rcases L7 h with⟨hw,h⟩|⟨hw,h⟩
   ·simp only[hw];obtain⟨outs,I5,hk⟩:=aIU h;refine .inl ⟨outs,I5,λq hq=>?_⟩;obtain⟨v,hqv,h⟩:=hk q hq;obtain⟨l',qK,h⟩:=BE h;obtain⟨ml',aZR,h⟩:=RA h;refine⟨λv' e=>?_,λv' e=>by rw[hqv]at e;cases e⟩;rw[hqv]at e;simp only[Rt.ok.injEq]at e;subst e;rw[<-qK,<-aZR];exact L5 hK r (k+1) l' ml' _ hkr h
   ·simp only[hw];obtain⟨l',qK,h⟩:=BE h;rw[<-qK];exact L5 hK r (k+1) l' ml _ hkr h
def Alike(D E:qC):Prop:=D.r.dst=E.r.dst/\D.looks=E.looks/\D.anc=E.anc/\D.r.u=[]/\E.r.u=[]
inductive qZ:List qC->List qC->Prop
 |nil:qZ [] []
 |cons {D E l m}:Alike D E->qZ l m->qZ (D::l) (E::m)
theorem qZ.length{l m:List qC}(h:qZ l m):l.length=m.length:=by induction h<;>simp_all
theorem qZ.get{l m:List qC}(h:qZ l m)(i:Nat):(l[i]?=none/\m[i]?=none)\/∃D E,l[i]?=some D/\m[i]?=some E/\Alike D E:=by
 induction h generalizing i with
 |nil=>simp
 |cons h1 h2 ih=>
  cases i with
  |zero=>exact .inr ⟨_,_,rfl,rfl,h1⟩
  |succ i=>simpa using ih i
theorem zR{D E D' E':qC}(h:Alike D E)(h':Alike D' E'):qH D D'=qH E E':=by
 unfold qH;rw[h.1,h'.1,h'.2.1]
theorem C7{D E:qC}(h:Alike D E):∀{l m:List qC},qZ l m->B9 D l=B9 E m
 |_,_,.nil=>rfl
 |_,_,.cons h1 h2=>by
  unfold B9;rw[C7 h h2,zR h h1,zR h1 h,h.2.2.1,h.2.2.2.1,h.2.2.2.2,h1.2.2.2.1,h1.2.2.2.2,h2.length];rfl
theorem zJ:∀{l m:List qC},qZ l m->nO l=nO m
 |_,_,.nil=>rfl
 |_,_,.cons h1 h2=>by
  unfold nO;rw[C7 h1 h2,zJ h2]
theorem zT{l m:List qC}(h:qZ l m)(k:Nat):∀(es:List Edge),kX l k es=kX m k es
 |[]=>rfl
 |e::es=>by
  unfold kX;rw[zT h k es];rcases h.get (k -1 -e.on)with⟨e1,e2⟩|⟨D,E,e1,e2,e3⟩
  ·simp only[e1,e2]
  ·simp only[e1,e2,e3.2.2.1]
end
end Go.Pv
