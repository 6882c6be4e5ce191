import Derived.Test.YtpdcbahjjmooiaaGreatA9
import Derived.Laws.BytesString
import Derived.Stop.Asserts
/- A program logic over the model, contracts of the functions that the law reaches: part 10. (Names and blanks were shortened by program.) -/
set_option linter.unusedVariables false
set_option linter.unusedSimpArgs false
set_option linter.constructorNameAsVariable false
set_option linter.unusedSectionVars false
set_option linter.deprecated false
set_option maxRecDepth 100000
set_option maxHeartbeats 8000000
open Go
namespace Go.Pv
open Go.RowKit
variable{i d:Nat}{x ix:A}{t:TypeId}
section
variable{P:Program}{m m':Mem}
theorem pC(h:m i=m' i):qF m i=qF m' i:=by unfold qF;rw[h]
theorem aAM(h:m i=m' i):HI m i=HI m' i:=by unfold HI;rw[h]
theorem oA(h:m i=m' i):jN m i=jN m' i:=by unfold jN;rw[h]
def zH(m m':Mem)(x:A):Prop:=∀i∈x.hs,m i=m' i
theorem zH.lp{i o:Nat}(h:zH m m' (.lp i o)):m i=m' i:=h i (by simp[A.hs])
theorem zH.h{i:Nat}(h:zH m m' (.h i)):m i=m' i:=h i (by simp[A.hs])
theorem zH.ep{i e k o:Nat}(h:zH m m' (.ep i e k o)):m i=m' i:=h i (by simp[A.hs])
theorem zH.sv{i l n:Nat}(h:zH m m' (.sv i l n)):m i=m' i:=h i (by simp[A.hs])
theorem FL(h:zH m m' x):x.cells m=x.cells m':=by
 cases x with
 |lp i o=>simp only[A.cells,pC h.lp]
 |h i=>simp only[A.cells,aAM h.h]
 |ep i e k o=>simp only[A.cells,pC h.ep]
 |sv i l n=>simp only[A.cells,pC h.sv]
 |d c=>cases c<;>first|rfl|(rename_i v;cases v<;>rfl)
 |_=>simp only[A.cells]
theorem pZ(h:zH m m' x):dO m x=dO m' x:=by
 cases x with
 |h i=>simp only[dO,h.h]
 |sv i l n=>simp only[dO,h.sv]
 |d c=>cases c<;>simp only[dO]
 |_=>simp only[dO]
theorem R6(h:zH m m' x):iP m x=iP m' x:=by
 cases x with
 |h i=>simp only[iP,h.h]
 |d c=>cases c<;>simp only[iP]
 |_=>simp only[iP]
theorem GV{es:Nat}(h:zH m m' x):qW m es x=qW m' es x:=by
 cases x with
 |h i=>simp only[qW,h.h]
 |sv i l n=>simp only[qW,h.sv]
 |d c=>cases c<;>simp only[qW]
 |_=>simp only[qW]
theorem JI{k:Nat}{l:List (List A)}(h:iP m x=some (some k,l)):x=.h k:=by
 cases x with
 |h i=>
  simp only[iP]at h;split at h
  ·simp at h;rw[h.1]
  ·cases h
 |d c=>cases c<;>simp[iP]at h
 |_=>simp[iP]at h
theorem R9(h:zH m m' x):jM P m t x=jM P m' t x:=by
 cases x with
 |lp i o=>simp only[jM,h.lp]
 |ep i e k o=>simp only[jM,h.ep]
 |d c=>cases c<;>simp only[jM]
 |_=>simp only[jM]
theorem FZ(h:zH m m' x):isNil m x=isNil m' x:=by
 cases x with
 |lp i o=>simp only[isNil,pC h.lp]
 |h i=>simp only[isNil,h.h]
 |ep i e k o=>simp only[isNil,pC h.ep]
 |sv i l n=>simp only[isNil,h.sv]
 |d c=>cases c<;>first|rfl|(rename_i v;cases v<;>first|rfl|(rename_i p;cases p<;>rfl))|(rename_i e l;cases l<;>rfl)
 |_=>simp only[isNil]
theorem ZY{y:A}(hx:zH m m' x)(hy:zH m m' y):JL P m t x y=JL P m' t x y:=by
 have e1:=FZ hx;have e2:=FZ hy;unfold JL;split
 ·rfl
 ·rfl
 ·rw[e1,e2]
theorem VK{op:BinOp}{y:A}(hx:zH m m' x)(hy:zH m m' y):xZ P m op t x y=xZ P m' op t x y:=by
 have e:=ZY (P:=P) (t:=t) hx hy;unfold xZ;split
 ·rfl
 ·rw[e]
theorem uT{o:Nat}(h:zH m m' x):qO m o x=qO m' o x:=by
 cases x with
 |lp i o=>simp only[qO,pC h.lp]
 |ep i e k o=>simp only[qO,pC h.ep]
 |d c=>cases c<;>simp only[qO]
 |_=>simp only[qO]
theorem FP{f:Nat}(h:zH m m' x):mG P m t x f=mG P m' t x f:=by
 unfold mG;simp only[uT h]
theorem FQ(h:zH m m' x):j7 P m t x ix=j7 P m' t x ix:=by
 unfold j7;cases x with
 |h i=>simp only[uT h,h.h]
 |sv i l n=>simp only[uT h,h.sv]
 |d c=>simp only[uT h];cases c<;>rfl
 |_=>simp only[uT h]
theorem VM(h:zH m m' x):CE P m t x=CE P m' t x:=by
 have e:=pZ h;cases x with
 |h i=>unfold CE;simp only[h.h]
 |sv i l n=>unfold CE;simp only[e]
 |d c=>
  cases c with
  |v z=>
   cases z with
   |map r=>cases r<;>rfl
   |_=>rfl
  |_=>rfl
 |_=>rfl
theorem H3(h:zH m m' x):nT m x=nT m' x:=by
 unfold nT;simp only[FZ h]
theorem EW{e:TypeId}{hi mx:Bool}{l h c:Int}{n:Nat}(hh:m i=m' i):uV P m e i hi mx l h c n=uV P m' e i hi mx l h c n:=by
 unfold uV;rw[hh]
theorem DN{lo hi mx:Option A}(h:zH m m' x):jW P m t x lo hi mx=jW P m' t x lo hi mx:=by
 have e:=pZ h;cases x with
 |h i=>unfold jW;simp only[e,EW h.h]
 |sv i l n=>unfold jW;simp only[e,EW h.sv]
 |d c=>
  cases c with
  |v z=>cases z<;>rfl
  |_=>rfl
 |_=>rfl
theorem MK{ok:Bool}(h:zH m m' x):lO P m t x ix ok=lO P m' t x ix ok:=by
 unfold lO;cases x with
 |h i=>simp only[h.h]
 |d c=>cases c with
  |v z=>cases z with
   |map r=>cases r<;>rfl
   |_=>rfl
  |_=>rfl
 |_=>rfl
theorem BW{a:A}(h:zH m m' x):mW P m t x ix a=mW P m' t x ix a:=by
 unfold mW;cases CR P t with
 |none=>rfl
 |some p=>cases keyOf ix with
  |none=>rfl
  |some k=>cases x with
   |h i=>simp only[h.h]
   |_=>rfl
theorem MJ(h:zH m m' x):tL P m t x ix=tL P m' t x ix:=by
 unfold tL;cases CR P t with
 |none=>rfl
 |some p=>cases keyOf ix with
  |none=>rfl
  |some k=>cases x with
   |h i=>simp only[h.h]
   |d c=>cases c with
    |v z=>cases z with
     |map r=>cases r<;>rfl
     |_=>rfl
    |_=>rfl
   |_=>rfl
theorem H2(h:zH m m' x)(hd:m d=m' d):pQ P m d t x ix=pQ P m' d t x ix:=by
 unfold pQ;cases CR P t with
 |none=>rfl
 |some p=>cases keyOf ix with
  |none=>rfl
  |some k=>cases x with
   |h i=>simp only[h.h,oA hd]
   |_=>rfl
theorem DM{s a:A}(h:zH m m' x)(hs:zH m m' s):mV m x s a=mV m' x s a:=by
 unfold mV;cases x with
 |h i=>cases s with
  |h j=>simp only[h.h,hs.h]
  |_=>rfl
 |_=>rfl
end
structure MB(o:Oper)(T T':Nat->A)(m m':Mem):Prop where
 ev:∀x∈o.op.operands.toList,dN T x=dN T' x
 ag:∀x∈o.op.operands.toList,zH m m' (dN T x)
section
variable{P:Program}{m m':Mem}{T T':Nat->A}{d:Nat}{o:Oper}
theorem yQ:∀{ps:List (Nat×Operand)},(∀p∈ps,dN T p.2=dN T' p.2/\zH m m' (dN T p.2))->oX m (ps.map λp=>(p.1,dN T p.2))=oX m' (ps.map λp=>(p.1,dN T' p.2))
 |[],_=>rfl
 |p::r,h=>by
  have h1:=h p (by simp);simp only[aG,oX];rw[<-h1.1,FL h1.2,yQ (λq hq=>h q (by simp[hq]))]
theorem ZX{e:TypeId}{es:Nat}{k:Option Nat}(h:∀i,k=some i->m i=m' i):zS m e es k=zS m' e es k:=by
 cases k with
 |none=>rfl
 |some i=>simp only[zS,h i rfl]
theorem MI{x y:Operand}(hx:dN T x=dN T' x)(hy:dN T y=dN T' y)(ax:zH m m' (dN T x))(ay:zH m m' (dN T y))(hd:m d=m' d):tK P m T d t x y=tK P m' T' d t x y:=by
 unfold tK;rw[<-hx,<-hy];cases j8 P t with
 |none=>rfl
 |some e=>
  simp only;rw[<-R6 ax,<-pZ ay,<-GV ay,<-oA hd];cases h1:iP m (dN T x)with
  |none=>rfl
  |some p=>
   obtain⟨k,l⟩:=p
   have:zS m e (P.cellsOf e) k=zS m' e (P.cellsOf e) k:=ZX (λi hi=>by
    subst hi;have:=JI h1;rw[this]at ax
    exact ax.h)
   cases dO m (dN T y)with
   |none=>rfl
   |some l2=>cases o5 P e with
    |none=>rfl
    |some z=>simp only[this]
theorem Z0(h:MB o T T' m m')(hd:m d=m' d):j9 P m T d o=j9 P m' T' d o:=by
 obtain⟨hT,hm⟩:=h;unfold j9;cases ho:o.op with
 |move x=>simp only[hT x (by simp[ho,Op.operands])]
 |assign x=>simp only[hT x (by simp[ho,Op.operands])]
 |pick c a b=>simp only[hT c (by simp[ho,Op.operands]),hT a (by simp[ho,Op.operands]),hT b (by simp[ho,Op.operands])]
 |alloc t=>simp only[oA hd]
 |box t x=>simp only[oA hd,hT x (by simp[ho,Op.operands]),FL (hT x (by simp[ho,Op.operands])▸hm x (by simp[ho,Op.operands]))]
 |build t ps=>
  simp only[JJ]
  rw[yQ (m:=m) (m':=m') (T:=T) (T':=T') (λp hp=>by
   have:p.2∈o.op.operands.toList:=by rw[ho];simp[Op.operands];exact⟨p.1,by simpa using hp⟩
   exact⟨hT _ this,hm _ this⟩)]
 |buildSlice t n ps=>
  simp only[vY,oA hd]
  rw[yQ (m:=m) (m':=m') (T:=T) (T':=T') (λp hp=>by
   have:p.2∈o.op.operands.toList:=by rw[ho];simp[Op.operands];exact⟨p.1,by simpa using hp⟩
   exact⟨hT _ this,hm _ this⟩)]
 |load t x=>simp only[hT x (by simp[ho,Op.operands]),R9 (hT x (by simp[ho,Op.operands])▸hm x (by simp[ho,Op.operands]))]
 |store t x y=>
  have hx:=hT x (by simp[ho,Op.operands]);have hy:=hT y (by simp[ho,Op.operands]);have ax:=hm x (by simp[ho,Op.operands]);have ay:=hm y (by simp[ho,Op.operands]);simp only[z5];rw[<-hx,<-hy,<-FL ay];cases hx2:dN T x with
  |lp i off=>
   rw[hx2]at ax;cases A.cells m (dN T y)with
   |none=>rfl
   |some vs=>simp only[ax.lp]
  |ep i es k off=>
   rw[hx2]at ax;cases A.cells m (dN T y)with
   |none=>rfl
   |some vs=>simp only[ax.ep]
  |_=>rfl
 |nilCheck x=>simp only[hT x (by simp[ho,Op.operands]),H3 (hT x (by simp[ho,Op.operands])▸hm x (by simp[ho,Op.operands]))]
 |binOp op t x y yt=>
  have hx:=hT x (by simp[ho,Op.operands]);have hy:=hT y (by simp[ho,Op.operands]);simp only[<-hx,<-hy,VK (hm x (by simp[ho,Op.operands])) (hm y (by simp[ho,Op.operands]))]
 |unOp op t x=>simp only[hT x (by simp[ho,Op.operands])]
 |convert s t x=>simp only[hT x (by simp[ho,Op.operands])]
 |makeFunc f a b=>
  have e1:a.toList.map (dN T)=a.toList.map (dN T'):=cQ λx hx=>hT x (by rw[ho];simp[Op.operands];exact .inl (by simpa using hx));have e2:b.toList.map (dN T)=b.toList.map (dN T'):=cQ λx hx=>hT x (by rw[ho];simp[Op.operands];exact .inr (by simpa using hx));simp only[e1,e2]
 |makeMap t r=>cases r<;>simp only[oA hd]
 |makeSlice t l c=>simp only[yC,oA hd,hT l (by simp[ho,Op.operands]),hT c (by simp[ho,Op.operands])]
 |slice t x lo hi mx=>
  have hx:=hT x (by simp[ho,Op.operands]);have e1:∀(q:Option Operand),(∀y,q=some y->y∈o.op.operands.toList)->q.map (dN T)=q.map (dN T'):=by
   intro q hq;cases q with
   |none=>rfl
   |some y=>simp only[dF,hT y (hq y rfl)]
  simp only[<-hx,DN (hm x (by simp[ho,Op.operands])),e1 lo (by rintro y rfl;simp[ho,Op.operands]),e1 hi (by rintro y rfl;simp[ho,Op.operands]),e1 mx (by rintro y rfl;simp[ho,Op.operands])]
 |fieldAddr t x f=>simp only[hT x (by simp[ho,Op.operands]),FP (hT x (by simp[ho,Op.operands])▸hm x (by simp[ho,Op.operands]))]
 |field t x f=>simp only[uF,hT x (by simp[ho,Op.operands])]
 |indexAddr t x i=>simp only[hT x (by simp[ho,Op.operands]),hT i (by simp[ho,Op.operands]),FQ (hT x (by simp[ho,Op.operands])▸hm x (by simp[ho,Op.operands]))]
 |extract x i=>simp only[hT x (by simp[ho,Op.operands])]
 |call c=>
  obtain⟨callee,args,tys⟩:=c;simp only;cases callee with
  |value f=>rfl
  |invoke r n=>rfl
  |builtin b=>
   have mem:∀x∈args.toList,x∈o.op.operands.toList:=by
    intro x hx;rw[ho];simp[Op.operands,Call.operands];simpa using hx
   cases b with
   |len=>
    cases h1:args.toList with
    |nil=>rfl
    |cons x r=>
     cases r with
     |cons y r=>cases tys.toList<;>rfl
     |nil=>
      cases h2:tys.toList with
      |nil=>rfl
      |cons t r=>
       cases r with
       |cons _ _=>rfl
       |nil=>
        have hx:=mem x (by rw[h1];simp);simp only[<-hT x hx,VM (hm x hx)]
   |append=>
    cases h1:args.toList with
    |nil=>rfl
    |cons x r=>
     cases r with
     |nil=>cases tys.toList<;>rfl
     |cons y r=>
      cases r with
      |cons _ _=>cases tys.toList<;>rfl
      |nil=>
       cases h2:tys.toList with
       |nil=>rfl
       |cons t r=>
        cases r with
        |nil=>rfl
        |cons t' r=>
         cases r with
         |cons _ _=>rfl
         |nil=>
          have hx:=mem x (by rw[h1];simp);have hy:=mem y (by rw[h1];simp);have:=MI (P:=P) (d:=d) (t:=t) (hT x hx) (hT y hy) (hm x hx) (hm y hy) hd;simp only[this]
   |max=>
    cases h1:args.toList with
    |nil=>rfl
    |cons x r=>
     cases r with
     |nil=>rfl
     |cons y r=>
      cases r with
      |cons _ _=>rfl
      |nil=>
       have e1:=hT x (mem x (by rw[h1];simp));have e2:=hT y (mem y (by rw[h1];simp));simp only[e1,e2]
   |min=>
    cases h1:args.toList with
    |nil=>rfl
    |cons x r=>
     cases r with
     |nil=>rfl
     |cons y r=>
      cases r with
      |cons _ _=>rfl
      |nil=>
       have e1:=hT x (mem x (by rw[h1];simp));have e2:=hT y (mem y (by rw[h1];simp));simp only[e1,e2]
   |_=>rfl
 |_=>rfl
end
section
variable{M0 S0:Nat->Prop}{w0:World}{N:Fr}{T:Nat->A}{m:Mem}{ρ:Nat->Value}{a:Act}{w:World}{P:Program}
theorem J6(h:II P t=true):P.underlying t=some (.int .u8):=by
 unfold II at h;split at h
 ·assumption
 ·cases h
theorem FI(w:World)(e:TypeId)(s:ByteArray):iF (λ_=>False) w (Lib.bytesWorld w e s):=
 ⟨by simp[Lib.bytesWorld,World.freeze,World.alloc,World.drew,-World.alloc_eq,-World.drew_eq],by simp[Lib.bytesWorld,World.freeze,World.alloc,World.drew,-World.alloc_eq,-World.drew_eq],
  by simp[Lib.bytesWorld,World.freeze,World.alloc,World.drew,-World.alloc_eq,-World.drew_eq],by rw[Lib.bytesWorld_size];omega,λb hb _=>Lib.bytesWorld_at_old w e s b hb⟩
theorem DD:∀{l:List (List A)}{ns:List Int},bytesOf l=some ns->l.length=ns.length/\(∀e∈l,e.length=1)/\l.flatten=ns.map λn=>.d (.v (.int .u8 n))
 |[],ns,h=>by simp only[bytesOf,aA]at h;subst h;simp
 |e::r,ns,h=>by
  unfold bytesOf at h;split at h
  ·rename_i h1;cases h1
  ·rename_i n r' h1;cases h1;split at h
   ·rename_i l hl;simp only[aA]at h;subst h;obtain⟨h1,h2,h3⟩:=DD hl;refine⟨by simp[h1],?_,by simp[h3]⟩;intro e he;simp only[aO]at he;rcases he with rfl|he
    ·rfl
    ·exact h2 e he
   ·cases h
  ·cases h
theorem JH{M:Nat->Prop}:∀(ns:List Int)(news:List Value),A.bR w M m ρ (ns.map λn=>.d (.v (.int .u8 n))) news->news=ns.map (Value.int .u8)
 |[],news,h=>by simpa [A.bR]using h
 |n::r,news,h=>by
  simp only[aG,A.bR,A.Den,C.Den]at h;obtain⟨y,yr,rfl,rfl,h2⟩:=h;rw[JH r yr h2];rfl
theorem UF(h:bC M0 S0 w0 N T m ρ a w){s t:TypeId}{x v:A}{y:Value}{pre:Bool}{ups:List (Nat×R)}(hx:x.Den w (dD M0 m ρ) m ρ y)(he:vG P m s t x=some (pre,v,ups))(hp:pre=true):
 ups=[]/\∃z,(convert s t y).run P w=.ok z w/\v.Den w (dD M0 m ρ) m ρ z:=by
 unfold vG at he;split at he
 ·rename_i rows e hs hel;split at he
  ·rename_i ns hns;simp only[aA,aD]at he;obtain⟨rfl,rfl,rfl⟩:=he;rw[aE]at hp;obtain⟨b1,b2,b3⟩:=DD hns;obtain⟨ad,cap,news,rfl,hnl,_,hnd,hsrc⟩:=IT h hx hs b2;rw[b3]at hnd;have hnews:=JH ns news hnd;refine⟨rfl,.string (ns.foldl (λr n=>r.push (UInt8.ofNat n.toNat)) ByteArray.empty),?_,by simp[A.Den,C.Den]⟩;rw[run_convert_bytes_string w s t e ad rows.length cap (nU hel) (J6 hp.1) (oB hp.2)];rcases hsrc with⟨rfl,rfl⟩|⟨d,rfl,hcell⟩
   ·have:ns=[]:=bL b1.symm;subst this;simp[Conv.bytesToString]
   ·refine run_bytesToString w d rows.length cap ns ?_;have:=run_firstCells_some (P:=P) w 1 rows.length d rows.length cap news (by rw[hnl]) hcell;simp only[Builtin.firstCells,Nat.mul_one]at this;rw[this,hnews]
  ·cases he
 ·cases he
theorem aIE(h:bC M0 S0 w0 N T m ρ a w)(hlt:∀b,M0 b->b<w0.heap.size){o:Oper}{d:Nat}{pre:Bool}{v:A}{ups:List (Nat×R)}(he:qI P m T d o=some (pre,v,ups))(hp:pre=true):G1 P M0 S0 w0 N T m ρ a w o v (aH m ups):=by
 unfold qI at he;split at he
 ·rename_i s t x ho;split at he
  ·rename_i b e hx hel;simp only[aA,aD]at he;obtain⟨rfl,rfl,rfl⟩:=he;simp only[aE]at hp;obtain⟨hp1,hp2⟩:=hp;have hxd:=cU h x;rw[hx]at hxd;simp only[A.Den,C.Den]at hxd;obtain⟨u,hs⟩:∃u,P.underlying s=some u:=by
    cases hq:P.underlying s with
    |none=>rw[hq]at hp2;cases hp2
    |some u=>exact⟨u,rfl⟩
   have hrun:=Lib.run_convert_string_bytes w s t e b hs (nU hel) (J6 hp1);have hk:=FI w e b;have hmut:=V8 h hlt;refine⟨_,_,ρ,_,by simp[execOp,ho,hxd,hrun];rfl,.inl rfl,(h.world hk (λ_ _ e=>e.elim)).shrink (λb e=>.inl e),cI.refl m ρ,?_⟩;simp only[A.Den,C.Den,aH];refine⟨_,grownCap w b.size 0 e,by simp[FH],by simp[FH];exact grownCap_ge w b.size 0 e,.inr ⟨w.heap.size,0,rfl,λhm=>Nat.lt_irrefl _ (hmut _ hm),by rw[Lib.bytesWorld_size];omega,?_⟩⟩;rw[C.tX];intro k r hr;simp only[FH,cK,bU]at hr;obtain⟨q,hq,rfl⟩:=hr;refine⟨rfl,?_⟩;rw[C.rA];intro j c hc;have hj:j=0:=by
    rcases j with _|j
    ·rfl
    ·simp at hc
   subst hj;simp at hc;subst hc;have hks:k<b.size:=by
    have:=(bA.1 hq).1;simpa using this
   refine⟨_,by simpa using Lib.bytesWorld_cell w e b k hks,rfl,?_⟩;simp only[C.Den];have hq':b.data[k]?=some q:=by simpa using hq
   rw[hq'];rfl
  ·obtain⟨rfl,z,hr,hv⟩:=UF (P:=P) h (cU h x) he hp;exact eO h (by simp[execOp,ho,hr]) hv
 ·cases he
theorem aK5(h:bC M0 S0 w0 N T m ρ a w){o:Oper}{pre:Bool}{v:A}{ups:List (Nat×R)}(he:kG P m T o=some (pre,v,ups))(hp:pre=true):G1 P M0 S0 w0 N T m ρ a w o v (aH m ups):=by
 unfold kG at he;split at he
 ·rename_i c ho;obtain⟨callee,args,tys⟩:=c;simp only at he;split at he
  ·rename_i x y t t' h1 h2;have e1:=ME h1;have e2:=ME h2;subst e1;subst e2;split at he
   ·rename_i es e hx hs hel;split at he
    ·rename_i z hz;simp only[aA,aD]at he;obtain⟨rfl,rfl,rfl⟩:=he;simp only[aE]at hp;obtain⟨hp1,hp2⟩:=hp;obtain⟨rfl,p1,p2⟩:=of_decide_eq_true hp1;have hxd:=cU h x;rw[hx]at hxd;simp only[A.Den,C.Den]at hxd;obtain⟨ad,cap,hy,_⟩:=EZ h (cU h y) hs;obtain⟨i,hi⟩:=sA p2;have ht:=nU hel;have hrun:(Builtin.append_ #[t,t] o.type #[.slice none 0 0,.slice ad 0 cap]).run P w=.ok (.slice none 0 0) w:=by
      cases ad with
      |none=>simp[Builtin.append_,run_underlying ht,run_sizeOf hi,Builtin.lenOf,Builtin.firstCells,storeCells]
      |some d=>
       have hl:=run_firstCells_some (P:=P) w (P.cellsOf e) 0 d 0 cap [] (by simp) (by simp);simp[Builtin.append_,run_underlying ht,run_sizeOf hi,Builtin.lenOf,hl,storeCells]
     refine⟨.slice none 0 0,w,ρ,_,by simp[execOp,ho,resolve,invoke,builtin,hxd,hy,hrun],.inl rfl,h,cI.refl m ρ,by simp[A.Den,C.Den]⟩
    ·cases he
   ·cases he
  ·cases he
 ·cases he
theorem aK4(h:bC M0 S0 w0 N T m ρ a w)(hlt:∀b,M0 b->b<w0.heap.size){o:Oper}{d:Nat}{pre:Bool}{v:A}{ups:List (Nat×R)}(he:hJ P m T d o=some (pre,v,ups))(hp:pre=true):G1 P M0 S0 w0 N T m ρ a w o v (aH m ups):=by
 unfold hJ at he;split at he
 ·rename_i e he';simp only[aA]at he;subst he;exact aK5 h he' hp
 ·split at he
  ·rename_i e he';simp only[aA]at he;subst he;exact aE5 h hlt he' hp
  ·exact aIE h hlt he hp
theorem JO{o:Oper}{e:E}(h:hJ P m T d o=some e):jO o=true:=by
 unfold hJ at h;split at h
 ·rename_i e' he';unfold jO;split
  ·rename_i c ho;simp[kG,ho]at he'
  ·rfl
 ·split at h
  ·rename_i e' he';exact zX he'
  ·unfold jO;split
   ·rename_i c ho;simp[qI,ho]at h
   ·rfl
theorem qT.WC{o:Oper}{pre:Bool}{v:A}{ups:List (Nat×R)}(he:hJ P m T d o=some (pre,v,ups))(hp:pre=true):qT P o T m v (aH m ups):=by
 intro ro N M0 S0 w0 ρ a w h hlt next Q hn
 obtain⟨y,w',ρ',res,hr,hres,hs,hO,hv⟩:=aK4 h hlt he hp;exact qQ (JO he) hr hres (hn y w' ρ' hs hO hv)
end
def shallow(o:Oper):Bool:=
 match o.op with
 |.call c=>match c.callee with
  |.builtin _=>true
  |_=>false
 |.next _ _=>false
 |.entry _=>false
 |.range _ _=>false
 |.defer _=>false
 |_=>true
section
variable{P:Program}{m m':Mem}{T T':Nat->A}{d:Nat}{o:Oper}
theorem VJ(h:MB o T T' m m')(hd:m d=m' d)(hs:shallow o=true):jZ P m T d o=jZ P m' T' d o:=by
 have hop:=Z0 (P:=P) h hd;obtain⟨hT,hm⟩:=h;unfold jZ;cases ho:o.op with
 |lookup t x ix ok=>
  have hx:=hT x (by simp[ho,Op.operands]);have hix:=hT ix (by simp[ho,Op.operands]);simp only[<-hx,<-hix,MK (hm x (by simp[ho,Op.operands]))]
 |mapUpdate t x k v=>
  have hx:=hT x (by simp[ho,Op.operands]);have hk:=hT k (by simp[ho,Op.operands]);have hv:=hT v (by simp[ho,Op.operands]);simp only[<-hx,<-hk,<-hv,BW (hm x (by simp[ho,Op.operands]))]
 |insert t x k v=>
  have hx:=hT x (by simp[ho,Op.operands]);have hk:=hT k (by simp[ho,Op.operands]);have hv:=hT v (by simp[ho,Op.operands]);simp only[<-hx,<-hk,<-hv,BW (hm x (by simp[ho,Op.operands]))]
 |mapEntry t x k=>
  have hx:=hT x (by simp[ho,Op.operands]);have hk:=hT k (by simp[ho,Op.operands]);simp only[<-hx,<-hk,H2 (hm x (by simp[ho,Op.operands])) hd]
 |entryStore t x s v=>
  have hx:=hT x (by simp[ho,Op.operands]);have hk:=hT s (by simp[ho,Op.operands]);have hv:=hT v (by simp[ho,Op.operands]);simp only[<-hx,<-hk,<-hv,DM (hm x (by simp[ho,Op.operands])) (hm s (by simp[ho,Op.operands]))]
 |range t x=>simp[shallow,ho]at hs
 |entry x=>simp[shallow,ho]at hs
 |index t x ix=>simp only[hT x (by simp[ho,Op.operands]),hT ix (by simp[ho,Op.operands])]
 |binOp op t x y yt=>
  have hx:=hT x (by simp[ho,Op.operands]);have hy:=hT y (by simp[ho,Op.operands]);simp only[hop,hx,hy]
 |call c=>
  obtain⟨callee,args,tys⟩:=c;simp only[hop];cases callee with
  |value f=>rfl
  |invoke r n=>rfl
  |builtin b=>
   have mem:∀x∈args.toList,x∈o.op.operands.toList:=by
    intro x hx;rw[ho];simp[Op.operands,Call.operands];simpa using hx
   cases b with
   |delete=>
    cases h1:args.toList with
    |nil=>rfl
    |cons x r=>
     cases r with
     |nil=>cases tys.toList<;>rfl
     |cons y r=>
      cases r with
      |cons _ _=>cases tys.toList<;>rfl
      |nil=>
       cases h2:tys.toList with
       |nil=>rfl
       |cons t r=>
        cases r with
        |nil=>rfl
        |cons t' r=>
         cases r with
         |cons _ _=>rfl
         |nil=>
          have hx:=mem x (by rw[h1];simp);have hy:=mem y (by rw[h1];simp);simp only[<-hT x hx,<-hT y hy,MJ (hm x hx)]
   |_=>rfl
 |_=>exact hop
theorem VO(h:MB o T T' m m'):kG P m T o=kG P m' T' o:=by
 obtain⟨hT,hm⟩:=h;unfold kG;cases ho:o.op with
 |call c=>
  obtain⟨callee,args,tys⟩:=c;simp only;cases callee with
  |value f=>rfl
  |invoke r n=>rfl
  |builtin b=>
   have mem:∀x∈args.toList,x∈o.op.operands.toList:=by
    intro x hx;rw[ho];simp[Op.operands,Call.operands];simpa using hx
   cases b with
   |append=>
    cases h1:args.toList with
    |nil=>rfl
    |cons x r=>
     cases r with
     |nil=>cases tys.toList<;>rfl
     |cons y r=>
      cases r with
      |cons _ _=>cases tys.toList<;>rfl
      |nil=>
       cases h2:tys.toList with
       |nil=>rfl
       |cons t r=>
        cases r with
        |nil=>rfl
        |cons t' r=>
         cases r with
         |cons _ _=>rfl
         |nil=>
          have hx:=mem x (by rw[h1];simp);have hy:=mem y (by rw[h1];simp);simp only[<-hT x hx,<-hT y hy,<-pZ (hm y hy),<-GV (hm y hy)]
   |_=>rfl
 |_=>rfl
theorem SA(h:MB o T T' m m')(hd:m d=m' d):qI P m T d o=qI P m' T' d o:=by
 obtain⟨hT,hm⟩:=h;unfold qI;cases ho:o.op with
 |convert s t x=>
  have e1:=hT x (by simp[ho,Op.operands]);have e2:=pZ (hm x (by simp[ho,Op.operands]));simp only[<-e1];unfold vG;rw[e2]
 |_=>rfl
theorem VN(h:MB o T T' m m')(hd:m d=m' d)(hs:shallow o=true):hJ P m T d o=hJ P m' T' d o:=by
 unfold hJ;rw[VO h,VJ h hd hs,SA h hd]
theorem aEO{v:A}(h:aEN P T o=some v)(m:Mem):jZ P m T d o=some (true,v,[]):=by
 unfold aEN at h;unfold jZ;cases ho:o.op with
 |move x=>simp only[ho,aA]at h;subst h;simp[j9,ho]
 |assign x=>simp only[ho,aA]at h;subst h;simp[j9,ho]
 |pick c a b=>
  simp only[ho]at h;simp only[j9,ho];split at h
  ·rename_i t ht;simp only[aA]at h;subst h;rw[ht]
  ·cases h
 |binOp op t x y yt=>
  simp only[ho]at h;simp only[j9,ho];split at h
  ·rename_i k p k' q h1 h2;split at h
   ·rename_i c hc;simp only[aA]at h;subst h;simp only[xZ,h1,h2,hc,dF]
   ·cases h
  ·cases h
 |unOp op t x=>
  simp only[ho]at h;simp only[j9,ho];split at h
  ·rename_i v' u hu;simp only[aA]at h;subst h;have:u=[]:=by
    unfold NF at hu;split at hu<;>simp at hu
    ·exact hu.2
    ·exact hu.2.2
   rw[hu,this]
  ·cases h
 |extract x i=>
  simp only[ho]at h;simp only[j9,ho];split at h
  ·rename_i l hl;cases hb:Nat.blt i l.length with
   |true=>
    rw[hb]at h;simp only[cond_true,aA]at h;subst h;rw[hl];have:i<l.length:=by simpa [rR]using hb
    simp[this]
   |false=>rw[hb]at h;cases h
  ·cases h
 |field t x f=>
  simp only[ho]at h;simp only[j9,ho];split at h
  ·rename_i v' u hu;simp only[aA]at h;subst h;have:u=[]:=by
    unfold uF at hu;split at hu
    ·split at hu<;>simp at hu<;>exact hu.2.2
    ·split at hu<;>simp at hu<;>exact hu.2.2
    ·cases hu
   subst this;exact hu
  ·cases h
 |_=>simp[ho]at h
end

inductive Mr where
 |ret
 |sE(v:A)
 |rcv(v:A)
abbrev aLJ:=Ex->(Nat->A)->Mem->List DA->Mr->Prop
section
variable{P:Program}{n:Nat}{T:Nat->A}{m:Mem}{ds:List DA}{md:Mr}{Post:aLJ}
end
section
variable{P:Program}{fn:Func}{T:Nat->A}{m mf:Mem}{ds:List DA}{md:Md}{r:Rt}
end

section
variable{P:Program}{M0 S0:Nat->Prop}{w0:World}{N:Fr}{T:Nat->A}{m m':Mem}{ρ:Nat->Value}{a:Act}{w:World}{o:Oper}{M:Nat->Prop}
end
section
variable{P:Program}{M0 S0:Nat->Prop}{w0:World}{N:Fr}{T:Nat->A}{m m':Mem}{ρ:Nat->Value}{a:Act}{w:World}{o:Oper}{M:Nat->Prop}
end
section
variable{P:Program}{M0 S0:Nat->Prop}{w0:World}{N:Fr}{T:Nat->A}{m m':Mem}{ρ:Nat->Value}{a:Act}{w:World}{o:Oper}{M:Nat->Prop}
end
section
variable{M0 S0:Nat->Prop}{w0:World}{N:Fr}{P:Program}{ops:Array Oper}{TX:(Nat->Bool)->Nat->A}{MX:(Nat->Bool)->Mem}{m:Mem}{ρ:Nat->Value}
theorem V7{w:World}{M:Nat->Prop}{m:Mem}{h:Value}{fz:Bool}{kv kv':List (Ky×A)}{st:List (Ky×Nat)}(hp:kv.Perm kv')(hr:R.Ok w M m ρ h (.mp fz kv st)):R.Ok w M m ρ h (.mp fz kv' []):=by
 obtain⟨b,es,cl,l,e,h1,h2,h3,h4,h5⟩:=hr;obtain⟨z,hz⟩:=aD5 h2 h3;have hz':MZ w M m ρ es cl kv' z:={hz with perm:=hz.perm.trans hp};obtain⟨l',k1,k2⟩:=aI9 hz';exact⟨b,es,cl,l',e,h1,k1,k2,h4,λp hp=>by simp at hp⟩
theorem bC.aH8{T:Nat->A}{a:Act}{w:World}{m1:Mem}{fz:Bool}{kv kv':List (Ky×A)}{st:List (Ky×Nat)}(h:bC M0 S0 w0 N T (aX m1 d (.mp fz kv st)) ρ a w)(hp:kv.Perm kv'):
 bC M0 S0 w0 N T (aX m1 d (.mp fz kv' [])) ρ a w/\cI (aX m1 d (.mp fz kv st)) (aX m1 d (.mp fz kv' [])) ρ ρ/\∀b,dD M0 (aX m1 d (.mp fz kv' [])) ρ b->dD M0 (aX m1 d (.mp fz kv st)) ρ b:=by
 have hO:cI (aX m1 d (.mp fz kv st)) (aX m1 d (.mp fz kv' [])) ρ ρ:=by
  intro i hi;by_cases e:i=d
  ·subst e;refine⟨by simp[aX],λ_=>⟨by simp[aX],rfl,λfz' t es l q=>by simp[aX]at q⟩⟩
  ·have e1:∀r,aX m1 d r i=m1 i:=λr=>by simp[aX,e]
   rw[e1]at hi;rw[e1,e1];exact⟨hi,λhd=>⟨hd,rfl,λfz t es l q=>⟨fz,t,l,q,rfl⟩⟩⟩
 have hmu:∀b,dD M0 (aX m1 d (.mp fz kv' [])) ρ b->dD M0 (aX m1 d (.mp fz kv st)) ρ b:=by
  rintro b (e|⟨i,r,h1,h2,h3⟩)
  ·exact .inl e
  ·by_cases e:i=d
   ·subst e;simp only[aX,if_true,aA]at h1;subst h1;exact .inr ⟨i,.mp fz kv st,by simp[aX],h2,h3⟩
   ·exact .inr ⟨i,r,by simpa [aX,e]using h1,h2,h3⟩
 have hmu':∀b,dD M0 (aX m1 d (.mp fz kv' [])) ρ b->b<w.heap.size->dD M0 (aX m1 d (.mp fz kv st)) ρ b:=λb hb _=>hmu b hb;have live:∀{i:Nat}{r:R},aX m1 d (.mp fz kv' []) i=some r->r.live=true->∃q,aX m1 d (.mp fz kv st) i=some q/\q.live=true:=by
  intro i r h1 h2;by_cases e:i=d
  ·subst e;simp only[aX,if_true,aA]at h1;subst h1;exact⟨.mp fz kv st,by simp[aX],h2⟩
  ·exact⟨r,by simpa [aX,e]using h1,h2⟩
 refine⟨?_,hO,hmu⟩
 exact{keeps:=h.keeps,size:=h.size
       defers:=λds e=>eJ (dV.refl _ w) hmu' hO _ _ (h.defers ds e)
       tmps:=λn=>A.dC (dV.refl _ w) hmu' hO _ _ (h.tmps n)
       res:=λi r hi=>by
        by_cases e:i=d
        · subst e
          simp only[aX,if_true,aA]at hi;subst hi;exact V7 hp (R.hU (dV.refl _ w) hmu' hO (λ_ _ _=>rfl) (h.res i (.mp fz kv st) (by simp[aX])))
        · exact R.hU (dV.refl _ w) hmu' hO (λ_ _ _=>rfl) (h.res i r (by simpa [aX,e]using hi))
       own:=λi r b hi hl hb=>by
        obtain⟨q,hq,hl'⟩:=live hi hl;exact h.own i q b hq hl' hb
       apart:=λi j r s b hi l1 hj l2 b1 b2=>by
        obtain⟨q,hq,h1⟩:=live hi l1;obtain⟨q',hq',h2⟩:=live hj l2
        exact h.apart i j q q' b hq h1 hq' h2 b1 b2}
end
structure Q4(α:Type)where
 a:α
 b:α
 c:α
 d:α
structure wN(S B:Type)where
 get:S->B
 set:B->S->S
def q4(α:Type)(i:Nat):wN (Q4 α) α:=
 Nat.casesOn (motive:=λ_=>wN (Q4 α) α) i ⟨λq=>Q4.casesOn (motive:=λ_=>α) q λa _ _ _=>a,λx q=>Q4.casesOn (motive:=λ_=>Q4 α) q λ_ b c d=>⟨x,b,c,d⟩⟩
  λi=>Nat.casesOn (motive:=λ_=>wN (Q4 α) α) i ⟨λq=>Q4.casesOn (motive:=λ_=>α) q λ_ b _ _=>b,λx q=>Q4.casesOn (motive:=λ_=>Q4 α) q λa _ c d=>⟨a,x,c,d⟩⟩
   λi=>Nat.casesOn (motive:=λ_=>wN (Q4 α) α) i ⟨λq=>Q4.casesOn (motive:=λ_=>α) q λ_ _ c _=>c,λx q=>Q4.casesOn (motive:=λ_=>Q4 α) q λa b _ d=>⟨a,b,x,d⟩⟩
    λ_=>⟨λq=>Q4.casesOn (motive:=λ_=>α) q λ_ _ _ d=>d,λx q=>Q4.casesOn (motive:=λ_=>Q4 α) q λa b c _=>⟨a,b,c,x⟩⟩
def wN.comp{S B C:Type}(l1:wN S B)(l2:wN B C):wN S C:=
 wN.casesOn (motive:=λ_=>wN S C) l1 λg1 s1=>wN.casesOn (motive:=λ_=>wN S C) l2 λg2 s2=>⟨λs=>g2 (g1 s),λx s=>s1 (s2 x (g1 s)) s⟩
def Sep{S B:Type}(k:Nat)(L:Nat->wN S B):Prop:=∀i j x s,i<k->j<k->(L j).get ((L i).set x s)=if j=i then x else(L j).get s
theorem QZ(α:Type):Sep 4 (q4 α):=by
 intro i j x s hi hj;obtain⟨a,b,c,d⟩:=s
 match i,j,hi,hj with
 |0,0,_,_=>rfl
 |0,1,_,_=>rfl
 |0,2,_,_=>rfl
 |0,3,_,_=>rfl
 |1,0,_,_=>rfl
 |1,1,_,_=>rfl
 |1,2,_,_=>rfl
 |1,3,_,_=>rfl
 |2,0,_,_=>rfl
 |2,1,_,_=>rfl
 |2,2,_,_=>rfl
 |2,3,_,_=>rfl
 |3,0,_,_=>rfl
 |3,1,_,_=>rfl
 |3,2,_,_=>rfl
 |3,3,_,_=>rfl
 |i+4,_,h,_=>exact absurd h (by omega)
 |_,j+4,_,h=>exact absurd h (by omega)
theorem LM{S B C:Type}{k:Nat}{L:Nat->wN S B}{M:Nat->wN B C}(hk:0<k)(hL:Sep 4 L)(hM:Sep k M):Sep (4*k) (λn=>(L (n/k)).comp (M (n %k))):=by
 intro i j x s hi hj;have h1:i/k<4:=(nA hk).2 hi;have h2:j/k<4:=(nA hk).2 hj;have h3:=u5 i hk;have h4:=u5 j hk;show(M (j %k)).get ((L (j/k)).get ((L (i/k)).set ((M (i %k)).set x ((L (i/k)).get s)) s))=if j=i then x else(M (j %k)).get ((L (j/k)).get s)
 rw[hL _ _ _ _ h1 h2];by_cases e:j/k=i/k
 ·rw[if_pos e,hM _ _ _ _ h3 h4,e];by_cases e2:j %k=i %k
  ·have:j=i:=by rw[<-Nat.div_add_mod j k,<-Nat.div_add_mod i k,e,e2]
   rw[if_pos e2,if_pos this]
  ·have:j≠i:=λq=>e2 (by rw[q]);rw[if_neg e2,if_neg this]
 ·have:j≠i:=λq=>e (by rw[q]);rw[if_neg e,if_neg this]
abbrev Q16:=Q4 (Q4 A)
abbrev Q64:=Q4 (Q4 (Q4 A))
abbrev aLK:=Q4 (Q4 (Q4 (Q4 A)))
def l16(n:Nat):wN Q16 A:=(q4 (Q4 A) (n/4)).comp (q4 A (n %4))
def l64(n:Nat):wN Q64 A:=(q4 Q16 (n/16)).comp (l16 (n %16))
def aDX(n:Nat):wN aLK A:=(q4 Q64 (n/64)).comp (l64 (n %64))
theorem aK6:Sep 256 aDX:=LM (k:=64) (by decide) (QZ _) (LM (k:=16) (by decide) (QZ _) (LM (k:=4) (by decide) (QZ _) (QZ _)))
structure Tb where
 t:aLK
 o:Tr A
def aEA:Q4 A:=⟨.x,.x,.x,.x⟩
def TP:Q16:=⟨aEA,aEA,aEA,aEA⟩
def EF:Q64:=⟨TP,TP,TP,TP⟩
def Tb.nil:Tb:=⟨⟨EF,EF,EF,EF⟩,.nil⟩
def Tb.fn(t:Tb)(n:Nat):A:=Bool.casesOn (motive:=λ_=>A) (Nat.blt n 256) (t.o.fn n) (wN.casesOn (motive:=λ_=>A) (aDX n) λg _=>g t.t)
def Tb.set(t:Tb)(n:Nat)(x:A):Tb:=Tb.casesOn (motive:=λ_=>Tb) t λq o=>Bool.casesOn (motive:=λ_=>Tb) (Nat.blt n 256) ⟨q,Tr.set 0 o n x⟩ (wN.casesOn (motive:=λ_=>Tb) (aDX n) λ_ s=>⟨s x q,o⟩)
def Tb.put(t:Tb)(d:Option Nat)(x:A):Tb:=Option.casesOn (motive:=λ_=>Tb) d t λn=>t.set n x
theorem Tb.SQ(t:Tb){n:Nat}(h:n<256):t.fn n=(aDX n).get t.t:=by
 have e:Nat.blt n 256=true:=by simpa [rR]using h
 unfold Tb.fn;rw[e]
theorem Tb.SP(t:Tb){n:Nat}(h:¬n<256):t.fn n=t.o.fn n:=by
 have e:Nat.blt n 256=false:=by
  cases q:Nat.blt n 256 with
  |false=>rfl
  |true=>exact absurd (by simpa [rR]using q) h
 unfold Tb.fn;rw[e]
theorem Tb.FU(t:Tb)(n:Nat)(x:A):(t.set n x).fn=lI t.fn (some n) x:=by
 funext k;obtain⟨q,o⟩:=t;by_cases hn:n<256
 ·have e:Nat.blt n 256=true:=by simpa [rR]using hn
  have hs:(Tb.mk q o).set n x=⟨(aDX n).set x q,o⟩:=by unfold Tb.set;rw[e]
  rw[hs];by_cases hk:k<256
  ·rw[Tb.SQ _ hk];simp only[lI];rw[aK6 n k x q hn hk];by_cases q1:k=n
   ·subst q1;simp
   ·rw[if_neg q1,if_neg (λe=>q1 (by simpa using e.symm)),Tb.SQ _ hk]
  ·rw[Tb.SP _ hk];simp only[lI];rw[if_neg (λe=>hk (by simp only[aA]at e;omega)),Tb.SP _ hk]
 ·have e:Nat.blt n 256=false:=by
   cases q:Nat.blt n 256 with
   |false=>rfl
   |true=>exact absurd (by simpa [rR]using q) hn
  have hs:(Tb.mk q o).set n x=⟨q,Tr.set 0 o n x⟩:=by unfold Tb.set;rw[e]
  rw[hs];by_cases hk:k<256
  ·rw[Tb.SQ _ hk];simp only[lI];rw[if_neg (λe=>hn (by simp only[aA]at e;omega)),Tb.SQ _ hk]
  ·rw[Tb.SP _ hk,Tr.FU];simp only[lI];rw[Tb.SP _ hk]
theorem Tb.VU(t:Tb)(d:Option Nat)(x:A):(t.put d x).fn=lI t.fn d x:=by
 cases d with
 |none=>funext k;simp[Tb.put,lI]
 |some n=>exact Tb.FU t n x
theorem IM{α:Type}(x:α):∀i,(q4 α i).get ⟨x,x,x,x⟩=x
 |0=>rfl
 |1=>rfl
 |2=>rfl
 |_+3=>rfl
theorem Tb.aCX(n:Nat):Tb.nil.fn n=.x:=by
 by_cases hn:n<256
 ·rw[Tb.SQ _ hn];show(q4 A (n %64 %16 %4)).get ((q4 (Q4 A) (n %64 %16/4)).get ((q4 Q16 (n %64/16)).get ((q4 Q64 (n/64)).get ⟨EF,EF,EF,EF⟩)))=.x;rw[IM];unfold EF;rw[IM];unfold TP;rw[IM];unfold aEA;rw[IM]
 ·rw[Tb.SP _ hn];show Tr.fn .nil n=.x;rw[Tr.aCW,Tr.get_nil];rfl
end Go.Pv
