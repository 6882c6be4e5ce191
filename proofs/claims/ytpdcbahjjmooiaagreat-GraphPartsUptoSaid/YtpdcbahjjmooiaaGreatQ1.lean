import Derived.WalkKit
import Derived.Deep.LoopGhost
/- Contracts of functions that the law reaches, and their logic. No conditions. -/
set_option linter.all false
set_option maxRecDepth 100000
set_option maxHeartbeats 8000000
open Go
namespace Go.Pv
open Go.RowKit
def sn.{u}{α:Type u}{a:α}:some a≠none:=Option.some_ne_none a
def tV:True:=.intro
def oM{p:Prop}(h:p:=by omega):p:=h
def sM{p:Prop}(h:p:=by simp):p:=h
def eD{p:Prop}(h:p:=by decide):p:=h
def kK{p:Prop}(h:p:=by kernel_rfl):p:=h
def aM{p:Prop}(h:p:=by assumption):p:=h
def dM{p:Prop}(h:p:=by dsimp only;omega):p:=h
def zM{p:Prop}(h:p:=by simp;omega):p:=h
def aA.{u}:=@Option.some.injEq.{u}
def aB.{u,v}:=@List.length_map.{u,v}
def aT7.{u}:=@if_neg.{u}
def aC.{u}:=@List.getElem?_eq_getElem.{u}
def aE:=@Bool.and_eq_true
def aD.{u,v}:=@Prod.mk.injEq.{u,v}
def aUA:=@decide_eq_true_eq
def aUF.{u}:=@if_pos.{u}
def aI.{u}:=@List.take_of_length_le.{u}
def aUZ:=@decide_eq_true
def aG.{u,v}:=@List.map_cons.{u,v}
def aU0:=@decide_eq_false
def bF.{u}:=@List.getD_eq_getElem?_getD.{u}
def aS.{u}:=@List.length_replicate.{u}
def aT.{u}:=@List.take_succ_eq_append_getElem.{u}
def aQ.{u}:=@List.length_cons.{u}
def aUL:=@of_decide_eq_true
def aA4.{u,v}:=@List.mem_map.{u,v}
def aL.{u}:=@Array.getElem?_eq_some_iff.{u}
def aO.{u}:=@List.mem_cons.{u}
def aN:=@Go.Result.andThen_ok
def bL.{u}:=@List.eq_nil_of_length_eq_zero.{u}
def aU.{u}:=@List.length_append.{u}
def aY.{u}:=@List.getElem_mem.{u}
def bD:=@Nat.le_of_ble_eq_true
def cE.{u}:=@List.length_set.{u}
def aV:=@Go.Sem.run_bind
def cA:=@Bool.true_and
def aR.{u}:=@List.mem_singleton.{u}
def bB:=@Nat.eq_of_beq_eq_true
def bH.{u,v,w}:=@List.map_map.{u,v,w}
def bA.{u}:=@List.getElem?_eq_some_iff.{u}
def cS.{u}:=@List.length_nil.{u}
def bP.{u,v}:=@List.map_append.{u,v}
def bN.{u}:=@List.mem_append.{u}
def bO.{u}:=@List.getElem?_append_right.{u}
def cV.{u}:=@List.all_eq_true.{u}
def bM.{u,v}:=@List.map_nil.{u,v}
def cK.{u,v}:=@List.getElem?_map.{u,v}
def aW:=@True.intro
def bX.{u}:=@List.getElem?_append_left.{u}
def dE.{u}:=@List.drop_eq_getElem_cons.{u}
def bU.{u,v}:=@Option.map_eq_some_iff.{u,v}
def cC.{u}:=@List.take_succ_cons.{u}
def jI:=@List.mem_range
def aU1:=@decide_eq_false_iff_not
def cL:=@Nat.le_trans
def cB:=@Go.Sem.run_pure
def cF.{u}:=@Array.getElem?_eq_getElem.{u}
def cJ.{u}:=@List.getElem_cons_succ.{u}
def dT.{u}:=@List.drop_eq_nil_of_le.{u}
def c0:=@Bool.false_and
def K0:=@Bool.eq_iff_iff
def cT.{u}:=@List.mem_of_find?_eq_some.{u}
def cG:=@Nat.lt_of_lt_of_le
def bY:=@Bool.false_eq_true
def bI:=@And.intro
def cQ.{u,v}:=@List.map_congr_left.{u,v}
def cW.{u}:=@List.length_take.{u}
def gI:=@Bool.and_eq_false_iff
def bT:=@Nat.le_refl
def bG.{u}:=@List.append_assoc.{u}
def dF.{u,v}:=@Option.map_some.{u,v}
def cM.{u}:=@List.getElem?_take.{u}
def lD.{u}:=@List.getElem?_eq_none.{u}
def eC:=@Bool.not_eq_true'
def uE.{u}:=@List.mem_cons_of_mem.{u}
def dL.{u}:=@List.flatten_cons.{u}
def l5.{u}:=@List.mem_of_getElem?.{u}
def cZ.{u}:=@Array.getD_eq_getD_getElem?.{u}
def gP:=@Bool.or_eq_true
def fO.{u,v}:=@List.getElem_map.{u,v}
def iA.{u}:=@List.all_eq_false.{u}
def dI.{u}:=@List.mem_of_mem_drop.{u}
def dJ.{u}:=@List.mem_of_mem_take.{u}
def G7.{u}:=@List.mem_cons_self.{u}
def eK.{u}:=@List.getElem_cons_zero.{u}
def a39.{u}:=@List.mem_filter.{u}
def dS.{u}:=@List.append_nil.{u}
def bW.{u}:=@List.cons_append.{u}
def dQ.{u}:=@List.any_eq_true.{u}
def eA.{u}:=@List.getElem?_drop.{u}
def gZ.{u}:=@Option.getD_some.{u}
def dY.{u}:=@List.mem_iff_getElem?.{u}
def aB3.{u}:=@Array.getElem?_setIfInBounds_ne.{u}
def fB:=@Bool.not_false
def gO:=@Bool.false_ne_true
def eN.{u}:=@List.find?_cons.{u}
def dH.{u}:=@List.mem_iff_getElem.{u}
def fX.{u,v}:=@List.foldl_cons.{u,v}
def bZ.{u}:=@List.nil_append.{u}
def fD.{u}:=@List.take_zero.{u}
def eP:=@Go.Addr.add_lit
def eQ:=@Nat.lt_or_ge
def fR:=@Bool.not_true
def lZ.{u}:=@List.filter_cons.{u}
def fF:=@Nat.zero_add
def gJ.{u}:=@List.take_append_drop.{u}
def eY.{u}:=@Option.some.inj.{u}
def fE:=@Nat.mul_le_mul_right
def hP:=@Int.toNat_natCast
def fC.{u}:=@List.reverse_cons.{u}
def eS.{u}:=@Option.isSome_iff_exists.{u}
def YC.{u}:=@List.length_filter_le.{u}
def iD.{u}:=@List.find?_some.{u}
def gQ.{u}:=@List.all_append.{u}
def a4A.{u}:=@List.getElem_inj.{u}
def jA.{u}:=@Array.eq_empty_of_size_eq_zero.{u}
def aAD.{u}:=@List.nodup_cons.{u}
def aAF:=@List.range_succ
def gY:=@Nat.succ_mul
def gK.{u}:=@List.eraseIdx_cons_succ.{u}
def iL.{u}:=@List.length_eq_zero_iff.{u}
def fS:=@Nat.add_mul
def fP:=@Nat.add_assoc
def gU.{u}:=@List.sum_cons.{u}
def aAH.{u}:=@Array.length_toList.{u}
def gH.{u}:=@List.length_pos_iff.{u}
def iQ.{u}:=@List.ext_getElem?.{u}
def iB.{u,v}:=@List.foldl_append.{u,v}
def iE:=@Nat.add_zero
def l4.{u}:=@List.length_drop.{u}
def iK.{u}:=@List.getElem?_cons_zero.{u}
def iJ.{u}:=@List.getElem?_append.{u}
def iS.{u}:=@List.nodup_append.{u}
def iT.{u}:=@List.take_add_one.{u}
def aAW:=@List.getElem?_range
def iX.{u}:=@List.cons.injEq.{u}
def gX.{u}:=@List.take_length.{u}
def mN.{u}:=@List.find?_eq_none.{u}
def aBJ.{u}:=@List.getElem?_set_ne.{u}
def jJ.{u}:=@List.take_append_of_le_length.{u}
def jQ.{u}:=@List.getElem?_cons_succ.{u}
def fJ.{u}:=@List.flatten_append.{u}
def aDN.{u}:=@List.getElem?_set_self.{u}
def o6:=@Bool.and_true
def aEH.{u}:=@List.ext_getElem.{u}
def kN:=@Go.World.alloc_eq
def nL.{u}:=@List.exists_cons_of_ne_nil.{u}
def kL:=@Bool.and_false
def nX.{u}:=@List.length_singleton.{u}
def kP.{u}:=@List.findIdx?_eq_some_iff_getElem.{u}
def oI.{u}:=@List.mem_or_eq_of_mem_set.{u}
def sJ.{u}:=@Array.toArray_toList.{u}
def lC.{u}:=@List.getElem?_modify.{u}
def qR.{u}:=@List.any_eq_false.{u}
def aEJ:=@List.length_range
def o9.{u}:=@List.all_cons.{u}
def jY.{u}:=@List.toList_toArray.{u}
def lJ.{u}:=@Array.toList_modify.{u}
def lW:=@Go.Comes.of_steps
def lY.{u}:=@List.drop_drop.{u}
def aE4.{u}:=@List.getElem_set.{u}
def lX:=@Int.eq_ofNat_of_zero_le
def eV:=@Or.inr
def qS.{u,v}:=@List.map_set.{u,v}
def aFG.{u}:=@List.filter_append.{u}
def aDR.{u}:=@List.getElem?_toArray.{u}
def qY.{u}:=@List.singleton_append.{u}
def fN.{u}:=@Array.getElem?_modify.{u}
def nJ.{u}:=@List.size_toArray.{u}
def n6.{u}:=@List.drop_zero.{u}
def n7:=@Go.Steps.trans
def fY.{u}:=@Array.getElem?_append_left.{u}
def K9.{u}:=@List.not_mem_nil.{u}
def vT.{u}:=@Exists.intro.{u}
def oG.{u}:=@List.extract_eq_take_drop.{u}
def oH.{u,v}:=@List.getElem?_zip_eq_some.{u,v}
def aDY.{u}:=@List.filter_eq_self.{u}
def oN:=@Go.Value.pointer.injEq
def o7.{u}:=@List.eq_of_mem_replicate.{u}
def pA.{u}:=@List.head?_drop.{u}
def pM:=@Nat.eq_zero_or_pos
def qB.{u}:=@List.map_id.{u}
def aJ9:=@Nat.sub_self
def aJ7.{u}:=@List.filter_eq_nil_iff.{u}
def yO:=@Bool.and_assoc
def aGO.{u}:=@List.getElem_take.{u}
def y3.{u}:=@List.find?_append.{u}
def aJP:=@Classical.not_not
def jH.{u}:=@Array.getElem?_toList.{u}
def nA:=@Nat.div_lt_iff_lt_mul
def qX.{u}:=@List.Perm.append_left.{u}
def rN.{u}:=@Array.mem_filter.{u}
def rO:=@Go.GStep.bare_after
def rR:=@Nat.blt_eq
def rP.{u,v}:=@List.mem_flatMap.{u,v}
def rX:=@Go.Addr.mk.injEq
def aLD:=@Bool.false_or
def sK.{u}:=@Array.toList_extract.{u}
def aL2:=@Nat.min_eq_left
def rS:=@Or.inl
def sX:=@Nat.mul_le_mul_left
def DY:=@Int.toNat_of_nonneg
def u5:=@Nat.mod_lt
def u4:=@Nat.lt_or_gt_of_ne
def u3:=@BitVec.toNat_ofInt
def aO1:=@Nat.min_eq_right
def R1:=@Nat.le_add_right
def aPA:=@Nat.le_total
def aO8:=@Bool.true_or
variable{M M':Nat->Prop}{w w':World}{ρ ρ':Nat->Value}{es i b:Nat}{ys:List Value}{P:Program}{t:TypeId}
inductive KC where
 |int(k:IntKind)(n:Int)
 |bool(b:Bool)
 |str(s:ByteArray)
 deriving DecidableEq,Inhabited
def KC.val:KC->Value
 |.int k n=>.int k n
 |.bool b=>.bool b
 |.str s=>.string s
inductive Ky where
 |one(c:KC)
 |agg(l:List KC)
 deriving DecidableEq,Inhabited
def Ky.val:Ky->Value
 |.one c=>c.val
 |.agg l=>.agg (l.map KC.val).toArray
structure M4(es:Array MapEntry)(clock:Nat)(ks:List Ky)(l:List MapEntry):Prop where
 perm:es.toList.Perm l
 keys:l.map (·.key)=ks.map Ky.val
 nodup:ks.Nodup
 born:(l.map (·.born)).Nodup
 old:∀e∈l,e.born<clock
inductive C where
 |v(x:Value)
 |sl(es:Nat)(l:List (List C))
 |nl(es:Nat)
 |ip(l:List C)
 |im(ks:List Ky)(vs:List C)
 |fn(f:Fn)(first caps:List C)
 |agg(l:List C)
 |AE(t:TypeId)(c:C)
 deriving Inhabited
mutual
def C.Den(w:World)(M:Nat->Prop):C->Value->Prop
 |.v x,y=>y=x
 |.sl es l,y=>∃a cap,y=.slice a l.length cap/\l.length<=cap/\(l=[]\/∃b off,a=some ⟨b,off,none⟩/\¬M b/\b<w.heap.size/\C.lS w M b es off l)
 |.nl _,y=>y=.slice none 0 0
 |.ip l,y=>∃b off,y=.pointer (some ⟨b,off,none⟩)/\¬M b/\b<w.heap.size/\C.sS w M b off l
 |.im ks vs,y=>∃b es clock l,y=.map (some b)/\¬M b/\w.heap[b]?=some (.map es clock)/\M4 es clock ks l/\C.bR w M vs (l.map (·.val))
 |.fn f first caps,y=>∃us vs,y=.func f us vs/\C.bR w M first us.toList/\C.bR w M caps vs.toList
 |.agg l,y=>∃vs,y=.agg vs/\(∀u∈vs.toList,u.oneCell'=true)/\C.bR w M l vs.toList
 |.AE t c,y=>∃v,y=.iface t v/\C.Den w M c v
def C.bR(w:World)(M:Nat->Prop):List C->List Value->Prop
 |[],ys=>ys=[]
 |c::r,ys=>∃y yr,ys=y::yr/\C.Den w M c y/\C.bR w M r yr
def C.sS(w:World)(M:Nat->Prop)(b:Nat):Nat->List C->Prop
 |_,[]=>True
 |off,c::r=>(∃y,w.cell? ⟨b,off,none⟩=some y/\y.oneCell'=true/\C.Den w M c y)/\C.sS w M b (off+1) r
def C.lS(w:World)(M:Nat->Prop)(b es:Nat):Nat->List (List C)->Prop
 |_,[]=>True
 |off,e::r=>e.length=es/\C.sS w M b off e/\C.lS w M b es (off+es) r
end
def dV(M:Nat->Prop)(w w':World):Prop:=w.heap.size<=w'.heap.size/\∀b,b<w.heap.size->¬M b->w'.heap[b]?=w.heap[b]?
def dV.cell{M:Nat->Prop}{w w':World}(h:dV M w w'){b off:Nat}(hb:b<w.heap.size)(hM:¬M b):w'.cell? ⟨b,off,none⟩=w.cell? ⟨b,off,none⟩:=
 World.cell?_of_block (w:=w) (h.2 b hb hM)
mutual
def C.dC{w w':World}{M M':Nat->Prop}(h:dV M w w')(hM:∀b,M' b->b<w.heap.size->M b):
 ∀(c:C)(y:Value),c.Den w M y->c.Den w' M' y
 |.v x,y,hd=>by simpa only[C.Den]using hd
 |.sl es l,y,hd=>by
  simp only[C.Den]at hd⊢;obtain⟨a,cap,hy,hc,hl⟩:=hd;refine⟨a,cap,hy,hc,hl.imp id ?_⟩;rintro⟨b,off,ha,hm,hb,hr⟩;exact⟨b,off,ha,λe=>hm (hM b e hb),cG hb h.1,C.G0 h hM b hb hm l off es hr⟩
 |.nl es,y,hd=>by simpa only[C.Den]using hd
 |.ip l,y,hd=>by
  simp[C.Den]at hd⊢;have⟨b,off,hy,hm,hb,hr⟩:=hd;exact⟨b,off,hy,λe=>hm (hM b e hb),cG hb h.1,C.B7 h hM b hb hm l off hr⟩
 |.im ks vs,y,hd=>by
  simp only[C.Den]at hd⊢;have⟨b,es,cl,l,hy,hm,hb,hk,hr⟩:=hd;have cX:b<w.heap.size:=(aL.1 hb).1;exact⟨b,es,cl,l,hy,λe=>hm (hM b e cX),(h.2 b cX hm).trans hb,hk,C.dK h hM vs _ hr⟩
 |.fn f first caps,y,hd=>by
  simp[C.Den]at hd⊢;have⟨us,vs,hy,h1,h2⟩:=hd;exact⟨us,vs,hy,C.dK h hM first _ h1,C.dK h hM caps _ h2⟩
 |.agg l,y,hd=>by
  simp[C.Den]at hd⊢;have⟨vs,hy,h0,h1⟩:=hd;exact⟨vs,hy,h0,C.dK h hM l _ h1⟩
 |.AE t c,y,hd=>by
  simp[C.Den]at hd⊢;obtain⟨v,hy,h1⟩:=hd;exact⟨v,hy,C.dC h hM c _ h1⟩
def C.dK{w w':World}{M M':Nat->Prop}(h:dV M w w')(hM:∀b,M' b->b<w.heap.size->M b):
 ∀(l:List C)(ys:List Value),C.bR w M l ys->C.bR w' M' l ys
 |[],ys,hd=>by simpa only[C.bR]using hd
 |c::r,ys,hd=>by
  simp only[C.bR]at hd⊢;obtain⟨y,yr,hy,h1,h2⟩:=hd;exact⟨y,yr,hy,C.dC h hM c y h1,C.dK h hM r yr h2⟩
def C.B7{w w':World}{M M':Nat->Prop}(h:dV M w w')(hM:∀b,M' b->b<w.heap.size->M b)(b:Nat)(hb:b<w.heap.size)(hm:¬M b):
 ∀(l:List C)(off:Nat),C.sS w M b off l->C.sS w' M' b off l
 |[],_,_=>by simp only[C.sS]
 |c::r,off,hd=>by
  simp only[C.sS]at hd⊢;obtain⟨⟨y,hy,h0,h1⟩,h2⟩:=hd;exact⟨⟨y,(h.cell hb hm).trans hy,h0,C.dC h hM c y h1⟩,C.B7 h hM b hb hm r (off+1) h2⟩
def C.G0{w w':World}{M M':Nat->Prop}(h:dV M w w')(hM:∀b,M' b->b<w.heap.size->M b)(b:Nat)(hb:b<w.heap.size)(hm:¬M b):
 ∀(l:List (List C))(off es:Nat),C.lS w M b es off l->C.lS w' M' b es off l
 |[],_,_,_=>by simp only[C.lS]
 |e::r,off,es,hd=>by
  simp only[C.lS]at hd⊢;obtain⟨h0,h1,h2⟩:=hd;exact⟨h0,C.B7 h hM b hb hm e off h1,C.G0 h hM b hb hm r (off+es) es h2⟩
end
inductive A where
 |d(c:C)
 |lp(i off:Nat)
 |h(i:Nat)
 |ep(i es k off:Nat)
 |sv(i lo n:Nat)
 |fn(f:Fn)(first caps:List A)
 |agg(l:List A)
 |eL(l:List A)
 |AE(t:TypeId)(a:A)
 |x
 deriving Inhabited
inductive R where
 |dead
 |cells(fz:Bool)(l:List A)
 |fW(fz:Bool)(t:TypeId)(es:Nat)(l:List (List A))
 |mp(fz:Bool)(kv:List (Ky×A))(st:List (Ky×Nat))
 |fr(l:List A)
 |it(i sc:Nat)(start seen:List Nat)
 |wL
 |AV
 |si(s:ByteArray)(pos:Nat)
 |lo(st:LoopState)(pend:Option Code)(ts:List A)(ps:Array Tmp)(asg bod:Code)
 |df(tk:Bool)
 |cu(src:A)(es:Nat)(l:List (List A))
 |di(cur:Option (Ky×C))(rest:List (Ky×C))
 deriving Inhabited
def R.live:R->Bool
 |.dead=>false
 |.cells fz _=> !fz
 |.fW fz _ _ _=> !fz
 |.mp fz _ _=> !fz
 |.fr _=>true
 |.it _ _ _ _=>true
 |.wL=>true
 |.AV=>true
 |.si _ _=>true
 |.lo _ _ _ _ _ _=>true
 |.df _=>true
 |.cu _ _ _=>false
 |.di _ _=>true
def blk:Value->Option Nat
 |.pointer (some a)=>some a.block
 |.slice (some a) _ c=>if c=0 then none else some a.block
 |.map (some b)=>some b
 |.func (.yield l) _ _=>some l
 |_=>none
abbrev Mem:=Nat->Option R
def dD(M0:Nat->Prop)(m:Mem)(ρ:Nat->Value)(b:Nat):Prop:=M0 b\/∃i r,m i=some r/\r.live=true/\blk (ρ i)=some b
def Has(m:Mem)(i:Nat)(p:Prop):Prop:=m i≠none/\(m i≠some .dead->p)
mutual
def A.Den(w:World)(M:Nat->Prop)(m:Mem)(ρ:Nat->Value):A->Value->Prop
 |.d c,y=>c.Den w M y
 |.lp i off,y=>Has m i (∃b,ρ i=.pointer (some ⟨b,0,none⟩)/\y=.pointer (some ⟨b,off,none⟩))
 |.h i,y=>Has m i (y=ρ i)
 |.ep i es k off,y=>Has m i (∃b o n cap,ρ i=.slice (some ⟨b,o,none⟩) n cap/\y=.pointer (some ⟨b,o+(k*es+off),none⟩))
 |.sv i lo n,y=>Has m i (∃a cap,y=.slice a n cap/\n<=cap/\∃es fz t l,m i=some (.fW fz t es l)/\lo+n<=l.length/\((n=0/\cap=0/\(a=none->l.length=0))\/∃b o n' cap',ρ i=.slice (some ⟨b,o,none⟩) n' cap'/\a=some ⟨b,o+lo*es,none⟩/\lo+cap<=cap'))
 |.fn f first caps,y=>∃us vs,y=.func f us vs/\A.bR w M m ρ first us.toList/\A.bR w M m ρ caps vs.toList
 |.agg l,y=>∃vs,y=.agg vs/\(∀u∈vs.toList,u.oneCell'=true)/\A.bR w M m ρ l vs.toList
 |.eL l,y=>∃vs,y=.tuple vs/\A.bR w M m ρ l vs.toList
 |.AE t a,y=>∃v,y=.iface t v/\A.Den w M m ρ a v
 |.x,_=>True
def A.bR(w:World)(M:Nat->Prop)(m:Mem)(ρ:Nat->Value):List A->List Value->Prop
 |[],ys=>ys=[]
 |c::r,ys=>∃y yr,ys=y::yr/\A.Den w M m ρ c y/\A.bR w M m ρ r yr
end
def vV(w:World)(t:TypeId)(es:Nat)(h:Value)(n:Nat)(xs:List Value):Prop:=
 (xs=[]/\n=0/\∃a,h=.slice (some a) 0 0)\/
 (xs.length=n*es/\∃g o cap cur,h=.slice (some ⟨g,o,none⟩) n cap/\0<cap/\w.heap[g]?=some (.cells cur t (0,0))/\n<=cap/\cap<=maxLen/\o+cap*es<=cur.size/\(cur.toList.drop o).take (n*es)=xs)
def dX(ρ:Nat->Value)(i:Nat):Nat:=match ρ i with
 |.int _ n=>n.toNat
 |_=>0
def FA(m:Mem)(ids:List Nat)(p:Prop):Prop:=(∀i∈ids,m i≠none)/\((∀i∈ids,m i≠some .dead)->p)
def vW(m:Mem)(ρ:Nat->Value)(st:List (Ky×Nat))(l:List MapEntry)(clock:Nat):Prop:=∀p∈st,Has m p.2 ((∀e∈l,e.key=p.1.val->e.born=dX ρ p.2)/\dX ρ p.2<=clock/\(p.1=.agg []->dX ρ p.2=clock))
def U9(m:Mem)(ρ:Nat->Value)(start seen:List Nat)(since:Nat)(sa:Array Nat):Prop:=
 (∀i∈seen,i∈start)/\FA m start (start.Nodup/\(start.map (dX ρ)).Nodup/\(∀i∈start,dX ρ i<since/\(sa.contains (dX ρ i)=decide (i∈seen)))/\(∀i∈seen,i∈start)/\sa.back?=seen.head?.map (dX ρ))
def W9(w:World)(M:Nat->Prop)(es:Array MapEntry)(sa:Array Nat)(cur:Option (Ky×C)):Prop:=∀p,cur=some p->∃e∈es.toList,sa.back?=some e.born/\e.key=p.1.val/\C.Den w M p.2 e.val
def W9.mono(h:dV M w w')(hM:∀b,M' b->b<w.heap.size->M b){es:Array MapEntry}{sa:Array Nat}{cur:Option (Ky×C)}(hd:W9 w M es sa cur):W9 w' M' es sa cur:=by
 intro p hp;have⟨e,h1,h2,h3,h4⟩:=hd p hp;exact⟨e,h1,h2,h3,C.dC h hM _ _ h4⟩
def R.Ok(w:World)(M:Nat->Prop)(m:Mem)(ρ:Nat->Value)(h:Value):R->Prop
 |.dead=>True
 |.cells fz l=>∃b cs t,h=.pointer (some ⟨b,0,none⟩)/\w.heap[b]?=some (.cells cs t (0,0))/\A.bR w M m ρ l cs.toList/\(fz=true->¬M b)/\∀u∈cs.toList,u.oneCell'=true
 |.fW fz t es l=>∃xs,vV w t es h l.length xs/\A.bR w M m ρ l.flatten xs/\(∀e∈l,e.length=es)/\(fz=true->∀b,blk h=some b->¬M b)/\∀u∈xs,u.oneCell'=true
 |.mp fz kv st=>∃b es clock l,h=.map (some b)/\w.heap[b]?=some (.map es clock)/\M4 es clock (kv.map (·.1)) l/\A.bR w M m ρ (kv.map (·.2)) (l.map (·.val))/\(fz=true->¬M b)/\vW m ρ st l clock
 |.fr l=>∃vs,h=.tuple vs/\A.bR w M m ρ l vs.toList
 |.it i sc start seen=>∃b mb since sa,h=.pointer (some ⟨b,0,none⟩)/\w.heap[b]?=some (.mapIter (some mb) since sa since)/\Has m i (ρ i=.map (some mb))/\Has m sc (dX ρ sc=since)/\U9 m ρ start seen since sa
 |.wL=>∃n:Nat,h=.int .i64 n
 |.AV=>∃b,h=.pointer (some ⟨b,0,none⟩)/\w.heap[b]?=some (.mapIter none 0 #[] 0)
 |.si s pos=>∃b,h=.pointer (some ⟨b,0,none⟩)/\w.heap[b]?=some (.stringIter s pos)
 |.lo st pend ts ps asg bod=>∃l fn vs D,h=.func (.yield l) #[] #[]/\w.heap[l]?=some (.loop {state:=st,pending:=pend,fn:=fn,tmps:=vs,params:=ps,assign:=asg,body:=bod,defers:=D})/\A.bR w M m ρ ts vs.toList
 |.df tk=>∃b,h=.pointer (some ⟨b,0,none⟩)/\w.heap[b]?=some (.deferred (if tk then none else some []))
 |.cu src es l=>∃a,h=.slice a l.length l.length/\A.Den w M m ρ src h/\(∀e∈l,e.length=es)/\(l=[]\/∃b off xs,a=some ⟨b,off,none⟩/\¬M b/\b<w.heap.size/\A.bR w M m ρ l.flatten xs/\(∀u∈xs,u.oneCell'=true)/\∀(j:Nat)(v:Value),xs[j]?=some v->w.cell? ⟨b,off+j,none⟩=some v)
 |.di cur rest=>∃b mb es cl sa ll,h=.pointer (some ⟨b,0,none⟩)/\w.heap[b]?=some (.mapIter (some mb) cl sa cl)/\¬M mb/\w.heap[mb]?=some (.map es cl)/\(∀e∈es.toList,e.born<cl)/\(es.toList.map (·.born)).Nodup/\(es.toList.filter (λe=> !sa.contains e.born)).Perm ll/\ll.map (·.key)=rest.map (·.1.val)/\C.bR w M (rest.map (·.2)) (ll.map (·.val))/\W9 w M es sa cur
def gL(m m':Mem)(ρ ρ':Nat->Value):Prop:=∀i,m i≠none->m' i≠none/\(m' i≠some .dead->m i≠some .dead/\ρ' i=ρ i/\∀fz t es l,m i=some (.fW fz t es l)->∃fz' t' l',m' i=some (.fW fz' t' es l')/\l'.length=l.length)
def Has.mono{m m':Mem}(hO:gL m m' ρ ρ'){i:Nat}{p q:Prop}(h:Has m i p)
 (hpq:ρ' i=ρ i->(∀fz t es l,m i=some (.fW fz t es l)->∃fz' t' l',m' i=some (.fW fz' t' es l')/\l'.length=l.length)->p->q):Has m' i q:=by
 have⟨h1,h2⟩:=hO i h.1;exact⟨h1,λhd=>hpq (h2 hd).2.1 (h2 hd).2.2 (h.2 (h2 hd).1)⟩
def FA.mono{m m':Mem}(hO:gL m m' ρ ρ'){ids:List Nat}{p q:Prop}(h:FA m ids p)(hpq:(∀i∈ids,dX ρ' i=dX ρ i)->p->q):FA m' ids q:=by
 refine⟨λi hi=>(hO i (h.1 i hi)).1,λhd=>hpq (λi hi=>?_) (h.2 λi hi=>((hO i (h.1 i hi)).2 (hd i hi)).1)⟩;unfold dX;rw[((hO i (h.1 i hi)).2 (hd i hi)).2.1]
def vW.mono{m m':Mem}{ρ ρ':Nat->Value}(hO:gL m m' ρ ρ'){st:List (Ky×Nat)}{l:List MapEntry}{cl:Nat}(h:vW m ρ st l cl):vW m' ρ' st l cl:=
 λp hp=>(h p hp).mono hO λhe _ q=>by
  have e1:dX ρ' p.2=dX ρ p.2:=by unfold dX;rw[he]
  rw[e1];exact q
def U9.mono{m m':Mem}{ρ ρ':Nat->Value}(hO:gL m m' ρ ρ'){start seen:List Nat}{since:Nat}{sa:Array Nat}(h:U9 m ρ start seen since sa):U9 m' ρ' start seen since sa:=
 ⟨h.1,FA.mono hO h.2 λhe⟨h0,h1,h2,h3,h4⟩=>⟨h0,by rw[cQ he];exact h1,λi hi=>by rw[he i hi];exact h2 i hi,h3,by
   rw[h4];cases seen with
   |nil=>rfl
   |cons s r=>simp[List.head?_cons,dF];rw[he s (h3 s sM)]⟩⟩
mutual
def A.dC{w w':World}{M M':Nat->Prop}{m m':Mem}{ρ ρ':Nat->Value}(h:dV M w w')(hM:∀b,M' b->b<w.heap.size->M b)(hO:gL m m' ρ ρ'):
 ∀(a:A)(y:Value),a.Den w M m ρ y->a.Den w' M' m' ρ' y
 |.d c,y,hd=>by
  simp only[A.Den]at hd⊢;exact C.dC h hM c y hd
 |.lp i off,y,hd=>by
  simp only[A.Den]at hd⊢;exact hd.mono hO λe _⟨b,h1,h2⟩=>⟨b,e.trans h1,h2⟩
 |.h i,y,hd=>by
  simp only[A.Den]at hd⊢;exact hd.mono hO λe _ h1=>h1.trans e.symm
 |.ep i es k off,y,hd=>by
  simp only[A.Den]at hd⊢;exact hd.mono hO λe _⟨b,o,n,cap,h1,h2⟩=>⟨b,o,n,cap,e.trans h1,h2⟩
 |.sv i lo n,y,hd=>by
  simp only[A.Den]at hd⊢;refine hd.mono hO λe e2⟨a,cap,h1,h2,es,fz,t,l,h5,h6,h3⟩=>?_;obtain⟨fz',t',l',h7,h8⟩:=e2 fz t es l h5;exact⟨a,cap,h1,h2,es,fz',t',l',h7,oM,h3.imp (λ⟨q1,q0,q2⟩=>⟨q1,q0,λq=>by rw[h8];exact q2 q⟩) λ⟨b,o,n',cap',h9,h10⟩=>⟨b,o,n',cap',e.trans h9,h10⟩⟩
 |.fn f first caps,y,hd=>by
  simp[A.Den]at hd⊢;have⟨us,vs,hy,h1,h2⟩:=hd;exact⟨us,vs,hy,A.dK h hM hO first _ h1,A.dK h hM hO caps _ h2⟩
 |.agg l,y,hd=>by
  simp[A.Den]at hd⊢;have⟨vs,hy,h0,h1⟩:=hd;exact⟨vs,hy,h0,A.dK h hM hO l _ h1⟩
 |.eL l,y,hd=>by
  simp[A.Den]at hd⊢;have⟨vs,hy,h1⟩:=hd;exact⟨vs,hy,A.dK h hM hO l _ h1⟩
 |.AE t a,y,hd=>by
  simp[A.Den]at hd⊢;have⟨v,hy,h1⟩:=hd;exact⟨v,hy,A.dC h hM hO a _ h1⟩
 |.x,y,hd=>by simp[A.Den]
def A.dK{w w':World}{M M':Nat->Prop}{m m':Mem}{ρ ρ':Nat->Value}(h:dV M w w')(hM:∀b,M' b->b<w.heap.size->M b)(hO:gL m m' ρ ρ'):
 ∀(l:List A)(ys:List Value),A.bR w M m ρ l ys->A.bR w' M' m' ρ' l ys
 |[],ys,hd=>by simpa only[A.bR]using hd
 |c::r,ys,hd=>by
  simp only[A.bR]at hd⊢;obtain⟨y,yr,hy,h1,h2⟩:=hd;exact⟨y,yr,hy,A.dC h hM hO c y h1,A.dK h hM hO r yr h2⟩
end
structure iF(S:Nat->Prop)(w w':World):Prop where
 os:w'.os=w.os
 tape:w'.tape=w.tape
 output:w'.output=w.output
 size:w.heap.size<=w'.heap.size
 block:∀b,b<w.heap.size->¬S b->w'.heap[b]?=w.heap[b]?
def iF.refl(S:Nat->Prop)(w:World):iF S w w:=⟨rfl,rfl,rfl,bT _,λ_ _ _=>rfl⟩
def iF.trans{S S':Nat->Prop}{a b c:World}(h:iF S a b)(k:iF S' b c)(hs:∀i,i<a.heap.size->S' i->S i):iF S a c:=
 ⟨k.os.trans h.os,k.tape.trans h.tape,k.output.trans h.output,cL h.size k.size,
  λi hi hn=>(k.block i (cG hi h.size) (λe=>hn (hs i hi e))).trans (h.block i hi hn)⟩
def iF.stays{S:Nat->Prop}{a b:World}(h:iF S a b)(hs:∀i,i<a.heap.size->S i->M i):dV M a b:=⟨h.size,λi hi hn=>h.block i hi λe=>hn (hs i hi e)⟩
inductive DA where
 |call(f:Fn)(args caps:List A)
 |s4(i:Nat)
 |bi(b:Builtin)(tys:Array TypeId)(ty:TypeId)(cs:Array Bool)(args:List A)
 |SK(d:Deferred)
 deriving Inhabited
def iM(w:World)(M:Nat->Prop)(m:Mem)(ρ:Nat->Value):List DA->List Deferred->Prop
 |[],ds=>ds=[]
 |.call f as cs::r,ds=>∃vs us rest,ds={target:=.fn f us,args:=vs}::rest/\A.bR w M m ρ as vs.toList/\A.bR w M m ρ cs us.toList/\iM w M m ρ r rest
 |.bi b tys ty cs as::r,ds=>∃vs rest,ds={target:=.builtin b tys ty cs,args:=vs}::rest/\A.bR w M m ρ as vs.toList/\iM w M m ρ r rest
 |.s4 i::r,ds=>∃D rest,ds={target:=.collected D,args:= #[]}::rest/\Has m i (ρ i=.pointer (some ⟨D,0,none⟩))/\iM w M m ρ r rest
 |.SK d::r,ds=>∃rest,ds=d::rest/\iM w M m ρ r rest
def eJ{w w':World}{M M':Nat->Prop}{m m':Mem}{ρ ρ':Nat->Value}(h:dV M w w')(hM:∀b,M' b->b<w.heap.size->M b)(hO:gL m m' ρ ρ'):
 ∀(l:List DA)(ds:List Deferred),iM w M m ρ l ds->iM w' M' m' ρ' l ds
 |[],ds,hd=>hd
 |.call f as cs::r,ds,⟨vs,us,rest,e,h1,h2,h3⟩=>⟨vs,us,rest,e,A.dK h hM hO _ _ h1,A.dK h hM hO _ _ h2,eJ h hM hO r rest h3⟩
 |.bi b tys ty cs as::r,ds,⟨vs,rest,e,h1,h3⟩=>⟨vs,rest,e,A.dK h hM hO _ _ h1,eJ h hM hO r rest h3⟩
 |.s4 i::r,ds,⟨D,rest,e,h1,h3⟩=>⟨D,rest,e,h1.mono hO λe _ q=>e.trans q,eJ h hM hO r rest h3⟩
 |.SK d::r,ds,⟨rest,e,h3⟩=>⟨rest,e,eJ h hM hO r rest h3⟩
structure Fr where
 n:Nat
 ds:Option (List DA)
structure bC(M0 S0:Nat->Prop)(w0:World)(N:Fr)(T:Nat->A)(m:Mem)(ρ:Nat->Value)(a:Act)(w:World):Prop where
 keeps:iF S0 w0 w
 size:a.tmps.size=N.n
 defers:∀ds,N.ds=some ds->iM w (dD M0 m ρ) m ρ ds a.defers
 tmps:∀n,(T n).Den w (dD M0 m ρ) m ρ (a.tmps.getD n undef)
 res:∀i r,m i=some r->r.Ok w (dD M0 m ρ) m ρ (ρ i)
 own:∀i r b,m i=some r->r.live=true->blk (ρ i)=some b->(w0.heap.size<=b\/S0 b)/\¬M0 b/\b<w.heap.size
 apart:∀i j r r' b,m i=some r->r.live=true->m j=some r'->r'.live=true->blk (ρ i)=some b->blk (ρ j)=some b->i=j
def lI(T:Nat->A)(d:Option Nat)(v:A):Nat->A:=λn=>if d=some n then v else T n
def aX(m:Mem)(i:Nat)(r:R):Mem:=λn=>if n=i then some r else m n
def dW(ρ:Nat->Value)(i:Nat)(h:Value):Nat->Value:=λn=>if n=i then h else ρ n
def gL.refl(m:Mem)(ρ:Nat->Value):gL m m ρ ρ:=λi h=>⟨h,λhd=>⟨hd,rfl,λfz t es l e=>⟨fz,t,l,e,rfl⟩⟩⟩
def dV.refl(M:Nat->Prop)(w:World):dV M w w:=⟨bT _,λ_ _ _=>rfl⟩
def R.hU{m m':Mem}(h:dV M w w')(hM:∀b,M' b->b<w.heap.size->M b)(hO:gL m m' ρ ρ')
 {hd:Value}(hb:∀b,blk hd=some b->b<w.heap.size->w'.heap[b]?=w.heap[b]?){r:R}(hr:r.Ok w M m ρ hd):r.Ok w' M' m' ρ' hd:=by
 cases r with
 |dead=>trivial
 |cells fz l=>
  obtain⟨b,cs,t,rfl,h1,h2,h3,h4⟩:=hr;have cX:b<w.heap.size:=(aL.1 h1).1;exact⟨b,cs,t,rfl,(hb b rfl cX).trans h1,A.dK h hM hO l _ h2,λe f=>h3 e (hM b f cX),h4⟩
 |fW fz t es l=>
  obtain⟨xs,h1,h2,h3,h4,h5⟩:=hr;refine⟨xs,?_,A.dK h hM hO _ _ h2,h3,?_,h5⟩
  ·rcases h1 with hn|⟨hl,g,og,cap,cur,rfl,hp,hh,rest⟩
   ·exact .inl hn
   ·exact .inr ⟨hl,g,og,cap,cur,rfl,hp,(hb g (by simp[blk];omega) (aL.1 hh).1).trans hh,rest⟩
  ·intro e b BO f;rcases h1 with⟨_,_,a,rfl⟩|⟨hl,g,og,cap,cur,rfl,hp,hh,rest⟩
   ·cases a<;>simp[blk]at BO
   ·simp[blk]at BO;obtain⟨_,rfl⟩:=BO;exact h4 e _ (by simp[blk];omega) (hM _ f (aL.1 hh).1)
 |mp fz kv st=>
  obtain⟨b,es,cl,l,rfl,h1,h2,h3,h4,h5⟩:=hr;have cX:b<w.heap.size:=(aL.1 h1).1;exact⟨b,es,cl,l,rfl,(hb b rfl cX).trans h1,h2,A.dK h hM hO _ _ h3,λe f=>h4 e (hM b f cX),h5.mono hO⟩
 |fr l=>
  obtain⟨vs,rfl,h1⟩:=hr;exact⟨vs,rfl,A.dK h hM hO _ _ h1⟩
 |it i sc start seen=>
  obtain⟨b,mb,si,sa,rfl,h1,h2,h5,h4⟩:=hr;have cX:b<w.heap.size:=(aL.1 h1).1;exact⟨b,mb,si,sa,rfl,(hb b rfl cX).trans h1,h2.mono hO λe _ q=>e.trans q,h5.mono hO λe _ q=>by unfold dX at q⊢;rw[e];exact q,h4.mono hO⟩
 |wL=>exact hr
 |AV=>
  obtain⟨b,rfl,h1⟩:=hr;exact⟨b,rfl,(hb b rfl (aL.1 h1).1).trans h1⟩
 |si s pos=>
  obtain⟨b,rfl,h1⟩:=hr;exact⟨b,rfl,(hb b rfl (aL.1 h1).1).trans h1⟩
 |lo st pend ts ps asg bod=>
  obtain⟨l,fn,vs,D,rfl,h1,h2⟩:=hr;exact⟨l,fn,vs,D,rfl,(hb l rfl (aL.1 h1).1).trans h1,A.dK h hM hO _ _ h2⟩
 |df tk=>
  obtain⟨b,rfl,h1⟩:=hr;exact⟨b,rfl,(hb b rfl (aL.1 h1).1).trans h1⟩
 |di cur rest=>
  obtain⟨b,mb,es,cl,sa,ll,rfl,h1,h2,h3,h4,h5,h6,h7,h8,h9⟩:=hr;have cX:mb<w.heap.size:=(aL.1 h3).1;exact⟨b,mb,es,cl,sa,ll,rfl,(hb b rfl (aL.1 h1).1).trans h1,λf=>h2 (hM mb f cX),(h.2 mb cX h2).trans h3,h4,h5,h6,h7,C.dK h hM _ _ h8,h9.mono h hM⟩
 |cu src es l=>
  obtain⟨a,rfl,h1,h2,h3⟩:=hr;refine⟨a,rfl,A.dC h hM hO _ _ h1,h2,h3.imp id ?_⟩;rintro⟨b,off,xs,e,h4,h5,h6,h7,h8⟩;exact⟨b,off,xs,e,λf=>h4 (hM b f h5),cG h5 h.1,A.dK h hM hO _ _ h6,h7,λj v hj=>(h.cell h5 h4).trans (h8 j v hj)⟩
def aCI{m:Mem}{h:Value}{src:A}{l:List (List A)}(hok:R.Ok w M m ρ h (.cu src es l)){b:Nat}(hb:blk h=some b):¬M b:=by
 obtain⟨a,rfl,_,_,h3⟩:=hok;rcases h3 with rfl|⟨b',off,xs,rfl,h4,_⟩
 ·cases a<;>simp[blk]at hb
 ·simp[blk]at hb;obtain⟨_,rfl⟩:=hb;exact h4
section
variable{M0 S0:Nat->Prop}{w0:World}{N:Fr}{T:Nat->A}{m:Mem}{ρ:Nat->Value}{a:Act}{w:World}
def aDB(a:Act)(d:Option Nat)(y:Value)(hd:∀n,d=some n->n<a.tmps.size)(n:Nat):
 (a.put d y).tmps.getD n undef=if d=some n then y else a.tmps.getD n undef:=by
 cases d with
 |none=>simp[Act.put]
 |some d=>
  have hd':=hd d rfl;by_cases e:d=n
  ·subst e;simp[Act.put,Array.getD,hd']
  ·simp only[Act.put,aA,e,if_false];rw[cZ,cZ,aB3 e]
def bC.put(h:bC M0 S0 w0 N T m ρ a w)(d:Option Nat)(hd:∀n,d=some n->n<N.n){v:A}{y:Value}(hv:v.Den w (dD M0 m ρ) m ρ y):
 bC M0 S0 w0 N (lI T d v) m ρ (a.put d y) w where
 keeps:=h.keeps
 size:=by rw[<-h.size];cases d<;>simp[Act.put]
 defers:=by have:=h.defers;cases d<;>exact this
 tmps:=by
  intro n;rw[aDB a d y (by rw[h.size];exact hd)];unfold lI;split
  ·exact hv
  ·exact h.tmps n
 res:=h.res
 own:=h.own
 apart:=h.apart
def bC.shrink(h:bC M0 S0 w0 N T m ρ a w){M1:Nat->Prop}(hM:∀b,M1 b->M0 b):bC M1 S0 w0 N T m ρ a w:=by
 have hm:∀b,dD M1 m ρ b->b<w.heap.size->dD M0 m ρ b:=λb hb _=>hb.imp (hM b) id
 exact{keeps:=h.keeps,size:=h.size,defers:=λds e=>eJ (dV.refl _ w) hm (gL.refl m ρ) _ _ (h.defers ds e)
       tmps:=λn=>A.dC (dV.refl _ w) hm (gL.refl m ρ) _ _ (h.tmps n)
       res:=λi r hi=>R.hU (dV.refl _ w) hm (gL.refl m ρ) (λ_ _ _=>rfl) (h.res i r hi)
       own:=λi r b hi hl hb=>let⟨x,y,z⟩:=h.own i r b hi hl hb;⟨x,λe=>y (hM b e),z⟩
       apart:=h.apart}
def bC.world(h:bC M0 S0 w0 N T m ρ a w){X:Nat->Prop}{w':World}(hk:iF X w w')(hX:∀b,b<w.heap.size->X b->M0 b/\(w0.heap.size<=b\/S0 b)):
 bC (λb=>M0 b\/w.heap.size<=b) S0 w0 N T m ρ a w':=by
 have HG:dV (dD M0 m ρ) w w':=hk.stays λb hb hx=>.inl (hX b hb hx).1;have hm:∀b,dD (λb=>M0 b\/w.heap.size<=b) m ρ b->b<w.heap.size->dD M0 m ρ b:=λb hb cX=>hb.imp (λe=>e.resolve_right oM) id
 refine{keeps:=h.keeps.trans hk λb hb hx=>?_,size:=h.size,defers:=λds e=>eJ HG hm (gL.refl m ρ) _ _ (h.defers ds e)
        tmps:=λn=>A.dC HG hm (gL.refl m ρ) _ _ (h.tmps n)
        res:=λi r hi=>?_
        own:=λi r b hi hl hb=>?_
        apart:=h.apart}
 ·rcases(hX b (cG hb h.keeps.size) hx).2 with e|e
  ·omega
  ·exact e
 ·by_cases hl:r.live=true
  ·refine R.hU HG hm (gL.refl m ρ) (λb hb cX=>?_) (h.res i r hi);exact hk.block b cX λe=>(h.own i r b hi hl hb).2.1 (hX b cX e).1
  ·
   have hok:=h.res i r hi;cases r with
   |dead=>trivial
   |cells fz l=>
    simp[R.live]at hl;refine R.hU HG hm (gL.refl m ρ) (λb hb cX=>?_) hok;obtain⟨b',cs,t,e1,h1,h2,h3,_⟩:=hok;rw[e1]at hb;simp[blk]at hb;subst hb;exact HG.2 _ cX (h3 hl)
   |fW fz t es l=>
    simp[R.live]at hl;refine R.hU HG hm (gL.refl m ρ) (λb hb cX=>?_) hok;obtain⟨xs,h1,h2,h3,h4,_⟩:=hok;exact HG.2 _ cX (h4 hl b hb)
   |mp fz kv st=>
    simp[R.live]at hl;refine R.hU HG hm (gL.refl m ρ) (λb hb cX=>?_) hok;obtain⟨b',es,cl,l,e1,h1,h2,h3,h4,h5⟩:=hok;rw[e1]at hb;simp[blk]at hb;subst hb;exact HG.2 _ cX (h4 hl)
   |cu src es l=>exact R.hU HG hm (gL.refl m ρ) (λb hb cX=>HG.2 _ cX (aCI hok hb)) hok
   |_=>simp[R.live]at hl
 ·obtain⟨x,y,z⟩:=h.own i r b hi hl hb;exact⟨x,λe=>e.elim y oM,cG z hk.size⟩
def gL.set{m:Mem}(i:Nat)(r:R)(h':Value)
 (hi:m i≠none->r≠.dead->m i≠some .dead/\h'=ρ i/\∀fz t es l,m i=some (.fW fz t es l)->∃fz' t' l',r=.fW fz' t' es l'/\l'.length=l.length):gL m (aX m i r) ρ (dW ρ i h'):=by
 intro n hn;by_cases e:n=i
 ·subst e;refine⟨by simp[aX],λhd=>?_⟩;have hr:r≠.dead:=λe=>hd (by simp[aX,e]);have⟨h1,h2,h3⟩:=hi hn hr;exact⟨h1,by simp[dW,h2],λfz t es l e=>by have⟨a,b,c,d,f⟩:=h3 fz t es l e;exact⟨a,b,c,by simp[aX,d],f⟩⟩
 ·exact⟨by simpa [aX,e]using hn,λhd=>⟨by simpa [aX,e]using hd,by simp[dW,e],λfz t es l h=>⟨fz,t,l,by simpa [aX,e]using h,rfl⟩⟩⟩
def gL.trans{m1 m2 m3:Mem}{ρ1 ρ2 ρ3:Nat->Value}(h:gL m1 m2 ρ1 ρ2)(k:gL m2 m3 ρ2 ρ3):gL m1 m3 ρ1 ρ3:=by
 intro i hi;have⟨h1,h2⟩:=h i hi;have⟨k1,k2⟩:=k i h1;refine⟨k1,λhd=>?_⟩;have⟨k3,k4,k5⟩:=k2 hd;have⟨h3,h4,h5⟩:=h2 k3;refine⟨h3,k4.trans h4,λfz t es l e=>?_⟩;have⟨fz',t',l',e1,e2⟩:=h5 fz t es l e;have⟨fz2,t2,l2,e3,e4⟩:=k5 _ _ _ _ e1;exact⟨fz2,t2,l2,e3,e4.trans e2⟩
def gL.new{m:Mem}(r:R)(h':Value)(hi:m i=none):gL m (aX m i r) ρ (dW ρ i h'):=gL.set i r h' λe=>absurd hi e
def jP(ρ:Nat->Value)(i:Nat):dW ρ i (ρ i)=ρ:=by
 funext n;unfold dW;split<;>simp_all
def bC.other(h:bC M0 S0 w0 N T m ρ a w){i j:Nat}{r r':R}{b:Nat}(hi:m i=some r)(hl:r.live=true)(hb:blk (ρ i)=some b)(hj:m j=some r')(hd:r'≠.dead)(hZ:j≠i):
 blk (ρ j)≠some b:=by
 intro e;by_cases qK:r'.live=true
 ·exact hZ (h.apart j i r' r b hj qK hi hl e hb)
 ·have aXP:dD M0 m ρ b:=.inr ⟨i,r,hi,hl,hb⟩;have hok:=h.res j r' hj;cases r' with
  |dead=>exact hd rfl
  |cells fz l=>
   simp[R.live]at qK;obtain⟨b',cs,t,e1,h1,h2,h3,_⟩:=hok;rw[e1]at e;simp[blk]at e;subst e;exact h3 qK aXP
  |fW fz t es l=>
   simp[R.live]at qK;obtain⟨xs,h1,h2,h3,h4,_⟩:=hok;exact h4 qK b e aXP
  |mp fz kv st=>
   simp[R.live]at qK;obtain⟨b',es,cl,l,e1,h1,h2,h3,h4,h5⟩:=hok;rw[e1]at e;simp[blk]at e;subst e;exact h4 qK aXP
  |cu src es l=>exact aCI hok e aXP
  |_=>simp[R.live]at qK
def s7{r:R}(h:r.live=true):r≠.dead:=by rintro rfl;simp[R.live]at h
def bC.kill(h:bC M0 S0 w0 N T m ρ a w){i:Nat}{r:R}(hi:m i=some r)(hl:r.live=true):
 bC (λb=>M0 b\/blk (ρ i)=some b) S0 w0 N T (aX m i .dead) ρ a w:=by
 have hO:gL m (aX m i .dead) ρ ρ:=by
  have:=gL.set (m:=m) (ρ:=ρ) i .dead (ρ i) (λ_ e=>absurd rfl e)
  rwa [jP]at this
 have hm:∀b,dD (λb=>M0 b\/blk (ρ i)=some b) (aX m i .dead) ρ b->b<w.heap.size->dD M0 m ρ b:=by
  rintro b ((e|e)|⟨j,r',hj,qK,hb⟩) _
  ·exact .inl e
  ·exact .inr ⟨i,r,hi,hl,e⟩
  ·by_cases e:j=i
   ·subst e;simp[aX]at hj;subst hj;simp[R.live]at qK
   ·exact .inr ⟨j,r',by simpa [aX,e]using hj,qK,hb⟩
 refine{keeps:=h.keeps,size:=h.size,defers:=λds e=>eJ (dV.refl _ w) hm hO _ _ (h.defers ds e)
        tmps:=λn=>A.dC (dV.refl _ w) hm hO _ _ (h.tmps n)
        res:=λj r' hj=>?_,own:=λj r' b hj qK hb=>?_,apart:=λj k r1 r2 b h1 l1 h2 l2 b1 b2=>?_}
 ·by_cases e:j=i
  ·subst e;simp[aX]at hj;subst hj;trivial
  ·exact R.hU (dV.refl _ w) hm hO (λ_ _ _=>rfl) (h.res j r' (by simpa [aX,e]using hj))
 ·have e:j≠i:=by rintro rfl;simp[aX]at hj;subst hj;simp[R.live]at qK
  have QB:m j=some r':=by simpa [aX,e]using hj
  obtain⟨x,y,z⟩:=h.own j r' b QB qK hb;exact⟨x,λf=>f.elim y λf=>h.other hi hl f QB (s7 qK) e hb,z⟩
 ·have e1:j≠i:=by rintro rfl;simp[aX]at h1;subst h1;simp[R.live]at l1
  have e2:k≠i:=by rintro rfl;simp[aX]at h2;subst h2;simp[R.live]at l2
  exact h.apart j k r1 r2 b (by simpa [aX,e1]using h1) l1 (by simpa [aX,e2]using h2) l2 b1 b2
def bC.aI5{M1:Nat->Prop}(h:bC M1 S0 w0 N T m ρ a w){j:Nat}(hj:m j=none){r':R}{h':Value}(hM0:∀b,M0 b->M1 b/\blk h'≠some b)
 (hb:∀b,blk h'=some b->M1 b/\(w0.heap.size<=b\/S0 b)/\b<w.heap.size)(hl:r'.live=true)
 (hok:R.Ok w (dD M0 (aX m j r') (dW ρ j h')) (aX m j r') (dW ρ j h') h' r'):bC M0 S0 w0 N T (aX m j r') (dW ρ j h') a w:=by
 have hO:gL m (aX m j r') ρ (dW ρ j h'):=gL.set j r' h' λe=>absurd hj e;have hm:∀b,dD M0 (aX m j r') (dW ρ j h') b->b<w.heap.size->dD M1 m ρ b:=by
  rintro b (e|⟨i,r,hi,qK,BO⟩) _
  ·exact .inl (hM0 b e).1
  ·by_cases e:i=j
   ·subst e;simp[dW]at BO;exact .inl (hb b BO).1
   ·exact .inr ⟨i,r,by simpa [aX,e]using hi,qK,by simpa [dW,e]using BO⟩
 refine{keeps:=h.keeps,size:=h.size,defers:=λds e=>eJ (dV.refl _ w) hm hO _ _ (h.defers ds e)
        tmps:=λn=>A.dC (dV.refl _ w) hm hO _ _ (h.tmps n)
        res:=λi r hi=>?_,own:=λi r b hi qK BO=>?_,apart:=λi k r1 r2 b h1 l1 h2 l2 b1 b2=>?_}
 ·by_cases e:i=j
  ·subst e;simp[aX]at hi;subst hi;simpa [dW]using hok
  ·have:=R.hU (dV.refl _ w) hm hO (λ_ _ _=>rfl) (h.res i r (by simpa [aX,e]using hi));simpa [dW,e]using this
 ·by_cases e:i=j
  ·subst e;simp[dW]at BO;obtain⟨x,y,z⟩:=hb b BO;exact⟨y,λf=>(hM0 b f).2 BO,z⟩
  ·obtain⟨x,y,z⟩:=h.own i r b (by simpa [aX,e]using hi) qK (by simpa [dW,e]using BO);exact⟨x,λf=>y (hM0 b f).1,z⟩
 ·by_cases e1:i=j
  ·by_cases e2:k=j
   ·rw[e1,e2]
   ·subst e1;simp[dW]at b1;have:=(h.own k r2 b (by simpa [aX,e2]using h2) l2 (by simpa [dW,e2]using b2)).2.1;exact absurd (hb b b1).1 this
  ·by_cases e2:k=j
   ·subst e2;simp[dW]at b2;have:=(h.own i r1 b (by simpa [aX,e1]using h1) l1 (by simpa [dW,e1]using b1)).2.1;exact absurd (hb b b2).1 this
   ·exact h.apart i k r1 r2 b (by simpa [aX,e1]using h1) l1 (by simpa [aX,e2]using h2) l2 (by simpa [dW,e1]using b1) (by simpa [dW,e2]using b2)
def bC.write(h:bC M0 S0 w0 N T m ρ a w){i:Nat}{r r':R}(hi:m i=some r)(hl:r.live=true)(qK:r'.live=true)
 (wP:∀fz t es l,r=.fW fz t es l->∃fz' t' l',r'=.fW fz' t' es l'/\l'.length=l.length){X:Nat->Prop}{w':World}(hk:iF X w w')(hX:∀b,b<w.heap.size->X b->blk (ρ i)=some b)
 (hok:gL m (aX m i r') ρ ρ->dV (dD M0 m ρ) w w'->(∀b,dD M0 (aX m i r') ρ b->b<w.heap.size->dD M0 m ρ b)->R.Ok w' (dD M0 (aX m i r') ρ) (aX m i r') ρ (ρ i) r'):
 bC M0 S0 w0 N T (aX m i r') ρ a w':=by
 have hO:gL m (aX m i r') ρ ρ:=by
  have:=gL.set (m:=m) (ρ:=ρ) i r' (ρ i) (λ_ _=>⟨by rw[hi];simpa using s7 hl,rfl,λfz t es l e=>wP fz t es l (by rw[hi]at e;simpa using e)⟩)
  rwa [jP]at this
 have hm:∀b,dD M0 (aX m i r') ρ b->b<w.heap.size->dD M0 m ρ b:=by
  rintro b (e|⟨j,r1,hj,BB,BO⟩) _
  ·exact .inl e
  ·by_cases e:j=i
   ·subst e;exact .inr ⟨j,r,hi,hl,BO⟩
   ·exact .inr ⟨j,r1,by simpa [aX,e]using hj,BB,BO⟩
 have HG:dV (dD M0 m ρ) w w':=hk.stays λb hb hx=>.inr ⟨i,r,hi,hl,hX b hb hx⟩
 refine{keeps:=h.keeps.trans hk λb hb hx=>?_,size:=h.size,defers:=λds e=>eJ HG hm hO _ _ (h.defers ds e)
        tmps:=λn=>A.dC HG hm hO _ _ (h.tmps n)
        res:=λj r1 hj=>?_,own:=λj r1 b hj BB BO=>?_,apart:=λj k r1 r2 b h1 l1 h2 l2 b1 b2=>?_}
 ·have cX:=cG hb h.keeps.size;rcases(h.own i r b hi hl (hX b cX hx)).1 with e|e
  ·omega
  ·exact e
 ·by_cases e:j=i
  ·subst e;simp[aX]at hj;subst hj;exact hok hO HG hm
  ·have QB:m j=some r1:=by simpa [aX,e]using hj
   by_cases hd:r1=.dead
   ·subst hd;trivial
   ·refine R.hU HG hm hO (λb hb cX=>?_) (h.res j r1 QB);exact hk.block b cX λx=>h.other hi hl (hX b cX x) QB hd e hb
 ·by_cases e:j=i
  ·subst e;obtain⟨x,y,z⟩:=h.own j r b hi hl BO;exact⟨x,y,cG z hk.size⟩
  ·obtain⟨x,y,z⟩:=h.own j r1 b (by simpa [aX,e]using hj) BB BO;exact⟨x,y,cG z hk.size⟩
 ·have key:∀j r1,aX m i r' j=some r1->r1.live=true->∃r2,m j=some r2/\r2.live=true:=by
   intro j r1 hj BB;by_cases e:j=i
   ·subst e;exact⟨r,hi,hl⟩
   ·exact⟨r1,by simpa [aX,e]using hj,BB⟩
  obtain⟨s1,g1,g2⟩:=key j r1 h1 l1;obtain⟨s2,g3,g4⟩:=key k r2 h2 l2;exact h.apart j k s1 s2 b g1 g2 g3 g4 b1 b2
def R.K8:R->R
 |.dead=>.dead
 |.cells _ l=>.cells true l
 |.fW _ t es l=>.fW true t es l
 |.mp _ kv st=>.mp true kv st
 |_=>.dead
def R.J2(r:R):r.K8.live=false:=by cases r<;>rfl
def bC.freeze(h:bC M0 S0 w0 N T m ρ a w){i:Nat}{r:R}(hi:m i=some r)(hl:r.live=true):bC M0 S0 w0 N T (aX m i r.K8) ρ a w:=by
 have hO:gL m (aX m i r.K8) ρ ρ:=by
  have:=gL.set (m:=m) (ρ:=ρ) i r.K8 (ρ i) (λ_ _=>⟨by rw[hi];simpa using s7 hl,rfl,λfz t es l e=>⟨true,t,l,by rw[hi]at e;simp at e;rw[e];rfl,rfl⟩⟩)
  rwa [jP]at this
 have hm:∀b,dD M0 (aX m i r.K8) ρ b->b<w.heap.size->dD M0 m ρ b:=by
  rintro b (e|⟨j,r1,hj,BB,BO⟩) _
  ·exact .inl e
  ·by_cases e:j=i
   ·subst e;simp[aX]at hj;subst hj;simp[R.J2]at BB
   ·exact .inr ⟨j,r1,by simpa [aX,e]using hj,BB,BO⟩
 have a02:∀b,blk (ρ i)=some b->¬dD M0 (aX m i r.K8) ρ b:=by
  rintro b hb (e|⟨j,r1,hj,BB,BO⟩)
  ·exact(h.own i r b hi hl hb).2.1 e
  ·by_cases e:j=i
   ·subst e;simp[aX]at hj;subst hj;simp[R.J2]at BB
   ·exact h.other hi hl hb (by simpa [aX,e]using hj) (s7 BB) e BO
 have liv:∀j r1,aX m i r.K8 j=some r1->r1.live=true->j≠i/\m j=some r1:=by
  intro j r1 hj BB;have e:j≠i:=by rintro rfl;simp[aX]at hj;subst hj;simp[R.J2]at BB
  exact⟨e,by simpa [aX,e]using hj⟩
 refine{keeps:=h.keeps,size:=h.size,defers:=λds e=>eJ (dV.refl _ w) hm hO _ _ (h.defers ds e)
        tmps:=λn=>A.dC (dV.refl _ w) hm hO _ _ (h.tmps n)
        res:=λj r1 hj=>?_,own:=λj r1 b hj BB BO=>h.own j r1 b (liv j r1 hj BB).2 BB BO
        apart:=λj k r1 r2 b h1 l1 h2 l2 b1 b2=>h.apart j k r1 r2 b (liv j r1 h1 l1).2 l1 (liv k r2 h2 l2).2 l2 b1 b2}
 by_cases e:j=i
 ·subst e;have hok:=R.hU (dV.refl _ w) hm hO (λ_ _ _=>rfl) (h.res j r hi);simp[aX]at hj;subst hj;cases r with
  |dead=>trivial
  |cells fz l=>
   obtain⟨b',cs,t,e1,h1,h2,h3,h4⟩:=hok;exact⟨b',cs,t,e1,h1,h2,λ_=>a02 b' (by rw[e1];rfl),h4⟩
  |fW fz t es l=>
   obtain⟨xs,h1,h2,h3,h4,h5⟩:=hok;exact⟨xs,h1,h2,h3,λ_ b hb=>a02 b hb,h5⟩
  |mp fz kv st=>
   obtain⟨b',es,cl,l,e1,h1,h2,h3,h4,h5⟩:=hok;exact⟨b',es,cl,l,e1,h1,h2,h3,λ_=>a02 b' (by rw[e1];rfl),h5⟩
  |_=>trivial
 ·exact R.hU (dV.refl _ w) hm hO (λ_ _ _=>rfl) (h.res j r1 (by simpa [aX,e]using hj))
end
section
variable{w:World}{M:Nat->Prop}{m:Mem}{ρ:Nat->Value}
def A.xJ{l:List A}:A.bR w M m ρ l ys↔l.length=ys.length/\∀(j:Nat)(c:A)(y:Value),l[j]?=some c->ys[j]?=some y->c.Den w M m ρ y:=by
 induction l generalizing ys with
 |nil=>
  simp only[A.bR,cS];constructor
  ·rintro rfl;simp
  ·rintro⟨h,_⟩;exact bL h.symm
 |cons c r ih=>
  simp[A.bR,aQ];constructor
  ·rintro⟨y,yr,rfl,h1,h2⟩;have⟨h3,h4⟩:=ih.1 h2;refine⟨by simp[h3],λj c' y' hc hy=>?_⟩;cases j with
   |zero=>simp at hc hy;subst hc;subst hy;exact h1
   |succ j=>simp at hc hy;exact h4 j c' y' hc hy
  ·rintro⟨h1,h2⟩;cases ys with
   |nil=>simp at h1
   |cons y yr=>
    refine⟨y,yr,rfl,h2 0 c y rfl rfl,ih.2 ⟨by simpa using h1,λj c' y' hc hy=>h2 (j+1) c' y' (by simpa using hc) (by simpa using hy)⟩⟩
def C.xJ{l:List C}:C.bR w M l ys↔l.length=ys.length/\∀(j:Nat)(c:C)(y:Value),l[j]?=some c->ys[j]?=some y->c.Den w M y:=by
 induction l generalizing ys with
 |nil=>
  simp only[C.bR,cS];constructor
  ·rintro rfl;simp
  ·rintro⟨h,_⟩;exact bL h.symm
 |cons c r ih=>
  simp[C.bR,aQ];constructor
  ·rintro⟨y,yr,rfl,h1,h2⟩;have⟨h3,h4⟩:=ih.1 h2;refine⟨by simp[h3],λj c' y' hc hy=>?_⟩;cases j with
   |zero=>simp at hc hy;subst hc;subst hy;exact h1
   |succ j=>simp at hc hy;exact h4 j c' y' hc hy
  ·rintro⟨h1,h2⟩;cases ys with
   |nil=>simp at h1
   |cons y yr=>
    refine⟨y,yr,rfl,h2 0 c y rfl rfl,ih.2 ⟨by simpa using h1,λj c' y' hc hy=>h2 (j+1) c' y' (by simpa using hc) (by simpa using hy)⟩⟩
def C.rA{off:Nat}{l:List C}:C.sS w M b off l↔∀(j:Nat)(c:C),l[j]?=some c->∃y,w.cell? ⟨b,off+j,none⟩=some y/\y.oneCell'=true/\c.Den w M y:=by
 induction l generalizing off with
 |nil=>simp[C.sS]
 |cons c r ih=>
  simp[C.sS,ih];constructor
  ·rintro⟨h1,h2⟩ j c' hc;cases j with
   |zero=>simp at hc;subst hc;simpa using h1
   |succ j=>
    have⟨y,h3,h4⟩:=h2 j c' (by simpa using hc);exact⟨y,by rw[show off+(j+1)=off+1+j by omega];exact h3,h4⟩
  ·intro h;refine⟨by simpa using h 0 c rfl,λj c' hc=>?_⟩;have⟨y,h3,h4⟩:=h (j+1) c' (by simpa using hc);exact⟨y,by rw[show off+1+j=off+(j+1) by omega];exact h3,h4⟩
def C.tX{off:Nat}{l:List (List C)}:C.lS w M b es off l↔∀(k:Nat)(e:List C),l[k]?=some e->e.length=es/\C.sS w M b (off+k*es) e:=by
 induction l generalizing off with
 |nil=>simp[C.lS]
 |cons c r ih=>
  simp[C.lS,ih];constructor
  ·rintro⟨h0,h1,h2⟩ k e he;cases k with
   |zero=>simp at he;subst he;simpa using⟨h0,h1⟩
   |succ k=>
    have⟨h3,h4⟩:=h2 k e (by simpa using he);exact⟨h3,by rw[show off+(k+1)*es=off+es+k*es by rw[gY];omega];exact h4⟩
  ·intro h;have⟨h0,h1⟩:=h 0 c rfl;refine⟨h0,by simpa using h1,λk e he=>?_⟩;have⟨h3,h4⟩:=h (k+1) e (by simpa using he);exact⟨h3,by rw[show off+es+k*es=off+(k+1)*es by rw[gY];omega];exact h4⟩
def A.iH{l r:List A}{zs:List Value}(h1:A.bR w M m ρ l ys)(h2:A.bR w M m ρ r zs):A.bR w M m ρ (l++r) (ys++zs):=by
 induction l generalizing ys with
 |nil=>simp[A.bR]at h1;subst h1;simpa using h2
 |cons c t ih=>
  simp[A.bR]at h1;obtain⟨y,yr,rfl,h3,h4⟩:=h1;simp only[bW,A.bR];exact⟨y,yr++zs,rfl,h3,ih h4⟩
def C.iH{l r:List C}{zs:List Value}(h1:C.bR w M l ys)(h2:C.bR w M r zs):C.bR w M (l++r) (ys++zs):=by
 induction l generalizing ys with
 |nil=>simp[C.bR]at h1;subst h1;simpa using h2
 |cons c t ih=>
  simp[C.bR]at h1;obtain⟨y,yr,rfl,h3,h4⟩:=h1;simp only[bW,C.bR];exact⟨y,yr++zs,rfl,h3,ih h4⟩
def A.lL{l:List A}(n:Nat)(h:A.bR w M m ρ l ys):A.bR w M m ρ (l.drop n) (ys.drop n):=by
 rw[A.xJ]at h⊢;exact⟨by simp[h.1],λj c y hc hy=>h.2 (n+j) c y (by simpa using hc) (by simpa using hy)⟩
def A.mT{l:List A}(n:Nat)(h:A.bR w M m ρ l ys):A.bR w M m ρ (l.take n) (ys.take n):=by
 rw[A.xJ]at h⊢;refine⟨by simp[h.1],λj c y hc hy=>?_⟩;rw[cM]at hc hy;split at hc
 ·rename_i cX;rw[aUF cX]at hy;exact h.2 j c y hc hy
 ·cases hc
def C.lL{l:List C}(n:Nat)(h:C.bR w M l ys):C.bR w M (l.drop n) (ys.drop n):=by
 rw[C.xJ]at h⊢;exact⟨by simp[h.1],λj c y hc hy=>h.2 (n+j) c y (by simpa using hc) (by simpa using hy)⟩
def C.mT{l:List C}(n:Nat)(h:C.bR w M l ys):C.bR w M (l.take n) (ys.take n):=by
 rw[C.xJ]at h⊢;refine⟨by simp[h.1],λj c y hc hy=>?_⟩;rw[cM]at hc hy;split at hc
 ·rename_i cX;rw[aUF cX]at hy;exact h.2 j c y hc hy
 ·cases hc
def A.iO{l:List C}:A.bR w M m ρ (l.map A.d) ys↔C.bR w M l ys:=by
 induction l generalizing ys with
 |nil=>simp[A.bR,C.bR]
 |cons c r ih=>simp[aG,A.bR,C.bR,ih,A.Den]
def C.U6{off:Nat}{l:List C}(n:Nat)(h:C.sS w M b off l):C.sS w M b (off+n) (l.drop n):=by
 rw[C.rA]at h⊢;intro j c hc;have⟨y,h1,h2⟩:=h (n+j) c (by simpa using hc);exact⟨y,by rw[fP];exact h1,h2⟩
end
def UL:Value->C
 |.slice none 0 0=>.nl 0
 |v=>.v v
def cv:Value->C
 |.agg vs=>bif vs.toList.all Value.oneCell' then .agg (vs.toList.map UL)else .v (.agg vs)
 |v=>UL v
def XT(w:World)(M:Nat->Prop)(v:Value):(UL v).Den w M v:=by
 unfold UL;split<;>simp[C.Den]
def aGW(w:World)(M:Nat->Prop)(l:List Value):C.bR w M (l.map UL) l:=by
 induction l with
 |nil=>simp[C.bR]
 |cons c r ih=>simp only[aG,C.bR];exact⟨c,r,rfl,XT w M c,ih⟩
def aJV(w:World)(M:Nat->Prop)(v:Value):(cv v).Den w M v:=by
 unfold cv;split
 ·rename_i vs;cases hv:vs.toList.all Value.oneCell' with
  |false=>simp[C.Den]
  |true=>simp only[cond_true,C.Den];exact⟨vs,rfl,by simpa only[cV]using hv,aGW w M _⟩
 ·exact XT w M v
def dN(T:Nat->A):Operand->A
 |.tmp t=>T t
 |.const v=>.d (cv v)
 |.global _=>.x
 |.func f=>.fn (.func f) [] []
def cU{M0 S0:Nat->Prop}{w0:World}{N:Fr}{T:Nat->A}{m:Mem}{a:Act}(h:bC M0 S0 w0 N T m ρ a w)(o:Operand):
 (dN T o).Den w (dD M0 m ρ) m ρ (a.eval o):=by
 cases o with
 |tmp t=>exact h.tmps t
 |const v=>simp[dN,A.Den,Act.eval];exact aJV _ _ v
 |global g=>simp[dN,A.Den]
 |func f=>simp only[dN,A.Den,Act.eval];exact⟨#[],#[],rfl,by simp[A.bR],by simp[A.bR]⟩
def qF(m:Mem)(i:Nat):Bool:=
 match m i with
 |none=>false
 |some .dead=>false
 |some _=>true
def HI(m:Mem)(i:Nat):Bool:=
 match m i with
 |none=>false
 |some .dead=>false
 |some (.fr _)=>false
 |some .wL=>false
 |some _=>true
def A.cells(m:Mem):A->Option (List A)
 |.agg l=>some l
 |.d (.agg l)=>some (l.map A.d)
 |.d (.v (.agg _))=>none
 |.d (.v (.tuple _))=>none
 |.d c=>some [.d c]
 |.lp i off=>if qF m i then some [.lp i off]else none
 |.h i=>if HI m i then some [.h i]else none
 |.ep i es k off=>if qF m i then some [.ep i es k off]else none
 |.sv i lo n=>if qF m i then some [.sv i lo n]else none
 |.fn f first caps=>some [.fn f first caps]
 |.AE t a=>some [.AE t a]
 |.eL _=>none
 |.x=>none
abbrev E:=Bool×A×List (Nat×R)
def aH(m:Mem):List (Nat×R)->Mem
 |[]=>m
 |(i,r)::t=>aH (aX m i r) t
def oP(P:Program)(t:TypeId):Option Bool:=
 match P.underlying t with
 |some (.struct _)|some (.array _ _)=>some true
 |some _=>some false
 |none=>none
def info_of_underlying{d:TypeDesc}(h:P.underlying t=some d):∃i,P.info? t=some i:=by
 unfold Program.underlying at h;cases hi:P.info? t with
 |none=>simp[hi]at h
 |some i=>exact⟨i,rfl⟩
def lV{b:Bool}(h:oP P t=some b)(w:World):(isAgg t).run P w=.ok b w:=by
 unfold oP at h;cases hu:P.underlying t with
 |none=>simp[hu]at h
 |some d=>
  simp[isAgg,aV,run_underlying hu,aN];cases d<;>simp_all
def run_sizeOf{i:TypeInfo}(h:P.info? t=some i)(w:World):(sizeOf t).run P w=.ok (P.cellsOf t) w:=by
 simp[sizeOf,typeInfo,h,Program.cellsOf]
def mB{b:Bool}(h:oP P t=some b)(w:World):(sizeOf t).run P w=.ok (P.cellsOf t) w:=by
 unfold oP at h;cases hu:P.underlying t with
 |none=>simp[hu]at h
 |some d=>have⟨i,hi⟩:=info_of_underlying hu;exact run_sizeOf hi w
def sP(h:oP P t=some false){w:World}{a:Addr}{y:Value}(hc:w.cell? a=some y):(loadVar t a).run P w=.ok y w:=by
 simp[loadVar,lV h,hc]
def sO(h:oP P t=some true){w:World}{a:Addr}{cs:List Value}(hl:cs.length=P.cellsOf t)(hc:∀j v,cs[j]?=some v->w.cell? (a.add j)=some v):
 (loadVar t a).run P w=.ok (.agg cs.toArray) w:=by
 have:=run_loadCells_list (P:=P) w a cs hc;simp[loadVar,lV h,mB h,<-hl,this]
section
variable{M0 S0:Nat->Prop}{w0:World}{N:Fr}{T:Nat->A}{m:Mem}{ρ:Nat->Value}{a:Act}{w:World}{P:Program}
def eH{r:R}{p:Prop}(h:Has m i p)(hi:m i=some r)(hr:r≠.dead):p:=h.2 (by rw[hi];simpa using hr)
def oR{j:Nat}{cs:Array Value}{fr:Nat×Nat}(h:w.heap[b]?=some (.cells cs t fr)):w.cell? ⟨b,j,none⟩=cs[j]?:=by
 simp[World.cell?,h]
def jM(P:Program)(m:Mem)(t:TypeId):A->Option E
 |.lp i off=>match m i with
  |some (.cells _ l)=>match oP P t with
   |some true=>some (decide (off+P.cellsOf t<=l.length),.agg ((l.drop off).take (P.cellsOf t)),[])
   |some false=>some (decide (off<l.length),l.getD off .x,[])
   |none=>none
  |_=>none
 |.ep i es k off=>match m i with
  |some (.fW _ _ es' l)=>match oP P t with
   |some true=>some (decide (es'=es/\k<l.length/\off+P.cellsOf t<=es),.agg (((l.getD k []).drop off).take (P.cellsOf t)),[])
   |some false=>some (decide (es'=es/\k<l.length/\off<es),(l.getD k []).getD off .x,[])
   |none=>none
  |_=>none
 |.d (.ip l)=>match oP P t with
  |some true=>some (decide (P.cellsOf t<=l.length),.d (.agg (l.take (P.cellsOf t))),[])
  |some false=>some (decide (0<l.length),.d (l.getD 0 default),[])
  |none=>none
 |_=>none
def kY{α:Type}(es:Nat):∀(l:List (List α))(k:Nat)(r:List α)(j:Nat),(∀e∈l,e.length=es)->l[k]?=some r->j<es->l.flatten[k*es+j]?=r[j]?
 |[],k,r,j,_,h,_=>by simp at h
 |e::l,0,r,j,hl,h,hj=>by
  simp at h;subst h;have:e.length=es:=hl e sM;simp[dL,Nat.zero_mul,fF];rw[bX oM]
 |e::l,k+1,r,j,hl,h,hj=>by
  have he:e.length=es:=hl e sM;simp[dL];rw[bO (by rw[he,gY];omega)];rw[show(k+1)*es+j -e.length=k*es+j by rw[he,gY];omega];exact kY es l k r j (λe' h'=>hl e' (by simp[h'])) (by simpa using h) hj
def fI{α:Type}{l:List (List α)}(h:∀e∈l,e.length=es):l.flatten.length=l.length*es:=by
 induction l with
 |nil=>simp
 |cons e r ih=>
  simp[dL,aU,aQ,ih (λe' h'=>h e' (by simp[h'])),h e sM,gY];omega
def vV.cells{h:Value}{n:Nat}{xs:List Value}(ho:vV w t es h n xs){b o n' cap:Nat}(hh:h=.slice (some ⟨b,o,none⟩) n' cap):∀(j:Nat)(u:Value),xs[j]?=some u->w.cell? ⟨b,o+j,none⟩=some u:=by
 intro j u hu;rcases ho with⟨rfl,_⟩|⟨hl,g,og,cap',cur,rfl,_,hg,_,_,_,aX3⟩
 ·simp at hu
 ·simp at hh;have⟨⟨rfl,rfl⟩,rfl,rfl⟩:=hh;rw[oR hg];rw[<-aX3,cM]at hu;split at hu
  ·rw[eA]at hu;simpa using hu
  ·cases hu
def TS(h:bC M0 S0 w0 N T m ρ a w){i es k:Nat}{fz:Bool}{t:TypeId}{l:List (List A)}(hi:m i=some (.fW fz t es l)){b o n cap:Nat}(hρ:ρ i=.slice (some ⟨b,o,none⟩) n cap)
 {r:List A}(hr:l[k]?=some r):∀(j:Nat)(c:A),r[j]?=some c->∃y,w.cell? ⟨b,o+(k*es+j),none⟩=some y/\y.oneCell'=true/\c.Den w (dD M0 m ρ) m ρ y:=by
 intro j c hc;have⟨xs,h1,h2,h3,h4,h5⟩:=h.res i _ hi;have hrl:r.length=es:=h3 r (l5 hr);have hj:j<es:=by rw[<-hrl];exact(bA.1 hc).1
 have hk:k<l.length:=(bA.1 hr).1;rw[hρ]at h1;have hf:=kY es l k r j h3 hr hj;rw[A.xJ]at h2;have hlen:k*es+j<xs.length:=by rw[<-h2.1,fI h3];calc k*es+j<k*es+es:=oM
  _=(k+1)*es:=by rw[gY]
  _<=l.length*es:=fE _ hk
 refine⟨xs[k*es+j],?_,h5 _ (aY hlen),h2.2 _ c _ (by rw[hf,hc]) (aC hlen)⟩;exact h1.cells rfl (k*es+j) _ (aC hlen)
def GC{b:Nat}{M:Nat->Prop}:∀(l:List C)(o:Nat),(∀(j:Nat)(c:C),l[j]?=some c->∃y,w.cell? ⟨b,o+j,none⟩=some y/\y.oneCell'=true/\c.Den w M y)->
 ∃cs:List Value,cs.length=l.length/\(∀u∈cs,u.oneCell'=true)/\(∀(j:Nat)(v:Value),cs[j]?=some v->w.cell? ((⟨b,o,none⟩:Addr).add j)=some v)/\C.bR w M l cs
 |[],o,_=>⟨[],rfl,sM,sM,by simp[C.bR]⟩
 |c::r,o,h=>by
  obtain⟨y,hy,hy1,hd⟩:=h 0 c rfl
  obtain⟨cs,h1,h0,h2,h3⟩:=GC r (o+1) (λj c' hc=>by
   have⟨y,h4,h5⟩:=h (j+1) c' (by simpa using hc)
   exact⟨y,by rw[show o+1+j=o+(j+1) by omega];exact h4,h5⟩)
  refine⟨y::cs,by simp[h1],by simpa using⟨hy1,h0⟩,λj v hv=>?_,by simp only[C.bR];exact⟨y,cs,rfl,hd,h3⟩⟩;rw[eP];cases j with
  |zero=>simp at hv;subst hv;exact hy
  |succ j=>
   have:=h2 j v (by simpa using hv);rw[eP]at this;rw[show o+(j+1)=o+1+j by omega];exact this
def KQ{b:Nat}{M:Nat->Prop}:∀(l:List A)(o:Nat),(∀(j:Nat)(c:A),l[j]?=some c->∃y,w.cell? ⟨b,o+j,none⟩=some y/\y.oneCell'=true/\c.Den w M m ρ y)->
 ∃cs:List Value,cs.length=l.length/\(∀u∈cs,u.oneCell'=true)/\(∀(j:Nat)(v:Value),cs[j]?=some v->w.cell? ((⟨b,o,none⟩:Addr).add j)=some v)/\A.bR w M m ρ l cs
 |[],o,_=>⟨[],rfl,sM,sM,by simp[A.bR]⟩
 |c::r,o,h=>by
  obtain⟨y,hy,hy1,hd⟩:=h 0 c rfl
  obtain⟨cs,h1,h0,h2,h3⟩:=KQ r (o+1) (λj c' hc=>by
   have⟨y,h4,h5⟩:=h (j+1) c' (by simpa using hc)
   exact⟨y,by rw[show o+1+j=o+(j+1) by omega];exact h4,h5⟩)
  refine⟨y::cs,by simp[h1],by simpa using⟨hy1,h0⟩,λj v hv=>?_,by simp only[A.bR];exact⟨y,cs,rfl,hd,h3⟩⟩;rw[eP];cases j with
  |zero=>simp at hv;subst hv;exact hy
  |succ j=>
   have:=h2 j v (by simpa using hv);rw[eP]at this;rw[show o+(j+1)=o+1+j by omega];exact this
def Y7(h:bC M0 S0 w0 N T m ρ a w){t:TypeId}{x:A}{y:Value}(hx:x.Den w (dD M0 m ρ) m ρ y){pre:Bool}{v:A}{ups:List (Nat×R)}
 (he:jM P m t x=some (pre,v,ups))(hp:pre=true):ups=[]/\∃z,(Instr.loadAt t y).run P w=.ok z w/\v.Den w (dD M0 m ρ) m ρ z:=by
 cases x with
 |lp i off=>
  simp only[jM]at he;cases hi:m i with
  |none=>simp[hi]at he
  |some r=>
   cases r with
   |cells fz l=>
    simp only[hi]at he;simp[A.Den]at hx;obtain⟨b,hb,rfl⟩:=eH hx hi sM;have⟨b',cs,t',e1,h1,h2,h3,h5⟩:=h.res i _ hi;rw[hb]at e1;simp at e1;subst e1;rw[A.xJ]at h2;cases hg:oP P t with
    |none=>simp[hg]at he
    |some g=>
     cases g with
     |false=>
      simp only[hg,aA,aD]at he;have⟨rfl,rfl,rfl⟩:=he;have hp:=aUL hp;have cX:off<cs.toList.length:=by rw[<-h2.1];exact hp
      refine⟨rfl,cs.toList[off],?_,?_⟩
      ·have hc:w.cell? ⟨b,off,none⟩=some cs.toList[off]:=by rw[oR h1];simp at cX;simp[cX]
       simp[Instr.loadAt,Instr.sureAddr,sP hg hc]
      ·rw[bF,aC hp];exact h2.2 off _ _ (aC hp) (aC cX)
     |true=>
      simp[hg,aA,aD]at he;have⟨rfl,rfl,rfl⟩:=he;have hp:=aUL hp;refine⟨rfl,.agg ((cs.toList.drop off).take (P.cellsOf t)).toArray,?_,?_⟩
      ·have hl:((cs.toList.drop off).take (P.cellsOf t)).length=P.cellsOf t:=by
        have:=h2.1;simp at this⊢;omega
       have hc:∀j v,((cs.toList.drop off).take (P.cellsOf t))[j]?=some v->w.cell? ((⟨b,off,none⟩:Addr).add j)=some v:=by
        intro j v hv;rw[cM]at hv;split at hv
        ·rw[eP,oR h1];simpa using hv
        ·cases hv
       simp[Instr.loadAt,Instr.sureAddr,aV,cB,aN,sO hg hl hc]
      ·simp only[A.Den];exact⟨_,rfl,λu hu=>h5 u (dI (dJ (by simpa only using hu))),by simpa using A.mT (P.cellsOf t) (A.lL off (A.xJ.2 h2))⟩
   |_=>simp[hi]at he
 |ep i es k off=>
  simp only[jM]at he;cases hi:m i with
  |none=>simp[hi]at he
  |some r=>
   cases r with
   |fW fz t' es' l=>
    simp only[hi]at he;simp only[A.Den]at hx;obtain⟨b,og,n,cap,hb,rfl⟩:=eH hx hi sM;cases hg:oP P t with
    |none=>simp[hg]at he
    |some g=>
     cases g with
     |false=>
      simp only[hg,aA,aD]at he;have⟨rfl,rfl,rfl⟩:=he;have hp:=aUL hp;have⟨rfl,hk,ho⟩:=hp;have hr:l[k]?=some (l.getD k []):=by simp[bF,aC hk]
      have hrl:(l.getD k []).length=es':=by
       have⟨xs,h1,h2,h3,h4,_⟩:=h.res i _ hi;exact h3 _ (l5 hr)
      obtain⟨y,hy,_,hd⟩:=TS h hi hb hr off ((l.getD k []).getD off .x) (by rw[bF (l:=l.getD k []),aC oM];rfl);refine⟨rfl,y,?_,hd⟩;simp[Instr.loadAt,Instr.sureAddr,sP hg hy]
     |true=>
      simp only[hg,aA,aD]at he;obtain⟨rfl,rfl,rfl⟩:=he;have hp:=aUL hp;obtain⟨rfl,hk,ho⟩:=hp;have hr:l[k]?=some (l.getD k []):=by simp[bF,aC hk]
      obtain⟨xs,h1,h2,h3,h4,_⟩:=h.res i _ hi;have hrl:(l.getD k []).length=es':=h3 _ (l5 hr);have aW7:=TS h hi hb hr
      obtain⟨cs,hl,h0,hc,hd⟩:=KQ (w:=w) (m:=m) (ρ:=ρ) (b:=b) (M:=dD M0 m ρ) (((l.getD k []).drop off).take (P.cellsOf t)) (og+(k*es'+off)) (λj c hc=>by
       rw[cM]at hc;split at hc
       · rw[eA]at hc
         rw[fP,fP];exact aW7 (off+j) c hc
       · cases hc)
      have hl:cs.length=P.cellsOf t:=by rw[hl,cW,l4,hrl];omega
      refine⟨rfl,.agg cs.toArray,?_,?_⟩
      ·simp only[Instr.loadAt,Instr.sureAddr,aV,cB,aN,sO hg hl hc]
      ·simp only[A.Den,C.Den];exact⟨_,rfl,h0,by simpa using hd⟩
   |_=>simp[hi]at he
 |d c=>
  cases c with
  |ip l=>
   simp only[jM]at he;simp only[A.Den,C.Den]at hx;obtain⟨b,off,rfl,hm,cX,hat⟩:=hx;rw[C.rA]at hat;cases hg:oP P t with
   |none=>simp[hg]at he
   |some g=>
    cases g with
    |false=>
     simp only[hg,aA,aD]at he;obtain⟨rfl,rfl,rfl⟩:=he;have hp:=aUL hp;obtain⟨y,hy,_,hd⟩:=hat 0 (l.getD 0 default) (by rw[bF,aC hp];rfl);refine⟨rfl,y,?_,by simpa only[A.Den]using hd⟩;simp only[iE]at hy;simp[Instr.loadAt,Instr.sureAddr,sP hg hy]
    |true=>
     simp only[hg,aA,aD]at he;obtain⟨rfl,rfl,rfl⟩:=he;have hp:=aUL hp
     obtain⟨cs,hl,h0,hc,hd⟩:=GC (w:=w) (b:=b) (M:=dD M0 m ρ) (l.take (P.cellsOf t)) off (λj c hc=>by
      rw[cM]at hc;split at hc
      · exact hat j c hc
      · cases hc)
     have hl:cs.length=P.cellsOf t:=by rw[hl,cW];omega
     refine⟨rfl,.agg cs.toArray,?_,?_⟩
     ·simp only[Instr.loadAt,Instr.sureAddr,aV,cB,aN,sO hg hl hc]
     ·simp only[A.Den,C.Den];exact⟨_,rfl,h0,by simpa using hd⟩
  |_=>simp[jM]at he
 |_=>simp[jM]at he
end
def DR{α:Type}{es:Nat}:∀(l:List (List α))(lo:Nat),(∀e∈l,e.length=es)->(l.drop lo).flatten=l.flatten.drop (lo*es)
 |[],lo,_=>sM
 |e::l,0,_=>sM
 |e::l,lo+1,h=>by
  have he:=h e sM;have ih:=DR l lo (λe' h'=>h e' (by simp[h']));subst he;rw[gY,Nat.add_comm (lo*e.length),dL,List.drop_length_add_append];exact ih
def DS{α:Type}{es:Nat}:∀(l:List (List α))(k:Nat),(∀e∈l,e.length=es)->(l.take k).flatten=l.flatten.take (k*es)
 |[],k,_=>sM
 |e::l,0,_=>sM
 |e::l,k+1,h=>by
  have he:=h e sM;have ih:=DS l k (λe' h'=>h e' (by simp[h']));subst he;rw[gY,Nat.add_comm (k*e.length),cC,dL,dL,List.take_length_add_append,ih]
section
variable{M0 S0:Nat->Prop}{w0:World}{N:Fr}{T:Nat->A}{m:Mem}{ρ:Nat->Value}{a:Act}{w:World}{P:Program}
def I7{es b:Nat}{M:Nat->Prop}:∀(l:List (List C))(o:Nat)(xs:List Value),(∀e∈l,e.length=es)->C.bR w M l.flatten xs->(∀u∈xs,u.oneCell'=true)->(∀(j:Nat)(v:Value),xs[j]?=some v->w.cell? ⟨b,o+j,none⟩=some v)->C.lS w M b es o l
 |[],o,xs,_,_,_,_=>by simp only[C.lS]
 |e::r,o,xs,hl,hd,h0,hc=>by
  have he:=hl e sM;have hlen:=(C.xJ.1 hd).1;simp only[dL]at hd hlen;have h1:=C.mT es hd;have h2:=C.lL es hd;rw[<-he,List.take_left]at h1;rw[<-he,List.drop_left]at h2;simp[C.lS];refine⟨he,?_,?_⟩
  ·rw[C.rA];intro j c hj;have a2E:j<e.length:=(bA.1 hj).1;have hx:j<xs.length:=by rw[<-hlen,aU];omega
   have hy:(xs.take e.length)[j]?=some xs[j]:=by rw[cM,aUF a2E,aC hx]
   exact⟨xs[j],hc j _ (aC hx),h0 _ (aY hx),(C.xJ.1 h1).2 j c _ hj hy⟩
  ·refine I7 r (o+es) (xs.drop e.length) (λe' h'=>hl e' (by simp[h'])) h2 (λu hu=>h0 u (dI hu)) ?_;intro j v hv;rw[he]at hv;have:=hc (es+j) v (by simpa using hv);rw[fP];exact this
def VF{o lo k:Nat}{l:List (List C)}(h:C.lS w M b es o l):C.lS w M b es (o+lo*es) ((l.drop lo).take k):=by
 rw[C.tX]at h⊢;intro j e he;rw[cM]at he;split at he
 ·rw[eA]at he;have⟨h1,h2⟩:=h (lo+j) e he;exact⟨h1,by rw[fP,<-Nat.add_mul];exact h2⟩
 ·cases he
end
section
variable{M0 S0:Nat->Prop}{w0:World}{N:Fr}{T:Nat->A}{m:Mem}{ρ:Nat->Value}{a:Act}{w:World}{P:Program}
def bC.rG(h:bC M0 S0 w0 N T m ρ a w)(cX:∀b,M0 b->b<w0.heap.size){w':World}(hk:iF (λ_=>False) w w'){j:Nat}(hj:m j=none){r':R}{h':Value}(hl:r'.live=true)
 (hb:∀b,blk h'=some b->w.heap.size<=b/\b<w'.heap.size)
 (hok:gL m (aX m j r') ρ (dW ρ j h')->dV (dD M0 m ρ) w w'->(∀b,dD M0 (aX m j r') (dW ρ j h') b->b<w.heap.size->dD M0 m ρ b)->R.Ok w' (dD M0 (aX m j r') (dW ρ j h')) (aX m j r') (dW ρ j h') h' r'):
 bC M0 S0 w0 N T (aX m j r') (dW ρ j h') a w':=by
 have h1:=h.world hk (λb _ e=>e.elim);refine h1.aI5 hj (λb hb0=>⟨.inl hb0,λe=>?_⟩) (λb BO=>⟨.inr (hb b BO).1,.inl (cL h.keeps.size (hb b BO).1),(hb b BO).2⟩) hl ?_
 ·have:=(hb b e).1;have:=cX b hb0;have:=h.keeps.size;omega
 ·refine hok (gL.set j r' h' λe=>absurd hj e) (hk.stays λb _ e=>e.elim) ?_;rintro b (e|⟨i,r,hi,qK,BO⟩) aVU
  ·exact .inl e
  ·by_cases e:i=j
   ·subst e;simp[dW]at BO;have:=(hb b BO).1;omega
   ·exact .inr ⟨i,r,by simpa [aX,e]using hi,qK,by simpa [dW,e]using BO⟩
def jF(w:World)(o:Obj):iF (λ_=>False) w (w.alloc o):=
 ⟨rfl,rfl,rfl,sM,λb hb _=>Below.heap_alloc w o b hb⟩
def pU{p:Prop}(h:Has m i p)(hi:qF m i=true):p:=by
 refine h.2 λe=>?_;simp[qF,e]at hi
def SX(h:HI m i=true):qF m i=true:=by
 unfold HI at h;unfold qF;split at h<;>simp_all
def WD(h:bC M0 S0 w0 N T m ρ a w){i:Nat}(hi:HI m i=true):(ρ i).oneCell'=true:=by
 unfold HI at hi;split at hi
 ·cases hi
 ·cases hi
 ·cases hi
 ·cases hi
 ·rename_i r hZ hnf hns hr;have hok:=h.res i r hr;cases r with
  |dead=>exact absurd rfl hZ
  |cells fz l=>have⟨_,_,_,e,_⟩:=hok;rw[e];rfl
  |fW fz t es l=>
   have⟨xs,h1,_⟩:=hok;rcases h1 with⟨_,_,_,e⟩|⟨_,_,_,_,_,e,_⟩<;>rw[e]<;>rfl
  |mp fz kv st=>have⟨_,_,_,_,e,_⟩:=hok;rw[e];rfl
  |wL=>exact absurd rfl hns
  |fr l=>exact absurd rfl (hnf l)
  |it i2 s2 si se=>have⟨_,_,_,_,e,_⟩:=hok;rw[e];rfl
  |AV=>have⟨_,e,_⟩:=hok;rw[e];rfl
  |si s p=>have⟨_,e,_⟩:=hok;rw[e];rfl
  |lo _ _ _ _ _ _=>have⟨_,_,_,_,e,_⟩:=hok;rw[e];rfl
  |df _=>have⟨_,e,_⟩:=hok;rw[e];rfl
  |cu _ _ _=>have⟨_,e,_⟩:=hok;rw[e];rfl
  |di _ _=>have⟨_,_,_,_,_,_,e,_⟩:=hok;rw[e];rfl
def wQ(h:bC M0 S0 w0 N T m ρ a w){x:A}{y:Value}{l:List A}(hx:x.Den w (dD M0 m ρ) m ρ y)(hl:x.cells m=some l):A.bR w (dD M0 m ρ) m ρ l y.cells.toList/\∀u∈y.cells.toList,u.oneCell'=true:=by
 have one:∀{z:A},z.Den w (dD M0 m ρ) m ρ y->y.oneCell'=true->A.bR w (dD M0 m ρ) m ρ [z] y.cells.toList/\∀u∈y.cells.toList,u.oneCell'=true:=by
  intro z hz h1;have:y.cells= #[y]:=by cases y<;>simp_all[Value.cells,Value.oneCell']
  rw[this];simp only[A.bR];exact⟨⟨y,[],rfl,hz,rfl⟩,by simpa using h1⟩
 cases x with
 |d c=>
  cases c with
  |v z=>
   have hz:y=z:=by simpa [A.Den,C.Den]using hx
   subst hz;cases y<;>simp[A.cells]at hl<;>(subst hl;exact one hx rfl)
  |agg l'=>
   simp[A.cells,aA]at hl;subst hl;simp only[A.Den,C.Den]at hx;obtain⟨vs,rfl,h0,h1⟩:=hx;exact⟨A.iO.2 h1,h0⟩
  |sl es l'=>simp[A.cells,aA]at hl;subst hl;refine one hx ?_;simp[A.Den,C.Den]at hx;obtain⟨_,_,rfl,_⟩:=hx;rfl
  |nl es=>simp[A.cells,aA]at hl;subst hl;refine one hx ?_;simp[A.Den,C.Den]at hx;subst hx;rfl
  |ip l'=>simp[A.cells,aA]at hl;subst hl;refine one hx ?_;simp[A.Den,C.Den]at hx;obtain⟨_,_,rfl,_⟩:=hx;rfl
  |im ks vs=>simp[A.cells,aA]at hl;subst hl;refine one hx ?_;simp only[A.Den,C.Den]at hx;obtain⟨_,_,_,_,rfl,_⟩:=hx;rfl
  |fn f u v=>simp[A.cells,aA]at hl;subst hl;refine one hx ?_;simp[A.Den,C.Den]at hx;obtain⟨_,_,rfl,_⟩:=hx;rfl
  |AE t c=>simp only[A.cells,aA]at hl;subst hl;refine one hx ?_;simp only[A.Den,C.Den]at hx;obtain⟨_,rfl,_⟩:=hx;rfl
 |agg l'=>
  simp only[A.cells,aA]at hl;subst hl;simp only[A.Den]at hx;obtain⟨vs,rfl,h0,h1⟩:=hx;exact⟨h1,h0⟩
 |lp i off=>
  simp only[A.cells]at hl;split at hl
  ·rename_i hi;simp only[aA]at hl;subst hl;refine one hx ?_;simp only[A.Den]at hx;obtain⟨b,_,rfl⟩:=pU hx hi;rfl
  ·cases hl
 |h i=>
  simp only[A.cells]at hl;split at hl
  ·rename_i hi;simp only[aA]at hl;subst hl;refine one hx ?_;simp only[A.Den]at hx;rw[pU hx (SX hi)];exact WD h hi
  ·cases hl
 |ep i es k off=>
  simp only[A.cells]at hl;split at hl
  ·rename_i hi;simp only[aA]at hl;subst hl;refine one hx ?_;simp only[A.Den]at hx;obtain⟨b,_,_,_,_,rfl⟩:=pU hx hi;rfl
  ·cases hl
 |sv i lo n=>
  simp only[A.cells]at hl;split at hl
  ·rename_i hi;simp only[aA]at hl;subst hl;refine one hx ?_;simp only[A.Den]at hx;obtain⟨_,_,rfl,_⟩:=pU hx hi;rfl
  ·cases hl
 |fn f u v=>
  simp only[A.cells,aA]at hl;subst hl;refine one hx ?_;simp only[A.Den]at hx;obtain⟨_,_,rfl,_⟩:=hx;rfl
 |AE t a'=>
  simp only[A.cells,aA]at hl;subst hl;refine one hx ?_;simp only[A.Den]at hx;obtain⟨_,rfl,_⟩:=hx;rfl
 |eL l'=>simp[A.cells]at hl
 |x=>simp[A.cells]at hl
def aK1(h:bC M0 S0 w0 N T m ρ a w)(cX:∀b,M0 b->b<w0.heap.size){t:TypeId}{x:A}{y:Value}{l:List A}{d:Nat}(hx:x.Den w (dD M0 m ρ) m ρ y)(hl:x.cells m=some l)(hd:m d=none):
 ∃ρ' w',(Instr.box t y).run P w=.ok (.pointer (some ⟨w.heap.size,0,none⟩)) w'/\bC M0 S0 w0 N T (aX m d (.cells false l)) ρ' a w'/\gL m (aX m d (.cells false l)) ρ ρ'/\
  (A.lp d 0).Den w' (dD M0 (aX m d (.cells false l)) ρ') (aX m d (.cells false l)) ρ' (.pointer (some ⟨w.heap.size,0,none⟩)):=by
 refine⟨dW ρ d (.pointer (some ⟨w.heap.size,0,none⟩)),w.alloc (.cells y.cells t),by simp[Instr.box,newVar,newRow],?_,gL.new _ _ hd,?_⟩
 ·refine h.rG cX (jF w _) hd rfl (by simp[blk]) ?_;intro hO HG hm;exact⟨w.heap.size,y.cells,t,rfl,heap_alloc_new w _,A.dK HG hm hO _ _ (wQ h hx hl).1,sM,(wQ h hx hl).2⟩
 ·simp only[A.Den];exact⟨by simp[aX],λ_=>⟨w.heap.size,by simp[dW],rfl⟩⟩
def zc(P:Program):Nat->TypeId->List C
 |0,_=>[]
 |n+1,t=>match P.underlying t with
  |some .bool=>[.v (.bool false)]
  |some (.int k)=>[.v (.int k 0)]
  |some .string=>[.v (.string ByteArray.empty)]
  |some (.pointer _)=>[.v (.pointer none)]
  |some (.slice e)=>[.nl (P.cellsOf e)]
  |some (.array k e)=>(List.replicate k (zc P n e)).flatten
  |some (.map _ _)=>[.v (.map none)]
  |some (.struct fs)=>fs.toList.flatMap λf=>zc P n f.type
  |some (.func _ _ _)=>[.v .nilFunc]
  |some (.interface _)=>[.v .nilIface]
  |_=>[]
def RE:C->Value->Bool
 |.nl _,.slice none 0 0=>true
 |.v (.int k a),.int k' b=>k==k'&&a==b
 |.v (.bool a),.bool b=>a==b
 |.v (.string a),.string b=>decide (a=b)
 |.v (.pointer none),.pointer none=>true
 |.v (.map none),.map none=>true
 |.v .nilFunc,.nilFunc=>true
 |.v .nilIface,.nilIface=>true
 |_,_=>false
def B6:List C->List Value->Bool
 |[],[]=>true
 |c::r,v::s=>RE c v&&B6 r s
 |_,_=>false
def o5(P:Program)(t:TypeId):Option (List C):=
 match P.info? t with
 |some i=>match i.zero with
  |some z=>if B6 (zc P 8 t) z.cells.toList then some (zc P 8 t)else none
  |none=>none
 |none=>none
def W8{c:C}{v:Value}(h:RE c v=true):c.Den w M v:=by
 unfold RE at h;split at h<;>simp_all[C.Den]
def O7:∀{l:List C}{vs:List Value},B6 l vs=true->∀u∈vs,u.oneCell'=true
 |[],[],_=>sM
 |c::r,v::s,h=>by
  simp only[B6,aE]at h;have h1:v.oneCell'=true:=by
   have:=h.1;unfold RE at this;split at this<;>first|rfl|cases this
  have h2:=O7 h.2;simpa using⟨h1,h2⟩
 |[],_::_,h=>by simp[B6]at h
 |_::_,[],h=>by simp[B6]at h
def O6{w:World}{M:Nat->Prop}:∀{l:List C}{vs:List Value},B6 l vs=true->C.bR w M l vs
 |[],[],_=>by simp[C.bR]
 |c::r,v::s,h=>by
  simp[B6,aE]at h;simp only[C.bR];exact⟨v,s,rfl,W8 h.1,O6 h.2⟩
 |[],_::_,h=>by simp[B6]at h
 |_::_,[],h=>by simp[B6]at h
def qA{l:List C}(h:o5 P t=some l)(w:World):∃z,(zeroValue t).run P w=.ok z w/\(∀w M,C.bR w M l z.cells.toList)/\(∃i,P.info? t=some i/\i.zero=some z)/\∀u∈z.cells.toList,u.oneCell'=true:=by
 unfold o5 at h;split at h
 ·rename_i i hi;split at h
  ·rename_i z hz;split at h
   ·rename_i hk;simp[aA]at h;subst h;exact⟨z,by simp[zeroValue,typeInfo,hi,hz],λ_ _=>O6 hk,⟨i,hi,hz⟩,O7 hk⟩
   ·cases h
  ·cases h
 ·cases h
def aE6(h:bC M0 S0 w0 N T m ρ a w)(cX:∀b,M0 b->b<w0.heap.size){t:TypeId}{l:List C}{d:Nat}(hl:o5 P t=some l)(hd:m d=none):
 ∃ρ' w',(Instr.alloc t true (.tuple #[])).run P w=.ok (.pointer (some ⟨w.heap.size,0,none⟩)) w'/\bC M0 S0 w0 N T (aX m d (.cells false (l.map .d))) ρ' a w'/\gL m (aX m d (.cells false (l.map .d))) ρ ρ'/\
  (A.lp d 0).Den w' (dD M0 (aX m d (.cells false (l.map .d))) ρ') (aX m d (.cells false (l.map .d))) ρ' (.pointer (some ⟨w.heap.size,0,none⟩)):=by
 obtain⟨z,hz,hd',_,h0⟩:=qA hl w;refine⟨dW ρ d (.pointer (some ⟨w.heap.size,0,none⟩)),w.alloc (.cells z.cells t),by simp[Instr.alloc,hz,newVar,newRow],?_,gL.new _ _ hd,?_⟩
 ·refine h.rG cX (jF w _) hd rfl (by simp[blk]) ?_;intro hO HG hm;exact⟨w.heap.size,z.cells,t,rfl,heap_alloc_new w _,A.iO.2 (hd' _ _),sM,h0⟩
 ·simp only[A.Den];exact⟨by simp[aX],λ_=>⟨w.heap.size,by simp[dW],rfl⟩⟩
end
def mM{α:Type}(l:List α)(off:Nat)(vs:List α):List α:=l.take off++(vs++l.drop (off+vs.length))
def AI{α:Type}(l:List α)(off:Nat)(vs:List α)(h:off+vs.length<=l.length):(mM l off vs).length=l.length:=by
 simp[mM];omega
def NP(vs:List Value):∀(n off:Nat)(cells:Array Value),off+n+vs.length<=cells.size->
 ((vs.zipIdx n).foldl (λcs(x:Value×Nat)=>cs.setIfInBounds (off+x.2) x.1) cells).toList=mM cells.toList (off+n) vs:=by
 induction vs with
 |nil=>intro n off cells _;simp[mM]
 |cons v r ih=>
  intro n off cells h;simp[List.zipIdx_cons,fX];simp[aQ]at h;rw[ih (n+1) off _ zM];simp only[mM,Array.toList_setIfInBounds,aQ];have cX:off+n<cells.toList.length:=zM;apply iQ;intro j;rcases Nat.lt_trichotomy j (off+n)with hj|hj|hj
  ·rw[bX zM,bX zM];rw[cM,cM,aUF oM,aUF hj,aBJ oM]
  ·subst hj;rw[bX zM,cM,aUF oM,aDN cX];rw[bO zM];have hm:min (off+n) cells.toList.length=off+n:=oM;simp only[cW,hm,aJ9,bW,iK]
  ·rw[bO zM];rw[bO (l₁:=cells.toList.take (off+n)) zM];simp only[cW,cE];rw[show j -min (off+(n+1)) cells.toList.length=j -(off+n)-1 by simp at cX⊢;omega,show j -min (off+n) cells.toList.length=(j -(off+n)-1)+1 by simp at cX⊢;omega];rw[bW,jQ];by_cases hr:j -(off+n)-1<r.length
   ·rw[bX hr,bX hr]
   ·rw[bO oM,bO oM];rw[eA,eA,aBJ oM];congr 1;omega
section
variable{w:World}{M:Nat->Prop}{m:Mem}{ρ:Nat->Value}
def A.C5{l vs:List A}{zs:List Value}(off:Nat)(h1:A.bR w M m ρ l ys)(h2:A.bR w M m ρ vs zs):A.bR w M m ρ (mM l off vs) (mM ys off zs):=by
 have hl:=(A.xJ.1 h2).1;unfold mM;rw[hl];exact A.iH (A.mT off h1) (A.iH h2 (A.lL _ h1))
end
def LQ(P:Program)(t:TypeId):Option (List (Nat×Nat)):=
 match P.underlying t with
 |some (.struct fs)=>if fs.toList.all λf=>(P.info? f.type).isSome then some (fs.toList.map λf=>(f.offset,P.cellsOf f.type))else none
 |some (.array k e)=>if(P.info? e).isSome then some ((List.range k).map λi=>(i*P.cellsOf e,P.cellsOf e))else none
 |_=>none
def NM(pl:List (Nat×Nat)):List A->List (Nat×List A)->Option (List A)
 |cells,[]=>some cells
 |cells,(i,vs)::rest=>match pl[i]? with
  |none=>none
  |some (off,size)=>if vs.length=size/\off+size<=cells.length then NM pl (mM cells off vs) rest else none
inductive I0(w:World)(M:Nat->Prop)(m:Mem)(ρ:Nat->Value):List (Nat×List A)->List (Nat×Value)->Prop
 |nil:I0 w M m ρ [] []
 |cons {i:Nat} {l:List A} {y:Value} {r:List (Nat×List A)} {s:List (Nat×Value)} (h:A.bR w M m ρ l y.cells.toList) (h0:∀u∈y.cells.toList,u.oneCell'=true) (t:I0 w M m ρ r s):I0 w M m ρ ((i,l)::r) ((i,y)::s)
def NN{m:Mem}{pl:List (Nat×Nat)}{place:Nat->Option (Nat×Nat)}(hp:∀i p,pl[i]?=some p->place i=some p){ps:List (Nat×List A)}{vs:List (Nat×Value)}(hps:I0 w M m ρ ps vs):
 ∀{cells out:List A}{cs:Array Value},A.bR w M m ρ cells cs.toList->(∀u∈cs.toList,u.oneCell'=true)->NM pl cells ps=some out->∃cs',Instr.fill place cs vs=some cs'/\A.bR w M m ρ out cs'.toList/\∀u∈cs'.toList,u.oneCell'=true:=by
 induction hps with
 |nil=>
  intro cells out cs hd TW hf;simp[NM,aA]at hf;subst hf;exact⟨cs,rfl,hd,TW⟩
 |cons h h0 t ih=>
  rename_i i l y r s;intro cells out cs hd TW hf;simp[NM]at hf;split at hf
  ·cases hf
  ·rename_i off size hpl;split at hf
   ·rename_i hc;have⟨hc1,wF⟩:=hc;have hlen:=(A.xJ.1 h).1;have aXK:=(A.xJ.1 hd).1;have aYW:=NP y.cells.toList 0 off cs (by simp at hlen aXK⊢;omega);have hz:y.cells.zipIdx.foldl (λcs(x:Value×Nat)=>cs.setIfInBounds (off+x.2) x.1) cs=(y.cells.toList.zipIdx 0).foldl (λcs(x:Value×Nat)=>cs.setIfInBounds (off+x.2) x.1) cs:=by
     rw[<-Array.foldl_toList];simp
    have⟨cs',h1,h2⟩:=ih (cs:=y.cells.zipIdx.foldl (λcs(x:Value×Nat)=>cs.setIfInBounds (off+x.2) x.1) cs) (by
     rw[hz,aYW];exact A.C5 off hd h) (by
     rw[hz,aYW];intro u hu;simp only[mM,bN]at hu;rcases hu with hu|hu|hu
     · exact TW u (dJ hu)
     · exact h0 u hu
     · exact TW u (dI hu)) hf
    refine⟨cs',?_,h2⟩;simp only[Instr.fill,hp i _ hpl];rw[aT7]
    ·exact h1
    ·simp at hlen aXK;simp;omega
   ·cases hf
def B4{P:Program}{w:World}:∀(l:List Field),(∀f∈l,(P.info? f.type).isSome=true)->
 (l.mapM λ(f:Field)=>(do pure (f.offset,<-sizeOf f.type):Sem (Nat×Nat))).run P w=.ok (l.map λf=>(f.offset,P.cellsOf f.type)) w
 |[],_=>by simp[List.mapM_nil]
 |f::r,h=>by
  obtain⟨i,hi⟩:=eS.1 (h f sM);have ih:=B4 (P:=P) (w:=w) r (λg hg=>h g (by simp[hg]));simp only[List.mapM_cons,aV,run_sizeOf hi,aN,cB,ih,aG]
section
variable{M0 S0:Nat->Prop}{w0:World}{N:Fr}{T:Nat->A}{m:Mem}{ρ:Nat->Value}{a:Act}{w:World}{P:Program}
def aE7{pl:List (Nat×Nat)}{z:List C}{ps:List (Nat×List A)}{vs:List (Nat×Value)}{out:List A}(hpl:LQ P t=some pl)(hz:o5 P t=some z)(hps:I0 w M m ρ ps vs)
 (hf:NM pl (z.map .d) ps=some out):∃y,(Instr.build t vs.toArray).run P w=.ok y w/\(A.agg out).Den w M m ρ y:=by
 have⟨zv,XN,XO,⟨i,hi,hzi⟩,hz0⟩:=qA hz w;have hzd:A.bR w M m ρ (z.map .d) zv.cells.toList:=A.iO.2 (XO w M);unfold LQ at hpl;split at hpl
 ·rename_i fs hu;split at hpl
  ·rename_i aWV;simp[aA]at hpl;subst hpl;have⟨cs,h1,h2,h3⟩:=NN (place:=λ(i:Nat)=>(fs.toList.map λf=>(f.offset,P.cellsOf f.type))[i]?) (λi p h=>h) hps hzd hz0 hf;refine⟨.agg cs,?_,by simp only[A.Den];exact⟨cs,rfl,h3,h2⟩⟩;have hm:=B4 (P:=P) (w:=w) fs.toList (by simpa only[cV]using aWV);have zI:(fs.mapM λ(f:Field)=>(do pure (f.offset,<-sizeOf f.type):Sem (Nat×Nat))).run P w=.ok (fs.toList.map λf=>(f.offset,P.cellsOf f.type)).toArray w:=by
    rw[<-Array.toArray_toList (xs:=fs),List.mapM_toArray];simp only[Sem.run_map,hm,aN,jY]
   have a03:(λ(x:Nat)=>(fs.toList.map λf=>(f.offset,P.cellsOf f.type)).toArray[x]?)=λ(i:Nat)=>(fs.toList.map λf=>(f.offset,P.cellsOf f.type))[i]?:=by
    funext x;simp
   simp only[Instr.build,aV,XN,aN,run_underlying hu,zI,jY,a03,h1,cB]
  ·cases hpl
 ·rename_i k e hu;split at hpl
  ·rename_i he;simp[aA]at hpl;subst hpl;have⟨ie,hie⟩:=eS.1 he
   have⟨cs,h1,h2,h3⟩:=NN (place:=λi=>some (i*P.cellsOf e,P.cellsOf e)) (λi p h=>by
    simp[cK,bU]at h;have⟨j,h1,h2⟩:=h;have hj:j=i:=by
     have:=(bA.1 h1).2;simpa using this.symm
    rw[<-h2,hj]) hps hzd hz0 hf
   refine⟨.agg cs,?_,by simp only[A.Den];exact⟨cs,rfl,h3,h2⟩⟩;simp[Instr.build,aV,XN,aN,run_underlying hu,run_sizeOf hie,jY,h1,cB]
  ·cases hpl
 ·cases hpl
end
mutual
def A.hs:A->List Nat
 |.lp i _=>[i]
 |.h i=>[i]
 |.ep i _ _ _=>[i]
 |.sv i _ _=>[i]
 |.fn _ f c=>A.lQ f++A.lQ c
 |.agg l=>A.lQ l
 |.eL l=>A.lQ l
 |.AE _ a=>A.hs a
 |.d _=>[]
 |.x=>[]
def A.lQ:List A->List Nat
 |[]=>[]
 |c::r=>A.hs c++A.lQ r
end
def vX(m:Mem):∀(u v:List (Nat×R)),aH m (u++v)=aH (aH m u) v
 |[],v=>rfl
 |(i,r)::t,v=>by simp[bW,aH];exact vX _ t v
section
variable{M0 S0:Nat->Prop}{w0:World}{N:Fr}{T:Nat->A}{m:Mem}{ρ:Nat->Value}{a:Act}{w:World}{P:Program}
def UJ(h:bC M0 S0 w0 N T m ρ a w){t:TypeId}{i off:Nat}{l vs:List A}{p:Value}{o:Operand}(hp:(A.lp i off).Den w (dD M0 m ρ) m ρ p)(hi:m i=some (.cells false l))
 (hv:(dN T o).cells m=some vs)(hn:vs.length=P.cellsOf t)(aXM:off+vs.length<=l.length)(hi':(P.info? t).isSome=true):
 ∃w',(Instr.storeAt t p (a.eval o)).run P w=.ok () w'/\bC M0 S0 w0 N T (aX m i (.cells false (mM l off vs))) ρ a w'/\gL m (aX m i (.cells false (mM l off vs))) ρ ρ:=by
 simp[A.Den]at hp;obtain⟨b,hb,rfl⟩:=eH hp hi sM;have⟨b',cs,t',e1,h1,h2,h3,h5⟩:=h.res i _ hi;rw[hb]at e1;simp at e1;subst e1;have⟨hd,aX5⟩:=wQ h (cU h o) hv;have hlen:=(A.xJ.1 hd).1;have aXK:=(A.xJ.1 h2).1;have⟨ti,J3⟩:=eS.1 hi';have aVL:=run_storeCells_at P b off t' (a.eval o).cells.toList 0 cs w h1 (by simp at hlen aXK⊢;omega) aX5;simp only[iE]at aVL;refine⟨w.setRow b (cs.toList.take off++(a.eval o).cells.toList++cs.toList.drop (off+(a.eval o).cells.toList.length)).toArray,?_,?_,?_⟩
 rotate_left 2
 ·have:=gL.set (m:=m) (ρ:=ρ) i (.cells false (mM l off vs)) (ρ i) (λ_ _=>⟨by rw[hi];simp,rfl,λfz t es l' e=>by rw[hi]at e;simp at e⟩)
  rwa [jP]at this
 ·have hs:(a.eval o).cells.size=P.cellsOf t:=by rw[<-hn,hlen];simp
  simp only[Instr.storeAt,Instr.sureAddr,storeVar,aV,cB,aN,run_sizeOf J3,hs,ne_eq,not_true_eq_false,if_false];exact aVL
 ·have hk:iF (λk=>k=b) w (w.setRow b (cs.toList.take off++(a.eval o).cells.toList++cs.toList.drop (off+(a.eval o).cells.toList.length)).toArray):=
   ⟨rfl,rfl,rfl,by simp[World.setRow],λk _ hk=>setRow_other w b k _ hk⟩
  refine h.write hi rfl rfl sM hk (λk _ e=>by rw[hb,e];rfl) ?_;intro hO HG hm;refine⟨b,_,t',hb,setRow_heap w b _ _ t' _ h1,?_,sM,?_⟩
  ·have:=A.C5 off (A.dK HG hm hO _ _ h2) (A.dK HG hm hO _ _ hd);simpa [mM,bG]using this
  ·intro u hu;simp only[bN]at hu;rcases hu with(hu|hu)|hu
   ·exact h5 u (dJ hu)
   ·exact aX5 u hu
   ·exact h5 u (dI hu)
def z8{α:Type}{es:Nat}:∀(l:List (List α))(k:Nat)(r:List α),(∀e∈l,e.length=es)->k<l.length->r.length=es->(l.set k r).flatten=mM l.flatten (k*es) r
 |[],k,r,_,hk,_=>by simp at hk
 |e::l,0,r,hl,_,hr=>by
  have he:=hl e sM;simp[List.set_cons_zero,dL,mM,Nat.zero_mul,fF,fD,bZ];rw[hr,<-he,List.drop_left]
 |e::l,k+1,r,hl,hk,hr=>by
  have he:=hl e sM;have ih:=z8 l k r (λe' h'=>hl e' (by simp[h'])) (by simpa using hk) hr;simp[List.set_cons_succ,dL,ih,mM];rw[gY,Nat.add_comm (k*es) es,<-he,List.take_length_add_append,bG,fP,List.drop_length_add_append]
def aBU{α:Type}(F row vs:List α)(ke es off:Nat)(hF:ke+es<=F.length)(aY7:row.length=es)(hr:∀j,j<es->F[ke+j]?=row[j]?)(hv:off+vs.length<=es):
 mM F ke (mM row off vs)=mM F (ke+off) vs:=by
 have hsl:(mM row off vs).length=es:=by rw[AI _ _ _ oM,aY7]
 apply iQ;intro j;conv=>lhs;rw[mM]
 conv=>rhs;rw[mM]
 rw[hsl];rcases eQ j ke with q|q
 ·rw[bX zM,bX zM,cM,cM,aUF q,aUF oM]
 ·rw[bO zM];have e1:j -(F.take ke).length=j -ke:=zM;rw[e1];rcases eQ (j -ke) es with q2|q2
  ·rw[bX oM,mM];rcases eQ (j -ke) off with q3|q3
   ·rw[bX zM,cM,aUF q3,bX zM,cM,aUF oM];rw[<-hr _ q2];congr 1;omega
   ·rw[bO zM,bO (l₁:=F.take (ke+off)) zM];have e2:j -ke -(row.take off).length=j -(ke+off):=zM;have e3:j -(F.take (ke+off)).length=j -(ke+off):=zM;rw[e2,e3];rcases eQ (j -(ke+off)) vs.length with q4|q4
    ·rw[bX q4,bX q4]
    ·rw[bO q4,bO q4,eA,eA];rw[<-hr _ oM];congr 1;omega
  ·rw[bO oM,bO (l₁:=F.take (ke+off)) zM];have e3:j -(F.take (ke+off)).length=j -(ke+off):=zM;rw[e3,bO oM,eA,eA];congr 1;omega
def GG{e:TypeId}{size n:Nat}{g p cap:Nat}{xs vs:List Value}(h:vV w e size (.slice (some ⟨g,p,none⟩) n cap) n xs)(o:Nat)(P2:vs≠[])(aXM:o+vs.length<=xs.length)(aX5:∀u∈vs,u.oneCell'=true):
 ∃w',(storeCells ⟨g,p+o,none⟩ vs).run P w=.ok () w'/\vV w' e size (.slice (some ⟨g,p,none⟩) n cap) n (mM xs o vs)/\iF (λk=>k=g) w w':=by
 rcases h with⟨h',_⟩|⟨hxn,g',og,cap',cur,h',hb,hg,hnc,hcm,TW,aX3⟩
 ·subst h';exfalso;apply P2;exact bL (by simp only[cS]at aXM;omega)
 ·simp[Value.slice.injEq,aA,rX,and_true,true_and]at h';have⟨⟨rfl,rfl⟩,rfl⟩:=h';have hxl:p+xs.length<=cur.toList.length:=by
   have:xs.length<=(cur.toList.drop p).length:=by rw[<-aX3];simp;omega
   have h2:p<=cur.size:=oM;simp at this⊢;omega
  have aVL:=run_storeCells_at P g (p+o) e vs 0 cur w hg (by simp at hxl⊢;omega) aX5;simp only[iE]at aVL;refine⟨_,aVL,.inr ⟨by rw[AI _ _ _ aXM,hxn],g,p,cap,_,rfl,hb,setRow_heap w g cur _ e _ hg,hnc,hcm,?_,?_⟩,⟨rfl,rfl,rfl,by simp[World.setRow],λk _ hk=>setRow_other w g k _ hk⟩⟩
  ·simp at hxl;simp;omega
  ·have hn:n*size=xs.length:=hxn.symm;rw[hn];have hxj:∀j,j<xs.length->xs[j]?=cur.toList[p+j]?:=by
    intro j hj;have:=congrArg (λl=>l[j]?) aX3;simp only[cM,eA]at this;rw[aUF oM]at this;exact this.symm
   simp[aAH]at hxl;apply iQ;intro j;simp only[cM,mM];split
   ·rename_i hj;rw[eA];rcases eQ j o with h1|h1
    ·rw[bG,bX zM,bX zM,cM,aUF oM,cM,aUF h1];exact(hxj j oM).symm
    ·rw[bG,bO zM,bO (l₁:=xs.take o) zM];have e1:p+j -(cur.toList.take (p+o)).length=j -o:=zM;have e2:j -(xs.take o).length=j -o:=zM;rw[e1,e2];rcases eQ (j -o) vs.length with h2|h2
     ·rw[bX h2,bX h2]
     ·rw[bO h2,bO h2,eA,eA,hxj _ oM];congr 1;omega
   ·rename_i hj;rw[lD];simp;omega
def EJ{e:TypeId}{size n:Nat}{v:Value}{xs:List Value}(h:vV w e size v n xs)(hn:0<n):∃g o cap,v=.slice (some ⟨g,o,none⟩) n cap/\0<cap:=by
 rcases h with⟨_,h0,_⟩|⟨_,g,og,cap,cur,hv,hp,_⟩
 ·omega
 ·exact⟨g,og,cap,hv,hp⟩
def UI(h:bC M0 S0 w0 N T m ρ a w){t te:TypeId}{i es k off:Nat}{l:List (List A)}{vs:List A}{p:Value}{o:Operand}(hp:(A.ep i es k off).Den w (dD M0 m ρ) m ρ p)(hi:m i=some (.fW false te es l))
 (hv:(dN T o).cells m=some vs)(hk:k<l.length)(hn:vs.length=P.cellsOf t)(P2:vs≠[])(aXM:off+vs.length<=es)(hi':(P.info? t).isSome=true):
 ∃w',(Instr.storeAt t p (a.eval o)).run P w=.ok () w'/\bC M0 S0 w0 N T (aX m i (.fW false te es (l.set k (mM (l.getD k []) off vs)))) ρ a w'/\gL m (aX m i (.fW false te es (l.set k (mM (l.getD k []) off vs)))) ρ ρ:=by
 simp only[A.Den]at hp;obtain⟨b,og,n,cap,hb,rfl⟩:=eH hp hi sM;obtain⟨hd,aX5⟩:=wQ h (cU h o) hv;obtain⟨xs,g1,g2,g3,g4,g5⟩:=h.res i _ hi;have hlen:=(A.xJ.1 hd).1;have aXK:=(A.xJ.1 g2).1;obtain⟨ti,J3⟩:=eS.1 hi';have hn':n=l.length/\0<cap:=by
  obtain⟨g,o',cap',hv,hp⟩:=EJ g1 oM;rw[hb]at hv;simp at hv;obtain⟨_,e1,e2⟩:=hv;exact⟨e1,by rw[e2];exact hp⟩
 obtain⟨rfl,aZ6⟩:=hn';rw[hb]at g1;have hbound:k*es+off+(a.eval o).cells.toList.length<=xs.length:=by
  rw[<-aXK,fI g3,<-hlen]
  calc k*es+off+vs.length<=k*es+es:=oM
   _=(k+1)*es:=by rw[gY]
   _<=l.length*es:=fE _ hk
 obtain⟨w',aVL,aWZ,aW2⟩:=GG (P:=P) g1 (k*es+off) (λe=>P2 (bL (by rw[hlen,e];rfl))) hbound aX5;refine⟨w',?_,?_,?_⟩
 rotate_left 2
 ·have h2:=gL.set (m:=m) (ρ:=ρ) i (.fW false te es (l.set k (mM (l.getD k []) off vs))) (ρ i) (λ_ _=>⟨by rw[hi];simp,rfl,λfz t es' l' e=>⟨false,te,_,by rw[hi]at e;simp at e;obtain⟨_,_,e1,_⟩:=e;rw[e1],by rw[hi]at e;simp at e;obtain⟨_,_,_,e2⟩:=e;simp[<-e2]⟩⟩)
  rwa [jP]at h2
 ·have hs:(a.eval o).cells.size=P.cellsOf t:=by rw[<-hn,hlen];simp
  simp only[Instr.storeAt,Instr.sureAddr,storeVar,aV,cB,aN,run_sizeOf J3,hs,ne_eq,not_true_eq_false,if_false];exact aVL
 ·have aY7:(l.getD k []).length=es:=by
   rw[bF,aC hk];exact g3 _ (aY hk)
  have hsl:(mM (l.getD k []) off vs).length=es:=by rw[AI _ _ _ oM,aY7]
  refine h.write hi rfl rfl (λfz t es' l' e=>⟨false,te,_,by simp at e;obtain⟨_,_,e1,_⟩:=e;rw[e1],by simp at e;obtain⟨_,_,_,e2⟩:=e;simp[<-e2]⟩) aW2 (λc _ e=>by rw[hb,e];simp[blk];omega) ?_;intro hO HG hm;refine⟨mM xs (k*es+off) (a.eval o).cells.toList,by rw[hb];simpa using aWZ,?_,?_,sM,?_⟩
  ·have hf:(l.set k (mM (l.getD k []) off vs)).flatten=mM l.flatten (k*es+off) vs:=by
    rw[z8 l k _ g3 hk hsl];have hlf:=fI g3;refine aBU _ _ _ _ es _ ?_ aY7 (λj hj=>kY es l k _ j g3 (by simp[bF,aC hk]) hj) aXM;rw[hlf];calc k*es+es=(k+1)*es:=by rw[gY]
     _<=l.length*es:=fE _ hk
   rw[hf];exact A.C5 _ (A.dK HG hm hO _ _ g2) (A.dK HG hm hO _ _ hd)
  ·intro e he;rcases oI he with he|he
   ·exact g3 e he
   ·rw[he];exact hsl
  ·intro u hu;simp only[mM,bN]at hu;rcases hu with hu|hu|hu
   ·exact g5 u (dJ hu)
   ·exact aX5 u hu
   ·exact g5 u (dI hu)
end
def dO(m:Mem):A->Option (List (List A))
 |.h j=>match m j with
  |some (.fW _ _ _ l)=>some l
  |_=>none
 |.sv j lo n=>match m j with
  |some (.fW _ _ _ l)=>some ((l.drop lo).take n)
  |_=>none
 |.d (.sl _ l)=>some (l.map (·.map A.d))
 |.d (.nl _)=>some []
 |_=>none
def BY(l:List (List C)):(l.map (·.map A.d)).flatten=l.flatten.map A.d:=by
 induction l with
 |nil=>rfl
 |cons e r ih=>simp only[aG,dL,bP,ih]
section
variable{M0 S0:Nat->Prop}{w0:World}{N:Fr}{T:Nat->A}{m:Mem}{ρ:Nat->Value}{a:Act}{w:World}{P:Program}
def cP{b es:Nat}{M:Nat->Prop}:∀(l:List (List C))(o:Nat),C.lS w M b es o l->
 ∃news:List Value,news.length=l.length*es/\(∀u∈news,u.oneCell'=true)/\C.bR w M l.flatten news/\∀(j:Nat)(v:Value),news[j]?=some v->w.cell? ((⟨b,o,none⟩:Addr).add j)=some v
 |[],o,h=>⟨[],sM,sM,by simp[C.bR],sM⟩
 |e::r,o,h=>by
  simp only[C.lS]at h;obtain⟨h1,h2,h3⟩:=h;have⟨n2,g1,g0,g2,g3⟩:=cP (es:=es) r (o+es) h3;rw[C.rA]at h2;have⟨n1,f1,f0,f3,f2⟩:=GC (w:=w) (b:=b) (M:=M) e o h2;refine⟨n1++n2,by simp[f1,g1,h1,gY];omega,?_,by simpa using C.iH f2 g2,?_⟩
  ·intro u hu;simp at hu;exact hu.elim (f0 u) (g0 u)
  ·intro j v hv;rcases eQ j n1.length with hj|hj
   ·rw[bX hj]at hv;exact f3 j v hv
   ·rw[bO hj]at hv;have:=g3 _ v hv;rw[eP]at this⊢;rw[show o+j=o+es+(j -n1.length) by rw[f1,h1]at*;omega];exact this
def IT(h:bC M0 S0 w0 N T m ρ a w){x:A}{y:Value}{l:List (List A)}{es:Nat}(hx:x.Den w (dD M0 m ρ) m ρ y)(hs:dO m x=some l)(wP:∀e∈l,e.length=es):
 ∃ad cap news,y=.slice ad l.length cap/\news.length=l.length*es/\(∀u∈news,u.oneCell'=true)/\A.bR w (dD M0 m ρ) m ρ l.flatten news/\
  ((ad=none/\l=[])\/∃d,ad=some d/\∀(j:Nat)(v:Value),news[j]?=some v->w.cell? (d.add j)=some v):=by
 have key:∀{es':Nat}{ad:Option Addr}{cap:Nat}{l:List (List C)},(∀e∈l,e.length=es)->(l=[]\/∃b off,ad=some ⟨b,off,none⟩/\C.lS w (dD M0 m ρ) b es' off l)->
  ∃ad' cap' news,Value.slice ad l.length cap=.slice ad' l.length cap'/\news.length=l.length*es/\(∀u∈news,u.oneCell'=true)/\A.bR w (dD M0 m ρ) m ρ (l.map (·.map A.d)).flatten news/\
  ((ad'=none/\l=[])\/∃d,ad'=some d/\∀(j:Nat)(v:Value),news[j]?=some v->w.cell? (d.add j)=some v):=by
  intro es' ad cap l wP hl;by_cases aY5:l=[]
  ·subst aY5;refine⟨ad,cap,[],rfl,sM,sM,by simp[A.bR],?_⟩;cases ad with
   |none=>exact .inl ⟨rfl,rfl⟩
   |some d=>exact .inr ⟨d,rfl,sM⟩
  ·obtain⟨b,off,rfl,hr⟩:=hl.resolve_left aY5;have hee:es'=es:=by
    cases l with
    |nil=>exact absurd rfl aY5
    |cons e r=>
     simp[C.lS]at hr;rw[<-hr.1,wP e sM]
   subst hee;have⟨news,h1,h2,h3,h4⟩:=cP l off hr;exact⟨_,cap,news,rfl,h1,h2,by rw[BY];exact A.iO.2 h3,.inr ⟨_,rfl,h4⟩⟩
 have keyO:∀{i es':Nat}{fz:Bool}{t:TypeId}{l':List (List A)}(lo n:Nat),m i=some (.fW fz t es' l')->lo+n<=l'.length->(n=0\/es'=es)->∃news,news.length=n*es/\(∀u∈news,u.oneCell'=true)/\A.bR w (dD M0 m ρ) m ρ ((l'.drop lo).take n).flatten news/\
  ∃ad cap,ρ i=.slice ad l'.length cap/\(n=0\/∃b o,ad=some ⟨b,o,none⟩/\∀(j:Nat)(v:Value),news[j]?=some v->w.cell? ⟨b,o+(lo*es+j),none⟩=some v):=by
  intro i es' fz t l' lo n hi hln hee;have⟨xs,h1,h2,h3,h4,h5⟩:=h.res i _ hi;have rQ:∃ad cap,ρ i=.slice ad l'.length cap:=by
   rcases h1 with⟨hx,hn,ad,hv⟩|⟨hl,g,og,cap,cur,hv,_⟩
   ·exact⟨ad,0,by rw[hv,hn]⟩
   ·exact⟨_,cap,hv⟩
  rcases hee with rfl|rfl
  ·have⟨ad,cap,e⟩:=rQ;exact⟨[],sM,sM,by simp[A.bR],ad,cap,e,.inl rfl⟩
  ·have aZ7:((l'.drop lo).take n).flatten=(l'.flatten.drop (lo*es')).take (n*es'):=by
    rw[DS _ n (es:=es') (λe he=>h3 e (dI he)),DR l' lo h3]
   have hxl:xs.length=l'.length*es':=by rw[<-(A.xJ.1 h2).1,fI h3]
   have hb:lo*es'+n*es'<=l'.length*es':=by rw[<-Nat.add_mul];exact fE _ hln
   refine⟨(xs.drop (lo*es')).take (n*es'),zM,λu hu=>h5 u (dI (dJ hu)),by rw[aZ7];exact A.mT _ (A.lL _ h2),?_⟩;rcases h1 with⟨hx,hn,ad,hv⟩|⟨hl,g,og,cap,cur,hv,hp,hg,hc,hm,TW,htk⟩
   ·exact⟨ad,0,by rw[hv,hn],.inl oM⟩
   ·refine⟨_,cap,hv,.inr ⟨g,og,rfl,?_⟩⟩;intro j v hj;rw[cM]at hj;split at hj
    ·rw[eA]at hj;exact vV.cells (.inr ⟨hl,g,og,cap,cur,hv,hp,hg,hc,hm,TW,htk⟩) hv _ v hj
    ·cases hj
 cases x with
 |h i=>
  simp[dO]at hs;split at hs
  ·rename_i fz t es' l' hi;simp[aA]at hs;subst hs;simp[A.Den]at hx;rw[eH hx hi sM];have hee:l'.length=0\/es'=es:=by
    have⟨xs,h1,h2,h3,h4,h5⟩:=h.res i _ hi;cases l' with
    |nil=>exact .inl rfl
    |cons e r=>right;rw[<-h3 e sM,wP e sM]
   have⟨news,k1,k2,k3,ad,cap,k4,k5⟩:=keyO 0 l'.length hi oM hee;refine⟨ad,cap,news,k4,k1,k2,by simpa using k3,?_⟩;rcases k5 with k5|⟨b,o,rfl,k6⟩
   ·have hn0:news=[]:=bL (by rw[k1,k5];simp);have hl0:=bL k5;cases ad with
    |none=>exact .inl ⟨rfl,hl0⟩
    |some d=>exact .inr ⟨d,rfl,by simp[hn0]⟩
   ·exact .inr ⟨_,rfl,λj v hj=>by rw[eP];have:=k6 j v hj;simpa using this⟩
  ·cases hs
 |sv i lo n=>
  simp[dO]at hs;split at hs
  ·rename_i fz t es' l' hi;simp[aA]at hs;subst hs;simp only[A.Den]at hx;obtain⟨ad,cap,rfl,hc,es2,fz',t',l2,e1,e2,h3⟩:=eH hx hi sM;rw[hi]at e1;simp at e1;have⟨rfl,rfl,rfl,rfl⟩:=e1;have hlen:((l'.drop lo).take n).length=n:=zM;have hee:n=0\/es'=es:=by
    have⟨xs,h1,h2,h3,h4,h5⟩:=h.res i _ hi;cases hc:(l'.drop lo).take n with
    |nil=>left;rw[hc]at hlen;simpa using hlen.symm
    |cons e r=>
     right;have hm:e∈(l'.drop lo).take n:=by rw[hc];simp
     rw[<-h3 e (dI (dJ hm)),wP e hm]
   have⟨news,k1,k2,k3,ad2,cap2,k4,k5⟩:=keyO lo n hi e2 hee;rw[hlen];refine⟨ad,cap,news,rfl,k1,k2,k3,?_⟩;by_cases hn:n=0
   ·subst hn;have hn0:news=[]:=bL (by rw[k1];simp);cases ad with
    |none=>exact .inl ⟨rfl,sM⟩
    |some d=>exact .inr ⟨d,rfl,by simp[hn0]⟩
   ·obtain⟨b,og,n',cap',h4,rfl,_⟩:=h3.resolve_left (λq=>hn q.1);obtain⟨b2,o2,rfl,k6⟩:=k5.resolve_left hn;rw[h4]at k4;simp at k4;have⟨⟨rfl,rfl⟩,_⟩:=k4;have a16:=hee.resolve_left hn;subst a16;exact .inr ⟨_,rfl,λj v hj=>by rw[eP,fP];exact k6 j v hj⟩
  ·cases hs
 |d c=>
  cases c with
  |sl es' l'=>
   simp[dO,aA]at hs;subst hs;simp[A.Den,C.Den]at hx;obtain⟨ad,cap,rfl,hc,hl⟩:=hx;obtain⟨ad',cap',news,k1,k2,k3,k4,k5⟩:=key (l:=l') (λe he=>by have:=wP (e.map A.d) (aA4.2 ⟨e,he,rfl⟩);simpa using this) (hl.imp id λ⟨b,off,e1,_,_,e2⟩=>⟨b,off,e1,e2⟩);exact⟨ad',cap',news,by simpa using k1,by simpa using k2,k3,k4,k5.imp (λ⟨a,b⟩=>⟨a,by rw[b];rfl⟩) id⟩
  |nl es'=>
   simp[dO,aA]at hs;subst hs;simp[A.Den,C.Den]at hx;subst hx;exact⟨none,0,[],rfl,sM,sM,by simp[A.bR],.inl ⟨rfl,rfl⟩⟩
  |_=>simp[dO]at hs
 |_=>simp[dO]at hs
def iP(m:Mem):A->Option (Option Nat×List (List A))
 |.h i=>match m i with
  |some (.fW false _ _ l)=>some (some i,l)
  |_=>none
 |.d (.nl _)=>some (none,[])
 |_=>none
def j8(P:Program)(t:TypeId):Option TypeId:=
 match P.underlying t with
 |some (.slice e)=>some e
 |_=>none
def nU{e:TypeId}(h:j8 P t=some e):P.underlying t=some (.slice e):=by
 unfold j8 at h;split at h
 ·simp at h;subst h;assumption
 ·cases h
def uL:Option Nat->List (Nat×R)
 |none=>[]
 |some i=>[(i,.dead)]
def CZ(P:Program)(w:World){t ty e:TypeId}{i:TypeInfo}(ht:P.underlying t=some (.slice e))(hi:P.info? e=some i)
 (g p sLen sCap:Nat)(cur:Array Value)(hg:w.heap[g]?=some (.cells cur e (0,0)))
 (a:Addr)(m c:Nat)(news:List Value)(hl:news.length=m*i.size)(aZU:∀(j:Nat)(u:Value),news[j]?=some u->w.cell? (a.add j)=some u)(h1:∀u∈news,u.oneCell'=true)
 (aYI:sLen+m<=sCap)(aXM:p+sLen*i.size+news.length<=cur.size):
 (Builtin.append_ #[t,t] ty #[.slice (some ⟨g,p,none⟩) sLen sCap,.slice (some a) m c]).run P w=
   .ok (.slice (some ⟨g,p,none⟩) (sLen+m) sCap) (w.setRow g (cur.toList.take (p+sLen*i.size)++news++cur.toList.drop (p+sLen*i.size+news.length)).toArray):=by
 have hf:=run_firstCells_some (P:=P) w i.size m a m c news hl aZU;have HG:=run_storeCells_at P g (p+sLen*i.size) e news 0 cur w hg (by simpa using aXM) h1;simp[iE]at HG;simp[Builtin.append_,run_underlying ht,sizeOf,typeInfo,hi,Builtin.lenOf,aYI,hf,eP,HG]
def LC(P:Program)(w:World){t ty e:TypeId}{es by_:Nat}{i:TypeInfo}{zv:Value}(ht:P.underlying t=some (.slice e))(hi:P.info? e=some i)(hzi:i.zero=some zv)(vZ:i.size=es)(hbz:i.bytes=by_)(hzs:zv.cells.size=es)(aXV:0<es)(aZK:0<by_)
 {v:Value}{n k cap:Nat}{xs news:List Value}{ad:Option Addr}(aZD:vV w e es v n xs\/(v=.slice none 0 0/\n=0/\xs=[]/\0<k))(E0:news.length=k*es)(P0:∀u∈news,u.oneCell'=true)
 (aY8:(ad=none/\k=0)\/∃d,ad=some d/\∀(j:Nat)(u:Value),news[j]?=some u->w.cell? (d.add j)=some u)(aYA:(n+k)*by_<=140737488355328):
 ∃v' w',(Builtin.append_ #[t,t] ty #[v,.slice ad k cap]).run P w=.ok v' w'/\vV w' e es v' (n+k) (xs++news)/\iF (λb=>blk v=some b) w w'/\(∀b,blk v'=some b->blk v=some b\/w.heap.size<=b)/\(∀b,blk v'=some b->b<w'.heap.size):=by
 have hmx:n+k<=maxLen:=by
  have:(n+k)*1<=(n+k)*by_:=sX _ aZK;unfold maxLen;omega
 have a1M:n+k<=9223372036854775807:=by unfold maxLen at hmx;omega
 have blkLt:∀{v:Value}{n:Nat}{xs:List Value}{w:World},vV w e es v n xs->∀b,blk v=some b->b<w.heap.size:=by
  intro v n xs w ho b hb;rcases ho with⟨_,_,a,rfl⟩|⟨_,g,og,c,cur,rfl,hp,hg,_⟩
  ·cases a<;>simp[blk]at hb
  ·simp[blk]at hb;obtain⟨_,rfl⟩:=hb;exact(aL.1 hg).1
 rcases aY8 with⟨rfl,rfl⟩|⟨d,rfl,aW7⟩
 ·
  have aWZ:vV w e es v n xs:=aZD.resolve_right λ⟨_,_,_,h⟩=>oM;have hn0:news=[]:=bL (by simpa using E0);subst hn0;have aVL:(Builtin.append_ #[t,t] ty #[v,.slice none 0 cap]).run P w=.ok v w:=by
   rcases aWZ with⟨rfl,rfl,a,rfl⟩|⟨_,g,og,c,cur,rfl,_,_,hnc,_⟩
   ·simp[Builtin.append_,run_underlying ht,sizeOf,typeInfo,hi,Builtin.lenOf,Builtin.firstCells,storeCells]
   ·simp[Builtin.append_,run_underlying ht,sizeOf,typeInfo,hi,Builtin.lenOf,Builtin.firstCells,hnc,storeCells]
  exact⟨v,w,aVL,by simpa using aWZ,iF.refl _ w,λb hb=>.inl hb,blkLt aWZ⟩
 ·
  have grown:∀(old:Nat),xs.length=n*es->0<n+k->
   vV (w.drew.alloc (.cells (xs.toArray++news.toArray++Builtin.zeroCells zv.cells (grownCap w (n+k) old e -(n+k))) e)) e es (.slice (some ⟨w.heap.size,0,none⟩) (n+k) (grownCap w (n+k) old e)) (n+k) (xs++news):=by
   intro old hxl aWU;have hge:=grownCap_ge w (n+k) old e;refine .inr ⟨by rw[aU,hxl,E0,fS],w.heap.size,0,_,_,rfl,oM,heap_alloc_new w.drew _,hge,grownCap_le_maxLen w (n+k) old e hmx,?_,?_⟩
   ·rw[fF];simp only[Array.size_append,nJ,size_zeroCells,hzs,hxl,E0,<-Nat.add_mul];refine Nat.le_of_eq ?_;congr 1;omega
   ·simp only[Array.toList_append,n6];rw[bG,<-List.append_assoc,List.take_left' (by rw[aU,hxl,E0,fS])]
  have kp:∀(o:Obj)(X:Nat->Prop),iF X w (w.drew.alloc o):=λo X=>⟨rfl,rfl,rfl,sM,λb hb _=>by rw[Below.heap_alloc w.drew o b (by simpa using hb)];rfl⟩;rcases aZD with aWZ|⟨rfl,rfl,rfl,hkp⟩
  rotate_left 1
  ·have aVL:(Builtin.append_ #[t,t] ty #[.slice none 0 0,.slice (some d) k cap]).run P w=.ok (.slice (some ⟨w.heap.size,0,none⟩) (0+k) (grownCap w (0+k) 0 e)) (w.drew.alloc (.cells (([]:List Value).toArray++news.toArray++Builtin.zeroCells zv.cells (grownCap w (0+k) 0 e -(0+k))) e)):=by
    have h48:k*i.bytes<=281474976710656:=by rw[hbz];simp only[fF]at aYA;omega
    have:=run_append_nil (P:=P) w t ty e i zv ht hi hzi d k cap news (by rw[E0,vZ]) aW7 oM oM h48;simpa using this
   refine⟨_,_,aVL,grown 0 sM oM,kp _ _,λb hb=>.inr ?_,λb hb=>?_⟩
   ·simp[blk]at hb;omega
   ·simp[blk]at hb;simp;omega
  rcases aWZ with⟨rfl,rfl,a,rfl⟩|⟨hxl,g,og,c,cur,rfl,hp,hg,hnc,hcm,TW,aX3⟩
  ·by_cases hk:k=0
   ·subst hk;have hn0:news=[]:=bL (by simpa using E0);subst hn0;refine⟨.slice (some a) 0 0,w,?_,.inl ⟨rfl,rfl,a,rfl⟩,iF.refl _ w,λb hb=>.inl hb,?_⟩
    ·have hl:=run_firstCells_some (P:=P) w es 0 d 0 cap [] sM sM;simp[Builtin.append_,run_underlying ht,run_sizeOf hi,Program.cellsOf,hi,vZ,Builtin.lenOf,hl,storeCells]
    ·intro b hb;simp[blk]at hb
   ·have aVL:(Builtin.append_ #[t,t] ty #[.slice (some a) 0 0,.slice (some d) k cap]).run P w=.ok (.slice (some ⟨w.heap.size,0,none⟩) (0+k) (grownCap w (0+k) 0 e)) (w.drew.alloc (.cells (([]:List Value).toArray++news.toArray++Builtin.zeroCells zv.cells (grownCap w (0+k) 0 e -(0+k))) e)):=by
     have aXM:Builtin.nextslicecap (0+k) 0*i.bytes<=281474976710656:=growslice_fits oM (by rw[hbz];exact aYA);exact run_append_grow (P:=P) w t ty e i zv ht hi hzi a 0 0 [] sM sM d k cap news (by rw[E0,vZ]) aW7 oM oM aXM
    refine⟨_,_,aVL,grown 0 sM oM,kp _ _,λb hb=>.inr ?_,λb hb=>?_⟩
    ·simp[blk]at hb;omega
    ·simp[blk]at hb;simp;omega
  ·by_cases aYI:n+k<=c
   ·have aXM:og+n*i.size+news.length<=cur.size:=by
     have:=fE es aYI;rw[fS]at this;rw[E0,vZ];omega
    have aVL:=CZ P w (ty:=ty) ht hi g og n c cur hg d k cap news (by rw[E0,vZ]) aW7 P0 aYI aXM;refine⟨_,_,aVL,.inr ⟨by rw[aU,hxl,E0,fS],g,og,c,_,rfl,hp,setRow_heap w g cur _ e _ hg,aYI,hcm,?_,?_⟩,⟨rfl,rfl,rfl,by simp[World.setRow],λb _ hb=>setRow_other w g b _ (λe=>hb (by rw[e];simp[blk];omega))⟩,λb hb=>.inl ?_,λb hb=>?_⟩
    ·simp only[nJ,aU,cW,l4,aAH];omega
    ·rw[vZ,bG,List.drop_append_of_le_length zM,List.drop_take,Nat.add_sub_cancel_left,aX3,<-List.append_assoc,List.take_left' (by rw[aU,hxl,E0,fS])]
    ·simp[blk]at hb⊢;exact hb
    ·simp[blk]at hb;obtain⟨_,rfl⟩:=hb;simp[World.setRow];exact(aL.1 hg).1
   ·have holds:∀(j:Nat)(u:Value),xs[j]?=some u->w.cell? ((⟨g,og,none⟩:Addr).add j)=some u:=by
     intro j u hu;rw[eP];exact vV.cells (.inr ⟨hxl,g,og,c,cur,rfl,hp,hg,hnc,hcm,TW,aX3⟩) rfl j u hu
    have aVL:=run_append_grow (P:=P) w t ty e i zv ht hi hzi ⟨g,og,none⟩ n c xs (by rw[hxl,vZ]) holds d k cap news (by rw[E0,vZ]) aW7 oM oM (growslice_fits oM (by rw[hbz];exact aYA));refine⟨_,_,aVL,grown c hxl oM,kp _ _,λb hb=>.inr ?_,λb hb=>?_⟩
    ·simp[blk]at hb;omega
    ·simp[blk]at hb;simp;omega
def LI(h:bC M0 S0 w0 N T m ρ a w)(cX:∀b,M0 b->b<w0.heap.size){t e ty:TypeId}{es by_:Nat}{od ox:Operand}{k:Option Nat}{l l2:List (List A)}{z:List C}{d:Nat}{v:Value}{xs:List Value}
 (aY8:dO m (dN T ox)=some l2)(he:j8 P t=some e)(hz:o5 P e=some z)(hzl:z.length=es)(aXV:0<es)(aYZ:P.cellsOf e=es)(hby:P.bytesOf e=by_)(aZK:0<by_)
 (hle:∀r∈l,r.length=es)(hl2:∀r∈l2,r.length=es)(a0A:∀i,k=some i->∃l',m i=some (.fW false e es l'))(hd:m d=none)(aYA:(l.length+l2.length)*by_<=140737488355328)
 (hv:a.eval od=v)(aWZ:vV w e es v l.length xs\/(v=.slice none 0 0/\l.length=0/\xs=[]/\0<l2.length))(v8:A.bR w (dD M0 m ρ) m ρ l.flatten xs)(R2:∀u∈xs,u.oneCell'=true)(hvb:∀b,blk v=some b->∃i r,k=some i/\m i=some r/\r.live=true/\blk (ρ i)=some b)(hvk:∀i,k=some i->∃r,m i=some r/\r.live=true):
 ∃ρ' v w',(Builtin.append_ #[t,t] ty #[a.eval od,a.eval ox]).run P w=.ok v w'/\bC M0 S0 w0 N T (aX (aH m (uL k)) d (.fW false e es (l++l2))) ρ' a w'/\gL m (aX (aH m (uL k)) d (.fW false e es (l++l2))) ρ ρ'/\
  (A.h d).Den w' (dD M0 (aX (aH m (uL k)) d (.fW false e es (l++l2))) ρ') (aX (aH m (uL k)) d (.fW false e es (l++l2))) ρ' v:=by
 have ht:=nU he;obtain⟨zv,_,XO,⟨i,hi,hzi⟩,_⟩:=qA hz w;have hzs:zv.cells.size=es:=by have:=(C.xJ.1 (XO w (λ_=>False))).1;rw[hzl]at this;simpa using this.symm
 have vZ:i.size=es:=by rw[<-aYZ];simp[Program.cellsOf,hi]
 have hbz:i.bytes=by_:=by rw[<-hby];simp[Program.bytesOf,hi]
 obtain⟨ad,cap,news,hy,E0,P0,y4,aZ2⟩:=IT h (cU h ox) aY8 hl2;obtain⟨v',w',aVL,aZX,aW2,aX8,a07⟩:=LC P w (ty:=ty) (cap:=cap) ht hi hzi vZ hbz hzs aXV aZK aWZ E0 P0 (aZ2.imp (λ⟨q1,q2⟩=>⟨q1,by rw[q2];rfl⟩) id) aYA;rw[<-hv,<-hy]at aVL;have fin:∀{m':Mem}{M1:Nat->Prop},bC M1 S0 w0 N T m' ρ a w->(∀b,M0 b->M1 b)->(∀b,blk v=some b->M1 b/\¬M0 b/\(w0.heap.size<=b\/S0 b))->m' d=none->(∀b,dD M1 m' ρ b->b<w.heap.size->dD M0 m ρ b)->gL m m' ρ ρ->
  bC M0 S0 w0 N T (aX m' d (.fW false e es (l++l2))) (dW ρ d v') a w':=by
  intro m' M1 h1 hM hvo hd' hmm hOm;have h2:=h1.world aW2 (λb _ e=>⟨(hvo b e).1,(hvo b e).2.2⟩);refine h2.aI5 hd' (λb hb=>⟨.inl (hM b hb),λe=>?_⟩) (λb hb=>?_) rfl ?_
  ·rcases aX8 b e with f|f
   ·exact(hvo b f).2.1 hb
   ·have:=cX b hb;have:=h.keeps.size;omega
  ·refine⟨?_,?_,a07 b hb⟩
   ·rcases aX8 b hb with f|f
    ·exact .inl (hvo b f).1
    ·exact .inr f
   ·rcases aX8 b hb with f|f
    ·exact(hvo b f).2.2
    ·exact .inl (cL h.keeps.size f)
  ·have hlen:(l++l2).length=l.length+l2.length:=sM;refine⟨xs++news,by rw[hlen];exact aZX,?_,?_,sM,?_⟩
   ·rw[fJ];have HG:dV (dD M0 m ρ) w w':=aW2.stays λb _ e=>by
     obtain⟨i',r',_,q1,q2,q3⟩:=hvb b e;exact .inr ⟨i',r',q1,q2,q3⟩
    have aVM:∀b,dD M0 (aX m' d (.fW false e es (l++l2))) (dW ρ d v') b->b<w.heap.size->dD M0 m ρ b:=by
     rintro b (q|⟨j,r,q1,q2,q3⟩) hb
     ·exact .inl q
     ·by_cases ej:j=d
      ·subst ej;simp[dW]at q3;rcases aX8 b q3 with f|f
       ·obtain⟨i',r',_,p1,p2,p3⟩:=hvb b f;exact .inr ⟨i',r',p1,p2,p3⟩
       ·omega
      ·exact hmm b (.inr ⟨j,r,by simpa [aX,ej]using q1,q2,by simpa [dW,ej]using q3⟩) hb
    have hOn:gL m (aX m' d (.fW false e es (l++l2))) ρ (dW ρ d v'):=hOm.trans (gL.new _ _ hd');exact A.iH (A.dK HG aVM hOn _ _ v8) (A.dK HG aVM hOn _ _ y4)
   ·intro r hr;simp at hr;exact hr.elim (hle r) (hl2 r)
   ·intro u hu;simp at hu;exact hu.elim (R2 u) (P0 u)
 refine⟨dW ρ d v',v',w',aVL,?_,?_,?_⟩
 rotate_left 1
 ·cases k with
  |none=>exact gL.new _ _ hd
  |some i'=>
   obtain⟨l',qK⟩:=a0A i' rfl;have hdi:d≠i':=by rintro rfl;rw[hd]at qK;cases qK
   refine gL.trans (m2:=aX m i' .dead) (ρ2:=ρ) ?_ (gL.new _ _ (by simp[aX,hdi,hd]));have:=gL.set (m:=m) (ρ:=ρ) i' .dead (ρ i') (λ_ e=>absurd rfl e)
   rwa [jP]at this
 rotate_left 1
 ·cases k with
  |none=>
   refine fin h (λ_ hb=>hb) (λb hb=>?_) hd (λb hb _=>hb) (gL.refl m ρ);obtain⟨_,_,q,_⟩:=hvb b hb;cases q
  |some i'=>
   obtain⟨r',hr1,hr2⟩:=hvk i' rfl;have hk:=h.kill hr1 hr2;have hdi:d≠i':=by rintro rfl;rw[hd]at hr1;cases hr1
   refine fin hk (λ_ hb=>.inl hb) (λb hb=>?_) (by simp[uL,aH,aX,hdi,hd]) ?_ ?_
   rotate_left 2
   ·have:=gL.set (m:=m) (ρ:=ρ) i' .dead (ρ i') (λ_ e=>absurd rfl e)
    rwa [jP]at this
   ·obtain⟨i2,r2,q0,q1,q2,q3⟩:=hvb b hb;cases q0;obtain⟨q4,q5,_⟩:=h.own i' r2 b q1 q2 q3;exact⟨.inr q3,q5,q4⟩
   ·rintro b ((q|q)|⟨j,r,q1,q2,q3⟩) _
    ·exact .inl q
    ·exact .inr ⟨i',r',hr1,hr2,q⟩
    ·by_cases ej:j=i'
     ·subst ej;simp[uL,aH,aX]at q1;subst q1;simp[R.live]at q2
     ·exact .inr ⟨j,r,by simpa [uL,aH,aX,ej]using q1,q2,q3⟩
 ·simp only[A.Den];exact⟨by simp[aX],λ_=>by simp[dW]⟩
def aBM(h:bC M0 S0 w0 N T m ρ a w)(cX:∀b,M0 b->b<w0.heap.size){t e ty:TypeId}{es by_:Nat}{od ox:Operand}{k:Option Nat}{l l2:List (List A)}{z:List C}{d:Nat}
 (aXY:iP m (dN T od)=some (k,l))(aY8:dO m (dN T ox)=some l2)(he:j8 P t=some e)(hz:o5 P e=some z)(hzl:z.length=es)(aXV:0<es)(aYZ:P.cellsOf e=es)(hby:P.bytesOf e=by_)(aZK:0<by_)
 (hle:∀r∈l,r.length=es)(hl2:∀r∈l2,r.length=es)(a0A:∀i,k=some i->∃l',m i=some (.fW false e es l'))(hd:m d=none)(hkn:k=none->l2≠[])(aYA:(l.length+l2.length)*by_<=140737488355328):
 ∃ρ' v w',(Builtin.append_ #[t,t] ty #[a.eval od,a.eval ox]).run P w=.ok v w'/\bC M0 S0 w0 N T (aX (aH m (uL k)) d (.fW false e es (l++l2))) ρ' a w'/\gL m (aX (aH m (uL k)) d (.fW false e es (l++l2))) ρ ρ'/\
  (A.h d).Den w' (dD M0 (aX (aH m (uL k)) d (.fW false e es (l++l2))) ρ') (aX (aH m (uL k)) d (.fW false e es (l++l2))) ρ' v:=by
 have hdd:∃(v:Value)(xs:List Value),a.eval od=v/\(vV w e es v l.length xs\/(v=.slice none 0 0/\l.length=0/\xs=[]/\0<l2.length))/\A.bR w (dD M0 m ρ) m ρ l.flatten xs/\(∀u∈xs,u.oneCell'=true)/\(∀b,blk v=some b->∃i r,k=some i/\m i=some r/\r.live=true/\blk (ρ i)=some b)/\(∀i,k=some i->∃r,m i=some r/\r.live=true):=by
  have hev:=cU h od;cases hod:dN T od with
  |h i'=>
   rw[hod]at aXY hev;simp only[iP]at aXY;split at aXY
   ·rename_i t' es' l' zI;simp only[aA,aD]at aXY;obtain⟨rfl,rfl⟩:=aXY;simp only[A.Den]at hev;have hv:=eH hev zI sM;obtain⟨l3,h1⟩:=a0A i' rfl;rw[zI]at h1;simp at h1;obtain⟨rfl,rfl,rfl⟩:=h1;obtain⟨xs,g1,g2,g3,g4,g5⟩:=h.res i' _ zI;exact⟨ρ i',xs,hv,.inl g1,g2,g5,λb hb=>⟨i',_,rfl,zI,rfl,hb⟩,λi e=>by cases e;exact⟨_,zI,rfl⟩⟩
   ·cases aXY
  |d c=>
   rw[hod]at aXY hev;cases c with
   |nl es'=>
    simp only[iP,aA,aD]at aXY;obtain⟨rfl,rfl⟩:=aXY;simp only[A.Den,C.Den]at hev;exact⟨.slice none 0 0,[],hev,.inr ⟨rfl,rfl,rfl,gH.2 (hkn rfl)⟩,by simp[A.bR],sM,by simp[blk],sM⟩
   |_=>simp[iP]at aXY
  |_=>rw[hod]at aXY;simp[iP]at aXY
 obtain⟨v,xs,hv,aWZ,v8,R2,hvb,hvk⟩:=hdd;exact LI h cX aY8 he hz hzl aXV aYZ hby aZK hle hl2 a0A hd aYA hv aWZ v8 R2 hvb hvk
end
def B1{z:List C}{zero:Array Value}(hz:C.bR w M z zero.toList)(h0:0<z.length)(n k:Nat)(hk:k<=n):
 C.bR w M (List.replicate k z).flatten (((Array.range (n*z.length)).map (zero[· %zero.size]!)).toList.take (k*z.length)):=by
 have hzl:z.length=zero.size:=by simpa using(C.xJ.1 hz).1
 have aXU:∀e∈List.replicate k z,e.length=z.length:=λe he=>by rw[o7 he]
 have hfl:(List.replicate k z).flatten.length=k*z.length:=by rw[fI aXU];simp
 rw[C.xJ];refine⟨?_,λj c y hc hy=>?_⟩
 ·have vZ:((Array.range (n*z.length)).map (zero[· %zero.size]!)).toList.length=n*z.length:=by rw[aAH (xs:=(Array.range (n*z.length)).map (zero[· %zero.size]!)),Array.size_map,Array.size_range]
  rw[hfl,cW,vZ];exact(aL2 (fE _ hk)).symm
 ·have hj:j<k*z.length:=by rw[<-hfl];exact(bA.1 hc).1
  rw[cM,aUF hj]at hy;have hjn:j<n*z.length:=cG hj (fE _ hk);have hy':y=zero[j %zero.size]! :=by
   rw[jH,Array.getElem?_map,Array.getElem?_range,aUF hjn]at hy;simpa using hy.symm
  subst hy';have aZS:j %z.length<z.length:=u5 _ h0;have hdiv:j/z.length<k:=by rw[nA h0];exact hj
  have aY7:=kY z.length (List.replicate k z) (j/z.length) z (j %z.length) aXU (by simp[hdiv]) aZS;rw[show j/z.length*z.length+j %z.length=j by rw[Nat.mul_comm];exact Nat.div_add_mod _ _]at aY7;rw[aY7]at hc;rw[<-hzl];have cX:j %z.length<zero.toList.length:=zM;have:=(C.xJ.1 hz).2 _ c _ hc (aC cX);simp at cX;simpa [cX]using this
def B2{zero:Array Value}(h0:∀u∈zero.toList,u.oneCell'=true)(hz:0<zero.size)(n:Nat):∀u∈((Array.range n).map (zero[· %zero.size]!)).toList,u.oneCell'=true:=by
 intro u hu;simp at hu;obtain⟨j,_,rfl⟩:=hu;have cX:j %zero.size<zero.size:=u5 _ hz;have:zero[j %zero.size]! =zero[j %zero.size]:=by simp[cX]
 rw[this];exact h0 _ sM
def NO(es:Nat):List (List A)->List (Nat×List A)->Option (List (List A))
 |rs,[]=>some rs
 |rs,(i,row)::rest=>if i<rs.length/\row.length=es then NO es (rs.set i row) rest else none
def Z6{m:Mem}{ps:List (Nat×List A)}{vs:List (Nat×Value)}(hps:I0 w M m ρ ps vs):
 ∀{rs out:List (List A)}{cs:Array Value},A.bR w M m ρ rs.flatten cs.toList->(∀u∈cs.toList,u.oneCell'=true)->(∀e∈rs,e.length=es)->NO es rs ps=some out->
  ∃cs',Instr.fill (λi=>some (i*es,es)) cs vs=some cs'/\A.bR w M m ρ out.flatten cs'.toList/\(∀u∈cs'.toList,u.oneCell'=true)/\(∀e∈out,e.length=es)/\out.length=rs.length:=by
 induction hps with
 |nil=>
  intro rs out cs hd TW hr hf;simp only[NO,aA]at hf;subst hf;exact⟨cs,rfl,hd,TW,hr,rfl⟩
 |cons h h0 t ih=>
  rename_i i l y r s;intro rs out cs hd TW hr hf;simp only[NO]at hf;split at hf
  ·rename_i hc;obtain⟨hc1,wF⟩:=hc;have hlen:=(A.xJ.1 h).1;have aXK:=(A.xJ.1 hd).1;rw[fI hr]at aXK;have hb:i*es+es<=rs.length*es:=by
    calc i*es+es=(i+1)*es:=by rw[gY]
     _<=rs.length*es:=fE _ hc1
   have aYW:=NP y.cells.toList 0 (i*es) cs (by simp at hlen aXK⊢;omega);have hz:y.cells.zipIdx.foldl (λcs(x:Value×Nat)=>cs.setIfInBounds (i*es+x.2) x.1) cs=(y.cells.toList.zipIdx 0).foldl (λcs(x:Value×Nat)=>cs.setIfInBounds (i*es+x.2) x.1) cs:=by
    rw[<-Array.foldl_toList];simp
   obtain⟨cs',h1,h2,h3,h4,h5⟩:=ih (cs:=y.cells.zipIdx.foldl (λcs(x:Value×Nat)=>cs.setIfInBounds (i*es+x.2) x.1) cs) (by
    rw[hz,aYW,z8 rs i l hr hc1 wF];exact A.C5 _ hd h) (by
    rw[hz,aYW];intro u hu;simp only[mM,bN]at hu;rcases hu with hu|hu|hu
    · exact TW u (dJ hu)
    · exact h0 u hu
    · exact TW u (dI hu)) (by
    intro e he;rcases oI he with he|he
    · exact hr e he
    · rw[he];exact wF) hf
   refine⟨cs',?_,h2,h3,h4,by rw[h5];simp⟩;simp only[Instr.fill];rw[aT7]
   ·exact h1
   ·simp at hlen aXK;simp;omega
  ·cases hf
def oX(m:Mem):List (Nat×A)->Option (List (Nat×List A))
 |[]=>some []
 |(i,x)::r=>match x.cells m,oX m r with
  |some l,some t=>some ((i,l)::t)
  |_,_=>none
section
variable{M0 S0:Nat->Prop}{w0:World}{N:Fr}{T:Nat->A}{m:Mem}{ρ:Nat->Value}{a:Act}{w:World}{P:Program}
def zC(n:Nat)(z:List C):(List.replicate n (z.map A.d)).flatten=(List.replicate n z).flatten.map A.d:=by
 rw[<-BY,List.map_replicate]
def yP(h:bC M0 S0 w0 N T m ρ a w):∀{ps:List (Nat×Operand)}{rs:List (Nat×List A)},oX m (ps.map λp=>(p.1,dN T p.2))=some rs->I0 w (dD M0 m ρ) m ρ rs (ps.map λp=>(p.1,a.eval p.2))
 |[],rs,hc=>by simp only[bM,oX,aA]at hc;subst hc;exact .nil
 |(i,o)::r,rs,hc=>by
  simp only[aG,oX]at hc;split at hc
  ·rename_i l t h1 h2;simp only[aA]at hc;subst hc;obtain⟨g1,g2⟩:=wQ h (cU h o) h1;exact .cons g1 g2 (yP h h2)
  ·cases hc
def MU(h:bC M0 S0 w0 N T m ρ a w)(cX:∀b,M0 b->b<w0.heap.size){t e:TypeId}{len es:Nat}{ps:List (Nat×Operand)}{out:List (List A)}{rp:List (Nat×List A)}{z:List C}{d:Nat}
 (he:j8 P t=some e)(hz:o5 P e=some z)(hzl:z.length=es)(aXV:0<es)(aYZ:P.cellsOf e=es)(aYA:len*es<=16777216)(hc:oX m (ps.map λp=>(p.1,dN T p.2))=some rp)(hf:NO es (List.replicate len (z.map A.d)) rp=some out)(hd:m d=none):
 ∃ρ' v w',(Instr.buildSlice t len (ps.map λp=>(p.1,a.eval p.2)).toArray).run P w=.ok v w'/\bC M0 S0 w0 N T (aX m d (.fW false e es out)) ρ' a w'/\gL m (aX m d (.fW false e es out)) ρ ρ'/\
  (A.h d).Den w' (dD M0 (aX m d (.fW false e es out)) ρ') (aX m d (.fW false e es out)) ρ' v:=by
 have ht:=nU he;obtain⟨zv,XN,XO,⟨i,hi,hzi⟩,hz0⟩:=qA hz w;have hp:=yP h hc;have hzs:zv.cells.size=es:=by have:=(C.xJ.1 (XO w (λ_=>False))).1;rw[hzl]at this;simpa using this.symm
 have T9:=B1 (XO w (dD M0 m ρ)) (by rw[hzl];exact aXV) len len (bT _);rw[hzl]at T9;have htk:(((Array.range (len*es)).map (zv.cells[· %zv.cells.size]!)).toList.take (len*es))=((Array.range (len*es)).map (zv.cells[· %zv.cells.size]!)).toList:=by
  rw[aI];simp
 rw[htk]at T9;have a1K:=(A.iO (m:=m) (ρ:=ρ)).2 T9;rw[<-zC]at a1K;obtain⟨cs',g1,g2,g3,g4,g5⟩:=Z6 hp a1K (B2 hz0 oM _) (λe' he'=>by rw[o7 he',aB,hzl]) hf;have hlen:out.length=len:=by rw[g5];simp
 have TW:cs'.size=len*es:=by have:=(A.xJ.1 g2).1;rw[fI g4,hlen]at this;simpa using this.symm
 refine⟨dW ρ d (.slice (some ⟨w.heap.size,0,none⟩) len len),.slice (some ⟨w.heap.size,0,none⟩) len len,w.alloc (.cells cs' e),?_,?_,gL.new _ _ hd,?_⟩
 ·have hzr:(zeroValue e).run P w=.ok zv w:=XN;have hng:¬(2^24<len*es):=oM;by_cases h0:len*es=0
  ·have hl0:len=0:=by rcases Nat.mul_eq_zero.1 h0 with q|q<;>omega
   subst hl0;have e0:(Array.range (0*es)).map (λx=>zv.cells[x %zv.cells.size]!)= #[]:=sM;rw[e0]at g1;have e1:(Array.map (λx=>(default:Value)) (Array.range 0))= #[]:=sM;simp[Instr.buildSlice,run_underlying ht,run_sizeOf hi,aYZ,newRow,Array.range_zero',e1,g1]
  ·simp only[Instr.buildSlice,aV,run_underlying ht,aN,run_sizeOf hi,aYZ,gt_iff_lt,aT7 hng,h0,if_false,hzr,cB,Pure.pure,jY];simp only[Sem.run_pure',aN,g1,newRow,run_newObj,aV,kN];rfl
 ·refine h.rG cX (jF w _) hd rfl (by simp[blk]) ?_;intro hO HG hm;refine⟨cs'.toList,?_,A.dK HG hm hO _ _ g2,g4,sM,g3⟩;by_cases h0:len=0
  ·subst h0;exact .inl ⟨bL (by simp[TW]),hlen,_,rfl⟩
  ·refine .inr ⟨by rw[hlen];simpa using TW,w.heap.size,0,len,cs',by rw[hlen],oM,heap_alloc_new w _,by rw[hlen];exact bT _,?_,by rw[fF,TW];exact bT _,?_⟩
   ·have:len*1<=len*es:=sX _ aXV;unfold maxLen;omega
   ·rw[n6,hlen,aI];simp[TW]
 ·simp only[A.Den];exact⟨by simp[aX],λ_=>by simp[dW]⟩
def QX(h:bC M0 S0 w0 N T m ρ a w)(cX:∀b,M0 b->b<w0.heap.size){t e:TypeId}{es by_:Nat}{z:List C}{d:Nat}{kl kc:IntKind}{l c:Int}
 (he:j8 P t=some e)(hz:o5 P e=some z)(hzl:z.length=es)(aXV:0<es)(aYZ:P.cellsOf e=es)(hby:P.bytesOf e=by_)(h0:0<=l)(hlc:l<=c)(a0S:(by_:Int)*c<=281474976710656)(h63:c<=9223372036854775807)(hd:m d=none):
 ∃ρ' v w',(Instr.makeSlice t (.int kl l) (.int kc c)).run P w=.ok v w'/\bC M0 S0 w0 N T (aX m d (.fW false e es (List.replicate l.toNat (z.map A.d)))) ρ' a w'/\gL m (aX m d (.fW false e es (List.replicate l.toNat (z.map A.d)))) ρ ρ'/\
  (A.h d).Den w' (dD M0 (aX m d (.fW false e es (List.replicate l.toNat (z.map A.d)))) ρ') (aX m d (.fW false e es (List.replicate l.toNat (z.map A.d)))) ρ' v:=by
 have ht:=nU he;obtain⟨zv,XN,XO,⟨i,hi,hzi⟩,hz0⟩:=qA hz w;have hzs:zv.cells.size=es:=by have:=(C.xJ.1 (XO w (λ_=>False))).1;rw[hzl]at this;simpa using this.symm
 have vZ:i.size=es:=by rw[<-aYZ];simp[Program.cellsOf,hi]
 have hbz:i.bytes=by_:=by rw[<-hby];simp[Program.bytesOf,hi]
 have aVL:=run_make (P:=P) w t e i zv ht hi hzi kl kc l c h0 hlc (by rw[hbz];exact a0S) h63;have hle:l.toNat<=c.toNat:=oM;refine⟨dW ρ d (.slice (some ⟨w.heap.size,0,none⟩) l.toNat c.toNat),_,_,aVL,?_,gL.new _ _ hd,?_⟩
 ·refine h.rG cX (jF w _) hd rfl (by simp[blk]) ?_;intro hO HG hm;have T9:=B1 (XO (w.alloc (.cells (madeCells zv.cells (c.toNat*i.size)) e)) (dD M0 (aX m d (.fW false e es (List.replicate l.toNat (z.map A.d)))) (dW ρ d (.slice (some ⟨w.heap.size,0,none⟩) l.toNat c.toNat)))) (by rw[hzl];exact aXV) c.toNat l.toNat hle;rw[hzl]at T9;have hml:(((Array.range (c.toNat*es)).map (zv.cells[· %zv.cells.size]!)).toList.take (l.toNat*es)).length=l.toNat*es:=by
   have:l.toNat*es<=c.toNat*es:=fE _ hle;have vZ:((Array.range (c.toNat*es)).map (zv.cells[· %zv.cells.size]!)).toList.length=c.toNat*es:=by rw[aAH (xs:=(Array.range (c.toNat*es)).map (zv.cells[· %zv.cells.size]!)),Array.size_map,Array.size_range]
   rw[cW,vZ];omega
  refine⟨((Array.range (c.toNat*es)).map (zv.cells[· %zv.cells.size]!)).toList.take (l.toNat*es),?_,by rw[zC];exact A.iO.2 T9,?_,sM,?_⟩
  ·by_cases hc0:c.toNat=0
   ·have hl0:l.toNat=0:=oM;exact .inl ⟨bL (by rw[hml,hl0];simp),by simp[hl0],⟨w.heap.size,0,none⟩,by rw[hl0,hc0]⟩
   ·exact .inr ⟨by rw[hml];simp,w.heap.size,0,c.toNat,_,sM,oM,heap_alloc_new w _,by simpa using hle,by unfold maxLen;omega,by simp[madeCells,vZ],by simp[madeCells,vZ]⟩
  ·intro e' he';rw[o7 he',aB,hzl]
  ·exact λu hu=>B2 hz0 oM _ u (dJ hu)
 ·simp only[A.Den];exact⟨by simp[aX],λ_=>by simp[dW]⟩
def WV(h:bC M0 S0 w0 N T m ρ a w)(cX:∀b,M0 b->b<w0.heap.size){t:TypeId}{d:Nat}(hd:m d=none):
 ∃ρ' v w',(Instr.makeMap t none).run P w=.ok v w'/\bC M0 S0 w0 N T (aX m d (.mp false [] [])) ρ' a w'/\gL m (aX m d (.mp false [] [])) ρ ρ'/\
  (A.h d).Den w' (dD M0 (aX m d (.mp false [] [])) ρ') (aX m d (.mp false [] [])) ρ' v:=by
 refine⟨dW ρ d (.map (some w.heap.size)),.map (some w.heap.size),w.alloc (.map #[] 0),by simp[Instr.makeMap],?_,gL.new _ _ hd,?_⟩
 ·refine h.rG cX (jF w _) hd rfl (by simp[blk]) ?_;intro hO HG hm;exact⟨w.heap.size,#[],0,[],rfl,heap_alloc_new w _,⟨sM,rfl,sM,sM,sM⟩,by simp[A.bR],sM,by simp[vW]⟩
 ·simp only[A.Den];exact⟨by simp[aX],λ_=>by simp[dW]⟩
end
end Go.Pv
