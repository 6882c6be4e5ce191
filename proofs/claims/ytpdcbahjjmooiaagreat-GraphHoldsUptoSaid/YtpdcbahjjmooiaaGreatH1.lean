import Derived.WalkKit
import Derived.Deep.LoopGhost
/- A program logic over the model, contracts of the functions that the law reaches: part 1. (Names and blanks were shortened by program.) -/
set_option linter.unusedVariables false
set_option linter.unusedSimpArgs false
set_option linter.constructorNameAsVariable false
set_option linter.unusedSectionVars false
set_option linter.deprecated false
set_option linter.defProp false
set_option maxRecDepth 100000
set_option maxHeartbeats 8000000
open Go
namespace Go.Pv
open Go.RowKit
theorem sn.{u}{α:Type u}{a:α}:some a≠none:=Option.some_ne_none a
theorem tV:True:=.intro
theorem oM{p:Prop}(h:p:=by omega):p:=h
theorem sM{p:Prop}(h:p:=by simp):p:=h
theorem eD{p:Prop}(h:p:=by decide):p:=h
theorem kK{p:Prop}(h:p:=by kernel_rfl):p:=h
theorem aM{p:Prop}(h:p:=by assumption):p:=h
theorem dM{p:Prop}(h:p:=by dsimp only;omega):p:=h
theorem zM{p:Prop}(h:p:=by simp;omega):p:=h
def aA.{u}:=@Option.some.injEq.{u}
def aB.{u,v}:=@List.length_map.{u,v}
def aE:=@Bool.and_eq_true
def aT7.{u}:=@if_neg.{u}
def aC.{u}:=@List.getElem?_eq_getElem.{u}
def aD.{u,v}:=@Prod.mk.injEq.{u,v}
def aI.{u}:=@List.take_of_length_le.{u}
def aUA:=@decide_eq_true_eq
def aG.{u,v}:=@List.map_cons.{u,v}
def aUF.{u}:=@if_pos.{u}
def aUL:=@of_decide_eq_true
def aUZ:=@decide_eq_true
def aQ.{u}:=@List.length_cons.{u}
def aU0:=@decide_eq_false
def aT.{u}:=@List.take_succ_eq_append_getElem.{u}
def aS.{u}:=@List.length_replicate.{u}
def aL.{u}:=@Array.getElem?_eq_some_iff.{u}
def aU.{u}:=@List.length_append.{u}
def aA4.{u,v}:=@List.mem_map.{u,v}
def aN:=@Go.Result.andThen_ok
def aO.{u}:=@List.mem_cons.{u}
def bL.{u}:=@List.eq_nil_of_length_eq_zero.{u}
def aY.{u}:=@List.getElem_mem.{u}
def bD:=@Nat.le_of_ble_eq_true
def aV:=@Go.Sem.run_bind
def cA:=@Bool.true_and
def aR.{u}:=@List.mem_singleton.{u}
def bH.{u,v,w}:=@List.map_map.{u,v,w}
def bF.{u}:=@List.getD_eq_getElem?_getD.{u}
def bA.{u}:=@List.getElem?_eq_some_iff.{u}
def bG.{u}:=@List.append_assoc.{u}
def bB:=@Nat.eq_of_beq_eq_true
def bP.{u,v}:=@List.map_append.{u,v}
def bN.{u}:=@List.mem_append.{u}
def bM.{u,v}:=@List.map_nil.{u,v}
def cS.{u}:=@List.length_nil.{u}
def cE.{u}:=@List.length_set.{u}
def cV.{u}:=@List.all_eq_true.{u}
def bO.{u}:=@List.getElem?_append_right.{u}
def cC.{u}:=@List.take_succ_cons.{u}
def dE.{u}:=@List.drop_eq_getElem_cons.{u}
def bU.{u,v}:=@Option.map_eq_some_iff.{u,v}
def cB:=@Go.Sem.run_pure
def aU1:=@decide_eq_false_iff_not
def bX.{u}:=@List.getElem?_append_left.{u}
def cF.{u}:=@Array.getElem?_eq_getElem.{u}
def dT.{u}:=@List.drop_eq_nil_of_le.{u}
def c0:=@Bool.false_and
def cL:=@Nat.le_trans
def cJ.{u}:=@List.getElem_cons_succ.{u}
def gI:=@Bool.and_eq_false_iff
def cG:=@Nat.lt_of_lt_of_le
def bY:=@Bool.false_eq_true
def dF.{u,v}:=@Option.map_some.{u,v}
def cW.{u}:=@List.length_take.{u}
def cQ.{u,v}:=@List.map_congr_left.{u,v}
def cT.{u}:=@List.mem_of_find?_eq_some.{u}
def jT:=@Bool.eq_iff_iff
def cM.{u}:=@List.getElem?_take.{u}
def eC:=@Bool.not_eq_true'
def dL.{u}:=@List.flatten_cons.{u}
def cK.{u,v}:=@List.getElem?_map.{u,v}
def c6.{u}:=@List.mem_of_getElem?.{u}
def c8.{u}:=@List.getElem?_eq_none.{u}
def gP:=@Bool.or_eq_true
def aW:=@True.intro
def cZ.{u}:=@Array.getD_eq_getD_getElem?.{u}
def bT:=@Nat.le_refl
def dS.{u}:=@List.append_nil.{u}
def dI.{u}:=@List.mem_of_mem_drop.{u}
def dJ.{u}:=@List.mem_of_mem_take.{u}
def iA.{u}:=@List.all_eq_false.{u}
def bZ.{u}:=@List.nil_append.{u}
def eK.{u}:=@List.getElem_cons_zero.{u}
def bI:=@And.intro
def eA.{u}:=@List.getElem?_drop.{u}
def gZ.{u}:=@Option.getD_some.{u}
def dQ.{u}:=@List.any_eq_true.{u}
def dY.{u}:=@List.mem_iff_getElem?.{u}
def aB3.{u}:=@Array.getElem?_setIfInBounds_ne.{u}
def fB:=@Bool.not_false
def bW.{u}:=@List.cons_append.{u}
def fO.{u,v}:=@List.getElem_map.{u,v}
def eN.{u}:=@List.find?_cons.{u}
def fD.{u}:=@List.take_zero.{u}
def eP:=@Go.Addr.add_lit
def eQ:=@Nat.lt_or_ge
def fR:=@Bool.not_true
def gO:=@Bool.false_ne_true
def fF:=@Nat.zero_add
def gJ.{u}:=@List.take_append_drop.{u}
def gQ.{u}:=@List.all_append.{u}
def fE:=@Nat.mul_le_mul_right
def fC.{u}:=@List.reverse_cons.{u}
def eY.{u}:=@Option.some.inj.{u}
def jI:=@List.mem_range
def jA.{u}:=@Array.eq_empty_of_size_eq_zero.{u}
def iS.{u}:=@List.nodup_append.{u}
def jU.{u}:=@List.mem_filter.{u}
def gR.{u}:=@List.nodup_cons.{u}
def eS.{u}:=@Option.isSome_iff_exists.{u}
def fS:=@Nat.add_mul
def gK.{u}:=@List.eraseIdx_cons_succ.{u}
def dH.{u}:=@List.mem_iff_getElem.{u}
def fP:=@Nat.add_assoc
def iD.{u}:=@List.find?_some.{u}
def gY:=@Nat.succ_mul
def gX.{u}:=@List.take_length.{u}
def c7.{u}:=@Array.length_toList.{u}
def iQ.{u}:=@List.ext_getElem?.{u}
def hP:=@Int.toNat_natCast
def iE:=@Nat.add_zero
def fX.{u,v}:=@List.foldl_cons.{u,v}
def l4.{u}:=@List.length_drop.{u}
def iK.{u}:=@List.getElem?_cons_zero.{u}
def iJ.{u}:=@List.getElem?_append.{u}
def gU.{u}:=@List.sum_cons.{u}
def iT.{u}:=@List.take_add_one.{u}
def iX.{u}:=@List.cons.injEq.{u}
def mN.{u}:=@List.find?_eq_none.{u}
def o6:=@Bool.and_true
def jJ.{u}:=@List.take_append_of_le_length.{u}
def jQ.{u}:=@List.getElem?_cons_succ.{u}
def jY.{u}:=@List.toList_toArray.{u}
def fJ.{u}:=@List.flatten_append.{u}
def gH.{u}:=@List.length_pos_iff.{u}
def o9.{u}:=@List.all_cons.{u}
def kN:=@Go.World.alloc_eq
def nL.{u}:=@List.exists_cons_of_ne_nil.{u}
def kL:=@Bool.and_false
def kR.{u}:=@List.pairwise_cons.{u}
def nX.{u}:=@List.length_singleton.{u}
def kP.{u}:=@List.findIdx?_eq_some_iff_getElem.{u}
def oI.{u}:=@List.mem_or_eq_of_mem_set.{u}
def sJ.{u}:=@Array.toArray_toList.{u}
def lC.{u}:=@List.getElem?_modify.{u}
def qR.{u}:=@List.any_eq_false.{u}
def lJ.{u}:=@Array.toList_modify.{u}
def n6.{u}:=@List.drop_zero.{u}
def lZ.{u}:=@List.filter_cons.{u}
def jB.{u}:=@List.getElem_inj.{u}
def lW:=@Go.Comes.of_steps
def lY.{u}:=@List.drop_drop.{u}
def lX:=@Int.eq_ofNat_of_zero_le
def iL.{u}:=@List.length_eq_zero_iff.{u}
def aDR.{u}:=@List.getElem?_toArray.{u}
def qX.{u}:=@List.Perm.append_left.{u}
def fN.{u}:=@Array.getElem?_modify.{u}
def nJ.{u}:=@List.size_toArray.{u}
def iB.{u,v}:=@List.foldl_append.{u,v}
def n7:=@Go.Steps.trans
def fY.{u}:=@Array.getElem?_append_left.{u}
def uE.{u}:=@List.mem_cons_of_mem.{u}
def qS.{u,v}:=@List.map_set.{u,v}
def vT.{u}:=@Exists.intro.{u}
def oG.{u}:=@List.extract_eq_take_drop.{u}
def oH.{u,v}:=@List.getElem?_zip_eq_some.{u,v}
def aDY.{u}:=@List.filter_eq_self.{u}
def pR.{u}:=@List.drop_succ_cons.{u}
def o7.{u}:=@List.eq_of_mem_replicate.{u}
def pA.{u}:=@List.head?_drop.{u}
def pM:=@Nat.eq_zero_or_pos
def qB.{u}:=@List.map_id.{u}
def yO:=@Bool.and_assoc
def y3.{u}:=@List.find?_append.{u}
def jH.{u}:=@Array.getElem?_toList.{u}
def nA:=@Nat.div_lt_iff_lt_mul
def qY.{u}:=@List.singleton_append.{u}
def rN.{u}:=@Array.mem_filter.{u}
def rO:=@Go.GStep.bare_after
def rR:=@Nat.blt_eq
def rP.{u,v}:=@List.mem_flatMap.{u,v}
def sK.{u}:=@Array.toList_extract.{u}
def eV:=@Or.inr
def sX:=@Nat.mul_le_mul_left
def oN:=@Go.Value.pointer.injEq
def DY:=@Int.toNat_of_nonneg
def u5:=@Nat.mod_lt
def u4:=@Nat.lt_or_gt_of_ne
def l5:=@Nat.mul_le_mul
def u3:=@BitVec.toNat_ofInt
def rX:=@Go.Addr.mk.injEq
def rS:=@Or.inl
def R1:=@Nat.le_add_right
variable{M M':Nat->Prop}{w w':World}{ρ ρ':Nat->Value}{es i b:Nat}{ys:List Value}{P:Program}{t:TypeId}
inductive KC where
 |int(k:IntKind)(n:Int)
 |bool(b:Bool)
 |str(s:ByteArray)
 deriving DecidableEq,Inhabited
def KC.val:KC->Value
 |.int k n=>.int k n
 |.bool b=>.bool b
 |.str s=>.string s
inductive Ky where
 |one(c:KC)
 |agg(l:List KC)
 deriving DecidableEq,Inhabited
def Ky.val:Ky->Value
 |.one c=>c.val
 |.agg l=>.agg (l.map KC.val).toArray
structure M4(es:Array MapEntry)(clock:Nat)(ks:List Ky)(l:List MapEntry):Prop where
 perm:es.toList.Perm l
 keys:l.map (·.key)=ks.map Ky.val
 nodup:ks.Nodup
 born:(l.map (·.born)).Nodup
 old:∀e∈l,e.born<clock
inductive C where
 |v(x:Value)
 |sl(es:Nat)(l:List (List C))
 |nl(es:Nat)
 |ip(l:List C)
 |im(ks:List Ky)(vs:List C)
 |fn(f:Fn)(first caps:List C)
 |agg(l:List C)
 |AE(t:TypeId)(c:C)
 deriving Inhabited
mutual
def C.Den(w:World)(M:Nat->Prop):C->Value->Prop
 |.v x,y=>y=x
 |.sl es l,y=>∃a cap,y=.slice a l.length cap/\l.length<=cap/\(l=[]\/∃b off,a=some ⟨b,off,none⟩/\¬M b/\b<w.heap.size/\C.lS w M b es off l)
 |.nl _,y=>y=.slice none 0 0
 |.ip l,y=>∃b off,y=.pointer (some ⟨b,off,none⟩)/\¬M b/\b<w.heap.size/\C.sS w M b off l
 |.im ks vs,y=>∃b es clock l,y=.map (some b)/\¬M b/\w.heap[b]?=some (.map es clock)/\M4 es clock ks l/\C.bR w M vs (l.map (·.val))
 |.fn f first caps,y=>∃us vs,y=.func f us vs/\C.bR w M first us.toList/\C.bR w M caps vs.toList
 |.agg l,y=>∃vs,y=.agg vs/\(∀u∈vs.toList,u.oneCell'=true)/\C.bR w M l vs.toList
 |.AE t c,y=>∃v,y=.iface t v/\C.Den w M c v
def C.bR(w:World)(M:Nat->Prop):List C->List Value->Prop
 |[],ys=>ys=[]
 |c::r,ys=>∃y yr,ys=y::yr/\C.Den w M c y/\C.bR w M r yr
def C.sS(w:World)(M:Nat->Prop)(b:Nat):Nat->List C->Prop
 |_,[]=>True
 |off,c::r=>(∃y,w.cell? ⟨b,off,none⟩=some y/\y.oneCell'=true/\C.Den w M c y)/\C.sS w M b (off+1) r
def C.lS(w:World)(M:Nat->Prop)(b es:Nat):Nat->List (List C)->Prop
 |_,[]=>True
 |off,e::r=>e.length=es/\C.sS w M b off e/\C.lS w M b es (off+es) r
end
def dV(M:Nat->Prop)(w w':World):Prop:=w.heap.size<=w'.heap.size/\∀b,b<w.heap.size->¬M b->w'.heap[b]?=w.heap[b]?
theorem dV.cell{M:Nat->Prop}{w w':World}(h:dV M w w'){b off:Nat}(hb:b<w.heap.size)(hM:¬M b):w'.cell? ⟨b,off,none⟩=w.cell? ⟨b,off,none⟩:=
 World.cell?_of_block (w:=w) (h.2 b hb hM)
mutual
theorem C.dC{w w':World}{M M':Nat->Prop}(h:dV M w w')(hM:∀b,M' b->b<w.heap.size->M b):
 ∀(c:C)(y:Value),c.Den w M y->c.Den w' M' y
 |.v x,y,hd=>by simpa only[C.Den]using hd
 |.sl es l,y,hd=>by
  simp only[C.Den]at hd⊢;obtain⟨a,cap,hy,hc,hl⟩:=hd;refine⟨a,cap,hy,hc,hl.imp id ?_⟩;rintro⟨b,off,ha,hm,hb,hr⟩;exact⟨b,off,ha,λe=>hm (hM b e hb),cG hb h.1,C.G0 h hM b hb hm l off es hr⟩
 |.nl es,y,hd=>by simpa only[C.Den]using hd
 |.ip l,y,hd=>by
  simp only[C.Den]at hd⊢;obtain⟨b,off,hy,hm,hb,hr⟩:=hd;exact⟨b,off,hy,λe=>hm (hM b e hb),cG hb h.1,C.B7 h hM b hb hm l off hr⟩
 |.im ks vs,y,hd=>by
  simp only[C.Den]at hd⊢;obtain⟨b,es,cl,l,hy,hm,hb,hk,hr⟩:=hd;have cX:b<w.heap.size:=(aL.1 hb).1;exact⟨b,es,cl,l,hy,λe=>hm (hM b e cX),(h.2 b cX hm).trans hb,hk,C.dK h hM vs _ hr⟩
 |.fn f first caps,y,hd=>by
  simp only[C.Den]at hd⊢;obtain⟨us,vs,hy,h1,h2⟩:=hd;exact⟨us,vs,hy,C.dK h hM first _ h1,C.dK h hM caps _ h2⟩
 |.agg l,y,hd=>by
  simp only[C.Den]at hd⊢;obtain⟨vs,hy,h0,h1⟩:=hd;exact⟨vs,hy,h0,C.dK h hM l _ h1⟩
 |.AE t c,y,hd=>by
  simp only[C.Den]at hd⊢;obtain⟨v,hy,h1⟩:=hd;exact⟨v,hy,C.dC h hM c _ h1⟩
theorem C.dK{w w':World}{M M':Nat->Prop}(h:dV M w w')(hM:∀b,M' b->b<w.heap.size->M b):
 ∀(l:List C)(ys:List Value),C.bR w M l ys->C.bR w' M' l ys
 |[],ys,hd=>by simpa only[C.bR]using hd
 |c::r,ys,hd=>by
  simp only[C.bR]at hd⊢;obtain⟨y,yr,hy,h1,h2⟩:=hd;exact⟨y,yr,hy,C.dC h hM c y h1,C.dK h hM r yr h2⟩
theorem C.B7{w w':World}{M M':Nat->Prop}(h:dV M w w')(hM:∀b,M' b->b<w.heap.size->M b)(b:Nat)(hb:b<w.heap.size)(hm:¬M b):
 ∀(l:List C)(off:Nat),C.sS w M b off l->C.sS w' M' b off l
 |[],_,_=>by simp only[C.sS]
 |c::r,off,hd=>by
  simp only[C.sS]at hd⊢;obtain⟨⟨y,hy,h0,h1⟩,h2⟩:=hd;exact⟨⟨y,(h.cell hb hm).trans hy,h0,C.dC h hM c y h1⟩,C.B7 h hM b hb hm r (off+1) h2⟩
theorem C.G0{w w':World}{M M':Nat->Prop}(h:dV M w w')(hM:∀b,M' b->b<w.heap.size->M b)(b:Nat)(hb:b<w.heap.size)(hm:¬M b):
 ∀(l:List (List C))(off es:Nat),C.lS w M b es off l->C.lS w' M' b es off l
 |[],_,_,_=>by simp only[C.lS]
 |e::r,off,es,hd=>by
  simp only[C.lS]at hd⊢;obtain⟨h0,h1,h2⟩:=hd;exact⟨h0,C.B7 h hM b hb hm e off h1,C.G0 h hM b hb hm r (off+es) es h2⟩
end
inductive A where
 |d(c:C)
 |lp(i off:Nat)
 |h(i:Nat)
 |ep(i es k off:Nat)
 |sv(i lo n:Nat)
 |fn(f:Fn)(first caps:List A)
 |agg(l:List A)
 |eL(l:List A)
 |AE(t:TypeId)(a:A)
 |x
 deriving Inhabited
inductive R where
 |dead
 |cells(fz:Bool)(l:List A)
 |fW(fz:Bool)(t:TypeId)(es:Nat)(l:List (List A))
 |mp(fz:Bool)(kv:List (Ky×A))(st:List (Ky×Nat))
 |fr(l:List A)
 |it(i sc:Nat)(start seen:List Nat)
 |wL
 |AV
 |si(s:ByteArray)(pos:Nat)
 |lo(st:LoopState)(pend:Option Code)(ts:List A)(ps:Array Tmp)(asg bod:Code)
 |df(tk:Bool)
 |cu(src:A)(es:Nat)(l:List (List A))
 |di(cur:Option (Ky×C))(rest:List (Ky×C))
 deriving Inhabited
def R.live:R->Bool
 |.dead=>false
 |.cells fz _=> !fz
 |.fW fz _ _ _=> !fz
 |.mp fz _ _=> !fz
 |.fr _=>true
 |.it _ _ _ _=>true
 |.wL=>true
 |.AV=>true
 |.si _ _=>true
 |.lo _ _ _ _ _ _=>true
 |.df _=>true
 |.cu _ _ _=>false
 |.di _ _=>true
def jK:Value->Option Nat
 |.pointer (some a)=>some a.block
 |.slice (some a) _ c=>if c=0 then none else some a.block
 |.map (some b)=>some b
 |.func (.yield l) _ _=>some l
 |_=>none
abbrev Mem:=Nat->Option R
def dD(M0:Nat->Prop)(m:Mem)(ρ:Nat->Value)(b:Nat):Prop:=M0 b\/∃i r,m i=some r/\r.live=true/\jK (ρ i)=some b
def Has(m:Mem)(i:Nat)(p:Prop):Prop:=m i≠none/\(m i≠some .dead->p)
mutual
def A.Den(w:World)(M:Nat->Prop)(m:Mem)(ρ:Nat->Value):A->Value->Prop
 |.d c,y=>c.Den w M y
 |.lp i off,y=>Has m i (∃b,ρ i=.pointer (some ⟨b,0,none⟩)/\y=.pointer (some ⟨b,off,none⟩))
 |.h i,y=>Has m i (y=ρ i)
 |.ep i es k off,y=>Has m i (∃b o n cap,ρ i=.slice (some ⟨b,o,none⟩) n cap/\y=.pointer (some ⟨b,o+(k*es+off),none⟩))
 |.sv i lo n,y=>Has m i (∃a cap,y=.slice a n cap/\n<=cap/\∃es fz t l,m i=some (.fW fz t es l)/\lo+n<=l.length/\((n=0/\cap=0/\(a=none->l.length=0))\/∃b o n' cap',ρ i=.slice (some ⟨b,o,none⟩) n' cap'/\a=some ⟨b,o+lo*es,none⟩/\lo+cap<=cap'))
 |.fn f first caps,y=>∃us vs,y=.func f us vs/\A.bR w M m ρ first us.toList/\A.bR w M m ρ caps vs.toList
 |.agg l,y=>∃vs,y=.agg vs/\(∀u∈vs.toList,u.oneCell'=true)/\A.bR w M m ρ l vs.toList
 |.eL l,y=>∃vs,y=.tuple vs/\A.bR w M m ρ l vs.toList
 |.AE t a,y=>∃v,y=.iface t v/\A.Den w M m ρ a v
 |.x,_=>True
def A.bR(w:World)(M:Nat->Prop)(m:Mem)(ρ:Nat->Value):List A->List Value->Prop
 |[],ys=>ys=[]
 |c::r,ys=>∃y yr,ys=y::yr/\A.Den w M m ρ c y/\A.bR w M m ρ r yr
end
def vV(w:World)(t:TypeId)(es:Nat)(h:Value)(n:Nat)(xs:List Value):Prop:=
 (xs=[]/\n=0/\∃a,h=.slice (some a) 0 0)\/
 (xs.length=n*es/\∃g o cap cur,h=.slice (some ⟨g,o,none⟩) n cap/\0<cap/\w.heap[g]?=some (.cells cur t (0,0))/\n<=cap/\cap<=maxLen/\o+cap*es<=cur.size/\(cur.toList.drop o).take (n*es)=xs)
def dX(ρ:Nat->Value)(i:Nat):Nat:=match ρ i with
 |.int _ n=>n.toNat
 |_=>0
def FA(m:Mem)(ids:List Nat)(p:Prop):Prop:=(∀i∈ids,m i≠none)/\((∀i∈ids,m i≠some .dead)->p)
def vW(m:Mem)(ρ:Nat->Value)(st:List (Ky×Nat))(l:List MapEntry)(clock:Nat):Prop:=∀p∈st,Has m p.2 ((∀e∈l,e.key=p.1.val->e.born=dX ρ p.2)/\dX ρ p.2<=clock/\(p.1=.agg []->dX ρ p.2=clock))
def U9(m:Mem)(ρ:Nat->Value)(start seen:List Nat)(since:Nat)(sa:Array Nat):Prop:=
 (∀i∈seen,i∈start)/\FA m start (start.Nodup/\(start.map (dX ρ)).Nodup/\(∀i∈start,dX ρ i<since/\(sa.contains (dX ρ i)=decide (i∈seen)))/\(∀i∈seen,i∈start)/\sa.back?=seen.head?.map (dX ρ))
def W9(w:World)(M:Nat->Prop)(es:Array MapEntry)(sa:Array Nat)(cur:Option (Ky×C)):Prop:=∀p,cur=some p->∃e∈es.toList,sa.back?=some e.born/\e.key=p.1.val/\C.Den w M p.2 e.val
theorem W9.mono(h:dV M w w')(hM:∀b,M' b->b<w.heap.size->M b){es:Array MapEntry}{sa:Array Nat}{cur:Option (Ky×C)}(hd:W9 w M es sa cur):W9 w' M' es sa cur:=by
 intro p hp;obtain⟨e,h1,h2,h3,h4⟩:=hd p hp;exact⟨e,h1,h2,h3,C.dC h hM _ _ h4⟩
def R.Ok(w:World)(M:Nat->Prop)(m:Mem)(ρ:Nat->Value)(h:Value):R->Prop
 |.dead=>True
 |.cells fz l=>∃b cs t,h=.pointer (some ⟨b,0,none⟩)/\w.heap[b]?=some (.cells cs t (0,0))/\A.bR w M m ρ l cs.toList/\(fz=true->¬M b)/\∀u∈cs.toList,u.oneCell'=true
 |.fW fz t es l=>∃xs,vV w t es h l.length xs/\A.bR w M m ρ l.flatten xs/\(∀e∈l,e.length=es)/\(fz=true->∀b,jK h=some b->¬M b)/\∀u∈xs,u.oneCell'=true
 |.mp fz kv st=>∃b es clock l,h=.map (some b)/\w.heap[b]?=some (.map es clock)/\M4 es clock (kv.map (·.1)) l/\A.bR w M m ρ (kv.map (·.2)) (l.map (·.val))/\(fz=true->¬M b)/\vW m ρ st l clock
 |.fr l=>∃vs,h=.tuple vs/\A.bR w M m ρ l vs.toList
 |.it i sc start seen=>∃b mb since sa,h=.pointer (some ⟨b,0,none⟩)/\w.heap[b]?=some (.mapIter (some mb) since sa since)/\Has m i (ρ i=.map (some mb))/\Has m sc (dX ρ sc=since)/\U9 m ρ start seen since sa
 |.wL=>∃n:Nat,h=.int .i64 n
 |.AV=>∃b,h=.pointer (some ⟨b,0,none⟩)/\w.heap[b]?=some (.mapIter none 0 #[] 0)
 |.si s pos=>∃b,h=.pointer (some ⟨b,0,none⟩)/\w.heap[b]?=some (.stringIter s pos)
 |.lo st pend ts ps asg bod=>∃l fn vs D,h=.func (.yield l) #[] #[]/\w.heap[l]?=some (.loop {state:=st,pending:=pend,fn:=fn,tmps:=vs,params:=ps,assign:=asg,body:=bod,defers:=D})/\A.bR w M m ρ ts vs.toList
 |.df tk=>∃b,h=.pointer (some ⟨b,0,none⟩)/\w.heap[b]?=some (.deferred (if tk then none else some []))
 |.cu src es l=>∃a,h=.slice a l.length l.length/\A.Den w M m ρ src h/\(∀e∈l,e.length=es)/\(l=[]\/∃b off xs,a=some ⟨b,off,none⟩/\¬M b/\b<w.heap.size/\A.bR w M m ρ l.flatten xs/\(∀u∈xs,u.oneCell'=true)/\∀(j:Nat)(v:Value),xs[j]?=some v->w.cell? ⟨b,off+j,none⟩=some v)
 |.di cur rest=>∃b mb es cl sa ll,h=.pointer (some ⟨b,0,none⟩)/\w.heap[b]?=some (.mapIter (some mb) cl sa cl)/\¬M mb/\w.heap[mb]?=some (.map es cl)/\(∀e∈es.toList,e.born<cl)/\(es.toList.map (·.born)).Nodup/\(es.toList.filter (λe=> !sa.contains e.born)).Perm ll/\ll.map (·.key)=rest.map (·.1.val)/\C.bR w M (rest.map (·.2)) (ll.map (·.val))/\W9 w M es sa cur
def gL(m m':Mem)(ρ ρ':Nat->Value):Prop:=∀i,m i≠none->m' i≠none/\(m' i≠some .dead->m i≠some .dead/\ρ' i=ρ i/\∀fz t es l,m i=some (.fW fz t es l)->∃fz' t' l',m' i=some (.fW fz' t' es l')/\l'.length=l.length)
theorem Has.mono{m m':Mem}(hO:gL m m' ρ ρ'){i:Nat}{p q:Prop}(h:Has m i p)
 (hpq:ρ' i=ρ i->(∀fz t es l,m i=some (.fW fz t es l)->∃fz' t' l',m' i=some (.fW fz' t' es l')/\l'.length=l.length)->p->q):Has m' i q:=by
 obtain⟨h1,h2⟩:=hO i h.1;exact⟨h1,λhd=>hpq (h2 hd).2.1 (h2 hd).2.2 (h.2 (h2 hd).1)⟩
theorem FA.mono{m m':Mem}(hO:gL m m' ρ ρ'){ids:List Nat}{p q:Prop}(h:FA m ids p)(hpq:(∀i∈ids,dX ρ' i=dX ρ i)->p->q):FA m' ids q:=by
 refine⟨λi hi=>(hO i (h.1 i hi)).1,λhd=>hpq (λi hi=>?_) (h.2 λi hi=>((hO i (h.1 i hi)).2 (hd i hi)).1)⟩;unfold dX;rw[((hO i (h.1 i hi)).2 (hd i hi)).2.1]
theorem vW.mono{m m':Mem}{ρ ρ':Nat->Value}(hO:gL m m' ρ ρ'){st:List (Ky×Nat)}{l:List MapEntry}{cl:Nat}(h:vW m ρ st l cl):vW m' ρ' st l cl:=
 λp hp=>(h p hp).mono hO λhe _ q=>by
  have e1:dX ρ' p.2=dX ρ p.2:=by unfold dX;rw[he]
  rw[e1];exact q
theorem U9.mono{m m':Mem}{ρ ρ':Nat->Value}(hO:gL m m' ρ ρ'){start seen:List Nat}{since:Nat}{sa:Array Nat}(h:U9 m ρ start seen since sa):U9 m' ρ' start seen since sa:=
 ⟨h.1,FA.mono hO h.2 λhe⟨h0,h1,h2,h3,h4⟩=>⟨h0,by rw[cQ he];exact h1,λi hi=>by rw[he i hi];exact h2 i hi,h3,by
   rw[h4];cases seen with
   |nil=>rfl
   |cons s r=>simp only[List.head?_cons,dF];rw[he s (h3 s sM)]⟩⟩
mutual
theorem A.dC{w w':World}{M M':Nat->Prop}{m m':Mem}{ρ ρ':Nat->Value}(h:dV M w w')(hM:∀b,M' b->b<w.heap.size->M b)(hO:gL m m' ρ ρ'):
 ∀(a:A)(y:Value),a.Den w M m ρ y->a.Den w' M' m' ρ' y
 |.d c,y,hd=>by
  simp only[A.Den]at hd⊢;exact C.dC h hM c y hd
 |.lp i off,y,hd=>by
  simp only[A.Den]at hd⊢;exact hd.mono hO λe _⟨b,h1,h2⟩=>⟨b,e.trans h1,h2⟩
 |.h i,y,hd=>by
  simp only[A.Den]at hd⊢;exact hd.mono hO λe _ h1=>h1.trans e.symm
 |.ep i es k off,y,hd=>by
  simp only[A.Den]at hd⊢;exact hd.mono hO λe _⟨b,o,n,cap,h1,h2⟩=>⟨b,o,n,cap,e.trans h1,h2⟩
 |.sv i lo n,y,hd=>by
  simp only[A.Den]at hd⊢;refine hd.mono hO λe e2⟨a,cap,h1,h2,es,fz,t,l,h5,h6,h3⟩=>?_;obtain⟨fz',t',l',h7,h8⟩:=e2 fz t es l h5;exact⟨a,cap,h1,h2,es,fz',t',l',h7,oM,h3.imp (λ⟨q1,q0,q2⟩=>⟨q1,q0,λq=>by rw[h8];exact q2 q⟩) λ⟨b,o,n',cap',h9,h10⟩=>⟨b,o,n',cap',e.trans h9,h10⟩⟩
 |.fn f first caps,y,hd=>by
  simp only[A.Den]at hd⊢;obtain⟨us,vs,hy,h1,h2⟩:=hd;exact⟨us,vs,hy,A.dK h hM hO first _ h1,A.dK h hM hO caps _ h2⟩
 |.agg l,y,hd=>by
  simp only[A.Den]at hd⊢;obtain⟨vs,hy,h0,h1⟩:=hd;exact⟨vs,hy,h0,A.dK h hM hO l _ h1⟩
 |.eL l,y,hd=>by
  simp only[A.Den]at hd⊢;obtain⟨vs,hy,h1⟩:=hd;exact⟨vs,hy,A.dK h hM hO l _ h1⟩
 |.AE t a,y,hd=>by
  simp only[A.Den]at hd⊢;obtain⟨v,hy,h1⟩:=hd;exact⟨v,hy,A.dC h hM hO a _ h1⟩
 |.x,y,hd=>by simp only[A.Den]
theorem A.dK{w w':World}{M M':Nat->Prop}{m m':Mem}{ρ ρ':Nat->Value}(h:dV M w w')(hM:∀b,M' b->b<w.heap.size->M b)(hO:gL m m' ρ ρ'):
 ∀(l:List A)(ys:List Value),A.bR w M m ρ l ys->A.bR w' M' m' ρ' l ys
 |[],ys,hd=>by simpa only[A.bR]using hd
 |c::r,ys,hd=>by
  simp only[A.bR]at hd⊢;obtain⟨y,yr,hy,h1,h2⟩:=hd;exact⟨y,yr,hy,A.dC h hM hO c y h1,A.dK h hM hO r yr h2⟩
end
structure iF(S:Nat->Prop)(w w':World):Prop where
 os:w'.os=w.os
 tape:w'.tape=w.tape
 output:w'.output=w.output
 size:w.heap.size<=w'.heap.size
 block:∀b,b<w.heap.size->¬S b->w'.heap[b]?=w.heap[b]?
theorem iF.refl(S:Nat->Prop)(w:World):iF S w w:=⟨rfl,rfl,rfl,bT _,λ_ _ _=>rfl⟩
theorem iF.trans{S S':Nat->Prop}{a b c:World}(h:iF S a b)(k:iF S' b c)(hs:∀i,i<a.heap.size->S' i->S i):iF S a c:=
 ⟨k.os.trans h.os,k.tape.trans h.tape,k.output.trans h.output,cL h.size k.size,
  λi hi hn=>(k.block i (cG hi h.size) (λe=>hn (hs i hi e))).trans (h.block i hi hn)⟩
theorem iF.stays{S:Nat->Prop}{a b:World}(h:iF S a b)(hs:∀i,i<a.heap.size->S i->M i):dV M a b:=⟨h.size,λi hi hn=>h.block i hi λe=>hn (hs i hi e)⟩
inductive DA where
 |call(f:Fn)(args caps:List A)
 |s4(i:Nat)
 |bi(b:Builtin)(tys:Array TypeId)(ty:TypeId)(cs:Array Bool)(args:List A)
 |SK(d:Deferred)
 deriving Inhabited
def iM(w:World)(M:Nat->Prop)(m:Mem)(ρ:Nat->Value):List DA->List Deferred->Prop
 |[],ds=>ds=[]
 |.call f as cs::r,ds=>∃vs us rest,ds={target:=.fn f us,args:=vs}::rest/\A.bR w M m ρ as vs.toList/\A.bR w M m ρ cs us.toList/\iM w M m ρ r rest
 |.bi b tys ty cs as::r,ds=>∃vs rest,ds={target:=.builtin b tys ty cs,args:=vs}::rest/\A.bR w M m ρ as vs.toList/\iM w M m ρ r rest
 |.s4 i::r,ds=>∃D rest,ds={target:=.collected D,args:= #[]}::rest/\Has m i (ρ i=.pointer (some ⟨D,0,none⟩))/\iM w M m ρ r rest
 |.SK d::r,ds=>∃rest,ds=d::rest/\iM w M m ρ r rest
theorem eJ{w w':World}{M M':Nat->Prop}{m m':Mem}{ρ ρ':Nat->Value}(h:dV M w w')(hM:∀b,M' b->b<w.heap.size->M b)(hO:gL m m' ρ ρ'):
 ∀(l:List DA)(ds:List Deferred),iM w M m ρ l ds->iM w' M' m' ρ' l ds
 |[],ds,hd=>hd
 |.call f as cs::r,ds,⟨vs,us,rest,e,h1,h2,h3⟩=>⟨vs,us,rest,e,A.dK h hM hO _ _ h1,A.dK h hM hO _ _ h2,eJ h hM hO r rest h3⟩
 |.bi b tys ty cs as::r,ds,⟨vs,rest,e,h1,h3⟩=>⟨vs,rest,e,A.dK h hM hO _ _ h1,eJ h hM hO r rest h3⟩
 |.s4 i::r,ds,⟨D,rest,e,h1,h3⟩=>⟨D,rest,e,h1.mono hO λe _ q=>e.trans q,eJ h hM hO r rest h3⟩
 |.SK d::r,ds,⟨rest,e,h3⟩=>⟨rest,e,eJ h hM hO r rest h3⟩
structure Fr where
 n:Nat
 ds:Option (List DA)
structure bC(M0 S0:Nat->Prop)(w0:World)(N:Fr)(T:Nat->A)(m:Mem)(ρ:Nat->Value)(a:Act)(w:World):Prop where
 keeps:iF S0 w0 w
 size:a.tmps.size=N.n
 defers:∀ds,N.ds=some ds->iM w (dD M0 m ρ) m ρ ds a.defers
 tmps:∀n,(T n).Den w (dD M0 m ρ) m ρ (a.tmps.getD n undef)
 res:∀i r,m i=some r->r.Ok w (dD M0 m ρ) m ρ (ρ i)
 own:∀i r b,m i=some r->r.live=true->jK (ρ i)=some b->(w0.heap.size<=b\/S0 b)/\¬M0 b/\b<w.heap.size
 apart:∀i j r r' b,m i=some r->r.live=true->m j=some r'->r'.live=true->jK (ρ i)=some b->jK (ρ j)=some b->i=j
def lI(T:Nat->A)(d:Option Nat)(v:A):Nat->A:=λn=>if d=some n then v else T n
def aX(m:Mem)(i:Nat)(r:R):Mem:=λn=>if n=i then some r else m n
def dW(ρ:Nat->Value)(i:Nat)(h:Value):Nat->Value:=λn=>if n=i then h else ρ n
theorem gL.refl(m:Mem)(ρ:Nat->Value):gL m m ρ ρ:=λi h=>⟨h,λhd=>⟨hd,rfl,λfz t es l e=>⟨fz,t,l,e,rfl⟩⟩⟩
theorem dV.refl(M:Nat->Prop)(w:World):dV M w w:=⟨bT _,λ_ _ _=>rfl⟩
theorem R.hU{m m':Mem}(h:dV M w w')(hM:∀b,M' b->b<w.heap.size->M b)(hO:gL m m' ρ ρ')
 {hd:Value}(hb:∀b,jK hd=some b->b<w.heap.size->w'.heap[b]?=w.heap[b]?){r:R}(hr:r.Ok w M m ρ hd):r.Ok w' M' m' ρ' hd:=by
 cases r with
 |dead=>trivial
 |cells fz l=>
  obtain⟨b,cs,t,rfl,h1,h2,h3,h4⟩:=hr;have cX:b<w.heap.size:=(aL.1 h1).1;exact⟨b,cs,t,rfl,(hb b rfl cX).trans h1,A.dK h hM hO l _ h2,λe f=>h3 e (hM b f cX),h4⟩
 |fW fz t es l=>
  obtain⟨xs,h1,h2,h3,h4,h5⟩:=hr;refine⟨xs,?_,A.dK h hM hO _ _ h2,h3,?_,h5⟩
  ·rcases h1 with hn|⟨hl,g,og,cap,cur,rfl,hp,hh,rest⟩
   ·exact .inl hn
   ·exact .inr ⟨hl,g,og,cap,cur,rfl,hp,(hb g (by simp[jK];omega) (aL.1 hh).1).trans hh,rest⟩
  ·intro e b BO f;rcases h1 with⟨_,_,a,rfl⟩|⟨hl,g,og,cap,cur,rfl,hp,hh,rest⟩
   ·cases a<;>simp[jK]at BO
   ·simp[jK]at BO;obtain⟨_,rfl⟩:=BO;exact h4 e _ (by simp[jK];omega) (hM _ f (aL.1 hh).1)
 |mp fz kv st=>
  obtain⟨b,es,cl,l,rfl,h1,h2,h3,h4,h5⟩:=hr;have cX:b<w.heap.size:=(aL.1 h1).1;exact⟨b,es,cl,l,rfl,(hb b rfl cX).trans h1,h2,A.dK h hM hO _ _ h3,λe f=>h4 e (hM b f cX),h5.mono hO⟩
 |fr l=>
  obtain⟨vs,rfl,h1⟩:=hr;exact⟨vs,rfl,A.dK h hM hO _ _ h1⟩
 |it i sc start seen=>
  obtain⟨b,mb,si,sa,rfl,h1,h2,h5,h4⟩:=hr;have cX:b<w.heap.size:=(aL.1 h1).1;exact⟨b,mb,si,sa,rfl,(hb b rfl cX).trans h1,h2.mono hO λe _ q=>e.trans q,h5.mono hO λe _ q=>by unfold dX at q⊢;rw[e];exact q,h4.mono hO⟩
 |wL=>exact hr
 |AV=>
  obtain⟨b,rfl,h1⟩:=hr;exact⟨b,rfl,(hb b rfl (aL.1 h1).1).trans h1⟩
 |si s pos=>
  obtain⟨b,rfl,h1⟩:=hr;exact⟨b,rfl,(hb b rfl (aL.1 h1).1).trans h1⟩
 |lo st pend ts ps asg bod=>
  obtain⟨l,fn,vs,D,rfl,h1,h2⟩:=hr;exact⟨l,fn,vs,D,rfl,(hb l rfl (aL.1 h1).1).trans h1,A.dK h hM hO _ _ h2⟩
 |df tk=>
  obtain⟨b,rfl,h1⟩:=hr;exact⟨b,rfl,(hb b rfl (aL.1 h1).1).trans h1⟩
 |di cur rest=>
  obtain⟨b,mb,es,cl,sa,ll,rfl,h1,h2,h3,h4,h5,h6,h7,h8,h9⟩:=hr;have cX:mb<w.heap.size:=(aL.1 h3).1;exact⟨b,mb,es,cl,sa,ll,rfl,(hb b rfl (aL.1 h1).1).trans h1,λf=>h2 (hM mb f cX),(h.2 mb cX h2).trans h3,h4,h5,h6,h7,C.dK h hM _ _ h8,h9.mono h hM⟩
 |cu src es l=>
  obtain⟨a,rfl,h1,h2,h3⟩:=hr;refine⟨a,rfl,A.dC h hM hO _ _ h1,h2,h3.imp id ?_⟩;rintro⟨b,off,xs,e,h4,h5,h6,h7,h8⟩;exact⟨b,off,xs,e,λf=>h4 (hM b f h5),cG h5 h.1,A.dK h hM hO _ _ h6,h7,λj v hj=>(h.cell h5 h4).trans (h8 j v hj)⟩
theorem aCI{m:Mem}{h:Value}{src:A}{l:List (List A)}(mS:R.Ok w M m ρ h (.cu src es l)){b:Nat}(hb:jK h=some b):¬M b:=by
 obtain⟨a,rfl,_,_,h3⟩:=mS;rcases h3 with rfl|⟨b',off,xs,rfl,h4,_⟩
 ·cases a<;>simp[jK]at hb
 ·simp[jK]at hb;obtain⟨_,rfl⟩:=hb;exact h4
section
variable{M0 S0:Nat->Prop}{w0:World}{N:Fr}{T:Nat->A}{m:Mem}{ρ:Nat->Value}{a:Act}{w:World}
theorem aDB(a:Act)(d:Option Nat)(y:Value)(hd:∀n,d=some n->n<a.tmps.size)(n:Nat):
 (a.put d y).tmps.getD n undef=if d=some n then y else a.tmps.getD n undef:=by
 cases d with
 |none=>simp[Act.put]
 |some d=>
  have hd':=hd d rfl;by_cases e:d=n
  ·subst e;simp[Act.put,Array.getD,hd']
  ·simp only[Act.put,aA,e,if_false];rw[cZ,cZ,aB3 e]
theorem bC.put(h:bC M0 S0 w0 N T m ρ a w)(d:Option Nat)(hd:∀n,d=some n->n<N.n){v:A}{y:Value}(hv:v.Den w (dD M0 m ρ) m ρ y):
 bC M0 S0 w0 N (lI T d v) m ρ (a.put d y) w where
 keeps:=h.keeps
 size:=by rw[<-h.size];cases d<;>simp[Act.put]
 defers:=by have:=h.defers;cases d<;>exact this
 tmps:=by
  intro n;rw[aDB a d y (by rw[h.size];exact hd)];unfold lI;split
  ·exact hv
  ·exact h.tmps n
 res:=h.res
 own:=h.own
 apart:=h.apart
theorem bC.shrink(h:bC M0 S0 w0 N T m ρ a w){M1:Nat->Prop}(hM:∀b,M1 b->M0 b):bC M1 S0 w0 N T m ρ a w:=by
 have hm:∀b,dD M1 m ρ b->b<w.heap.size->dD M0 m ρ b:=λb hb _=>hb.imp (hM b) id
 exact{keeps:=h.keeps,size:=h.size,defers:=λds e=>eJ (dV.refl _ w) hm (gL.refl m ρ) _ _ (h.defers ds e)
       tmps:=λn=>A.dC (dV.refl _ w) hm (gL.refl m ρ) _ _ (h.tmps n)
       res:=λi r hi=>R.hU (dV.refl _ w) hm (gL.refl m ρ) (λ_ _ _=>rfl) (h.res i r hi)
       own:=λi r b hi hl hb=>let⟨x,y,z⟩:=h.own i r b hi hl hb;⟨x,λe=>y (hM b e),z⟩
       apart:=h.apart}
theorem bC.world(h:bC M0 S0 w0 N T m ρ a w){X:Nat->Prop}{w':World}(hk:iF X w w')(hX:∀b,b<w.heap.size->X b->M0 b/\(w0.heap.size<=b\/S0 b)):
 bC (λb=>M0 b\/w.heap.size<=b) S0 w0 N T m ρ a w':=by
 have eB:dV (dD M0 m ρ) w w':=hk.stays λb hb hx=>.inl (hX b hb hx).1;have hm:∀b,dD (λb=>M0 b\/w.heap.size<=b) m ρ b->b<w.heap.size->dD M0 m ρ b:=λb hb cX=>hb.imp (λe=>e.resolve_right oM) id
 refine{keeps:=h.keeps.trans hk λb hb hx=>?_,size:=h.size,defers:=λds e=>eJ eB hm (gL.refl m ρ) _ _ (h.defers ds e)
        tmps:=λn=>A.dC eB hm (gL.refl m ρ) _ _ (h.tmps n)
        res:=λi r hi=>?_
        own:=λi r b hi hl hb=>?_
        apart:=h.apart}
 ·rcases(hX b (cG hb h.keeps.size) hx).2 with e|e
  ·omega
  ·exact e
 ·by_cases hl:r.live=true
  ·refine R.hU eB hm (gL.refl m ρ) (λb hb cX=>?_) (h.res i r hi);exact hk.block b cX λe=>(h.own i r b hi hl hb).2.1 (hX b cX e).1
  ·
   have mS:=h.res i r hi;cases r with
   |dead=>trivial
   |cells fz l=>
    simp[R.live]at hl;refine R.hU eB hm (gL.refl m ρ) (λb hb cX=>?_) mS;obtain⟨b',cs,t,e1,h1,h2,h3,_⟩:=mS;rw[e1]at hb;simp[jK]at hb;subst hb;exact eB.2 _ cX (h3 hl)
   |fW fz t es l=>
    simp[R.live]at hl;refine R.hU eB hm (gL.refl m ρ) (λb hb cX=>?_) mS;obtain⟨xs,h1,h2,h3,h4,_⟩:=mS;exact eB.2 _ cX (h4 hl b hb)
   |mp fz kv st=>
    simp[R.live]at hl;refine R.hU eB hm (gL.refl m ρ) (λb hb cX=>?_) mS;obtain⟨b',es,cl,l,e1,h1,h2,h3,h4,h5⟩:=mS;rw[e1]at hb;simp[jK]at hb;subst hb;exact eB.2 _ cX (h4 hl)
   |cu src es l=>exact R.hU eB hm (gL.refl m ρ) (λb hb cX=>eB.2 _ cX (aCI mS hb)) mS
   |_=>simp[R.live]at hl
 ·obtain⟨x,y,z⟩:=h.own i r b hi hl hb;exact⟨x,λe=>e.elim y oM,cG z hk.size⟩
theorem gL.set{m:Mem}(i:Nat)(r:R)(h':Value)
 (hi:m i≠none->r≠.dead->m i≠some .dead/\h'=ρ i/\∀fz t es l,m i=some (.fW fz t es l)->∃fz' t' l',r=.fW fz' t' es l'/\l'.length=l.length):gL m (aX m i r) ρ (dW ρ i h'):=by
 intro n hn;by_cases e:n=i
 ·subst e;refine⟨by simp[aX],λhd=>?_⟩;have hr:r≠.dead:=λe=>hd (by simp[aX,e]);obtain⟨h1,h2,h3⟩:=hi hn hr;exact⟨h1,by simp[dW,h2],λfz t es l e=>by obtain⟨a,b,c,d,f⟩:=h3 fz t es l e;exact⟨a,b,c,by simp[aX,d],f⟩⟩
 ·exact⟨by simpa [aX,e]using hn,λhd=>⟨by simpa [aX,e]using hd,by simp[dW,e],λfz t es l h=>⟨fz,t,l,by simpa [aX,e]using h,rfl⟩⟩⟩
theorem gL.trans{m1 m2 m3:Mem}{ρ1 ρ2 ρ3:Nat->Value}(h:gL m1 m2 ρ1 ρ2)(k:gL m2 m3 ρ2 ρ3):gL m1 m3 ρ1 ρ3:=by
 intro i hi;obtain⟨h1,h2⟩:=h i hi;obtain⟨k1,k2⟩:=k i h1;refine⟨k1,λhd=>?_⟩;obtain⟨k3,k4,k5⟩:=k2 hd;obtain⟨h3,h4,h5⟩:=h2 k3;refine⟨h3,k4.trans h4,λfz t es l e=>?_⟩;obtain⟨fz',t',l',e1,e2⟩:=h5 fz t es l e;obtain⟨fz2,t2,l2,e3,e4⟩:=k5 _ _ _ _ e1;exact⟨fz2,t2,l2,e3,e4.trans e2⟩
theorem gL.new{m:Mem}(r:R)(h':Value)(hi:m i=none):gL m (aX m i r) ρ (dW ρ i h'):=gL.set i r h' λe=>absurd hi e
theorem jP(ρ:Nat->Value)(i:Nat):dW ρ i (ρ i)=ρ:=by
 funext n;unfold dW;split<;>simp_all
theorem bC.other(h:bC M0 S0 w0 N T m ρ a w){i j:Nat}{r r':R}{b:Nat}(hi:m i=some r)(hl:r.live=true)(hb:jK (ρ i)=some b)(hj:m j=some r')(hd:r'≠.dead)(hZ:j≠i):
 jK (ρ j)≠some b:=by
 intro e;by_cases qK:r'.live=true
 ·exact hZ (h.apart j i r' r b hj qK hi hl e hb)
 ·have aXP:dD M0 m ρ b:=.inr ⟨i,r,hi,hl,hb⟩;have mS:=h.res j r' hj;cases r' with
  |dead=>exact hd rfl
  |cells fz l=>
   simp[R.live]at qK;obtain⟨b',cs,t,e1,h1,h2,h3,_⟩:=mS;rw[e1]at e;simp[jK]at e;subst e;exact h3 qK aXP
  |fW fz t es l=>
   simp[R.live]at qK;obtain⟨xs,h1,h2,h3,h4,_⟩:=mS;exact h4 qK b e aXP
  |mp fz kv st=>
   simp[R.live]at qK;obtain⟨b',es,cl,l,e1,h1,h2,h3,h4,h5⟩:=mS;rw[e1]at e;simp[jK]at e;subst e;exact h4 qK aXP
  |cu src es l=>exact aCI mS e aXP
  |_=>simp[R.live]at qK
theorem s7{r:R}(h:r.live=true):r≠.dead:=by rintro rfl;simp[R.live]at h
theorem bC.kill(h:bC M0 S0 w0 N T m ρ a w){i:Nat}{r:R}(hi:m i=some r)(hl:r.live=true):
 bC (λb=>M0 b\/jK (ρ i)=some b) S0 w0 N T (aX m i .dead) ρ a w:=by
 have hO:gL m (aX m i .dead) ρ ρ:=by
  have:=gL.set (m:=m) (ρ:=ρ) i .dead (ρ i) (λ_ e=>absurd rfl e)
  rwa [jP]at this
 have hm:∀b,dD (λb=>M0 b\/jK (ρ i)=some b) (aX m i .dead) ρ b->b<w.heap.size->dD M0 m ρ b:=by
  rintro b ((e|e)|⟨j,r',hj,qK,hb⟩) _
  ·exact .inl e
  ·exact .inr ⟨i,r,hi,hl,e⟩
  ·by_cases e:j=i
   ·subst e;simp[aX]at hj;subst hj;simp[R.live]at qK
   ·exact .inr ⟨j,r',by simpa [aX,e]using hj,qK,hb⟩
 refine{keeps:=h.keeps,size:=h.size,defers:=λds e=>eJ (dV.refl _ w) hm hO _ _ (h.defers ds e)
        tmps:=λn=>A.dC (dV.refl _ w) hm hO _ _ (h.tmps n)
        res:=λj r' hj=>?_,own:=λj r' b hj qK hb=>?_,apart:=λj k r1 r2 b h1 l1 h2 l2 b1 b2=>?_}
 ·by_cases e:j=i
  ·subst e;simp[aX]at hj;subst hj;trivial
  ·exact R.hU (dV.refl _ w) hm hO (λ_ _ _=>rfl) (h.res j r' (by simpa [aX,e]using hj))
 ·have e:j≠i:=by rintro rfl;simp[aX]at hj;subst hj;simp[R.live]at qK
  have QB:m j=some r':=by simpa [aX,e]using hj
  obtain⟨x,y,z⟩:=h.own j r' b QB qK hb;exact⟨x,λf=>f.elim y λf=>h.other hi hl f QB (s7 qK) e hb,z⟩
 ·have e1:j≠i:=by rintro rfl;simp[aX]at h1;subst h1;simp[R.live]at l1
  have e2:k≠i:=by rintro rfl;simp[aX]at h2;subst h2;simp[R.live]at l2
  exact h.apart j k r1 r2 b (by simpa [aX,e1]using h1) l1 (by simpa [aX,e2]using h2) l2 b1 b2
theorem bC.aI5{M1:Nat->Prop}(h:bC M1 S0 w0 N T m ρ a w){j:Nat}(hj:m j=none){r':R}{h':Value}(hM0:∀b,M0 b->M1 b/\jK h'≠some b)
 (hb:∀b,jK h'=some b->M1 b/\(w0.heap.size<=b\/S0 b)/\b<w.heap.size)(hl:r'.live=true)
 (mS:R.Ok w (dD M0 (aX m j r') (dW ρ j h')) (aX m j r') (dW ρ j h') h' r'):bC M0 S0 w0 N T (aX m j r') (dW ρ j h') a w:=by
 have hO:gL m (aX m j r') ρ (dW ρ j h'):=gL.set j r' h' λe=>absurd hj e;have hm:∀b,dD M0 (aX m j r') (dW ρ j h') b->b<w.heap.size->dD M1 m ρ b:=by
  rintro b (e|⟨i,r,hi,qK,BO⟩) _
  ·exact .inl (hM0 b e).1
  ·by_cases e:i=j
   ·subst e;simp[dW]at BO;exact .inl (hb b BO).1
   ·exact .inr ⟨i,r,by simpa [aX,e]using hi,qK,by simpa [dW,e]using BO⟩
 refine{keeps:=h.keeps,size:=h.size,defers:=λds e=>eJ (dV.refl _ w) hm hO _ _ (h.defers ds e)
        tmps:=λn=>A.dC (dV.refl _ w) hm hO _ _ (h.tmps n)
        res:=λi r hi=>?_,own:=λi r b hi qK BO=>?_,apart:=λi k r1 r2 b h1 l1 h2 l2 b1 b2=>?_}
 ·by_cases e:i=j
  ·subst e;simp[aX]at hi;subst hi;simpa [dW]using mS
  ·have:=R.hU (dV.refl _ w) hm hO (λ_ _ _=>rfl) (h.res i r (by simpa [aX,e]using hi));simpa [dW,e]using this
 ·by_cases e:i=j
  ·subst e;simp[dW]at BO;obtain⟨x,y,z⟩:=hb b BO;exact⟨y,λf=>(hM0 b f).2 BO,z⟩
  ·obtain⟨x,y,z⟩:=h.own i r b (by simpa [aX,e]using hi) qK (by simpa [dW,e]using BO);exact⟨x,λf=>y (hM0 b f).1,z⟩
 ·by_cases e1:i=j
  ·by_cases e2:k=j
   ·rw[e1,e2]
   ·subst e1;simp[dW]at b1;have:=(h.own k r2 b (by simpa [aX,e2]using h2) l2 (by simpa [dW,e2]using b2)).2.1;exact absurd (hb b b1).1 this
  ·by_cases e2:k=j
   ·subst e2;simp[dW]at b2;have:=(h.own i r1 b (by simpa [aX,e1]using h1) l1 (by simpa [dW,e1]using b1)).2.1;exact absurd (hb b b2).1 this
   ·exact h.apart i k r1 r2 b (by simpa [aX,e1]using h1) l1 (by simpa [aX,e2]using h2) l2 (by simpa [dW,e1]using b1) (by simpa [dW,e2]using b2)
theorem bC.write(h:bC M0 S0 w0 N T m ρ a w){i:Nat}{r r':R}(hi:m i=some r)(hl:r.live=true)(qK:r'.live=true)
 (wP:∀fz t es l,r=.fW fz t es l->∃fz' t' l',r'=.fW fz' t' es l'/\l'.length=l.length){X:Nat->Prop}{w':World}(hk:iF X w w')(hX:∀b,b<w.heap.size->X b->jK (ρ i)=some b)
 (mS:gL m (aX m i r') ρ ρ->dV (dD M0 m ρ) w w'->(∀b,dD M0 (aX m i r') ρ b->b<w.heap.size->dD M0 m ρ b)->R.Ok w' (dD M0 (aX m i r') ρ) (aX m i r') ρ (ρ i) r'):
 bC M0 S0 w0 N T (aX m i r') ρ a w':=by
 have hO:gL m (aX m i r') ρ ρ:=by
  have:=gL.set (m:=m) (ρ:=ρ) i r' (ρ i) (λ_ _=>⟨by rw[hi];simpa using s7 hl,rfl,λfz t es l e=>wP fz t es l (by rw[hi]at e;simpa using e)⟩)
  rwa [jP]at this
 have hm:∀b,dD M0 (aX m i r') ρ b->b<w.heap.size->dD M0 m ρ b:=by
  rintro b (e|⟨j,r1,hj,BB,BO⟩) _
  ·exact .inl e
  ·by_cases e:j=i
   ·subst e;exact .inr ⟨j,r,hi,hl,BO⟩
   ·exact .inr ⟨j,r1,by simpa [aX,e]using hj,BB,BO⟩
 have eB:dV (dD M0 m ρ) w w':=hk.stays λb hb hx=>.inr ⟨i,r,hi,hl,hX b hb hx⟩
 refine{keeps:=h.keeps.trans hk λb hb hx=>?_,size:=h.size,defers:=λds e=>eJ eB hm hO _ _ (h.defers ds e)
        tmps:=λn=>A.dC eB hm hO _ _ (h.tmps n)
        res:=λj r1 hj=>?_,own:=λj r1 b hj BB BO=>?_,apart:=λj k r1 r2 b h1 l1 h2 l2 b1 b2=>?_}
 ·have cX:=cG hb h.keeps.size;rcases(h.own i r b hi hl (hX b cX hx)).1 with e|e
  ·omega
  ·exact e
 ·by_cases e:j=i
  ·subst e;simp[aX]at hj;subst hj;exact mS hO eB hm
  ·have QB:m j=some r1:=by simpa [aX,e]using hj
   by_cases hd:r1=.dead
   ·subst hd;trivial
   ·refine R.hU eB hm hO (λb hb cX=>?_) (h.res j r1 QB);exact hk.block b cX λx=>h.other hi hl (hX b cX x) QB hd e hb
 ·by_cases e:j=i
  ·subst e;obtain⟨x,y,z⟩:=h.own j r b hi hl BO;exact⟨x,y,cG z hk.size⟩
  ·obtain⟨x,y,z⟩:=h.own j r1 b (by simpa [aX,e]using hj) BB BO;exact⟨x,y,cG z hk.size⟩
 ·have key:∀j r1,aX m i r' j=some r1->r1.live=true->∃r2,m j=some r2/\r2.live=true:=by
   intro j r1 hj BB;by_cases e:j=i
   ·subst e;exact⟨r,hi,hl⟩
   ·exact⟨r1,by simpa [aX,e]using hj,BB⟩
  obtain⟨s1,g1,g2⟩:=key j r1 h1 l1;obtain⟨s2,g3,g4⟩:=key k r2 h2 l2;exact h.apart j k s1 s2 b g1 g2 g3 g4 b1 b2
def R.K8:R->R
 |.dead=>.dead
 |.cells _ l=>.cells true l
 |.fW _ t es l=>.fW true t es l
 |.mp _ kv st=>.mp true kv st
 |_=>.dead
theorem R.J2(r:R):r.K8.live=false:=by cases r<;>rfl
theorem bC.freeze(h:bC M0 S0 w0 N T m ρ a w){i:Nat}{r:R}(hi:m i=some r)(hl:r.live=true):bC M0 S0 w0 N T (aX m i r.K8) ρ a w:=by
 have hO:gL m (aX m i r.K8) ρ ρ:=by
  have:=gL.set (m:=m) (ρ:=ρ) i r.K8 (ρ i) (λ_ _=>⟨by rw[hi];simpa using s7 hl,rfl,λfz t es l e=>⟨true,t,l,by rw[hi]at e;simp at e;rw[e];rfl,rfl⟩⟩)
  rwa [jP]at this
 have hm:∀b,dD M0 (aX m i r.K8) ρ b->b<w.heap.size->dD M0 m ρ b:=by
  rintro b (e|⟨j,r1,hj,BB,BO⟩) _
  ·exact .inl e
  ·by_cases e:j=i
   ·subst e;simp[aX]at hj;subst hj;simp[R.J2]at BB
   ·exact .inr ⟨j,r1,by simpa [aX,e]using hj,BB,BO⟩
 have a02:∀b,jK (ρ i)=some b->¬dD M0 (aX m i r.K8) ρ b:=by
  rintro b hb (e|⟨j,r1,hj,BB,BO⟩)
  ·exact(h.own i r b hi hl hb).2.1 e
  ·by_cases e:j=i
   ·subst e;simp[aX]at hj;subst hj;simp[R.J2]at BB
   ·exact h.other hi hl hb (by simpa [aX,e]using hj) (s7 BB) e BO
 have liv:∀j r1,aX m i r.K8 j=some r1->r1.live=true->j≠i/\m j=some r1:=by
  intro j r1 hj BB;have e:j≠i:=by rintro rfl;simp[aX]at hj;subst hj;simp[R.J2]at BB
  exact⟨e,by simpa [aX,e]using hj⟩
 refine{keeps:=h.keeps,size:=h.size,defers:=λds e=>eJ (dV.refl _ w) hm hO _ _ (h.defers ds e)
        tmps:=λn=>A.dC (dV.refl _ w) hm hO _ _ (h.tmps n)
        res:=λj r1 hj=>?_,own:=λj r1 b hj BB BO=>h.own j r1 b (liv j r1 hj BB).2 BB BO
        apart:=λj k r1 r2 b h1 l1 h2 l2 b1 b2=>h.apart j k r1 r2 b (liv j r1 h1 l1).2 l1 (liv k r2 h2 l2).2 l2 b1 b2}
 by_cases e:j=i
 ·subst e;have mS:=R.hU (dV.refl _ w) hm hO (λ_ _ _=>rfl) (h.res j r hi);simp[aX]at hj;subst hj;cases r with
  |dead=>trivial
  |cells fz l=>
   obtain⟨b',cs,t,e1,h1,h2,h3,h4⟩:=mS;exact⟨b',cs,t,e1,h1,h2,λ_=>a02 b' (by rw[e1];rfl),h4⟩
  |fW fz t es l=>
   obtain⟨xs,h1,h2,h3,h4,h5⟩:=mS;exact⟨xs,h1,h2,h3,λ_ b hb=>a02 b hb,h5⟩
  |mp fz kv st=>
   obtain⟨b',es,cl,l,e1,h1,h2,h3,h4,h5⟩:=mS;exact⟨b',es,cl,l,e1,h1,h2,h3,λ_=>a02 b' (by rw[e1];rfl),h5⟩
  |_=>trivial
 ·exact R.hU (dV.refl _ w) hm hO (λ_ _ _=>rfl) (h.res j r1 (by simpa [aX,e]using hj))
end
section
variable{w:World}{M:Nat->Prop}{m:Mem}{ρ:Nat->Value}
theorem A.c9{l:List A}:A.bR w M m ρ l ys↔l.length=ys.length/\∀(j:Nat)(c:A)(y:Value),l[j]?=some c->ys[j]?=some y->c.Den w M m ρ y:=by
 induction l generalizing ys with
 |nil=>
  simp only[A.bR,cS];constructor
  ·rintro rfl;simp
  ·rintro⟨h,_⟩;exact bL h.symm
 |cons c r ih=>
  simp only[A.bR,aQ];constructor
  ·rintro⟨y,yr,rfl,h1,h2⟩;obtain⟨h3,h4⟩:=ih.1 h2;refine⟨by simp[h3],λj c' y' hc hy=>?_⟩;cases j with
   |zero=>simp at hc hy;subst hc;subst hy;exact h1
   |succ j=>simp at hc hy;exact h4 j c' y' hc hy
  ·rintro⟨h1,h2⟩;cases ys with
   |nil=>simp at h1
   |cons y yr=>
    refine⟨y,yr,rfl,h2 0 c y rfl rfl,ih.2 ⟨by simpa using h1,λj c' y' hc hy=>h2 (j+1) c' y' (by simpa using hc) (by simpa using hy)⟩⟩
theorem C.c9{l:List C}:C.bR w M l ys↔l.length=ys.length/\∀(j:Nat)(c:C)(y:Value),l[j]?=some c->ys[j]?=some y->c.Den w M y:=by
 induction l generalizing ys with
 |nil=>
  simp only[C.bR,cS];constructor
  ·rintro rfl;simp
  ·rintro⟨h,_⟩;exact bL h.symm
 |cons c r ih=>
  simp only[C.bR,aQ];constructor
  ·rintro⟨y,yr,rfl,h1,h2⟩;obtain⟨h3,h4⟩:=ih.1 h2;refine⟨by simp[h3],λj c' y' hc hy=>?_⟩;cases j with
   |zero=>simp at hc hy;subst hc;subst hy;exact h1
   |succ j=>simp at hc hy;exact h4 j c' y' hc hy
  ·rintro⟨h1,h2⟩;cases ys with
   |nil=>simp at h1
   |cons y yr=>
    refine⟨y,yr,rfl,h2 0 c y rfl rfl,ih.2 ⟨by simpa using h1,λj c' y' hc hy=>h2 (j+1) c' y' (by simpa using hc) (by simpa using hy)⟩⟩
theorem C.rA{off:Nat}{l:List C}:C.sS w M b off l↔∀(j:Nat)(c:C),l[j]?=some c->∃y,w.cell? ⟨b,off+j,none⟩=some y/\y.oneCell'=true/\c.Den w M y:=by
 induction l generalizing off with
 |nil=>simp[C.sS]
 |cons c r ih=>
  simp only[C.sS,ih];constructor
  ·rintro⟨h1,h2⟩ j c' hc;cases j with
   |zero=>simp at hc;subst hc;simpa using h1
   |succ j=>
    obtain⟨y,h3,h4⟩:=h2 j c' (by simpa using hc);exact⟨y,by rw[show off+(j+1)=off+1+j by omega];exact h3,h4⟩
  ·intro h;refine⟨by simpa using h 0 c rfl,λj c' hc=>?_⟩;obtain⟨y,h3,h4⟩:=h (j+1) c' (by simpa using hc);exact⟨y,by rw[show off+1+j=off+(j+1) by omega];exact h3,h4⟩
theorem C.tX{off:Nat}{l:List (List C)}:C.lS w M b es off l↔∀(k:Nat)(e:List C),l[k]?=some e->e.length=es/\C.sS w M b (off+k*es) e:=by
 induction l generalizing off with
 |nil=>simp[C.lS]
 |cons c r ih=>
  simp only[C.lS,ih];constructor
  ·rintro⟨h0,h1,h2⟩ k e he;cases k with
   |zero=>simp at he;subst he;simpa using⟨h0,h1⟩
   |succ k=>
    obtain⟨h3,h4⟩:=h2 k e (by simpa using he);exact⟨h3,by rw[show off+(k+1)*es=off+es+k*es by rw[gY];omega];exact h4⟩
  ·intro h;obtain⟨h0,h1⟩:=h 0 c rfl;refine⟨h0,by simpa using h1,λk e he=>?_⟩;obtain⟨h3,h4⟩:=h (k+1) e (by simpa using he);exact⟨h3,by rw[show off+es+k*es=off+(k+1)*es by rw[gY];omega];exact h4⟩
theorem A.iH{l r:List A}{zs:List Value}(h1:A.bR w M m ρ l ys)(h2:A.bR w M m ρ r zs):A.bR w M m ρ (l++r) (ys++zs):=by
 induction l generalizing ys with
 |nil=>simp only[A.bR]at h1;subst h1;simpa using h2
 |cons c t ih=>
  simp only[A.bR]at h1;obtain⟨y,yr,rfl,h3,h4⟩:=h1;simp only[bW,A.bR];exact⟨y,yr++zs,rfl,h3,ih h4⟩
theorem C.iH{l r:List C}{zs:List Value}(h1:C.bR w M l ys)(h2:C.bR w M r zs):C.bR w M (l++r) (ys++zs):=by
 induction l generalizing ys with
 |nil=>simp only[C.bR]at h1;subst h1;simpa using h2
 |cons c t ih=>
  simp only[C.bR]at h1;obtain⟨y,yr,rfl,h3,h4⟩:=h1;simp only[bW,C.bR];exact⟨y,yr++zs,rfl,h3,ih h4⟩
theorem A.lL{l:List A}(n:Nat)(h:A.bR w M m ρ l ys):A.bR w M m ρ (l.drop n) (ys.drop n):=by
 rw[A.c9]at h⊢;exact⟨by simp[h.1],λj c y hc hy=>h.2 (n+j) c y (by simpa using hc) (by simpa using hy)⟩
theorem A.mT{l:List A}(n:Nat)(h:A.bR w M m ρ l ys):A.bR w M m ρ (l.take n) (ys.take n):=by
 rw[A.c9]at h⊢;refine⟨by simp[h.1],λj c y hc hy=>?_⟩;rw[cM]at hc hy;split at hc
 ·rename_i cX;rw[aUF cX]at hy;exact h.2 j c y hc hy
 ·cases hc
theorem C.lL{l:List C}(n:Nat)(h:C.bR w M l ys):C.bR w M (l.drop n) (ys.drop n):=by
 rw[C.c9]at h⊢;exact⟨by simp[h.1],λj c y hc hy=>h.2 (n+j) c y (by simpa using hc) (by simpa using hy)⟩
theorem C.mT{l:List C}(n:Nat)(h:C.bR w M l ys):C.bR w M (l.take n) (ys.take n):=by
 rw[C.c9]at h⊢;refine⟨by simp[h.1],λj c y hc hy=>?_⟩;rw[cM]at hc hy;split at hc
 ·rename_i cX;rw[aUF cX]at hy;exact h.2 j c y hc hy
 ·cases hc
theorem A.iO{l:List C}:A.bR w M m ρ (l.map A.d) ys↔C.bR w M l ys:=by
 induction l generalizing ys with
 |nil=>simp[A.bR,C.bR]
 |cons c r ih=>simp only[aG,A.bR,C.bR,ih,A.Den]
theorem C.U6{off:Nat}{l:List C}(n:Nat)(h:C.sS w M b off l):C.sS w M b (off+n) (l.drop n):=by
 rw[C.rA]at h⊢;intro j c hc;obtain⟨y,h1,h2⟩:=h (n+j) c (by simpa using hc);exact⟨y,by rw[fP];exact h1,h2⟩
end
def UL:Value->C
 |.slice none 0 0=>.nl 0
 |v=>.v v
def cv:Value->C
 |.agg vs=>bif vs.toList.all Value.oneCell' then .agg (vs.toList.map UL)else .v (.agg vs)
 |v=>UL v
theorem XT(w:World)(M:Nat->Prop)(v:Value):(UL v).Den w M v:=by
 unfold UL;split<;>simp[C.Den]
theorem aGW(w:World)(M:Nat->Prop)(l:List Value):C.bR w M (l.map UL) l:=by
 induction l with
 |nil=>simp[C.bR]
 |cons c r ih=>simp only[aG,C.bR];exact⟨c,r,rfl,XT w M c,ih⟩
theorem aJV(w:World)(M:Nat->Prop)(v:Value):(cv v).Den w M v:=by
 unfold cv;split
 ·rename_i vs;cases hv:vs.toList.all Value.oneCell' with
  |false=>simp[C.Den]
  |true=>simp only[cond_true,C.Den];exact⟨vs,rfl,by simpa only[cV]using hv,aGW w M _⟩
 ·exact XT w M v
def dN(T:Nat->A):Operand->A
 |.tmp t=>T t
 |.const v=>.d (cv v)
 |.global _=>.x
 |.func f=>.fn (.func f) [] []
theorem cU{M0 S0:Nat->Prop}{w0:World}{N:Fr}{T:Nat->A}{m:Mem}{a:Act}(h:bC M0 S0 w0 N T m ρ a w)(o:Operand):
 (dN T o).Den w (dD M0 m ρ) m ρ (a.eval o):=by
 cases o with
 |tmp t=>exact h.tmps t
 |const v=>simp only[dN,A.Den,Act.eval];exact aJV _ _ v
 |global g=>simp only[dN,A.Den]
 |func f=>simp only[dN,A.Den,Act.eval];exact⟨#[],#[],rfl,by simp[A.bR],by simp[A.bR]⟩
def qF(m:Mem)(i:Nat):Bool:=
 match m i with
 |none=>false
 |some .dead=>false
 |some _=>true
def HI(m:Mem)(i:Nat):Bool:=
 match m i with
 |none=>false
 |some .dead=>false
 |some (.fr _)=>false
 |some .wL=>false
 |some _=>true
def A.cells(m:Mem):A->Option (List A)
 |.agg l=>some l
 |.d (.agg l)=>some (l.map A.d)
 |.d (.v (.agg _))=>none
 |.d (.v (.tuple _))=>none
 |.d c=>some [.d c]
 |.lp i off=>if qF m i then some [.lp i off]else none
 |.h i=>if HI m i then some [.h i]else none
 |.ep i es k off=>if qF m i then some [.ep i es k off]else none
 |.sv i lo n=>if qF m i then some [.sv i lo n]else none
 |.fn f first caps=>some [.fn f first caps]
 |.AE t a=>some [.AE t a]
 |.eL _=>none
 |.x=>none
abbrev E:=Bool×A×List (Nat×R)
def aH(m:Mem):List (Nat×R)->Mem
 |[]=>m
 |(i,r)::t=>aH (aX m i r) t
def oP(P:Program)(t:TypeId):Option Bool:=
 match P.underlying t with
 |some (.struct _)|some (.array _ _)=>some true
 |some _=>some false
 |none=>none
theorem info_of_underlying{d:TypeDesc}(h:P.underlying t=some d):∃i,P.info? t=some i:=by
 unfold Program.underlying at h;cases hi:P.info? t with
 |none=>simp[hi]at h
 |some i=>exact⟨i,rfl⟩
theorem lV{b:Bool}(h:oP P t=some b)(w:World):(isAgg t).run P w=.ok b w:=by
 unfold oP at h;cases hu:P.underlying t with
 |none=>simp[hu]at h
 |some d=>
  simp only[isAgg,aV,run_underlying hu,aN];cases d<;>simp_all
theorem run_sizeOf{i:TypeInfo}(h:P.info? t=some i)(w:World):(sizeOf t).run P w=.ok (P.cellsOf t) w:=by
 simp[sizeOf,typeInfo,h,Program.cellsOf]
theorem mB{b:Bool}(h:oP P t=some b)(w:World):(sizeOf t).run P w=.ok (P.cellsOf t) w:=by
 unfold oP at h;cases hu:P.underlying t with
 |none=>simp[hu]at h
 |some d=>obtain⟨i,hi⟩:=info_of_underlying hu;exact run_sizeOf hi w
theorem sP(h:oP P t=some false){w:World}{a:Addr}{y:Value}(hc:w.cell? a=some y):(loadVar t a).run P w=.ok y w:=by
 simp[loadVar,lV h,hc]
theorem sO(h:oP P t=some true){w:World}{a:Addr}{cs:List Value}(hl:cs.length=P.cellsOf t)(hc:∀j v,cs[j]?=some v->w.cell? (a.add j)=some v):
 (loadVar t a).run P w=.ok (.agg cs.toArray) w:=by
 have:=run_loadCells_list (P:=P) w a cs hc;simp[loadVar,lV h,mB h,<-hl,this]
section
variable{M0 S0:Nat->Prop}{w0:World}{N:Fr}{T:Nat->A}{m:Mem}{ρ:Nat->Value}{a:Act}{w:World}{P:Program}
theorem eH{r:R}{p:Prop}(h:Has m i p)(hi:m i=some r)(hr:r≠.dead):p:=h.2 (by rw[hi];simpa using hr)
theorem oR{j:Nat}{cs:Array Value}{fr:Nat×Nat}(h:w.heap[b]?=some (.cells cs t fr)):w.cell? ⟨b,j,none⟩=cs[j]?:=by
 simp[World.cell?,h]
def jM(P:Program)(m:Mem)(t:TypeId):A->Option E
 |.lp i off=>match m i with
  |some (.cells _ l)=>match oP P t with
   |some true=>some (decide (off+P.cellsOf t<=l.length),.agg ((l.drop off).take (P.cellsOf t)),[])
   |some false=>some (decide (off<l.length),l.getD off .x,[])
   |none=>none
  |_=>none
 |.ep i es k off=>match m i with
  |some (.fW _ _ es' l)=>match oP P t with
   |some true=>some (decide (es'=es/\k<l.length/\off+P.cellsOf t<=es),.agg (((l.getD k []).drop off).take (P.cellsOf t)),[])
   |some false=>some (decide (es'=es/\k<l.length/\off<es),(l.getD k []).getD off .x,[])
   |none=>none
  |_=>none
 |.d (.ip l)=>match oP P t with
  |some true=>some (decide (P.cellsOf t<=l.length),.d (.agg (l.take (P.cellsOf t))),[])
  |some false=>some (decide (0<l.length),.d (l.getD 0 default),[])
  |none=>none
 |_=>none
theorem kY{α:Type}(es:Nat):∀(l:List (List α))(k:Nat)(r:List α)(j:Nat),(∀e∈l,e.length=es)->l[k]?=some r->j<es->l.flatten[k*es+j]?=r[j]?
 |[],k,r,j,_,h,_=>by simp at h
 |e::l,0,r,j,hl,h,hj=>by
  simp at h;subst h;have:e.length=es:=hl e sM;simp only[dL,Nat.zero_mul,fF];rw[bX oM]
 |e::l,k+1,r,j,hl,h,hj=>by
  have he:e.length=es:=hl e sM;simp only[dL];rw[bO (by rw[he,gY];omega)];rw[show(k+1)*es+j -e.length=k*es+j by rw[he,gY];omega];exact kY es l k r j (λe' h'=>hl e' (by simp[h'])) (by simpa using h) hj
theorem fI{α:Type}{l:List (List α)}(h:∀e∈l,e.length=es):l.flatten.length=l.length*es:=by
 induction l with
 |nil=>simp
 |cons e r ih=>
  simp only[dL,aU,aQ,ih (λe' h'=>h e' (by simp[h'])),h e sM,gY];omega
theorem vV.cells{h:Value}{n:Nat}{xs:List Value}(ho:vV w t es h n xs){b o n' cap:Nat}(hh:h=.slice (some ⟨b,o,none⟩) n' cap):∀(j:Nat)(u:Value),xs[j]?=some u->w.cell? ⟨b,o+j,none⟩=some u:=by
 intro j u hu;rcases ho with⟨rfl,_⟩|⟨hl,g,og,cap',cur,rfl,_,hg,_,_,_,aX3⟩
 ·simp at hu
 ·simp at hh;obtain⟨⟨rfl,rfl⟩,rfl,rfl⟩:=hh;rw[oR hg];rw[<-aX3,cM]at hu;split at hu
  ·rw[eA]at hu;simpa using hu
  ·cases hu
theorem TS(h:bC M0 S0 w0 N T m ρ a w){i es k:Nat}{fz:Bool}{t:TypeId}{l:List (List A)}(hi:m i=some (.fW fz t es l)){b o n cap:Nat}(hρ:ρ i=.slice (some ⟨b,o,none⟩) n cap)
 {r:List A}(hr:l[k]?=some r):∀(j:Nat)(c:A),r[j]?=some c->∃y,w.cell? ⟨b,o+(k*es+j),none⟩=some y/\y.oneCell'=true/\c.Den w (dD M0 m ρ) m ρ y:=by
 intro j c hc;obtain⟨xs,h1,h2,h3,h4,h5⟩:=h.res i _ hi;have hrl:r.length=es:=h3 r (c6 hr);have hj:j<es:=by rw[<-hrl];exact(bA.1 hc).1
 have hk:k<l.length:=(bA.1 hr).1;rw[hρ]at h1;have hf:=kY es l k r j h3 hr hj;rw[A.c9]at h2;have hlen:k*es+j<xs.length:=by rw[<-h2.1,fI h3];calc k*es+j<k*es+es:=oM
  _=(k+1)*es:=by rw[gY]
  _<=l.length*es:=fE _ hk
 refine⟨xs[k*es+j],?_,h5 _ (aY hlen),h2.2 _ c _ (by rw[hf,hc]) (aC hlen)⟩;exact h1.cells rfl (k*es+j) _ (aC hlen)
theorem GC{b:Nat}{M:Nat->Prop}:∀(l:List C)(o:Nat),(∀(j:Nat)(c:C),l[j]?=some c->∃y,w.cell? ⟨b,o+j,none⟩=some y/\y.oneCell'=true/\c.Den w M y)->
 ∃cs:List Value,cs.length=l.length/\(∀u∈cs,u.oneCell'=true)/\(∀(j:Nat)(v:Value),cs[j]?=some v->w.cell? ((⟨b,o,none⟩:Addr).add j)=some v)/\C.bR w M l cs
 |[],o,_=>⟨[],rfl,sM,sM,by simp[C.bR]⟩
 |c::r,o,h=>by
  obtain⟨y,hy,hy1,hd⟩:=h 0 c rfl
  obtain⟨cs,h1,h0,h2,h3⟩:=GC r (o+1) (λj c' hc=>by
   obtain⟨y,h4,h5⟩:=h (j+1) c' (by simpa using hc)
   exact⟨y,by rw[show o+1+j=o+(j+1) by omega];exact h4,h5⟩)
  refine⟨y::cs,by simp[h1],by simpa using⟨hy1,h0⟩,λj v hv=>?_,by simp only[C.bR];exact⟨y,cs,rfl,hd,h3⟩⟩;rw[eP];cases j with
  |zero=>simp at hv;subst hv;exact hy
  |succ j=>
   have:=h2 j v (by simpa using hv);rw[eP]at this;rw[show o+(j+1)=o+1+j by omega];exact this
theorem KQ{b:Nat}{M:Nat->Prop}:∀(l:List A)(o:Nat),(∀(j:Nat)(c:A),l[j]?=some c->∃y,w.cell? ⟨b,o+j,none⟩=some y/\y.oneCell'=true/\c.Den w M m ρ y)->
 ∃cs:List Value,cs.length=l.length/\(∀u∈cs,u.oneCell'=true)/\(∀(j:Nat)(v:Value),cs[j]?=some v->w.cell? ((⟨b,o,none⟩:Addr).add j)=some v)/\A.bR w M m ρ l cs
 |[],o,_=>⟨[],rfl,sM,sM,by simp[A.bR]⟩
 |c::r,o,h=>by
  obtain⟨y,hy,hy1,hd⟩:=h 0 c rfl
  obtain⟨cs,h1,h0,h2,h3⟩:=KQ r (o+1) (λj c' hc=>by
   obtain⟨y,h4,h5⟩:=h (j+1) c' (by simpa using hc)
   exact⟨y,by rw[show o+1+j=o+(j+1) by omega];exact h4,h5⟩)
  refine⟨y::cs,by simp[h1],by simpa using⟨hy1,h0⟩,λj v hv=>?_,by simp only[A.bR];exact⟨y,cs,rfl,hd,h3⟩⟩;rw[eP];cases j with
  |zero=>simp at hv;subst hv;exact hy
  |succ j=>
   have:=h2 j v (by simpa using hv);rw[eP]at this;rw[show o+(j+1)=o+1+j by omega];exact this
theorem Y7(h:bC M0 S0 w0 N T m ρ a w){t:TypeId}{x:A}{y:Value}(hx:x.Den w (dD M0 m ρ) m ρ y){pre:Bool}{v:A}{ups:List (Nat×R)}
 (he:jM P m t x=some (pre,v,ups))(hp:pre=true):ups=[]/\∃z,(Instr.loadAt t y).run P w=.ok z w/\v.Den w (dD M0 m ρ) m ρ z:=by
 cases x with
 |lp i off=>
  simp only[jM]at he;cases hi:m i with
  |none=>simp[hi]at he
  |some r=>
   cases r with
   |cells fz l=>
    simp only[hi]at he;simp only[A.Den]at hx;obtain⟨b,hb,rfl⟩:=eH hx hi sM;obtain⟨b',cs,t',e1,h1,h2,h3,h5⟩:=h.res i _ hi;rw[hb]at e1;simp at e1;subst e1;rw[A.c9]at h2;cases hg:oP P t with
    |none=>simp[hg]at he
    |some g=>
     cases g with
     |false=>
      simp only[hg,aA,aD]at he;obtain⟨rfl,rfl,rfl⟩:=he;have hp:=aUL hp;have cX:off<cs.toList.length:=by rw[<-h2.1];exact hp
      refine⟨rfl,cs.toList[off],?_,?_⟩
      ·have hc:w.cell? ⟨b,off,none⟩=some cs.toList[off]:=by rw[oR h1];simp at cX;simp[cX]
       simp[Instr.loadAt,Instr.sureAddr,sP hg hc]
      ·rw[bF,aC hp];exact h2.2 off _ _ (aC hp) (aC cX)
     |true=>
      simp only[hg,aA,aD]at he;obtain⟨rfl,rfl,rfl⟩:=he;have hp:=aUL hp;refine⟨rfl,.agg ((cs.toList.drop off).take (P.cellsOf t)).toArray,?_,?_⟩
      ·have hl:((cs.toList.drop off).take (P.cellsOf t)).length=P.cellsOf t:=by
        have:=h2.1;simp at this⊢;omega
       have hc:∀j v,((cs.toList.drop off).take (P.cellsOf t))[j]?=some v->w.cell? ((⟨b,off,none⟩:Addr).add j)=some v:=by
        intro j v hv;rw[cM]at hv;split at hv
        ·rw[eP,oR h1];simpa using hv
        ·cases hv
       simp only[Instr.loadAt,Instr.sureAddr,aV,cB,aN,sO hg hl hc]
      ·simp only[A.Den];exact⟨_,rfl,λu hu=>h5 u (dI (dJ (by simpa only using hu))),by simpa using A.mT (P.cellsOf t) (A.lL off (A.c9.2 h2))⟩
   |_=>simp[hi]at he
 |ep i es k off=>
  simp only[jM]at he;cases hi:m i with
  |none=>simp[hi]at he
  |some r=>
   cases r with
   |fW fz t' es' l=>
    simp only[hi]at he;simp only[A.Den]at hx;obtain⟨b,og,n,cap,hb,rfl⟩:=eH hx hi sM;cases hg:oP P t with
    |none=>simp[hg]at he
    |some g=>
     cases g with
     |false=>
      simp only[hg,aA,aD]at he;obtain⟨rfl,rfl,rfl⟩:=he;have hp:=aUL hp;obtain⟨rfl,hk,ho⟩:=hp;have hr:l[k]?=some (l.getD k []):=by simp[bF,aC hk]
      have hrl:(l.getD k []).length=es':=by
       obtain⟨xs,h1,h2,h3,h4,_⟩:=h.res i _ hi;exact h3 _ (c6 hr)
      obtain⟨y,hy,_,hd⟩:=TS h hi hb hr off ((l.getD k []).getD off .x) (by rw[bF (l:=l.getD k []),aC oM];rfl);refine⟨rfl,y,?_,hd⟩;simp[Instr.loadAt,Instr.sureAddr,sP hg hy]
     |true=>
      simp only[hg,aA,aD]at he;obtain⟨rfl,rfl,rfl⟩:=he;have hp:=aUL hp;obtain⟨rfl,hk,ho⟩:=hp;have hr:l[k]?=some (l.getD k []):=by simp[bF,aC hk]
      obtain⟨xs,h1,h2,h3,h4,_⟩:=h.res i _ hi;have hrl:(l.getD k []).length=es':=h3 _ (c6 hr);have aW7:=TS h hi hb hr
      obtain⟨cs,hl,h0,hc,hd⟩:=KQ (w:=w) (m:=m) (ρ:=ρ) (b:=b) (M:=dD M0 m ρ) (((l.getD k []).drop off).take (P.cellsOf t)) (og+(k*es'+off)) (λj c hc=>by
       rw[cM]at hc;split at hc
       · rw[eA]at hc
         rw[fP,fP];exact aW7 (off+j) c hc
       · cases hc)
      have hl:cs.length=P.cellsOf t:=by rw[hl,cW,l4,hrl];omega
      refine⟨rfl,.agg cs.toArray,?_,?_⟩
      ·simp only[Instr.loadAt,Instr.sureAddr,aV,cB,aN,sO hg hl hc]
      ·simp only[A.Den,C.Den];exact⟨_,rfl,h0,by simpa using hd⟩
   |_=>simp[hi]at he
 |d c=>
  cases c with
  |ip l=>
   simp only[jM]at he;simp only[A.Den,C.Den]at hx;obtain⟨b,off,rfl,hm,cX,hat⟩:=hx;rw[C.rA]at hat;cases hg:oP P t with
   |none=>simp[hg]at he
   |some g=>
    cases g with
    |false=>
     simp only[hg,aA,aD]at he;obtain⟨rfl,rfl,rfl⟩:=he;have hp:=aUL hp;obtain⟨y,hy,_,hd⟩:=hat 0 (l.getD 0 default) (by rw[bF,aC hp];rfl);refine⟨rfl,y,?_,by simpa only[A.Den]using hd⟩;simp only[iE]at hy;simp[Instr.loadAt,Instr.sureAddr,sP hg hy]
    |true=>
     simp only[hg,aA,aD]at he;obtain⟨rfl,rfl,rfl⟩:=he;have hp:=aUL hp
     obtain⟨cs,hl,h0,hc,hd⟩:=GC (w:=w) (b:=b) (M:=dD M0 m ρ) (l.take (P.cellsOf t)) off (λj c hc=>by
      rw[cM]at hc;split at hc
      · exact hat j c hc
      · cases hc)
     have hl:cs.length=P.cellsOf t:=by rw[hl,cW];omega
     refine⟨rfl,.agg cs.toArray,?_,?_⟩
     ·simp only[Instr.loadAt,Instr.sureAddr,aV,cB,aN,sO hg hl hc]
     ·simp only[A.Den,C.Den];exact⟨_,rfl,h0,by simpa using hd⟩
  |_=>simp[jM]at he
 |_=>simp[jM]at he
end
theorem DR{α:Type}{es:Nat}:∀(l:List (List α))(lo:Nat),(∀e∈l,e.length=es)->(l.drop lo).flatten=l.flatten.drop (lo*es)
 |[],lo,_=>sM
 |e::l,0,_=>sM
 |e::l,lo+1,h=>by
  have he:=h e sM;have ih:=DR l lo (λe' h'=>h e' (by simp[h']));subst he;rw[gY,Nat.add_comm (lo*e.length),dL,List.drop_length_add_append];exact ih
theorem DS{α:Type}{es:Nat}:∀(l:List (List α))(k:Nat),(∀e∈l,e.length=es)->(l.take k).flatten=l.flatten.take (k*es)
 |[],k,_=>sM
 |e::l,0,_=>sM
 |e::l,k+1,h=>by
  have he:=h e sM;have ih:=DS l k (λe' h'=>h e' (by simp[h']));subst he;rw[gY,Nat.add_comm (k*e.length),cC,dL,dL,List.take_length_add_append,ih]
section
variable{M0 S0:Nat->Prop}{w0:World}{N:Fr}{T:Nat->A}{m:Mem}{ρ:Nat->Value}{a:Act}{w:World}{P:Program}
theorem I7{es b:Nat}{M:Nat->Prop}:∀(l:List (List C))(o:Nat)(xs:List Value),(∀e∈l,e.length=es)->C.bR w M l.flatten xs->(∀u∈xs,u.oneCell'=true)->(∀(j:Nat)(v:Value),xs[j]?=some v->w.cell? ⟨b,o+j,none⟩=some v)->C.lS w M b es o l
 |[],o,xs,_,_,_,_=>by simp only[C.lS]
 |e::r,o,xs,hl,hd,h0,hc=>by
  have he:=hl e sM;have hlen:=(C.c9.1 hd).1;simp only[dL]at hd hlen;have h1:=C.mT es hd;have h2:=C.lL es hd;rw[<-he,List.take_left]at h1;rw[<-he,List.drop_left]at h2;simp only[C.lS];refine⟨he,?_,?_⟩
  ·rw[C.rA];intro j c hj;have a2E:j<e.length:=(bA.1 hj).1;have hx:j<xs.length:=by rw[<-hlen,aU];omega
   have hy:(xs.take e.length)[j]?=some xs[j]:=by rw[cM,aUF a2E,aC hx]
   exact⟨xs[j],hc j _ (aC hx),h0 _ (aY hx),(C.c9.1 h1).2 j c _ hj hy⟩
  ·refine I7 r (o+es) (xs.drop e.length) (λe' h'=>hl e' (by simp[h'])) h2 (λu hu=>h0 u (dI hu)) ?_;intro j v hv;rw[he]at hv;have:=hc (es+j) v (by simpa using hv);rw[fP];exact this
theorem VF{o lo k:Nat}{l:List (List C)}(h:C.lS w M b es o l):C.lS w M b es (o+lo*es) ((l.drop lo).take k):=by
 rw[C.tX]at h⊢;intro j e he;rw[cM]at he;split at he
 ·rw[eA]at he;obtain⟨h1,h2⟩:=h (lo+j) e he;exact⟨h1,by rw[fP,<-Nat.add_mul];exact h2⟩
 ·cases he
end
section
variable{M0 S0:Nat->Prop}{w0:World}{N:Fr}{T:Nat->A}{m:Mem}{ρ:Nat->Value}{a:Act}{w:World}{P:Program}
theorem bC.rG(h:bC M0 S0 w0 N T m ρ a w)(cX:∀b,M0 b->b<w0.heap.size){w':World}(hk:iF (λ_=>False) w w'){j:Nat}(hj:m j=none){r':R}{h':Value}(hl:r'.live=true)
 (hb:∀b,jK h'=some b->w.heap.size<=b/\b<w'.heap.size)
 (mS:gL m (aX m j r') ρ (dW ρ j h')->dV (dD M0 m ρ) w w'->(∀b,dD M0 (aX m j r') (dW ρ j h') b->b<w.heap.size->dD M0 m ρ b)->R.Ok w' (dD M0 (aX m j r') (dW ρ j h')) (aX m j r') (dW ρ j h') h' r'):
 bC M0 S0 w0 N T (aX m j r') (dW ρ j h') a w':=by
 have h1:=h.world hk (λb _ e=>e.elim);refine h1.aI5 hj (λb hb0=>⟨.inl hb0,λe=>?_⟩) (λb BO=>⟨.inr (hb b BO).1,.inl (cL h.keeps.size (hb b BO).1),(hb b BO).2⟩) hl ?_
 ·have:=(hb b e).1;have:=cX b hb0;have:=h.keeps.size;omega
 ·refine mS (gL.set j r' h' λe=>absurd hj e) (hk.stays λb _ e=>e.elim) ?_;rintro b (e|⟨i,r,hi,qK,BO⟩) aVU
  ·exact .inl e
  ·by_cases e:i=j
   ·subst e;simp[dW]at BO;have:=(hb b BO).1;omega
   ·exact .inr ⟨i,r,by simpa [aX,e]using hi,qK,by simpa [dW,e]using BO⟩
theorem jF(w:World)(o:Obj):iF (λ_=>False) w (w.alloc o):=
 ⟨rfl,rfl,rfl,sM,λb hb _=>Below.heap_alloc w o b hb⟩
theorem pU{p:Prop}(h:Has m i p)(hi:qF m i=true):p:=by
 refine h.2 λe=>?_;simp[qF,e]at hi
theorem SX(h:HI m i=true):qF m i=true:=by
 unfold HI at h;unfold qF;split at h<;>simp_all
theorem WD(h:bC M0 S0 w0 N T m ρ a w){i:Nat}(hi:HI m i=true):(ρ i).oneCell'=true:=by
 unfold HI at hi;split at hi
 ·cases hi
 ·cases hi
 ·cases hi
 ·cases hi
 ·rename_i r hZ hnf hns hr;have mS:=h.res i r hr;cases r with
  |dead=>exact absurd rfl hZ
  |cells fz l=>obtain⟨_,_,_,e,_⟩:=mS;rw[e];rfl
  |fW fz t es l=>
   obtain⟨xs,h1,_⟩:=mS;rcases h1 with⟨_,_,_,e⟩|⟨_,_,_,_,_,e,_⟩<;>rw[e]<;>rfl
  |mp fz kv st=>obtain⟨_,_,_,_,e,_⟩:=mS;rw[e];rfl
  |wL=>exact absurd rfl hns
  |fr l=>exact absurd rfl (hnf l)
  |it i2 s2 si se=>obtain⟨_,_,_,_,e,_⟩:=mS;rw[e];rfl
  |AV=>obtain⟨_,e,_⟩:=mS;rw[e];rfl
  |si s p=>obtain⟨_,e,_⟩:=mS;rw[e];rfl
  |lo _ _ _ _ _ _=>obtain⟨_,_,_,_,e,_⟩:=mS;rw[e];rfl
  |df _=>obtain⟨_,e,_⟩:=mS;rw[e];rfl
  |cu _ _ _=>obtain⟨_,e,_⟩:=mS;rw[e];rfl
  |di _ _=>obtain⟨_,_,_,_,_,_,e,_⟩:=mS;rw[e];rfl
theorem wQ(h:bC M0 S0 w0 N T m ρ a w){x:A}{y:Value}{l:List A}(hx:x.Den w (dD M0 m ρ) m ρ y)(hl:x.cells m=some l):A.bR w (dD M0 m ρ) m ρ l y.cells.toList/\∀u∈y.cells.toList,u.oneCell'=true:=by
 have one:∀{z:A},z.Den w (dD M0 m ρ) m ρ y->y.oneCell'=true->A.bR w (dD M0 m ρ) m ρ [z] y.cells.toList/\∀u∈y.cells.toList,u.oneCell'=true:=by
  intro z hz h1;have:y.cells= #[y]:=by cases y<;>simp_all[Value.cells,Value.oneCell']
  rw[this];simp only[A.bR];exact⟨⟨y,[],rfl,hz,rfl⟩,by simpa using h1⟩
 cases x with
 |d c=>
  cases c with
  |v z=>
   have hz:y=z:=by simpa [A.Den,C.Den]using hx
   subst hz;cases y<;>simp[A.cells]at hl<;>(subst hl;exact one hx rfl)
  |agg l'=>
   simp only[A.cells,aA]at hl;subst hl;simp only[A.Den,C.Den]at hx;obtain⟨vs,rfl,h0,h1⟩:=hx;exact⟨A.iO.2 h1,h0⟩
  |sl es l'=>simp only[A.cells,aA]at hl;subst hl;refine one hx ?_;simp only[A.Den,C.Den]at hx;obtain⟨_,_,rfl,_⟩:=hx;rfl
  |nl es=>simp only[A.cells,aA]at hl;subst hl;refine one hx ?_;simp only[A.Den,C.Den]at hx;subst hx;rfl
  |ip l'=>simp only[A.cells,aA]at hl;subst hl;refine one hx ?_;simp only[A.Den,C.Den]at hx;obtain⟨_,_,rfl,_⟩:=hx;rfl
  |im ks vs=>simp only[A.cells,aA]at hl;subst hl;refine one hx ?_;simp only[A.Den,C.Den]at hx;obtain⟨_,_,_,_,rfl,_⟩:=hx;rfl
  |fn f u v=>simp only[A.cells,aA]at hl;subst hl;refine one hx ?_;simp only[A.Den,C.Den]at hx;obtain⟨_,_,rfl,_⟩:=hx;rfl
  |AE t c=>simp only[A.cells,aA]at hl;subst hl;refine one hx ?_;simp only[A.Den,C.Den]at hx;obtain⟨_,rfl,_⟩:=hx;rfl
 |agg l'=>
  simp only[A.cells,aA]at hl;subst hl;simp only[A.Den]at hx;obtain⟨vs,rfl,h0,h1⟩:=hx;exact⟨h1,h0⟩
 |lp i off=>
  simp only[A.cells]at hl;split at hl
  ·rename_i hi;simp only[aA]at hl;subst hl;refine one hx ?_;simp only[A.Den]at hx;obtain⟨b,_,rfl⟩:=pU hx hi;rfl
  ·cases hl
 |h i=>
  simp only[A.cells]at hl;split at hl
  ·rename_i hi;simp only[aA]at hl;subst hl;refine one hx ?_;simp only[A.Den]at hx;rw[pU hx (SX hi)];exact WD h hi
  ·cases hl
 |ep i es k off=>
  simp only[A.cells]at hl;split at hl
  ·rename_i hi;simp only[aA]at hl;subst hl;refine one hx ?_;simp only[A.Den]at hx;obtain⟨b,_,_,_,_,rfl⟩:=pU hx hi;rfl
  ·cases hl
 |sv i lo n=>
  simp only[A.cells]at hl;split at hl
  ·rename_i hi;simp only[aA]at hl;subst hl;refine one hx ?_;simp only[A.Den]at hx;obtain⟨_,_,rfl,_⟩:=pU hx hi;rfl
  ·cases hl
 |fn f u v=>
  simp only[A.cells,aA]at hl;subst hl;refine one hx ?_;simp only[A.Den]at hx;obtain⟨_,_,rfl,_⟩:=hx;rfl
 |AE t a'=>
  simp only[A.cells,aA]at hl;subst hl;refine one hx ?_;simp only[A.Den]at hx;obtain⟨_,rfl,_⟩:=hx;rfl
 |eL l'=>simp[A.cells]at hl
 |x=>simp[A.cells]at hl
theorem aK1(h:bC M0 S0 w0 N T m ρ a w)(cX:∀b,M0 b->b<w0.heap.size){t:TypeId}{x:A}{y:Value}{l:List A}{d:Nat}(hx:x.Den w (dD M0 m ρ) m ρ y)(hl:x.cells m=some l)(hd:m d=none):
 ∃ρ' w',(Instr.box t y).run P w=.ok (.pointer (some ⟨w.heap.size,0,none⟩)) w'/\bC M0 S0 w0 N T (aX m d (.cells false l)) ρ' a w'/\gL m (aX m d (.cells false l)) ρ ρ'/\
  (A.lp d 0).Den w' (dD M0 (aX m d (.cells false l)) ρ') (aX m d (.cells false l)) ρ' (.pointer (some ⟨w.heap.size,0,none⟩)):=by
 refine⟨dW ρ d (.pointer (some ⟨w.heap.size,0,none⟩)),w.alloc (.cells y.cells t),by simp[Instr.box,newVar,newRow],?_,gL.new _ _ hd,?_⟩
 ·refine h.rG cX (jF w _) hd rfl (by simp[jK]) ?_;intro hO eB hm;exact⟨w.heap.size,y.cells,t,rfl,heap_alloc_new w _,A.dK eB hm hO _ _ (wQ h hx hl).1,sM,(wQ h hx hl).2⟩
 ·simp only[A.Den];exact⟨by simp[aX],λ_=>⟨w.heap.size,by simp[dW],rfl⟩⟩
def zc(P:Program):Nat->TypeId->List C
 |0,_=>[]
 |n+1,t=>match P.underlying t with
  |some .bool=>[.v (.bool false)]
  |some (.int k)=>[.v (.int k 0)]
  |some .string=>[.v (.string ByteArray.empty)]
  |some (.pointer _)=>[.v (.pointer none)]
  |some (.slice e)=>[.nl (P.cellsOf e)]
  |some (.array k e)=>(List.replicate k (zc P n e)).flatten
  |some (.map _ _)=>[.v (.map none)]
  |some (.struct fs)=>fs.toList.flatMap λf=>zc P n f.type
  |some (.func _ _ _)=>[.v .nilFunc]
  |some (.interface _)=>[.v .nilIface]
  |_=>[]
def RE:C->Value->Bool
 |.nl _,.slice none 0 0=>true
 |.v (.int k a),.int k' b=>k==k'&&a==b
 |.v (.bool a),.bool b=>a==b
 |.v (.string a),.string b=>decide (a=b)
 |.v (.pointer none),.pointer none=>true
 |.v (.map none),.map none=>true
 |.v .nilFunc,.nilFunc=>true
 |.v .nilIface,.nilIface=>true
 |_,_=>false
def B6:List C->List Value->Bool
 |[],[]=>true
 |c::r,v::s=>RE c v&&B6 r s
 |_,_=>false
def o5(P:Program)(t:TypeId):Option (List C):=
 match P.info? t with
 |some i=>match i.zero with
  |some z=>if B6 (zc P 8 t) z.cells.toList then some (zc P 8 t)else none
  |none=>none
 |none=>none
theorem W8{c:C}{v:Value}(h:RE c v=true):c.Den w M v:=by
 unfold RE at h;split at h<;>simp_all[C.Den]
theorem O7:∀{l:List C}{vs:List Value},B6 l vs=true->∀u∈vs,u.oneCell'=true
 |[],[],_=>sM
 |c::r,v::s,h=>by
  simp only[B6,aE]at h;have h1:v.oneCell'=true:=by
   have:=h.1;unfold RE at this;split at this<;>first|rfl|cases this
  have h2:=O7 h.2;simpa using⟨h1,h2⟩
 |[],_::_,h=>by simp[B6]at h
 |_::_,[],h=>by simp[B6]at h
theorem O6{w:World}{M:Nat->Prop}:∀{l:List C}{vs:List Value},B6 l vs=true->C.bR w M l vs
 |[],[],_=>by simp[C.bR]
 |c::r,v::s,h=>by
  simp only[B6,aE]at h;simp only[C.bR];exact⟨v,s,rfl,W8 h.1,O6 h.2⟩
 |[],_::_,h=>by simp[B6]at h
 |_::_,[],h=>by simp[B6]at h
theorem qA{l:List C}(h:o5 P t=some l)(w:World):∃z,(zeroValue t).run P w=.ok z w/\(∀w M,C.bR w M l z.cells.toList)/\(∃i,P.info? t=some i/\i.zero=some z)/\∀u∈z.cells.toList,u.oneCell'=true:=by
 unfold o5 at h;split at h
 ·rename_i i hi;split at h
  ·rename_i z hz;split at h
   ·rename_i hk;simp only[aA]at h;subst h;exact⟨z,by simp[zeroValue,typeInfo,hi,hz],λ_ _=>O6 hk,⟨i,hi,hz⟩,O7 hk⟩
   ·cases h
  ·cases h
 ·cases h
theorem aE6(h:bC M0 S0 w0 N T m ρ a w)(cX:∀b,M0 b->b<w0.heap.size){t:TypeId}{l:List C}{d:Nat}(hl:o5 P t=some l)(hd:m d=none):
 ∃ρ' w',(Instr.alloc t true (.tuple #[])).run P w=.ok (.pointer (some ⟨w.heap.size,0,none⟩)) w'/\bC M0 S0 w0 N T (aX m d (.cells false (l.map .d))) ρ' a w'/\gL m (aX m d (.cells false (l.map .d))) ρ ρ'/\
  (A.lp d 0).Den w' (dD M0 (aX m d (.cells false (l.map .d))) ρ') (aX m d (.cells false (l.map .d))) ρ' (.pointer (some ⟨w.heap.size,0,none⟩)):=by
 obtain⟨z,hz,hd',_,h0⟩:=qA hl w;refine⟨dW ρ d (.pointer (some ⟨w.heap.size,0,none⟩)),w.alloc (.cells z.cells t),by simp[Instr.alloc,hz,newVar,newRow],?_,gL.new _ _ hd,?_⟩
 ·refine h.rG cX (jF w _) hd rfl (by simp[jK]) ?_;intro hO eB hm;exact⟨w.heap.size,z.cells,t,rfl,heap_alloc_new w _,A.iO.2 (hd' _ _),sM,h0⟩
 ·simp only[A.Den];exact⟨by simp[aX],λ_=>⟨w.heap.size,by simp[dW],rfl⟩⟩
end
end Go.Pv
