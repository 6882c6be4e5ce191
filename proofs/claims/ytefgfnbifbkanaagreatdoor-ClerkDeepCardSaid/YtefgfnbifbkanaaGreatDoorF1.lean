import Derived.WalkKit
import Derived.Deep.LoopGhost
import Derived.OrdersIn
import Derived.RecoverIn
/- A program logic over the model, and an evaluator of closed runs that is sound for it. -/
set_option linter.all false
set_option maxRecDepth 100000
set_option maxHeartbeats 8000000
namespace Go.Pv
open Go.RowKit
inductive KC where
 |int(k:IntKind)(n:Int)
 |bool(b:Bool)
 |str(s:ByteArray)
 deriving DecidableEq,Inhabited
def KC.val:KC->Value
 |.int k n=>.int k n
 |.bool b=>.bool b
 |.str s=>.string s
inductive Ky where
 |one(c:KC)
 |agg(l:List KC)
 deriving DecidableEq,Inhabited
def Ky.val:Ky->Value
 |.one c=>c.val
 |.agg l=>.agg (l.map KC.val).toArray
structure MapIs(es:Array MapEntry)(clock:Nat)(ks:List Ky)(l:List MapEntry):Prop where
 perm:es.toList.Perm l
 keys:l.map (·.key)=ks.map Ky.val
 nodup:ks.Nodup
 born:(l.map (·.born)).Nodup
 old:∀e∈l,e.born<clock
inductive C where
 |v(x:Value)
 |sl(es:Nat)(l:List (List C))
 |nl(es:Nat)
 |ip(l:List C)
 |im(ks:List Ky)(vs:List C)
 |fn(f:Fn)(first caps:List C)
 |agg(l:List C)
 |ifc(t:TypeId)(c:C)
 deriving Inhabited
mutual
def C.Den(w:World)(M:Nat->Prop):C->Value->Prop
 |.v x,y=>y=x
 |.sl es l,y=>∃a cap,y=.slice a l.length cap/\l.length<=cap/\(l=[]\/∃b off,a=some ⟨b,off,none⟩/\¬M b/\b<w.heap.size/\C.DenRow w M b es off l)
 |.nl _,y=>y=.slice none 0 0
 |.ip l,y=>∃b off,y=.pointer (some ⟨b,off,none⟩)/\¬M b/\b<w.heap.size/\C.DenAt w M b off l
 |.im ks vs,y=>∃b es clock l,y=.map (some b)/\¬M b/\w.heap[b]?=some (.map es clock)/\MapIs es clock ks l/\C.DenL w M vs (l.map (·.val))
 |.fn f first caps,y=>∃us vs,y=.func f us vs/\C.DenL w M first us.toList/\C.DenL w M caps vs.toList
 |.agg l,y=>∃vs,y=.agg vs/\(∀u∈vs.toList,u.oneCell'=true)/\C.DenL w M l vs.toList
 |.ifc t c,y=>∃v,y=.iface t v/\C.Den w M c v
def C.DenL(w:World)(M:Nat->Prop):List C->List Value->Prop
 |[],ys=>ys=[]
 |c::r,ys=>∃y yr,ys=y::yr/\C.Den w M c y/\C.DenL w M r yr
def C.DenAt(w:World)(M:Nat->Prop)(b:Nat):Nat->List C->Prop
 |_,[]=>True
 |off,c::r=>(∃y,w.cell? ⟨b,off,none⟩=some y/\y.oneCell'=true/\C.Den w M c y)/\C.DenAt w M b (off+1) r
def C.DenRow(w:World)(M:Nat->Prop)(b es:Nat):Nat->List (List C)->Prop
 |_,[]=>True
 |off,e::r=>e.length=es/\C.DenAt w M b off e/\C.DenRow w M b es (off+es) r
end
def Stays(M:Nat->Prop)(w w':World):Prop:=w.heap.size<=w'.heap.size/\∀b,b<w.heap.size->¬M b->w'.heap[b]?=w.heap[b]?
theorem Stays.cell{M:Nat->Prop}{w w':World}(h:Stays M w w'){b off:Nat}(hb:b<w.heap.size)(hM:¬M b):w'.cell? ⟨b,off,none⟩=w.cell? ⟨b,off,none⟩:=
 World.cell?_of_block (w:=w) (h.2 b hb hM)
mutual
theorem C.Den_mono{w w':World}{M M':Nat->Prop}(h:Stays M w w')(hM:∀b,M' b->b<w.heap.size->M b):
 ∀(c:C)(y:Value),c.Den w M y->c.Den w' M' y
 |.v x,y,hd=>by simpa only[C.Den]using hd
 |.sl es l,y,hd=>by
  simp only[C.Den]at hd⊢
  obtain⟨a,cap,hy,hc,hl⟩:=hd
  refine⟨a,cap,hy,hc,hl.imp id ?_⟩
  rintro⟨b,off,ha,hm,hb,hr⟩
  exact⟨b,off,ha,λe=>hm (hM b e hb),Nat.lt_of_lt_of_le hb h.1,C.DenRow_mono h hM b hb hm l off es hr⟩
 |.nl es,y,hd=>by simpa only[C.Den]using hd
 |.ip l,y,hd=>by
  simp only[C.Den]at hd⊢
  obtain⟨b,off,hy,hm,hb,hr⟩:=hd
  exact⟨b,off,hy,λe=>hm (hM b e hb),Nat.lt_of_lt_of_le hb h.1,C.DenAt_mono h hM b hb hm l off hr⟩
 |.im ks vs,y,hd=>by
  simp only[C.Den]at hd⊢
  obtain⟨b,es,cl,l,hy,hm,hb,hk,hr⟩:=hd
  have hlt:b<w.heap.size:=(Array.getElem?_eq_some_iff.1 hb).1
  exact⟨b,es,cl,l,hy,λe=>hm (hM b e hlt),(h.2 b hlt hm).trans hb,hk,C.DenL_mono h hM vs _ hr⟩
 |.fn f first caps,y,hd=>by
  simp only[C.Den]at hd⊢
  obtain⟨us,vs,hy,h1,h2⟩:=hd
  exact⟨us,vs,hy,C.DenL_mono h hM first _ h1,C.DenL_mono h hM caps _ h2⟩
 |.agg l,y,hd=>by
  simp only[C.Den]at hd⊢
  obtain⟨vs,hy,h0,h1⟩:=hd
  exact⟨vs,hy,h0,C.DenL_mono h hM l _ h1⟩
 |.ifc t c,y,hd=>by
  simp only[C.Den]at hd⊢
  obtain⟨v,hy,h1⟩:=hd
  exact⟨v,hy,C.Den_mono h hM c _ h1⟩
theorem C.DenL_mono{w w':World}{M M':Nat->Prop}(h:Stays M w w')(hM:∀b,M' b->b<w.heap.size->M b):
 ∀(l:List C)(ys:List Value),C.DenL w M l ys->C.DenL w' M' l ys
 |[],ys,hd=>by simpa only[C.DenL]using hd
 |c::r,ys,hd=>by
  simp only[C.DenL]at hd⊢
  obtain⟨y,yr,hy,h1,h2⟩:=hd
  exact⟨y,yr,hy,C.Den_mono h hM c y h1,C.DenL_mono h hM r yr h2⟩
theorem C.DenAt_mono{w w':World}{M M':Nat->Prop}(h:Stays M w w')(hM:∀b,M' b->b<w.heap.size->M b)(b:Nat)(hb:b<w.heap.size)(hm:¬M b):
 ∀(l:List C)(off:Nat),C.DenAt w M b off l->C.DenAt w' M' b off l
 |[],_,_=>by simp only[C.DenAt]
 |c::r,off,hd=>by
  simp only[C.DenAt]at hd⊢
  obtain⟨⟨y,hy,h0,h1⟩,h2⟩:=hd
  exact⟨⟨y,(h.cell hb hm).trans hy,h0,C.Den_mono h hM c y h1⟩,C.DenAt_mono h hM b hb hm r (off+1) h2⟩
theorem C.DenRow_mono{w w':World}{M M':Nat->Prop}(h:Stays M w w')(hM:∀b,M' b->b<w.heap.size->M b)(b:Nat)(hb:b<w.heap.size)(hm:¬M b):
 ∀(l:List (List C))(off es:Nat),C.DenRow w M b es off l->C.DenRow w' M' b es off l
 |[],_,_,_=>by simp only[C.DenRow]
 |e::r,off,es,hd=>by
  simp only[C.DenRow]at hd⊢
  obtain⟨h0,h1,h2⟩:=hd
  exact⟨h0,C.DenAt_mono h hM b hb hm e off h1,C.DenRow_mono h hM b hb hm r (off+es) es h2⟩
end
inductive A where
 |d(c:C)
 |lp(i off:Nat)
 |h(i:Nat)
 |ep(i es k off:Nat)
 |sv(i lo n:Nat)
 |fn(f:Fn)(first caps:List A)
 |agg(l:List A)
 |tup(l:List A)
 |ifc(t:TypeId)(a:A)
 |x
 deriving Inhabited
inductive R where
 |dead
 |cells(fz:Bool)(l:List A)
 |osl(fz:Bool)(t:TypeId)(es:Nat)(l:List (List A))
 |mp(fz:Bool)(kv:List (Ky×A))(st:List (Ky×Nat))
 |fr(l:List A)
 |it(i sc:Nat)(start seen:List Nat)
 |sta
 |it0
 |si(s:ByteArray)(pos:Nat)
 |lo(st:LoopState)(pend:Option Code)(ts:List A)(ps:Array Tmp)(asg bod:Code)
 |df(tk:Bool)
 |cu(src:A)(es:Nat)(l:List (List A))
 |di(cur:Option (Ky×C))(rest:List (Ky×C))
 deriving Inhabited
def R.live:R->Bool
 |.dead=>false
 |.cells fz _=> !fz
 |.osl fz _ _ _=> !fz
 |.mp fz _ _=> !fz
 |.fr _=>true
 |.it _ _ _ _=>true
 |.sta=>true
 |.it0=>true
 |.si _ _=>true
 |.lo _ _ _ _ _ _=>true
 |.df _=>true
 |.cu _ _ _=>false
 |.di _ _=>true
def blk:Value->Option Nat
 |.pointer (some a)=>some a.block
 |.slice (some a) _ c=>if c=0 then none else some a.block
 |.map (some b)=>some b
 |.func (.yield l) _ _=>some l
 |_=>none
abbrev Mem:=Nat->Option R
def Mut(M0:Nat->Prop)(m:Mem)(ρ:Nat->Value)(b:Nat):Prop:=M0 b\/∃i r,m i=some r/\r.live=true/\blk (ρ i)=some b
def Has(m:Mem)(i:Nat)(p:Prop):Prop:=m i≠none/\(m i≠some .dead->p)
mutual
def A.Den(w:World)(M:Nat->Prop)(m:Mem)(ρ:Nat->Value):A->Value->Prop
 |.d c,y=>c.Den w M y
 |.lp i off,y=>Has m i (∃b,ρ i=.pointer (some ⟨b,0,none⟩)/\y=.pointer (some ⟨b,off,none⟩))
 |.h i,y=>Has m i (y=ρ i)
 |.ep i es k off,y=>Has m i (∃b o n cap,ρ i=.slice (some ⟨b,o,none⟩) n cap/\y=.pointer (some ⟨b,o+(k*es+off),none⟩))
 |.sv i lo n,y=>Has m i (∃a cap,y=.slice a n cap/\n<=cap/\∃es fz t l,m i=some (.osl fz t es l)/\lo+n<=l.length/\((n=0/\cap=0/\(a=none->l.length=0))\/∃b o n' cap',ρ i=.slice (some ⟨b,o,none⟩) n' cap'/\a=some ⟨b,o+lo*es,none⟩/\lo+cap<=cap'))
 |.fn f first caps,y=>∃us vs,y=.func f us vs/\A.DenL w M m ρ first us.toList/\A.DenL w M m ρ caps vs.toList
 |.agg l,y=>∃vs,y=.agg vs/\(∀u∈vs.toList,u.oneCell'=true)/\A.DenL w M m ρ l vs.toList
 |.tup l,y=>∃vs,y=.tuple vs/\A.DenL w M m ρ l vs.toList
 |.ifc t a,y=>∃v,y=.iface t v/\A.Den w M m ρ a v
 |.x,_=>True
def A.DenL(w:World)(M:Nat->Prop)(m:Mem)(ρ:Nat->Value):List A->List Value->Prop
 |[],ys=>ys=[]
 |c::r,ys=>∃y yr,ys=y::yr/\A.Den w M m ρ c y/\A.DenL w M m ρ r yr
end
def RowH(w:World)(g:Nat)(cur:Array Value)(t:TypeId):Prop:=∃fz:Nat×Nat,w.heap[g]?=some (.cells cur t fz)/\(fz=(0,0)\/cur.size<=fz.1)
theorem RowH.of{w:World}{g:Nat}{cur:Array Value}{t:TypeId}(h:w.heap[g]?=some (.cells cur t (0,0))):RowH w g cur t:=⟨_,h,.inl rfl⟩
theorem RowH.lt{w:World}{g:Nat}{cur:Array Value}{t:TypeId}(h:RowH w g cur t):g<w.heap.size:=by obtain⟨_,h,_⟩:=h;exact(Array.getElem?_eq_some_iff.1 h).1
theorem RowH.back{w w':World}{g:Nat}{cur:Array Value}{t:TypeId}(h:RowH w g cur t)(e:w'.heap[g]?=w.heap[g]?):RowH w' g cur t:=by obtain⟨f,h,q⟩:=h;exact⟨f,e.trans h,q⟩
def OwnS(w:World)(t:TypeId)(es:Nat)(h:Value)(n:Nat)(xs:List Value):Prop:=
 (xs=[]/\n=0/\∃a,h=.slice (some a) 0 0)\/
 (xs.length=n*es/\∃g o cap cur,h=.slice (some ⟨g,o,none⟩) n cap/\0<cap/\RowH w g cur t/\n<=cap/\cap<=maxLen/\o+cap*es<=cur.size/\(cur.toList.drop o).take (n*es)=xs)
def stampOf(ρ:Nat->Value)(i:Nat):Nat:=match ρ i with
 |.int _ n=>n.toNat
 |_=>0
def HasL(m:Mem)(ids:List Nat)(p:Prop):Prop:=(∀i∈ids,m i≠none)/\((∀i∈ids,m i≠some .dead)->p)
def StIs(m:Mem)(ρ:Nat->Value)(st:List (Ky×Nat))(l:List MapEntry)(clock:Nat):Prop:=∀p∈st,Has m p.2 ((∀e∈l,e.key=p.1.val->e.born=stampOf ρ p.2)/\stampOf ρ p.2<=clock/\(p.1=.agg []->stampOf ρ p.2=clock))
def ItIs(m:Mem)(ρ:Nat->Value)(start seen:List Nat)(since:Nat)(sa:Array Nat):Prop:=
 (∀i∈seen,i∈start)/\HasL m start (start.Nodup/\(start.map (stampOf ρ)).Nodup/\(∀i∈start,stampOf ρ i<since/\(sa.contains (stampOf ρ i)=decide (i∈seen)))/\(∀i∈seen,i∈start)/\sa.back?=seen.head?.map (stampOf ρ))
def DiCur(w:World)(M:Nat->Prop)(es:Array MapEntry)(sa:Array Nat)(cur:Option (Ky×C)):Prop:=∀p,cur=some p->∃e∈es.toList,sa.back?=some e.born/\e.key=p.1.val/\C.Den w M p.2 e.val
theorem DiCur.mono{w w':World}{M M':Nat->Prop}(h:Stays M w w')(hM:∀b,M' b->b<w.heap.size->M b){es:Array MapEntry}{sa:Array Nat}{cur:Option (Ky×C)}(hd:DiCur w M es sa cur):DiCur w' M' es sa cur:=by
 intro p hp
 obtain⟨e,h1,h2,h3,h4⟩:=hd p hp
 exact⟨e,h1,h2,h3,C.Den_mono h hM _ _ h4⟩
def R.Ok(w:World)(M:Nat->Prop)(m:Mem)(ρ:Nat->Value)(h:Value):R->Prop
 |.dead=>True
 |.cells fz l=>∃b cs t,h=.pointer (some ⟨b,0,none⟩)/\w.heap[b]?=some (.cells cs t (0,0))/\A.DenL w M m ρ l cs.toList/\(fz=true->¬M b)/\∀u∈cs.toList,u.oneCell'=true
 |.osl fz t es l=>∃xs,OwnS w t es h l.length xs/\A.DenL w M m ρ l.flatten xs/\(∀e∈l,e.length=es)/\(fz=true->∀b,blk h=some b->¬M b)/\∀u∈xs,u.oneCell'=true
 |.mp fz kv st=>∃b es clock l,h=.map (some b)/\w.heap[b]?=some (.map es clock)/\MapIs es clock (kv.map (·.1)) l/\A.DenL w M m ρ (kv.map (·.2)) (l.map (·.val))/\(fz=true->¬M b)/\StIs m ρ st l clock
 |.fr l=>∃vs,h=.tuple vs/\A.DenL w M m ρ l vs.toList
 |.it i sc start seen=>∃b mb since sa,h=.pointer (some ⟨b,0,none⟩)/\w.heap[b]?=some (.mapIter (some mb) since sa since)/\Has m i (ρ i=.map (some mb))/\Has m sc (stampOf ρ sc=since)/\ItIs m ρ start seen since sa
 |.sta=>∃n:Nat,h=.int .i64 n
 |.it0=>∃b,h=.pointer (some ⟨b,0,none⟩)/\w.heap[b]?=some (.mapIter none 0 #[] 0)
 |.si s pos=>∃b,h=.pointer (some ⟨b,0,none⟩)/\w.heap[b]?=some (.stringIter s pos)
 |.lo st pend ts ps asg bod=>∃l fn vs D,h=.func (.yield l) #[] #[]/\w.heap[l]?=some (.loop {state:=st,pending:=pend,fn:=fn,tmps:=vs,params:=ps,assign:=asg,body:=bod,defers:=D})/\A.DenL w M m ρ ts vs.toList
 |.df tk=>∃b,h=.pointer (some ⟨b,0,none⟩)/\w.heap[b]?=some (.deferred (if tk then none else some []))
 |.cu src es l=>∃a,h=.slice a l.length l.length/\A.Den w M m ρ src h/\(∀e∈l,e.length=es)/\(l=[]\/∃b off xs,a=some ⟨b,off,none⟩/\¬M b/\b<w.heap.size/\A.DenL w M m ρ l.flatten xs/\(∀u∈xs,u.oneCell'=true)/\∀(j:Nat)(v:Value),xs[j]?=some v->w.cell? ⟨b,off+j,none⟩=some v)
 |.di cur rest=>∃b mb es cl sa ll,h=.pointer (some ⟨b,0,none⟩)/\w.heap[b]?=some (.mapIter (some mb) cl sa cl)/\¬M mb/\w.heap[mb]?=some (.map es cl)/\(∀e∈es.toList,e.born<cl)/\(es.toList.map (·.born)).Nodup/\(es.toList.filter (λe=> !sa.contains e.born)).Perm ll/\ll.map (·.key)=rest.map (·.1.val)/\C.DenL w M (rest.map (·.2)) (ll.map (·.val))/\DiCur w M es sa cur
def Onto(m m':Mem)(ρ ρ':Nat->Value):Prop:=∀i,m i≠none->m' i≠none/\(m' i≠some .dead->m i≠some .dead/\ρ' i=ρ i/\∀fz t es l,m i=some (.osl fz t es l)->∃fz' t' l',m' i=some (.osl fz' t' es l')/\l'.length=l.length)
theorem Has.mono{m m':Mem}{ρ ρ':Nat->Value}(hO:Onto m m' ρ ρ'){i:Nat}{p q:Prop}(h:Has m i p)
 (hpq:ρ' i=ρ i->(∀fz t es l,m i=some (.osl fz t es l)->∃fz' t' l',m' i=some (.osl fz' t' es l')/\l'.length=l.length)->p->q):Has m' i q:=by
 obtain⟨h1,h2⟩:=hO i h.1
 exact⟨h1,λhd=>hpq (h2 hd).2.1 (h2 hd).2.2 (h.2 (h2 hd).1)⟩
theorem HasL.mono{m m':Mem}{ρ ρ':Nat->Value}(hO:Onto m m' ρ ρ'){ids:List Nat}{p q:Prop}(h:HasL m ids p)(hpq:(∀i∈ids,stampOf ρ' i=stampOf ρ i)->p->q):HasL m' ids q:=by
 refine⟨λi hi=>(hO i (h.1 i hi)).1,λhd=>hpq (λi hi=>?_) (h.2 λi hi=>((hO i (h.1 i hi)).2 (hd i hi)).1)⟩
 unfold stampOf
 rw[((hO i (h.1 i hi)).2 (hd i hi)).2.1]
theorem StIs.mono{m m':Mem}{ρ ρ':Nat->Value}(hO:Onto m m' ρ ρ'){st:List (Ky×Nat)}{l:List MapEntry}{cl:Nat}(h:StIs m ρ st l cl):StIs m' ρ' st l cl:=
 λp hp=>(h p hp).mono hO λhe _ q=>by
  have e1:stampOf ρ' p.2=stampOf ρ p.2:=by unfold stampOf;rw[he]
  rw[e1];exact q
theorem ItIs.mono{m m':Mem}{ρ ρ':Nat->Value}(hO:Onto m m' ρ ρ'){start seen:List Nat}{since:Nat}{sa:Array Nat}(h:ItIs m ρ start seen since sa):ItIs m' ρ' start seen since sa:=
 ⟨h.1,HasL.mono hO h.2 λhe⟨h0,h1,h2,h3,h4⟩=>⟨h0,by rw[List.map_congr_left he];exact h1,λi hi=>by rw[he i hi];exact h2 i hi,h3,by
   rw[h4]
   cases seen with
   |nil=>rfl
   |cons s r=>simp only[List.head?_cons,Option.map_some];rw[he s (h3 s (by simp))]⟩⟩
mutual
theorem A.Den_mono{w w':World}{M M':Nat->Prop}{m m':Mem}{ρ ρ':Nat->Value}(h:Stays M w w')(hM:∀b,M' b->b<w.heap.size->M b)(hO:Onto m m' ρ ρ'):
 ∀(a:A)(y:Value),a.Den w M m ρ y->a.Den w' M' m' ρ' y
 |.d c,y,hd=>by
  simp only[A.Den]at hd⊢
  exact C.Den_mono h hM c y hd
 |.lp i off,y,hd=>by
  simp only[A.Den]at hd⊢
  exact hd.mono hO λe _⟨b,h1,h2⟩=>⟨b,e.trans h1,h2⟩
 |.h i,y,hd=>by
  simp only[A.Den]at hd⊢
  exact hd.mono hO λe _ h1=>h1.trans e.symm
 |.ep i es k off,y,hd=>by
  simp only[A.Den]at hd⊢
  exact hd.mono hO λe _⟨b,o,n,cap,h1,h2⟩=>⟨b,o,n,cap,e.trans h1,h2⟩
 |.sv i lo n,y,hd=>by
  simp only[A.Den]at hd⊢
  refine hd.mono hO λe e2⟨a,cap,h1,h2,es,fz,t,l,h5,h6,h3⟩=>?_
  obtain⟨fz',t',l',h7,h8⟩:=e2 fz t es l h5
  exact⟨a,cap,h1,h2,es,fz',t',l',h7,by omega,h3.imp (λ⟨q1,q0,q2⟩=>⟨q1,q0,λq=>by rw[h8];exact q2 q⟩) λ⟨b,o,n',cap',h9,h10⟩=>⟨b,o,n',cap',e.trans h9,h10⟩⟩
 |.fn f first caps,y,hd=>by
  simp only[A.Den]at hd⊢
  obtain⟨us,vs,hy,h1,h2⟩:=hd
  exact⟨us,vs,hy,A.DenL_mono h hM hO first _ h1,A.DenL_mono h hM hO caps _ h2⟩
 |.agg l,y,hd=>by
  simp only[A.Den]at hd⊢
  obtain⟨vs,hy,h0,h1⟩:=hd
  exact⟨vs,hy,h0,A.DenL_mono h hM hO l _ h1⟩
 |.tup l,y,hd=>by
  simp only[A.Den]at hd⊢
  obtain⟨vs,hy,h1⟩:=hd
  exact⟨vs,hy,A.DenL_mono h hM hO l _ h1⟩
 |.ifc t a,y,hd=>by
  simp only[A.Den]at hd⊢
  obtain⟨v,hy,h1⟩:=hd
  exact⟨v,hy,A.Den_mono h hM hO a _ h1⟩
 |.x,y,hd=>by simp only[A.Den]
theorem A.DenL_mono{w w':World}{M M':Nat->Prop}{m m':Mem}{ρ ρ':Nat->Value}(h:Stays M w w')(hM:∀b,M' b->b<w.heap.size->M b)(hO:Onto m m' ρ ρ'):
 ∀(l:List A)(ys:List Value),A.DenL w M m ρ l ys->A.DenL w' M' m' ρ' l ys
 |[],ys,hd=>by simpa only[A.DenL]using hd
 |c::r,ys,hd=>by
  simp only[A.DenL]at hd⊢
  obtain⟨y,yr,hy,h1,h2⟩:=hd
  exact⟨y,yr,hy,A.Den_mono h hM hO c y h1,A.DenL_mono h hM hO r yr h2⟩
end
structure Keeps(S:Nat->Prop)(w w':World):Prop where
 os:w'.os=w.os
 tape:w'.tape=w.tape
 output:w'.output=w.output
 size:w.heap.size<=w'.heap.size
 block:∀b,b<w.heap.size->¬S b->w'.heap[b]?=w.heap[b]?
theorem Keeps.refl(S:Nat->Prop)(w:World):Keeps S w w:=⟨rfl,rfl,rfl,Nat.le_refl _,λ_ _ _=>rfl⟩
theorem Keeps.trans{S S':Nat->Prop}{a b c:World}(h:Keeps S a b)(k:Keeps S' b c)(hs:∀i,i<a.heap.size->S' i->S i):Keeps S a c:=
 ⟨k.os.trans h.os,k.tape.trans h.tape,k.output.trans h.output,Nat.le_trans h.size k.size,
  λi hi hn=>(k.block i (Nat.lt_of_lt_of_le hi h.size) (λe=>hn (hs i hi e))).trans (h.block i hi hn)⟩
theorem Keeps.stays{S M:Nat->Prop}{a b:World}(h:Keeps S a b)(hs:∀i,i<a.heap.size->S i->M i):Stays M a b:=⟨h.size,λi hi hn=>h.block i hi λe=>hn (hs i hi e)⟩
inductive DA where
 |call(f:Fn)(args caps:List A)
 |coll(i:Nat)
 |bi(b:Builtin)(tys:Array TypeId)(ty:TypeId)(cs:Array Bool)(args:List A)
 |opq(d:Deferred)
 deriving Inhabited
def DefsDen(w:World)(M:Nat->Prop)(m:Mem)(ρ:Nat->Value):List DA->List Deferred->Prop
 |[],ds=>ds=[]
 |.call f as cs::r,ds=>∃vs us rest,ds={target:=.fn f us,args:=vs}::rest/\A.DenL w M m ρ as vs.toList/\A.DenL w M m ρ cs us.toList/\DefsDen w M m ρ r rest
 |.bi b tys ty cs as::r,ds=>∃vs rest,ds={target:=.builtin b tys ty cs,args:=vs}::rest/\A.DenL w M m ρ as vs.toList/\DefsDen w M m ρ r rest
 |.coll i::r,ds=>∃D rest,ds={target:=.collected D,args:= #[]}::rest/\Has m i (ρ i=.pointer (some ⟨D,0,none⟩))/\DefsDen w M m ρ r rest
 |.opq d::r,ds=>∃rest,ds=d::rest/\DefsDen w M m ρ r rest
theorem DefsDen_mono{w w':World}{M M':Nat->Prop}{m m':Mem}{ρ ρ':Nat->Value}(h:Stays M w w')(hM:∀b,M' b->b<w.heap.size->M b)(hO:Onto m m' ρ ρ'):
 ∀(l:List DA)(ds:List Deferred),DefsDen w M m ρ l ds->DefsDen w' M' m' ρ' l ds
 |[],ds,hd=>hd
 |.call f as cs::r,ds,⟨vs,us,rest,e,h1,h2,h3⟩=>⟨vs,us,rest,e,A.DenL_mono h hM hO _ _ h1,A.DenL_mono h hM hO _ _ h2,DefsDen_mono h hM hO r rest h3⟩
 |.bi b tys ty cs as::r,ds,⟨vs,rest,e,h1,h3⟩=>⟨vs,rest,e,A.DenL_mono h hM hO _ _ h1,DefsDen_mono h hM hO r rest h3⟩
 |.coll i::r,ds,⟨D,rest,e,h1,h3⟩=>⟨D,rest,e,h1.mono hO λe _ q=>e.trans q,DefsDen_mono h hM hO r rest h3⟩
 |.opq d::r,ds,⟨rest,e,h3⟩=>⟨rest,e,DefsDen_mono h hM hO r rest h3⟩
structure Fr where
 n:Nat
 ds:Option (List DA)
structure SatAt(M0 S0:Nat->Prop)(w0:World)(N:Fr)(T:Nat->A)(m:Mem)(ρ:Nat->Value)(a:Act)(w:World):Prop where
 keeps:Keeps S0 w0 w
 size:a.tmps.size=N.n
 defers:∀ds,N.ds=some ds->DefsDen w (Mut M0 m ρ) m ρ ds a.defers
 tmps:∀n,(T n).Den w (Mut M0 m ρ) m ρ (a.tmps.getD n undef)
 res:∀i r,m i=some r->r.Ok w (Mut M0 m ρ) m ρ (ρ i)
 own:∀i r b,m i=some r->r.live=true->blk (ρ i)=some b->(w0.heap.size<=b\/S0 b)/\¬M0 b/\b<w.heap.size
 apart:∀i j r r' b,m i=some r->r.live=true->m j=some r'->r'.live=true->blk (ρ i)=some b->blk (ρ j)=some b->i=j
end Go.Pv
namespace Go.Pv
open Go.RowKit
def setT(T:Nat->A)(d:Option Nat)(v:A):Nat->A:=λn=>if d=some n then v else T n
def setM(m:Mem)(i:Nat)(r:R):Mem:=λn=>if n=i then some r else m n
def setH(ρ:Nat->Value)(i:Nat)(h:Value):Nat->Value:=λn=>if n=i then h else ρ n
theorem Onto.refl(m:Mem)(ρ:Nat->Value):Onto m m ρ ρ:=λi h=>⟨h,λhd=>⟨hd,rfl,λfz t es l e=>⟨fz,t,l,e,rfl⟩⟩⟩
theorem Stays.refl(M:Nat->Prop)(w:World):Stays M w w:=⟨Nat.le_refl _,λ_ _ _=>rfl⟩
theorem R.Ok_mono{w w':World}{M M':Nat->Prop}{m m':Mem}{ρ ρ':Nat->Value}(h:Stays M w w')(hM:∀b,M' b->b<w.heap.size->M b)(hO:Onto m m' ρ ρ')
 {hd:Value}(hb:∀b,blk hd=some b->b<w.heap.size->w'.heap[b]?=w.heap[b]?){r:R}(hr:r.Ok w M m ρ hd):r.Ok w' M' m' ρ' hd:=by
 cases r with
 |dead=>trivial
 |cells fz l=>
  obtain⟨b,cs,t,rfl,h1,h2,h3,h4⟩:=hr
  have hlt:b<w.heap.size:=(Array.getElem?_eq_some_iff.1 h1).1
  exact⟨b,cs,t,rfl,(hb b rfl hlt).trans h1,A.DenL_mono h hM hO l _ h2,λe f=>h3 e (hM b f hlt),h4⟩
 |osl fz t es l=>
  obtain⟨xs,h1,h2,h3,h4,h5⟩:=hr
  refine⟨xs,?_,A.DenL_mono h hM hO _ _ h2,h3,?_,h5⟩
  ·rcases h1 with hn|⟨hl,g,og,cap,cur,rfl,hp,hh,rest⟩
   ·exact .inl hn
   ·exact .inr ⟨hl,g,og,cap,cur,rfl,hp,hh.back (hb g (by simp[blk];omega) hh.lt),rest⟩
  ·intro e b hbb f
   rcases h1 with⟨_,_,a,rfl⟩|⟨hl,g,og,cap,cur,rfl,hp,hh,rest⟩
   ·cases a<;>simp[blk]at hbb
   ·simp[blk]at hbb
    obtain⟨_,rfl⟩:=hbb
    exact h4 e _ (by simp[blk];omega) (hM _ f hh.lt)
 |mp fz kv st=>
  obtain⟨b,es,cl,l,rfl,h1,h2,h3,h4,h5⟩:=hr
  have hlt:b<w.heap.size:=(Array.getElem?_eq_some_iff.1 h1).1
  exact⟨b,es,cl,l,rfl,(hb b rfl hlt).trans h1,h2,A.DenL_mono h hM hO _ _ h3,λe f=>h4 e (hM b f hlt),h5.mono hO⟩
 |fr l=>
  obtain⟨vs,rfl,h1⟩:=hr
  exact⟨vs,rfl,A.DenL_mono h hM hO _ _ h1⟩
 |it i sc start seen=>
  obtain⟨b,mb,si,sa,rfl,h1,h2,h5,h4⟩:=hr
  have hlt:b<w.heap.size:=(Array.getElem?_eq_some_iff.1 h1).1
  exact⟨b,mb,si,sa,rfl,(hb b rfl hlt).trans h1,h2.mono hO λe _ q=>e.trans q,h5.mono hO λe _ q=>by unfold stampOf at q⊢;rw[e];exact q,h4.mono hO⟩
 |sta=>exact hr
 |it0=>
  obtain⟨b,rfl,h1⟩:=hr
  exact⟨b,rfl,(hb b rfl (Array.getElem?_eq_some_iff.1 h1).1).trans h1⟩
 |si s pos=>
  obtain⟨b,rfl,h1⟩:=hr
  exact⟨b,rfl,(hb b rfl (Array.getElem?_eq_some_iff.1 h1).1).trans h1⟩
 |lo st pend ts ps asg bod=>
  obtain⟨l,fn,vs,D,rfl,h1,h2⟩:=hr
  exact⟨l,fn,vs,D,rfl,(hb l rfl (Array.getElem?_eq_some_iff.1 h1).1).trans h1,A.DenL_mono h hM hO _ _ h2⟩
 |df tk=>
  obtain⟨b,rfl,h1⟩:=hr
  exact⟨b,rfl,(hb b rfl (Array.getElem?_eq_some_iff.1 h1).1).trans h1⟩
 |di cur rest=>
  obtain⟨b,mb,es,cl,sa,ll,rfl,h1,h2,h3,h4,h5,h6,h7,h8,h9⟩:=hr
  have hlt:mb<w.heap.size:=(Array.getElem?_eq_some_iff.1 h3).1
  exact⟨b,mb,es,cl,sa,ll,rfl,(hb b rfl (Array.getElem?_eq_some_iff.1 h1).1).trans h1,λf=>h2 (hM mb f hlt),(h.2 mb hlt h2).trans h3,h4,h5,h6,h7,C.DenL_mono h hM _ _ h8,h9.mono h hM⟩
 |cu src es l=>
  obtain⟨a,rfl,h1,h2,h3⟩:=hr
  refine⟨a,rfl,A.Den_mono h hM hO _ _ h1,h2,h3.imp id ?_⟩
  rintro⟨b,off,xs,e,h4,h5,h6,h7,h8⟩
  exact⟨b,off,xs,e,λf=>h4 (hM b f h5),Nat.lt_of_lt_of_le h5 h.1,A.DenL_mono h hM hO _ _ h6,h7,λj v hj=>(h.cell h5 h4).trans (h8 j v hj)⟩
theorem cu_blk{w:World}{M:Nat->Prop}{m:Mem}{ρ:Nat->Value}{h:Value}{src:A}{es:Nat}{l:List (List A)}(hok:R.Ok w M m ρ h (.cu src es l)){b:Nat}(hb:blk h=some b):¬M b:=by
 obtain⟨a,rfl,_,_,h3⟩:=hok
 rcases h3 with rfl|⟨b',off,xs,rfl,h4,_⟩
 ·cases a<;>simp[blk]at hb
 ·simp[blk]at hb;obtain⟨_,rfl⟩:=hb;exact h4
section
variable{M0 S0:Nat->Prop}{w0:World}{N:Fr}{T:Nat->A}{m:Mem}{ρ:Nat->Value}{a:Act}{w:World}
theorem getD_put(a:Act)(d:Option Nat)(y:Value)(hd:∀n,d=some n->n<a.tmps.size)(n:Nat):
 (a.put d y).tmps.getD n undef=if d=some n then y else a.tmps.getD n undef:=by
 cases d with
 |none=>simp[Act.put]
 |some d=>
  have hd':=hd d rfl
  by_cases e:d=n
  ·subst e;simp[Act.put,Array.getD,hd']
  ·simp only[Act.put,Option.some.injEq,e,if_false]
   rw[Array.getD_eq_getD_getElem?,Array.getD_eq_getD_getElem?,Array.getElem?_setIfInBounds_ne e]
theorem SatAt.put(h:SatAt M0 S0 w0 N T m ρ a w)(d:Option Nat)(hd:∀n,d=some n->n<N.n){v:A}{y:Value}(hv:v.Den w (Mut M0 m ρ) m ρ y):
 SatAt M0 S0 w0 N (setT T d v) m ρ (a.put d y) w where
 keeps:=h.keeps
 size:=by rw[<-h.size];cases d<;>simp[Act.put]
 defers:=by have:=h.defers;cases d<;>exact this
 tmps:=by
  intro n
  rw[getD_put a d y (by rw[h.size];exact hd)]
  unfold setT
  split
  ·exact hv
  ·exact h.tmps n
 res:=h.res
 own:=h.own
 apart:=h.apart
theorem SatAt.shrink(h:SatAt M0 S0 w0 N T m ρ a w){M1:Nat->Prop}(hM:∀b,M1 b->M0 b):SatAt M1 S0 w0 N T m ρ a w:=by
 have hm:∀b,Mut M1 m ρ b->b<w.heap.size->Mut M0 m ρ b:=λb hb _=>hb.imp (hM b) id
 exact{keeps:=h.keeps,size:=h.size,defers:=λds e=>DefsDen_mono (Stays.refl _ w) hm (Onto.refl m ρ) _ _ (h.defers ds e)
       tmps:=λn=>A.Den_mono (Stays.refl _ w) hm (Onto.refl m ρ) _ _ (h.tmps n)
       res:=λi r hi=>R.Ok_mono (Stays.refl _ w) hm (Onto.refl m ρ) (λ_ _ _=>rfl) (h.res i r hi)
       own:=λi r b hi hl hb=>let⟨x,y,z⟩:=h.own i r b hi hl hb;⟨x,λe=>y (hM b e),z⟩
       apart:=h.apart}
theorem SatAt.world(h:SatAt M0 S0 w0 N T m ρ a w){X:Nat->Prop}{w':World}(hk:Keeps X w w')(hX:∀b,b<w.heap.size->X b->M0 b/\(w0.heap.size<=b\/S0 b)):
 SatAt (λb=>M0 b\/w.heap.size<=b) S0 w0 N T m ρ a w':=by
 have hst:Stays (Mut M0 m ρ) w w':=hk.stays λb hb hx=>.inl (hX b hb hx).1
 have hm:∀b,Mut (λb=>M0 b\/w.heap.size<=b) m ρ b->b<w.heap.size->Mut M0 m ρ b:=λb hb hlt=>hb.imp (λe=>e.resolve_right (by omega)) id
 refine{keeps:=h.keeps.trans hk λb hb hx=>?_,size:=h.size,defers:=λds e=>DefsDen_mono hst hm (Onto.refl m ρ) _ _ (h.defers ds e)
        tmps:=λn=>A.Den_mono hst hm (Onto.refl m ρ) _ _ (h.tmps n)
        res:=λi r hi=>?_
        own:=λi r b hi hl hb=>?_
        apart:=h.apart}
 ·rcases(hX b (Nat.lt_of_lt_of_le hb h.keeps.size) hx).2 with e|e
  ·omega
  ·exact e
 ·by_cases hl:r.live=true
  ·refine R.Ok_mono hst hm (Onto.refl m ρ) (λb hb hlt=>?_) (h.res i r hi)
   exact hk.block b hlt λe=>(h.own i r b hi hl hb).2.1 (hX b hlt e).1
  ·
   have hok:=h.res i r hi
   cases r with
   |dead=>trivial
   |cells fz l=>
    simp[R.live]at hl
    refine R.Ok_mono hst hm (Onto.refl m ρ) (λb hb hlt=>?_) hok
    obtain⟨b',cs,t,e1,h1,h2,h3,_⟩:=hok
    rw[e1]at hb;simp[blk]at hb;subst hb
    exact hst.2 _ hlt (h3 hl)
   |osl fz t es l=>
    simp[R.live]at hl
    refine R.Ok_mono hst hm (Onto.refl m ρ) (λb hb hlt=>?_) hok
    obtain⟨xs,h1,h2,h3,h4,_⟩:=hok
    exact hst.2 _ hlt (h4 hl b hb)
   |mp fz kv st=>
    simp[R.live]at hl
    refine R.Ok_mono hst hm (Onto.refl m ρ) (λb hb hlt=>?_) hok
    obtain⟨b',es,cl,l,e1,h1,h2,h3,h4,h5⟩:=hok
    rw[e1]at hb;simp[blk]at hb;subst hb
    exact hst.2 _ hlt (h4 hl)
   |cu src es l=>exact R.Ok_mono hst hm (Onto.refl m ρ) (λb hb hlt=>hst.2 _ hlt (cu_blk hok hb)) hok
   |_=>simp[R.live]at hl
 ·obtain⟨x,y,z⟩:=h.own i r b hi hl hb
  exact⟨x,λe=>e.elim y (by omega),Nat.lt_of_lt_of_le z hk.size⟩
theorem Onto.set{m:Mem}{ρ:Nat->Value}(i:Nat)(r:R)(h':Value)
 (hi:m i≠none->r≠.dead->m i≠some .dead/\h'=ρ i/\∀fz t es l,m i=some (.osl fz t es l)->∃fz' t' l',r=.osl fz' t' es l'/\l'.length=l.length):Onto m (setM m i r) ρ (setH ρ i h'):=by
 intro n hn
 by_cases e:n=i
 ·subst e
  refine⟨by simp[setM],λhd=>?_⟩
  have hr:r≠.dead:=λe=>hd (by simp[setM,e])
  obtain⟨h1,h2,h3⟩:=hi hn hr
  exact⟨h1,by simp[setH,h2],λfz t es l e=>by obtain⟨a,b,c,d,f⟩:=h3 fz t es l e;exact⟨a,b,c,by simp[setM,d],f⟩⟩
 ·exact⟨by simpa [setM,e]using hn,λhd=>⟨by simpa [setM,e]using hd,by simp[setH,e],λfz t es l h=>⟨fz,t,l,by simpa [setM,e]using h,rfl⟩⟩⟩
theorem Onto.trans{m1 m2 m3:Mem}{ρ1 ρ2 ρ3:Nat->Value}(h:Onto m1 m2 ρ1 ρ2)(k:Onto m2 m3 ρ2 ρ3):Onto m1 m3 ρ1 ρ3:=by
 intro i hi
 obtain⟨h1,h2⟩:=h i hi
 obtain⟨k1,k2⟩:=k i h1
 refine⟨k1,λhd=>?_⟩
 obtain⟨k3,k4,k5⟩:=k2 hd
 obtain⟨h3,h4,h5⟩:=h2 k3
 refine⟨h3,k4.trans h4,λfz t es l e=>?_⟩
 obtain⟨fz',t',l',e1,e2⟩:=h5 fz t es l e
 obtain⟨fz2,t2,l2,e3,e4⟩:=k5 _ _ _ _ e1
 exact⟨fz2,t2,l2,e3,e4.trans e2⟩
theorem Onto.new{m:Mem}{ρ:Nat->Value}{i:Nat}(r:R)(h':Value)(hi:m i=none):Onto m (setM m i r) ρ (setH ρ i h'):=Onto.set i r h' λe=>absurd hi e
theorem setH_same(ρ:Nat->Value)(i:Nat):setH ρ i (ρ i)=ρ:=by
 funext n;unfold setH;split<;>simp_all
theorem SatAt.other(h:SatAt M0 S0 w0 N T m ρ a w){i j:Nat}{r r':R}{b:Nat}(hi:m i=some r)(hl:r.live=true)(hb:blk (ρ i)=some b)(hj:m j=some r')(hd:r'≠.dead)(hne:j≠i):
 blk (ρ j)≠some b:=by
 intro e
 by_cases hl':r'.live=true
 ·exact hne (h.apart j i r' r b hj hl' hi hl e hb)
 ·have hmut:Mut M0 m ρ b:=.inr ⟨i,r,hi,hl,hb⟩
  have hok:=h.res j r' hj
  cases r' with
  |dead=>exact hd rfl
  |cells fz l=>
   simp[R.live]at hl'
   obtain⟨b',cs,t,e1,h1,h2,h3,_⟩:=hok
   rw[e1]at e;simp[blk]at e;subst e
   exact h3 hl' hmut
  |osl fz t es l=>
   simp[R.live]at hl'
   obtain⟨xs,h1,h2,h3,h4,_⟩:=hok
   exact h4 hl' b e hmut
  |mp fz kv st=>
   simp[R.live]at hl'
   obtain⟨b',es,cl,l,e1,h1,h2,h3,h4,h5⟩:=hok
   rw[e1]at e;simp[blk]at e;subst e
   exact h4 hl' hmut
  |cu src es l=>exact cu_blk hok e hmut
  |_=>simp[R.live]at hl'
theorem live_ne_dead{r:R}(h:r.live=true):r≠.dead:=by rintro rfl;simp[R.live]at h
theorem SatAt.kill(h:SatAt M0 S0 w0 N T m ρ a w){i:Nat}{r:R}(hi:m i=some r)(hl:r.live=true):
 SatAt (λb=>M0 b\/blk (ρ i)=some b) S0 w0 N T (setM m i .dead) ρ a w:=by
 have hO:Onto m (setM m i .dead) ρ ρ:=by
  have:=Onto.set (m:=m) (ρ:=ρ) i .dead (ρ i) (λ_ e=>absurd rfl e)
  rwa [setH_same]at this
 have hm:∀b,Mut (λb=>M0 b\/blk (ρ i)=some b) (setM m i .dead) ρ b->b<w.heap.size->Mut M0 m ρ b:=by
  rintro b ((e|e)|⟨j,r',hj,hl',hb⟩) _
  ·exact .inl e
  ·exact .inr ⟨i,r,hi,hl,e⟩
  ·by_cases e:j=i
   ·subst e;simp[setM]at hj;subst hj;simp[R.live]at hl'
   ·exact .inr ⟨j,r',by simpa [setM,e]using hj,hl',hb⟩
 refine{keeps:=h.keeps,size:=h.size,defers:=λds e=>DefsDen_mono (Stays.refl _ w) hm hO _ _ (h.defers ds e)
        tmps:=λn=>A.Den_mono (Stays.refl _ w) hm hO _ _ (h.tmps n)
        res:=λj r' hj=>?_,own:=λj r' b hj hl' hb=>?_,apart:=λj k r1 r2 b h1 l1 h2 l2 b1 b2=>?_}
 ·by_cases e:j=i
  ·subst e;simp[setM]at hj;subst hj;trivial
  ·exact R.Ok_mono (Stays.refl _ w) hm hO (λ_ _ _=>rfl) (h.res j r' (by simpa [setM,e]using hj))
 ·have e:j≠i:=by rintro rfl;simp[setM]at hj;subst hj;simp[R.live]at hl'
  have hj':m j=some r':=by simpa [setM,e]using hj
  obtain⟨x,y,z⟩:=h.own j r' b hj' hl' hb
  exact⟨x,λf=>f.elim y λf=>h.other hi hl f hj' (live_ne_dead hl') e hb,z⟩
 ·have e1:j≠i:=by rintro rfl;simp[setM]at h1;subst h1;simp[R.live]at l1
  have e2:k≠i:=by rintro rfl;simp[setM]at h2;subst h2;simp[R.live]at l2
  exact h.apart j k r1 r2 b (by simpa [setM,e1]using h1) l1 (by simpa [setM,e2]using h2) l2 b1 b2
theorem SatAt.claim{M1:Nat->Prop}(h:SatAt M1 S0 w0 N T m ρ a w){j:Nat}(hj:m j=none){r':R}{h':Value}(hM0:∀b,M0 b->M1 b/\blk h'≠some b)
 (hb:∀b,blk h'=some b->M1 b/\(w0.heap.size<=b\/S0 b)/\b<w.heap.size)(hl:r'.live=true)
 (hok:R.Ok w (Mut M0 (setM m j r') (setH ρ j h')) (setM m j r') (setH ρ j h') h' r'):SatAt M0 S0 w0 N T (setM m j r') (setH ρ j h') a w:=by
 have hO:Onto m (setM m j r') ρ (setH ρ j h'):=Onto.set j r' h' λe=>absurd hj e
 have hm:∀b,Mut M0 (setM m j r') (setH ρ j h') b->b<w.heap.size->Mut M1 m ρ b:=by
  rintro b (e|⟨i,r,hi,hl',hbb⟩) _
  ·exact .inl (hM0 b e).1
  ·by_cases e:i=j
   ·subst e;simp[setH]at hbb;exact .inl (hb b hbb).1
   ·exact .inr ⟨i,r,by simpa [setM,e]using hi,hl',by simpa [setH,e]using hbb⟩
 refine{keeps:=h.keeps,size:=h.size,defers:=λds e=>DefsDen_mono (Stays.refl _ w) hm hO _ _ (h.defers ds e)
        tmps:=λn=>A.Den_mono (Stays.refl _ w) hm hO _ _ (h.tmps n)
        res:=λi r hi=>?_,own:=λi r b hi hl' hbb=>?_,apart:=λi k r1 r2 b h1 l1 h2 l2 b1 b2=>?_}
 ·by_cases e:i=j
  ·subst e;simp[setM]at hi;subst hi;simpa [setH]using hok
  ·have:=R.Ok_mono (Stays.refl _ w) hm hO (λ_ _ _=>rfl) (h.res i r (by simpa [setM,e]using hi))
   simpa [setH,e]using this
 ·by_cases e:i=j
  ·subst e;simp[setH]at hbb
   obtain⟨x,y,z⟩:=hb b hbb
   exact⟨y,λf=>(hM0 b f).2 hbb,z⟩
  ·obtain⟨x,y,z⟩:=h.own i r b (by simpa [setM,e]using hi) hl' (by simpa [setH,e]using hbb)
   exact⟨x,λf=>y (hM0 b f).1,z⟩
 ·by_cases e1:i=j
  ·by_cases e2:k=j
   ·rw[e1,e2]
   ·subst e1;simp[setH]at b1
    have:=(h.own k r2 b (by simpa [setM,e2]using h2) l2 (by simpa [setH,e2]using b2)).2.1
    exact absurd (hb b b1).1 this
  ·by_cases e2:k=j
   ·subst e2;simp[setH]at b2
    have:=(h.own i r1 b (by simpa [setM,e1]using h1) l1 (by simpa [setH,e1]using b1)).2.1
    exact absurd (hb b b2).1 this
   ·exact h.apart i k r1 r2 b (by simpa [setM,e1]using h1) l1 (by simpa [setM,e2]using h2) l2 (by simpa [setH,e1]using b1) (by simpa [setH,e2]using b2)
theorem SatAt.write(h:SatAt M0 S0 w0 N T m ρ a w){i:Nat}{r r':R}(hi:m i=some r)(hl:r.live=true)(hl':r'.live=true)
 (hes:∀fz t es l,r=.osl fz t es l->∃fz' t' l',r'=.osl fz' t' es l'/\l'.length=l.length){X:Nat->Prop}{w':World}(hk:Keeps X w w')(hX:∀b,b<w.heap.size->X b->blk (ρ i)=some b)
 (hok:Onto m (setM m i r') ρ ρ->Stays (Mut M0 m ρ) w w'->(∀b,Mut M0 (setM m i r') ρ b->b<w.heap.size->Mut M0 m ρ b)->R.Ok w' (Mut M0 (setM m i r') ρ) (setM m i r') ρ (ρ i) r'):
 SatAt M0 S0 w0 N T (setM m i r') ρ a w':=by
 have hO:Onto m (setM m i r') ρ ρ:=by
  have:=Onto.set (m:=m) (ρ:=ρ) i r' (ρ i) (λ_ _=>⟨by rw[hi];simpa using live_ne_dead hl,rfl,λfz t es l e=>hes fz t es l (by rw[hi]at e;simpa using e)⟩)
  rwa [setH_same]at this
 have hm:∀b,Mut M0 (setM m i r') ρ b->b<w.heap.size->Mut M0 m ρ b:=by
  rintro b (e|⟨j,r1,hj,hl1,hbb⟩) _
  ·exact .inl e
  ·by_cases e:j=i
   ·subst e;exact .inr ⟨j,r,hi,hl,hbb⟩
   ·exact .inr ⟨j,r1,by simpa [setM,e]using hj,hl1,hbb⟩
 have hst:Stays (Mut M0 m ρ) w w':=hk.stays λb hb hx=>.inr ⟨i,r,hi,hl,hX b hb hx⟩
 refine{keeps:=h.keeps.trans hk λb hb hx=>?_,size:=h.size,defers:=λds e=>DefsDen_mono hst hm hO _ _ (h.defers ds e)
        tmps:=λn=>A.Den_mono hst hm hO _ _ (h.tmps n)
        res:=λj r1 hj=>?_,own:=λj r1 b hj hl1 hbb=>?_,apart:=λj k r1 r2 b h1 l1 h2 l2 b1 b2=>?_}
 ·have hlt:=Nat.lt_of_lt_of_le hb h.keeps.size
  rcases(h.own i r b hi hl (hX b hlt hx)).1 with e|e
  ·omega
  ·exact e
 ·by_cases e:j=i
  ·subst e;simp[setM]at hj;subst hj;exact hok hO hst hm
  ·have hj':m j=some r1:=by simpa [setM,e]using hj
   by_cases hd:r1=.dead
   ·subst hd;trivial
   ·refine R.Ok_mono hst hm hO (λb hb hlt=>?_) (h.res j r1 hj')
    exact hk.block b hlt λx=>h.other hi hl (hX b hlt x) hj' hd e hb
 ·by_cases e:j=i
  ·subst e;obtain⟨x,y,z⟩:=h.own j r b hi hl hbb;exact⟨x,y,Nat.lt_of_lt_of_le z hk.size⟩
  ·obtain⟨x,y,z⟩:=h.own j r1 b (by simpa [setM,e]using hj) hl1 hbb
   exact⟨x,y,Nat.lt_of_lt_of_le z hk.size⟩
 ·have key:∀j r1,setM m i r' j=some r1->r1.live=true->∃r2,m j=some r2/\r2.live=true:=by
   intro j r1 hj hl1
   by_cases e:j=i
   ·subst e;exact⟨r,hi,hl⟩
   ·exact⟨r1,by simpa [setM,e]using hj,hl1⟩
  obtain⟨s1,g1,g2⟩:=key j r1 h1 l1
  obtain⟨s2,g3,g4⟩:=key k r2 h2 l2
  exact h.apart j k s1 s2 b g1 g2 g3 g4 b1 b2
def R.frz:R->R
 |.dead=>.dead
 |.cells _ l=>.cells true l
 |.osl _ t es l=>.osl true t es l
 |.mp _ kv st=>.mp true kv st
 |_=>.dead
theorem R.frz_live(r:R):r.frz.live=false:=by cases r<;>rfl
theorem SatAt.freeze(h:SatAt M0 S0 w0 N T m ρ a w){i:Nat}{r:R}(hi:m i=some r)(hl:r.live=true):SatAt M0 S0 w0 N T (setM m i r.frz) ρ a w:=by
 have hO:Onto m (setM m i r.frz) ρ ρ:=by
  have:=Onto.set (m:=m) (ρ:=ρ) i r.frz (ρ i) (λ_ _=>⟨by rw[hi];simpa using live_ne_dead hl,rfl,λfz t es l e=>⟨true,t,l,by rw[hi]at e;simp at e;rw[e];rfl,rfl⟩⟩)
  rwa [setH_same]at this
 have hm:∀b,Mut M0 (setM m i r.frz) ρ b->b<w.heap.size->Mut M0 m ρ b:=by
  rintro b (e|⟨j,r1,hj,hl1,hbb⟩) _
  ·exact .inl e
  ·by_cases e:j=i
   ·subst e;simp[setM]at hj;subst hj;simp[R.frz_live]at hl1
   ·exact .inr ⟨j,r1,by simpa [setM,e]using hj,hl1,hbb⟩
 have hnot:∀b,blk (ρ i)=some b->¬Mut M0 (setM m i r.frz) ρ b:=by
  rintro b hb (e|⟨j,r1,hj,hl1,hbb⟩)
  ·exact(h.own i r b hi hl hb).2.1 e
  ·by_cases e:j=i
   ·subst e;simp[setM]at hj;subst hj;simp[R.frz_live]at hl1
   ·exact h.other hi hl hb (by simpa [setM,e]using hj) (live_ne_dead hl1) e hbb
 have liv:∀j r1,setM m i r.frz j=some r1->r1.live=true->j≠i/\m j=some r1:=by
  intro j r1 hj hl1
  have e:j≠i:=by rintro rfl;simp[setM]at hj;subst hj;simp[R.frz_live]at hl1
  exact⟨e,by simpa [setM,e]using hj⟩
 refine{keeps:=h.keeps,size:=h.size,defers:=λds e=>DefsDen_mono (Stays.refl _ w) hm hO _ _ (h.defers ds e)
        tmps:=λn=>A.Den_mono (Stays.refl _ w) hm hO _ _ (h.tmps n)
        res:=λj r1 hj=>?_,own:=λj r1 b hj hl1 hbb=>h.own j r1 b (liv j r1 hj hl1).2 hl1 hbb
        apart:=λj k r1 r2 b h1 l1 h2 l2 b1 b2=>h.apart j k r1 r2 b (liv j r1 h1 l1).2 l1 (liv k r2 h2 l2).2 l2 b1 b2}
 by_cases e:j=i
 ·subst e
  have hok:=R.Ok_mono (Stays.refl _ w) hm hO (λ_ _ _=>rfl) (h.res j r hi)
  simp[setM]at hj;subst hj
  cases r with
  |dead=>trivial
  |cells fz l=>
   obtain⟨b',cs,t,e1,h1,h2,h3,h4⟩:=hok
   exact⟨b',cs,t,e1,h1,h2,λ_=>hnot b' (by rw[e1];rfl),h4⟩
  |osl fz t es l=>
   obtain⟨xs,h1,h2,h3,h4,h5⟩:=hok
   exact⟨xs,h1,h2,h3,λ_ b hb=>hnot b hb,h5⟩
  |mp fz kv st=>
   obtain⟨b',es,cl,l,e1,h1,h2,h3,h4,h5⟩:=hok
   exact⟨b',es,cl,l,e1,h1,h2,h3,λ_=>hnot b' (by rw[e1];rfl),h5⟩
  |_=>trivial
 ·exact R.Ok_mono (Stays.refl _ w) hm hO (λ_ _ _=>rfl) (h.res j r1 (by simpa [setM,e]using hj))
end
end Go.Pv
namespace Go.Pv
open Go.RowKit
section
variable{w:World}{M:Nat->Prop}{m:Mem}{ρ:Nat->Value}
theorem A.DenL_iff{l:List A}{ys:List Value}:A.DenL w M m ρ l ys↔l.length=ys.length/\∀(j:Nat)(c:A)(y:Value),l[j]?=some c->ys[j]?=some y->c.Den w M m ρ y:=by
 induction l generalizing ys with
 |nil=>
  simp only[A.DenL,List.length_nil]
  constructor
  ·rintro rfl;simp
  ·rintro⟨h,_⟩;exact List.eq_nil_of_length_eq_zero h.symm
 |cons c r ih=>
  simp only[A.DenL,List.length_cons]
  constructor
  ·rintro⟨y,yr,rfl,h1,h2⟩
   obtain⟨h3,h4⟩:=ih.1 h2
   refine⟨by simp[h3],λj c' y' hc hy=>?_⟩
   cases j with
   |zero=>simp at hc hy;subst hc;subst hy;exact h1
   |succ j=>simp at hc hy;exact h4 j c' y' hc hy
  ·rintro⟨h1,h2⟩
   cases ys with
   |nil=>simp at h1
   |cons y yr=>
    refine⟨y,yr,rfl,h2 0 c y rfl rfl,ih.2 ⟨by simpa using h1,λj c' y' hc hy=>h2 (j+1) c' y' (by simpa using hc) (by simpa using hy)⟩⟩
theorem C.DenL_iff{l:List C}{ys:List Value}:C.DenL w M l ys↔l.length=ys.length/\∀(j:Nat)(c:C)(y:Value),l[j]?=some c->ys[j]?=some y->c.Den w M y:=by
 induction l generalizing ys with
 |nil=>
  simp only[C.DenL,List.length_nil]
  constructor
  ·rintro rfl;simp
  ·rintro⟨h,_⟩;exact List.eq_nil_of_length_eq_zero h.symm
 |cons c r ih=>
  simp only[C.DenL,List.length_cons]
  constructor
  ·rintro⟨y,yr,rfl,h1,h2⟩
   obtain⟨h3,h4⟩:=ih.1 h2
   refine⟨by simp[h3],λj c' y' hc hy=>?_⟩
   cases j with
   |zero=>simp at hc hy;subst hc;subst hy;exact h1
   |succ j=>simp at hc hy;exact h4 j c' y' hc hy
  ·rintro⟨h1,h2⟩
   cases ys with
   |nil=>simp at h1
   |cons y yr=>
    refine⟨y,yr,rfl,h2 0 c y rfl rfl,ih.2 ⟨by simpa using h1,λj c' y' hc hy=>h2 (j+1) c' y' (by simpa using hc) (by simpa using hy)⟩⟩
theorem C.DenAt_iff{b off:Nat}{l:List C}:C.DenAt w M b off l↔∀(j:Nat)(c:C),l[j]?=some c->∃y,w.cell? ⟨b,off+j,none⟩=some y/\y.oneCell'=true/\c.Den w M y:=by
 induction l generalizing off with
 |nil=>simp[C.DenAt]
 |cons c r ih=>
  simp only[C.DenAt,ih]
  constructor
  ·rintro⟨h1,h2⟩ j c' hc
   cases j with
   |zero=>simp at hc;subst hc;simpa using h1
   |succ j=>
    obtain⟨y,h3,h4⟩:=h2 j c' (by simpa using hc)
    exact⟨y,by rw[show off+(j+1)=off+1+j by omega];exact h3,h4⟩
  ·intro h
   refine⟨by simpa using h 0 c rfl,λj c' hc=>?_⟩
   obtain⟨y,h3,h4⟩:=h (j+1) c' (by simpa using hc)
   exact⟨y,by rw[show off+1+j=off+(j+1) by omega];exact h3,h4⟩
theorem C.DenRow_iff{b es off:Nat}{l:List (List C)}:C.DenRow w M b es off l↔∀(k:Nat)(e:List C),l[k]?=some e->e.length=es/\C.DenAt w M b (off+k*es) e:=by
 induction l generalizing off with
 |nil=>simp[C.DenRow]
 |cons c r ih=>
  simp only[C.DenRow,ih]
  constructor
  ·rintro⟨h0,h1,h2⟩ k e he
   cases k with
   |zero=>simp at he;subst he;simpa using⟨h0,h1⟩
   |succ k=>
    obtain⟨h3,h4⟩:=h2 k e (by simpa using he)
    exact⟨h3,by rw[show off+(k+1)*es=off+es+k*es by rw[Nat.succ_mul];omega];exact h4⟩
  ·intro h
   obtain⟨h0,h1⟩:=h 0 c rfl
   refine⟨h0,by simpa using h1,λk e he=>?_⟩
   obtain⟨h3,h4⟩:=h (k+1) e (by simpa using he)
   exact⟨h3,by rw[show off+es+k*es=off+(k+1)*es by rw[Nat.succ_mul];omega];exact h4⟩
theorem A.DenL_append{l r:List A}{ys zs:List Value}(h1:A.DenL w M m ρ l ys)(h2:A.DenL w M m ρ r zs):A.DenL w M m ρ (l++r) (ys++zs):=by
 induction l generalizing ys with
 |nil=>simp only[A.DenL]at h1;subst h1;simpa using h2
 |cons c t ih=>
  simp only[A.DenL]at h1
  obtain⟨y,yr,rfl,h3,h4⟩:=h1
  simp only[List.cons_append,A.DenL]
  exact⟨y,yr++zs,rfl,h3,ih h4⟩
theorem C.DenL_append{l r:List C}{ys zs:List Value}(h1:C.DenL w M l ys)(h2:C.DenL w M r zs):C.DenL w M (l++r) (ys++zs):=by
 induction l generalizing ys with
 |nil=>simp only[C.DenL]at h1;subst h1;simpa using h2
 |cons c t ih=>
  simp only[C.DenL]at h1
  obtain⟨y,yr,rfl,h3,h4⟩:=h1
  simp only[List.cons_append,C.DenL]
  exact⟨y,yr++zs,rfl,h3,ih h4⟩
theorem A.DenL_drop{l:List A}{ys:List Value}(n:Nat)(h:A.DenL w M m ρ l ys):A.DenL w M m ρ (l.drop n) (ys.drop n):=by
 rw[A.DenL_iff]at h⊢
 exact⟨by simp[h.1],λj c y hc hy=>h.2 (n+j) c y (by simpa using hc) (by simpa using hy)⟩
theorem A.DenL_take{l:List A}{ys:List Value}(n:Nat)(h:A.DenL w M m ρ l ys):A.DenL w M m ρ (l.take n) (ys.take n):=by
 rw[A.DenL_iff]at h⊢
 refine⟨by simp[h.1],λj c y hc hy=>?_⟩
 rw[List.getElem?_take]at hc hy
 split at hc
 ·rename_i hlt;rw[if_pos hlt]at hy;exact h.2 j c y hc hy
 ·cases hc
theorem C.DenL_drop{l:List C}{ys:List Value}(n:Nat)(h:C.DenL w M l ys):C.DenL w M (l.drop n) (ys.drop n):=by
 rw[C.DenL_iff]at h⊢
 exact⟨by simp[h.1],λj c y hc hy=>h.2 (n+j) c y (by simpa using hc) (by simpa using hy)⟩
theorem C.DenL_take{l:List C}{ys:List Value}(n:Nat)(h:C.DenL w M l ys):C.DenL w M (l.take n) (ys.take n):=by
 rw[C.DenL_iff]at h⊢
 refine⟨by simp[h.1],λj c y hc hy=>?_⟩
 rw[List.getElem?_take]at hc hy
 split at hc
 ·rename_i hlt;rw[if_pos hlt]at hy;exact h.2 j c y hc hy
 ·cases hc
theorem A.DenL_map_d{l:List C}{ys:List Value}:A.DenL w M m ρ (l.map A.d) ys↔C.DenL w M l ys:=by
 induction l generalizing ys with
 |nil=>simp[A.DenL,C.DenL]
 |cons c r ih=>simp only[List.map_cons,A.DenL,C.DenL,ih,A.Den]
theorem C.DenAt_drop{b off:Nat}{l:List C}(n:Nat)(h:C.DenAt w M b off l):C.DenAt w M b (off+n) (l.drop n):=by
 rw[C.DenAt_iff]at h⊢
 intro j c hc
 obtain⟨y,h1,h2⟩:=h (n+j) c (by simpa using hc)
 exact⟨y,by rw[Nat.add_assoc];exact h1,h2⟩
end
def cv1:Value->C
 |.slice none 0 0=>.nl 0
 |v=>.v v
def cv:Value->C
 |.agg vs=>bif vs.toList.all Value.oneCell' then .agg (vs.toList.map cv1)else .v (.agg vs)
 |v=>cv1 v
theorem cv1_den(w:World)(M:Nat->Prop)(v:Value):(cv1 v).Den w M v:=by
 unfold cv1
 split<;>simp[C.Den]
theorem cvL_den(w:World)(M:Nat->Prop)(l:List Value):C.DenL w M (l.map cv1) l:=by
 induction l with
 |nil=>simp[C.DenL]
 |cons c r ih=>simp only[List.map_cons,C.DenL];exact⟨c,r,rfl,cv1_den w M c,ih⟩
theorem cv_den(w:World)(M:Nat->Prop)(v:Value):(cv v).Den w M v:=by
 unfold cv
 split
 ·rename_i vs
  cases hv:vs.toList.all Value.oneCell' with
  |false=>simp[C.Den]
  |true=>simp only[cond_true,C.Den];exact⟨vs,rfl,by simpa only[List.all_eq_true]using hv,cvL_den w M _⟩
 ·exact cv1_den w M v
def evT(T:Nat->A):Operand->A
 |.tmp t=>T t
 |.const v=>.d (cv v)
 |.global _=>.x
 |.func f=>.fn (.func f) [] []
theorem ev_den{M0 S0:Nat->Prop}{w0:World}{N:Fr}{T:Nat->A}{m:Mem}{ρ:Nat->Value}{a:Act}{w:World}(h:SatAt M0 S0 w0 N T m ρ a w)(o:Operand):
 (evT T o).Den w (Mut M0 m ρ) m ρ (a.eval o):=by
 cases o with
 |tmp t=>exact h.tmps t
 |const v=>simp only[evT,A.Den,Act.eval];exact cv_den _ _ v
 |global g=>simp only[evT,A.Den]
 |func f=>simp only[evT,A.Den,Act.eval];exact⟨#[],#[],rfl,by simp[A.DenL],by simp[A.DenL]⟩
def aliveB(m:Mem)(i:Nat):Bool:=
 match m i with
 |none=>false
 |some .dead=>false
 |some _=>true
def handB(m:Mem)(i:Nat):Bool:=
 match m i with
 |none=>false
 |some .dead=>false
 |some (.fr _)=>false
 |some .sta=>false
 |some _=>true
def A.cells(m:Mem):A->Option (List A)
 |.agg l=>some l
 |.d (.agg l)=>some (l.map A.d)
 |.d (.v (.agg _))=>none
 |.d (.v (.tuple _))=>none
 |.d c=>some [.d c]
 |.lp i off=>if aliveB m i then some [.lp i off]else none
 |.h i=>if handB m i then some [.h i]else none
 |.ep i es k off=>if aliveB m i then some [.ep i es k off]else none
 |.sv i lo n=>if aliveB m i then some [.sv i lo n]else none
 |.fn f first caps=>some [.fn f first caps]
 |.ifc t a=>some [.ifc t a]
 |.tup _=>none
 |.x=>none
end Go.Pv
namespace Go.Pv
open Go.RowKit
abbrev E:=Bool×A×List (Nat×R)
def applyU(m:Mem):List (Nat×R)->Mem
 |[]=>m
 |(i,r)::t=>applyU (setM m i r) t
def aggOf(P:Program)(t:TypeId):Option Bool:=
 match P.underlying t with
 |some (.struct _)|some (.array _ _)=>some true
 |some _=>some false
 |none=>none
theorem info_of_underlying{P:Program}{t:TypeId}{d:TypeDesc}(h:P.underlying t=some d):∃i,P.info? t=some i:=by
 unfold Program.underlying at h
 cases hi:P.info? t with
 |none=>simp[hi]at h
 |some i=>exact⟨i,rfl⟩
theorem run_isAgg{P:Program}{t:TypeId}{b:Bool}(h:aggOf P t=some b)(w:World):(isAgg t).run P w=.ok b w:=by
 unfold aggOf at h
 cases hu:P.underlying t with
 |none=>simp[hu]at h
 |some d=>
  simp only[isAgg,Sem.run_bind,run_underlying hu,Result.andThen_ok]
  cases d<;>simp_all
theorem run_sizeOf{P:Program}{t:TypeId}{i:TypeInfo}(h:P.info? t=some i)(w:World):(sizeOf t).run P w=.ok (P.cellsOf t) w:=by
 simp[sizeOf,typeInfo,h,Program.cellsOf]
theorem run_sizeOf'{P:Program}{t:TypeId}{b:Bool}(h:aggOf P t=some b)(w:World):(sizeOf t).run P w=.ok (P.cellsOf t) w:=by
 unfold aggOf at h
 cases hu:P.underlying t with
 |none=>simp[hu]at h
 |some d=>obtain⟨i,hi⟩:=info_of_underlying hu;exact run_sizeOf hi w
theorem run_loadVar_one{P:Program}{t:TypeId}(h:aggOf P t=some false){w:World}{a:Addr}{y:Value}(hc:w.cell? a=some y):(loadVar t a).run P w=.ok y w:=by
 simp[loadVar,run_isAgg h,hc]
theorem run_loadVar_agg{P:Program}{t:TypeId}(h:aggOf P t=some true){w:World}{a:Addr}{cs:List Value}(hl:cs.length=P.cellsOf t)(hc:∀j v,cs[j]?=some v->w.cell? (a.add j)=some v):
 (loadVar t a).run P w=.ok (.agg cs.toArray) w:=by
 have:=run_loadCells_list (P:=P) w a cs hc
 simp[loadVar,run_isAgg h,run_sizeOf' h,<-hl,this]
section
variable{M0 S0:Nat->Prop}{w0:World}{N:Fr}{T:Nat->A}{m:Mem}{ρ:Nat->Value}{a:Act}{w:World}{P:Program}
theorem has_of{i:Nat}{r:R}{p:Prop}(h:Has m i p)(hi:m i=some r)(hr:r≠.dead):p:=h.2 (by rw[hi];simpa using hr)
theorem cell_of_block{b j:Nat}{cs:Array Value}{t:TypeId}{fr:Nat×Nat}(h:w.heap[b]?=some (.cells cs t fr)):w.cell? ⟨b,j,none⟩=cs[j]?:=by
 simp[World.cell?,h]
def effLoad(P:Program)(m:Mem)(t:TypeId):A->Option E
 |.lp i off=>match m i with
  |some (.cells _ l)=>match aggOf P t with
   |some true=>some (decide (off+P.cellsOf t<=l.length),.agg ((l.drop off).take (P.cellsOf t)),[])
   |some false=>some (decide (off<l.length),l.getD off .x,[])
   |none=>none
  |_=>none
 |.ep i es k off=>match m i with
  |some (.osl _ _ es' l)=>match aggOf P t with
   |some true=>some (decide (es'=es/\k<l.length/\off+P.cellsOf t<=es),.agg (((l.getD k []).drop off).take (P.cellsOf t)),[])
   |some false=>some (decide (es'=es/\k<l.length/\off<es),(l.getD k []).getD off .x,[])
   |none=>none
  |_=>none
 |.d (.ip l)=>match aggOf P t with
  |some true=>some (decide (P.cellsOf t<=l.length),.d (.agg (l.take (P.cellsOf t))),[])
  |some false=>some (decide (0<l.length),.d (l.getD 0 default),[])
  |none=>none
 |_=>none
theorem getElem?_flatten_row{α:Type}(es:Nat):∀(l:List (List α))(k:Nat)(r:List α)(j:Nat),(∀e∈l,e.length=es)->l[k]?=some r->j<es->l.flatten[k*es+j]?=r[j]?
 |[],k,r,j,_,h,_=>by simp at h
 |e::l,0,r,j,hl,h,hj=>by
  simp at h;subst h
  have:e.length=es:=hl e (by simp)
  simp only[List.flatten_cons,Nat.zero_mul,Nat.zero_add]
  rw[List.getElem?_append_left (by omega)]
 |e::l,k+1,r,j,hl,h,hj=>by
  have he:e.length=es:=hl e (by simp)
  simp only[List.flatten_cons]
  rw[List.getElem?_append_right (by rw[he,Nat.succ_mul];omega)]
  rw[show(k+1)*es+j -e.length=k*es+j by rw[he,Nat.succ_mul];omega]
  exact getElem?_flatten_row es l k r j (λe' h'=>hl e' (by simp[h'])) (by simpa using h) hj
theorem length_flatten_rows{α:Type}{es:Nat}{l:List (List α)}(h:∀e∈l,e.length=es):l.flatten.length=l.length*es:=by
 induction l with
 |nil=>simp
 |cons e r ih=>
  simp only[List.flatten_cons,List.length_append,List.length_cons,ih (λe' h'=>h e' (by simp[h'])),h e (by simp),Nat.succ_mul]
  omega
theorem OwnS.cells{t:TypeId}{es:Nat}{h:Value}{n:Nat}{xs:List Value}(ho:OwnS w t es h n xs){b o n' cap:Nat}(hh:h=.slice (some ⟨b,o,none⟩) n' cap):∀(j:Nat)(u:Value),xs[j]?=some u->w.cell? ⟨b,o+j,none⟩=some u:=by
 intro j u hu
 rcases ho with⟨rfl,_⟩|⟨hl,g,og,cap',cur,rfl,_,hg,_,_,_,htake⟩
 ·simp at hu
 ·simp at hh;obtain⟨⟨rfl,rfl⟩,rfl,rfl⟩:=hh
  obtain⟨_,hg,_⟩:=hg
  rw[cell_of_block hg]
  rw[<-htake,List.getElem?_take]at hu
  split at hu
  ·rw[List.getElem?_drop]at hu;simpa using hu
  ·cases hu
theorem osl_cell(h:SatAt M0 S0 w0 N T m ρ a w){i es k:Nat}{fz:Bool}{t:TypeId}{l:List (List A)}(hi:m i=some (.osl fz t es l)){b o n cap:Nat}(hρ:ρ i=.slice (some ⟨b,o,none⟩) n cap)
 {r:List A}(hr:l[k]?=some r):∀(j:Nat)(c:A),r[j]?=some c->∃y,w.cell? ⟨b,o+(k*es+j),none⟩=some y/\y.oneCell'=true/\c.Den w (Mut M0 m ρ) m ρ y:=by
 intro j c hc
 obtain⟨xs,h1,h2,h3,h4,h5⟩:=h.res i _ hi
 have hrl:r.length=es:=h3 r (List.mem_of_getElem? hr)
 have hj:j<es:=by rw[<-hrl];exact(List.getElem?_eq_some_iff.1 hc).1
 have hk:k<l.length:=(List.getElem?_eq_some_iff.1 hr).1
 rw[hρ]at h1
 have hf:=getElem?_flatten_row es l k r j h3 hr hj
 rw[A.DenL_iff]at h2
 have hlen:k*es+j<xs.length:=by rw[<-h2.1,length_flatten_rows h3];calc k*es+j<k*es+es:=by omega
  _=(k+1)*es:=by rw[Nat.succ_mul]
  _<=l.length*es:=Nat.mul_le_mul_right _ hk
 refine⟨xs[k*es+j],?_,h5 _ (List.getElem_mem hlen),h2.2 _ c _ (by rw[hf,hc]) (List.getElem?_eq_getElem hlen)⟩
 exact h1.cells rfl (k*es+j) _ (List.getElem?_eq_getElem hlen)
theorem mem_cells{b:Nat}{M:Nat->Prop}:∀(l:List C)(o:Nat),(∀(j:Nat)(c:C),l[j]?=some c->∃y,w.cell? ⟨b,o+j,none⟩=some y/\y.oneCell'=true/\c.Den w M y)->
 ∃cs:List Value,cs.length=l.length/\(∀u∈cs,u.oneCell'=true)/\(∀(j:Nat)(v:Value),cs[j]?=some v->w.cell? ((⟨b,o,none⟩:Addr).add j)=some v)/\C.DenL w M l cs
 |[],o,_=>⟨[],rfl,by simp,by simp,by simp[C.DenL]⟩
 |c::r,o,h=>by
  obtain⟨y,hy,hy1,hd⟩:=h 0 c rfl
  obtain⟨cs,h1,h0,h2,h3⟩:=mem_cells r (o+1) (λj c' hc=>by
   obtain⟨y,h4,h5⟩:=h (j+1) c' (by simpa using hc)
   exact⟨y,by rw[show o+1+j=o+(j+1) by omega];exact h4,h5⟩)
  refine⟨y::cs,by simp[h1],by simpa using⟨hy1,h0⟩,λj v hv=>?_,by simp only[C.DenL];exact⟨y,cs,rfl,hd,h3⟩⟩
  rw[Addr.add_lit]
  cases j with
  |zero=>simp at hv;subst hv;exact hy
  |succ j=>
   have:=h2 j v (by simpa using hv)
   rw[Addr.add_lit]at this
   rw[show o+(j+1)=o+1+j by omega];exact this
theorem mem_cellsA{b:Nat}{M:Nat->Prop}:∀(l:List A)(o:Nat),(∀(j:Nat)(c:A),l[j]?=some c->∃y,w.cell? ⟨b,o+j,none⟩=some y/\y.oneCell'=true/\c.Den w M m ρ y)->
 ∃cs:List Value,cs.length=l.length/\(∀u∈cs,u.oneCell'=true)/\(∀(j:Nat)(v:Value),cs[j]?=some v->w.cell? ((⟨b,o,none⟩:Addr).add j)=some v)/\A.DenL w M m ρ l cs
 |[],o,_=>⟨[],rfl,by simp,by simp,by simp[A.DenL]⟩
 |c::r,o,h=>by
  obtain⟨y,hy,hy1,hd⟩:=h 0 c rfl
  obtain⟨cs,h1,h0,h2,h3⟩:=mem_cellsA r (o+1) (λj c' hc=>by
   obtain⟨y,h4,h5⟩:=h (j+1) c' (by simpa using hc)
   exact⟨y,by rw[show o+1+j=o+(j+1) by omega];exact h4,h5⟩)
  refine⟨y::cs,by simp[h1],by simpa using⟨hy1,h0⟩,λj v hv=>?_,by simp only[A.DenL];exact⟨y,cs,rfl,hd,h3⟩⟩
  rw[Addr.add_lit]
  cases j with
  |zero=>simp at hv;subst hv;exact hy
  |succ j=>
   have:=h2 j v (by simpa using hv)
   rw[Addr.add_lit]at this
   rw[show o+(j+1)=o+1+j by omega];exact this
theorem sd_load(h:SatAt M0 S0 w0 N T m ρ a w){t:TypeId}{x:A}{y:Value}(hx:x.Den w (Mut M0 m ρ) m ρ y){pre:Bool}{v:A}{ups:List (Nat×R)}
 (he:effLoad P m t x=some (pre,v,ups))(hp:pre=true):ups=[]/\∃z,(Instr.loadAt t y).run P w=.ok z w/\v.Den w (Mut M0 m ρ) m ρ z:=by
 cases x with
 |lp i off=>
  simp only[effLoad]at he
  cases hi:m i with
  |none=>simp[hi]at he
  |some r=>
   cases r with
   |cells fz l=>
    simp only[hi]at he
    simp only[A.Den]at hx
    obtain⟨b,hb,rfl⟩:=has_of hx hi (by simp)
    obtain⟨b',cs,t',e1,h1,h2,h3,h5⟩:=h.res i _ hi
    rw[hb]at e1;simp at e1;subst e1
    rw[A.DenL_iff]at h2
    cases hg:aggOf P t with
    |none=>simp[hg]at he
    |some g=>
     cases g with
     |false=>
      simp only[hg,Option.some.injEq,Prod.mk.injEq]at he
      obtain⟨rfl,rfl,rfl⟩:=he
      have hp:=of_decide_eq_true hp
      have hlt:off<cs.toList.length:=by rw[<-h2.1];exact hp
      refine⟨rfl,cs.toList[off],?_,?_⟩
      ·have hc:w.cell? ⟨b,off,none⟩=some cs.toList[off]:=by rw[cell_of_block h1];simp at hlt;simp[hlt]
       simp[Instr.loadAt,Instr.sureAddr,run_loadVar_one hg hc]
      ·rw[List.getD_eq_getElem?_getD,List.getElem?_eq_getElem hp]
       exact h2.2 off _ _ (List.getElem?_eq_getElem hp) (List.getElem?_eq_getElem hlt)
     |true=>
      simp only[hg,Option.some.injEq,Prod.mk.injEq]at he
      obtain⟨rfl,rfl,rfl⟩:=he
      have hp:=of_decide_eq_true hp
      refine⟨rfl,.agg ((cs.toList.drop off).take (P.cellsOf t)).toArray,?_,?_⟩
      ·have hl:((cs.toList.drop off).take (P.cellsOf t)).length=P.cellsOf t:=by
        have:=h2.1;simp at this⊢;omega
       have hc:∀j v,((cs.toList.drop off).take (P.cellsOf t))[j]?=some v->w.cell? ((⟨b,off,none⟩:Addr).add j)=some v:=by
        intro j v hv
        rw[List.getElem?_take]at hv
        split at hv
        ·rw[Addr.add_lit,cell_of_block h1];simpa using hv
        ·cases hv
       simp only[Instr.loadAt,Instr.sureAddr,Sem.run_bind,Sem.run_pure,Result.andThen_ok,run_loadVar_agg hg hl hc]
      ·simp only[A.Den]
       exact⟨_,rfl,λu hu=>h5 u (List.mem_of_mem_drop (List.mem_of_mem_take (by simpa only using hu))),by simpa using A.DenL_take (P.cellsOf t) (A.DenL_drop off (A.DenL_iff.2 h2))⟩
   |_=>simp[hi]at he
 |ep i es k off=>
  simp only[effLoad]at he
  cases hi:m i with
  |none=>simp[hi]at he
  |some r=>
   cases r with
   |osl fz t' es' l=>
    simp only[hi]at he
    simp only[A.Den]at hx
    obtain⟨b,og,n,cap,hb,rfl⟩:=has_of hx hi (by simp)
    cases hg:aggOf P t with
    |none=>simp[hg]at he
    |some g=>
     cases g with
     |false=>
      simp only[hg,Option.some.injEq,Prod.mk.injEq]at he
      obtain⟨rfl,rfl,rfl⟩:=he
      have hp:=of_decide_eq_true hp
      obtain⟨rfl,hk,ho⟩:=hp
      have hr:l[k]?=some (l.getD k []):=by simp[List.getD_eq_getElem?_getD,List.getElem?_eq_getElem hk]
      have hrl:(l.getD k []).length=es':=by
       obtain⟨xs,h1,h2,h3,h4,_⟩:=h.res i _ hi
       exact h3 _ (List.mem_of_getElem? hr)
      obtain⟨y,hy,_,hd⟩:=osl_cell h hi hb hr off ((l.getD k []).getD off .x) (by rw[List.getD_eq_getElem?_getD (l:=l.getD k []),List.getElem?_eq_getElem (by omega)];rfl)
      refine⟨rfl,y,?_,hd⟩
      simp[Instr.loadAt,Instr.sureAddr,run_loadVar_one hg hy]
     |true=>
      simp only[hg,Option.some.injEq,Prod.mk.injEq]at he
      obtain⟨rfl,rfl,rfl⟩:=he
      have hp:=of_decide_eq_true hp
      obtain⟨rfl,hk,ho⟩:=hp
      have hr:l[k]?=some (l.getD k []):=by simp[List.getD_eq_getElem?_getD,List.getElem?_eq_getElem hk]
      obtain⟨xs,h1,h2,h3,h4,_⟩:=h.res i _ hi
      have hrl:(l.getD k []).length=es':=h3 _ (List.mem_of_getElem? hr)
      have hcell:=osl_cell h hi hb hr
      obtain⟨cs,hl,h0,hc,hd⟩:=mem_cellsA (w:=w) (m:=m) (ρ:=ρ) (b:=b) (M:=Mut M0 m ρ) (((l.getD k []).drop off).take (P.cellsOf t)) (og+(k*es'+off)) (λj c hc=>by
       rw[List.getElem?_take]at hc
       split at hc
       · rw[List.getElem?_drop]at hc
         rw[Nat.add_assoc,Nat.add_assoc];exact hcell (off+j) c hc
       · cases hc)
      have hl:cs.length=P.cellsOf t:=by rw[hl,List.length_take,List.length_drop,hrl];omega
      refine⟨rfl,.agg cs.toArray,?_,?_⟩
      ·simp only[Instr.loadAt,Instr.sureAddr,Sem.run_bind,Sem.run_pure,Result.andThen_ok,run_loadVar_agg hg hl hc]
      ·simp only[A.Den,C.Den]
       exact⟨_,rfl,h0,by simpa using hd⟩
   |_=>simp[hi]at he
 |d c=>
  cases c with
  |ip l=>
   simp only[effLoad]at he
   simp only[A.Den,C.Den]at hx
   obtain⟨b,off,rfl,hm,hlt,hat⟩:=hx
   rw[C.DenAt_iff]at hat
   cases hg:aggOf P t with
   |none=>simp[hg]at he
   |some g=>
    cases g with
    |false=>
     simp only[hg,Option.some.injEq,Prod.mk.injEq]at he
     obtain⟨rfl,rfl,rfl⟩:=he
     have hp:=of_decide_eq_true hp
     obtain⟨y,hy,_,hd⟩:=hat 0 (l.getD 0 default) (by rw[List.getD_eq_getElem?_getD,List.getElem?_eq_getElem hp];rfl)
     refine⟨rfl,y,?_,by simpa only[A.Den]using hd⟩
     simp only[Nat.add_zero]at hy
     simp[Instr.loadAt,Instr.sureAddr,run_loadVar_one hg hy]
    |true=>
     simp only[hg,Option.some.injEq,Prod.mk.injEq]at he
     obtain⟨rfl,rfl,rfl⟩:=he
     have hp:=of_decide_eq_true hp
     obtain⟨cs,hl,h0,hc,hd⟩:=mem_cells (w:=w) (b:=b) (M:=Mut M0 m ρ) (l.take (P.cellsOf t)) off (λj c hc=>by
      rw[List.getElem?_take]at hc
      split at hc
      · exact hat j c hc
      · cases hc)
     have hl:cs.length=P.cellsOf t:=by rw[hl,List.length_take];omega
     refine⟨rfl,.agg cs.toArray,?_,?_⟩
     ·simp only[Instr.loadAt,Instr.sureAddr,Sem.run_bind,Sem.run_pure,Result.andThen_ok,run_loadVar_agg hg hl hc]
     ·simp only[A.Den,C.Den]
      exact⟨_,rfl,h0,by simpa using hd⟩
  |_=>simp[effLoad]at he
 |_=>simp[effLoad]at he
end
end Go.Pv
namespace Go.Pv
open Go.RowKit
theorem flatten_drop{α:Type}{es:Nat}:∀(l:List (List α))(lo:Nat),(∀e∈l,e.length=es)->(l.drop lo).flatten=l.flatten.drop (lo*es)
 |[],lo,_=>by simp
 |e::l,0,_=>by simp
 |e::l,lo+1,h=>by
  have he:=h e (by simp)
  have ih:=flatten_drop l lo (λe' h'=>h e' (by simp[h']))
  subst he
  rw[Nat.succ_mul,Nat.add_comm (lo*e.length),List.flatten_cons,List.drop_length_add_append]
  exact ih
theorem flatten_take{α:Type}{es:Nat}:∀(l:List (List α))(k:Nat),(∀e∈l,e.length=es)->(l.take k).flatten=l.flatten.take (k*es)
 |[],k,_=>by simp
 |e::l,0,_=>by simp
 |e::l,k+1,h=>by
  have he:=h e (by simp)
  have ih:=flatten_take l k (λe' h'=>h e' (by simp[h']))
  subst he
  rw[Nat.succ_mul,Nat.add_comm (k*e.length),List.take_succ_cons,List.flatten_cons,List.flatten_cons,List.take_length_add_append,ih]
section
variable{M0 S0:Nat->Prop}{w0:World}{N:Fr}{T:Nat->A}{m:Mem}{ρ:Nat->Value}{a:Act}{w:World}{P:Program}
theorem cden_row{es b:Nat}{M:Nat->Prop}:∀(l:List (List C))(o:Nat)(xs:List Value),(∀e∈l,e.length=es)->C.DenL w M l.flatten xs->(∀u∈xs,u.oneCell'=true)->(∀(j:Nat)(v:Value),xs[j]?=some v->w.cell? ⟨b,o+j,none⟩=some v)->C.DenRow w M b es o l
 |[],o,xs,_,_,_,_=>by simp only[C.DenRow]
 |e::r,o,xs,hl,hd,h0,hc=>by
  have he:=hl e (by simp)
  have hlen:=(C.DenL_iff.1 hd).1
  simp only[List.flatten_cons]at hd hlen
  have h1:=C.DenL_take es hd
  have h2:=C.DenL_drop es hd
  rw[<-he,List.take_left]at h1
  rw[<-he,List.drop_left]at h2
  simp only[C.DenRow]
  refine⟨he,?_,?_⟩
  ·rw[C.DenAt_iff]
   intro j c hj
   have hjlt:j<e.length:=(List.getElem?_eq_some_iff.1 hj).1
   have hx:j<xs.length:=by rw[<-hlen,List.length_append];omega
   have hy:(xs.take e.length)[j]?=some xs[j]:=by rw[List.getElem?_take,if_pos hjlt,List.getElem?_eq_getElem hx]
   exact⟨xs[j],hc j _ (List.getElem?_eq_getElem hx),h0 _ (List.getElem_mem hx),(C.DenL_iff.1 h1).2 j c _ hj hy⟩
  ·refine cden_row r (o+es) (xs.drop e.length) (λe' h'=>hl e' (by simp[h'])) h2 (λu hu=>h0 u (List.mem_of_mem_drop hu)) ?_
   intro j v hv
   rw[he]at hv
   have:=hc (es+j) v (by simpa using hv)
   rw[Nat.add_assoc];exact this
theorem denRow_cut{es b o lo k:Nat}{M:Nat->Prop}{l:List (List C)}(h:C.DenRow w M b es o l):C.DenRow w M b es (o+lo*es) ((l.drop lo).take k):=by
 rw[C.DenRow_iff]at h⊢
 intro j e he
 rw[List.getElem?_take]at he
 split at he
 ·rw[List.getElem?_drop]at he
  obtain⟨h1,h2⟩:=h (lo+j) e he
  exact⟨h1,by rw[Nat.add_assoc,<-Nat.add_mul];exact h2⟩
 ·cases he
end
end Go.Pv
namespace Go.Pv
open Go.RowKit
section
variable{M0 S0:Nat->Prop}{w0:World}{N:Fr}{T:Nat->A}{m:Mem}{ρ:Nat->Value}{a:Act}{w:World}{P:Program}
theorem SatAt.newres(h:SatAt M0 S0 w0 N T m ρ a w)(hlt:∀b,M0 b->b<w0.heap.size){w':World}(hk:Keeps (λ_=>False) w w'){j:Nat}(hj:m j=none){r':R}{h':Value}(hl:r'.live=true)
 (hb:∀b,blk h'=some b->w.heap.size<=b/\b<w'.heap.size)
 (hok:Onto m (setM m j r') ρ (setH ρ j h')->Stays (Mut M0 m ρ) w w'->(∀b,Mut M0 (setM m j r') (setH ρ j h') b->b<w.heap.size->Mut M0 m ρ b)->R.Ok w' (Mut M0 (setM m j r') (setH ρ j h')) (setM m j r') (setH ρ j h') h' r'):
 SatAt M0 S0 w0 N T (setM m j r') (setH ρ j h') a w':=by
 have h1:=h.world hk (λb _ e=>e.elim)
 refine h1.claim hj (λb hb0=>⟨.inl hb0,λe=>?_⟩) (λb hbb=>⟨.inr (hb b hbb).1,.inl (Nat.le_trans h.keeps.size (hb b hbb).1),(hb b hbb).2⟩) hl ?_
 ·have:=(hb b e).1;have:=hlt b hb0;have:=h.keeps.size;omega
 ·refine hok (Onto.set j r' h' λe=>absurd hj e) (hk.stays λb _ e=>e.elim) ?_
  rintro b (e|⟨i,r,hi,hl',hbb⟩) hlt'
  ·exact .inl e
  ·by_cases e:i=j
   ·subst e;simp[setH]at hbb;have:=(hb b hbb).1;omega
   ·exact .inr ⟨i,r,by simpa [setM,e]using hi,hl',by simpa [setH,e]using hbb⟩
theorem keeps_alloc(w:World)(o:Obj):Keeps (λ_=>False) w (w.alloc o):=
 ⟨rfl,rfl,rfl,by simp,λb hb _=>Below.heap_alloc w o b hb⟩
theorem has_alive{i:Nat}{p:Prop}(h:Has m i p)(hi:aliveB m i=true):p:=by
 refine h.2 λe=>?_
 simp[aliveB,e]at hi
theorem handB_alive{i:Nat}(h:handB m i=true):aliveB m i=true:=by
 unfold handB at h;unfold aliveB
 split at h<;>simp_all
theorem one_handle(h:SatAt M0 S0 w0 N T m ρ a w){i:Nat}(hi:handB m i=true):(ρ i).oneCell'=true:=by
 unfold handB at hi
 split at hi
 ·cases hi
 ·cases hi
 ·cases hi
 ·cases hi
 ·rename_i r hne hnf hns hr
  have hok:=h.res i r hr
  cases r with
  |dead=>exact absurd rfl hne
  |cells fz l=>obtain⟨_,_,_,e,_⟩:=hok;rw[e];rfl
  |osl fz t es l=>
   obtain⟨xs,h1,_⟩:=hok
   rcases h1 with⟨_,_,_,e⟩|⟨_,_,_,_,_,e,_⟩<;>rw[e]<;>rfl
  |mp fz kv st=>obtain⟨_,_,_,_,e,_⟩:=hok;rw[e];rfl
  |sta=>exact absurd rfl hns
  |fr l=>exact absurd rfl (hnf l)
  |it i2 s2 si se=>obtain⟨_,_,_,_,e,_⟩:=hok;rw[e];rfl
  |it0=>obtain⟨_,e,_⟩:=hok;rw[e];rfl
  |si s p=>obtain⟨_,e,_⟩:=hok;rw[e];rfl
  |lo _ _ _ _ _ _=>obtain⟨_,_,_,_,e,_⟩:=hok;rw[e];rfl
  |df _=>obtain⟨_,e,_⟩:=hok;rw[e];rfl
  |cu _ _ _=>obtain⟨_,e,_⟩:=hok;rw[e];rfl
  |di _ _=>obtain⟨_,_,_,_,_,_,e,_⟩:=hok;rw[e];rfl
theorem cells_den(h:SatAt M0 S0 w0 N T m ρ a w){x:A}{y:Value}{l:List A}(hx:x.Den w (Mut M0 m ρ) m ρ y)(hl:x.cells m=some l):A.DenL w (Mut M0 m ρ) m ρ l y.cells.toList/\∀u∈y.cells.toList,u.oneCell'=true:=by
 have one:∀{z:A},z.Den w (Mut M0 m ρ) m ρ y->y.oneCell'=true->A.DenL w (Mut M0 m ρ) m ρ [z] y.cells.toList/\∀u∈y.cells.toList,u.oneCell'=true:=by
  intro z hz h1
  have:y.cells= #[y]:=by cases y<;>simp_all[Value.cells,Value.oneCell']
  rw[this];simp only[A.DenL];exact⟨⟨y,[],rfl,hz,rfl⟩,by simpa using h1⟩
 cases x with
 |d c=>
  cases c with
  |v z=>
   have hz:y=z:=by simpa [A.Den,C.Den]using hx
   subst hz
   cases y<;>simp[A.cells]at hl<;>(subst hl;exact one hx rfl)
  |agg l'=>
   simp only[A.cells,Option.some.injEq]at hl;subst hl
   simp only[A.Den,C.Den]at hx
   obtain⟨vs,rfl,h0,h1⟩:=hx
   exact⟨A.DenL_map_d.2 h1,h0⟩
  |sl es l'=>simp only[A.cells,Option.some.injEq]at hl;subst hl;refine one hx ?_;simp only[A.Den,C.Den]at hx;obtain⟨_,_,rfl,_⟩:=hx;rfl
  |nl es=>simp only[A.cells,Option.some.injEq]at hl;subst hl;refine one hx ?_;simp only[A.Den,C.Den]at hx;subst hx;rfl
  |ip l'=>simp only[A.cells,Option.some.injEq]at hl;subst hl;refine one hx ?_;simp only[A.Den,C.Den]at hx;obtain⟨_,_,rfl,_⟩:=hx;rfl
  |im ks vs=>simp only[A.cells,Option.some.injEq]at hl;subst hl;refine one hx ?_;simp only[A.Den,C.Den]at hx;obtain⟨_,_,_,_,rfl,_⟩:=hx;rfl
  |fn f u v=>simp only[A.cells,Option.some.injEq]at hl;subst hl;refine one hx ?_;simp only[A.Den,C.Den]at hx;obtain⟨_,_,rfl,_⟩:=hx;rfl
  |ifc t c=>simp only[A.cells,Option.some.injEq]at hl;subst hl;refine one hx ?_;simp only[A.Den,C.Den]at hx;obtain⟨_,rfl,_⟩:=hx;rfl
 |agg l'=>
  simp only[A.cells,Option.some.injEq]at hl;subst hl
  simp only[A.Den]at hx
  obtain⟨vs,rfl,h0,h1⟩:=hx
  exact⟨h1,h0⟩
 |lp i off=>
  simp only[A.cells]at hl
  split at hl
  ·rename_i hi;simp only[Option.some.injEq]at hl;subst hl
   refine one hx ?_
   simp only[A.Den]at hx
   obtain⟨b,_,rfl⟩:=has_alive hx hi;rfl
  ·cases hl
 |h i=>
  simp only[A.cells]at hl
  split at hl
  ·rename_i hi;simp only[Option.some.injEq]at hl;subst hl
   refine one hx ?_
   simp only[A.Den]at hx
   rw[has_alive hx (handB_alive hi)];exact one_handle h hi
  ·cases hl
 |ep i es k off=>
  simp only[A.cells]at hl
  split at hl
  ·rename_i hi;simp only[Option.some.injEq]at hl;subst hl
   refine one hx ?_
   simp only[A.Den]at hx
   obtain⟨b,_,_,_,_,rfl⟩:=has_alive hx hi;rfl
  ·cases hl
 |sv i lo n=>
  simp only[A.cells]at hl
  split at hl
  ·rename_i hi;simp only[Option.some.injEq]at hl;subst hl
   refine one hx ?_
   simp only[A.Den]at hx
   obtain⟨_,_,rfl,_⟩:=has_alive hx hi;rfl
  ·cases hl
 |fn f u v=>
  simp only[A.cells,Option.some.injEq]at hl;subst hl
  refine one hx ?_
  simp only[A.Den]at hx
  obtain⟨_,_,rfl,_⟩:=hx;rfl
 |ifc t a'=>
  simp only[A.cells,Option.some.injEq]at hl;subst hl
  refine one hx ?_
  simp only[A.Den]at hx
  obtain⟨_,rfl,_⟩:=hx;rfl
 |tup l'=>simp[A.cells]at hl
 |x=>simp[A.cells]at hl
theorem sd_box(h:SatAt M0 S0 w0 N T m ρ a w)(hlt:∀b,M0 b->b<w0.heap.size){t:TypeId}{x:A}{y:Value}{l:List A}{d:Nat}(hx:x.Den w (Mut M0 m ρ) m ρ y)(hl:x.cells m=some l)(hd:m d=none):
 ∃ρ' w',(Instr.box t y).run P w=.ok (.pointer (some ⟨w.heap.size,0,none⟩)) w'/\SatAt M0 S0 w0 N T (setM m d (.cells false l)) ρ' a w'/\Onto m (setM m d (.cells false l)) ρ ρ'/\
  (A.lp d 0).Den w' (Mut M0 (setM m d (.cells false l)) ρ') (setM m d (.cells false l)) ρ' (.pointer (some ⟨w.heap.size,0,none⟩)):=by
 refine⟨setH ρ d (.pointer (some ⟨w.heap.size,0,none⟩)),w.alloc (.cells y.cells t),by simp[Instr.box,newVar,newRow],?_,Onto.new _ _ hd,?_⟩
 ·refine h.newres hlt (keeps_alloc w _) hd rfl (by simp[blk]) ?_
  intro hO hst hm
  exact⟨w.heap.size,y.cells,t,rfl,heap_alloc_new w _,A.DenL_mono hst hm hO _ _ (cells_den h hx hl).1,by simp,(cells_den h hx hl).2⟩
 ·simp only[A.Den]
  exact⟨by simp[setM],λ_=>⟨w.heap.size,by simp[setH],rfl⟩⟩
def zc(P:Program):Nat->TypeId->List C
 |0,_=>[]
 |n+1,t=>match P.underlying t with
  |some .bool=>[.v (.bool false)]
  |some (.int k)=>[.v (.int k 0)]
  |some .string=>[.v (.string ByteArray.empty)]
  |some (.pointer _)=>[.v (.pointer none)]
  |some .unsafePointer=>[.v (.pointer none)]
  |some (.slice e)=>[.nl (P.cellsOf e)]
  |some (.array k e)=>(List.replicate k (zc P n e)).flatten
  |some (.map _ _)=>[.v (.map none)]
  |some (.struct fs)=>fs.toList.flatMap λf=>zc P n f.type
  |some (.func _ _ _)=>[.v .nilFunc]
  |some (.interface _)=>[.v .nilIface]
  |_=>[]
def u8L:List UInt8->List UInt8->Bool
 |[],[]=>true
 |a::r,b::s=>Nat.beq a.toNat b.toNat&&u8L r s
 |_,_=>false
theorem u8L_iff:∀{l m:List UInt8},u8L l m=true↔l=m
 |[],[]=>by simp[u8L]
 |[],_::_=>by simp[u8L]
 |_::_,[]=>by simp[u8L]
 |a::r,b::s=>by
  simp only[u8L,Bool.and_eq_true,List.cons.injEq,u8L_iff (l:=r)]
  refine and_congr_left λ_=>⟨λh=>UInt8.toNat_inj.1 (Nat.eq_of_beq_eq_true h),λh=>by subst h;simp⟩
theorem sEq_iff{a b:ByteArray}:u8L a.data.toList b.data.toList=true↔a=b:=by
 rw[u8L_iff]
 constructor
 ·intro h
  cases a;cases b
  congr 1
  exact Array.ext' h
 ·rintro rfl;rfl
def sDec(a b:ByteArray):Decidable (a=b):=decidable_of_iff _ sEq_iff
def zlike1:C->Value->Bool
 |.nl _,.slice none 0 0=>true
 |.v (.int k a),.int k' b=>k==k'&&a==b
 |.v (.bool a),.bool b=>a==b
 |.v (.string a),.string b=> @decide (a=b) (sDec a b)
 |.v (.pointer none),.pointer none=>true
 |.v (.map none),.map none=>true
 |.v .nilFunc,.nilFunc=>true
 |.v .nilIface,.nilIface=>true
 |_,_=>false
def zlike:List C->List Value->Bool
 |[],[]=>true
 |c::r,v::s=>zlike1 c v&&zlike r s
 |_,_=>false
def zeroC(P:Program)(t:TypeId):Option (List C):=
 match P.info? t with
 |some i=>match i.zero with
  |some z=>if zlike (zc P 8 t) z.cells.toList then some (zc P 8 t)else none
  |none=>none
 |none=>none
theorem zlike1_den{w:World}{M:Nat->Prop}{c:C}{v:Value}(h:zlike1 c v=true):c.Den w M v:=by
 unfold zlike1 at h
 split at h<;>simp_all[C.Den]
theorem zlike_one:∀{l:List C}{vs:List Value},zlike l vs=true->∀u∈vs,u.oneCell'=true
 |[],[],_=>by simp
 |c::r,v::s,h=>by
  simp only[zlike,Bool.and_eq_true]at h
  have h1:v.oneCell'=true:=by
   have:=h.1
   unfold zlike1 at this
   split at this<;>first|rfl|cases this
  have h2:=zlike_one h.2
  simpa using⟨h1,h2⟩
 |[],_::_,h=>by simp[zlike]at h
 |_::_,[],h=>by simp[zlike]at h
theorem zlike_den{w:World}{M:Nat->Prop}:∀{l:List C}{vs:List Value},zlike l vs=true->C.DenL w M l vs
 |[],[],_=>by simp[C.DenL]
 |c::r,v::s,h=>by
  simp only[zlike,Bool.and_eq_true]at h
  simp only[C.DenL]
  exact⟨v,s,rfl,zlike1_den h.1,zlike_den h.2⟩
 |[],_::_,h=>by simp[zlike]at h
 |_::_,[],h=>by simp[zlike]at h
theorem zeroC_run{t:TypeId}{l:List C}(h:zeroC P t=some l)(w:World):∃z,(zeroValue t).run P w=.ok z w/\(∀w M,C.DenL w M l z.cells.toList)/\(∃i,P.info? t=some i/\i.zero=some z)/\∀u∈z.cells.toList,u.oneCell'=true:=by
 unfold zeroC at h
 split at h
 ·rename_i i hi
  split at h
  ·rename_i z hz
   split at h
   ·rename_i hk
    simp only[Option.some.injEq]at h;subst h
    exact⟨z,by simp[zeroValue,typeInfo,hi,hz],λ_ _=>zlike_den hk,⟨i,hi,hz⟩,zlike_one hk⟩
   ·cases h
  ·cases h
 ·cases h
theorem sd_alloc(h:SatAt M0 S0 w0 N T m ρ a w)(hlt:∀b,M0 b->b<w0.heap.size){t:TypeId}{l:List C}{d:Nat}(hl:zeroC P t=some l)(hd:m d=none):
 ∃ρ' w',(Instr.alloc t true (.tuple #[])).run P w=.ok (.pointer (some ⟨w.heap.size,0,none⟩)) w'/\SatAt M0 S0 w0 N T (setM m d (.cells false (l.map .d))) ρ' a w'/\Onto m (setM m d (.cells false (l.map .d))) ρ ρ'/\
  (A.lp d 0).Den w' (Mut M0 (setM m d (.cells false (l.map .d))) ρ') (setM m d (.cells false (l.map .d))) ρ' (.pointer (some ⟨w.heap.size,0,none⟩)):=by
 obtain⟨z,hz,hd',_,h0⟩:=zeroC_run hl w
 refine⟨setH ρ d (.pointer (some ⟨w.heap.size,0,none⟩)),w.alloc (.cells z.cells t),by simp[Instr.alloc,hz,newVar,newRow],?_,Onto.new _ _ hd,?_⟩
 ·refine h.newres hlt (keeps_alloc w _) hd rfl (by simp[blk]) ?_
  intro hO hst hm
  exact⟨w.heap.size,z.cells,t,rfl,heap_alloc_new w _,A.DenL_map_d.2 (hd' _ _),by simp,h0⟩
 ·simp only[A.Den]
  exact⟨by simp[setM],λ_=>⟨w.heap.size,by simp[setH],rfl⟩⟩
end
end Go.Pv
namespace Go.Pv
open Go.RowKit
def splA{α:Type}(l:List α)(off:Nat)(vs:List α):List α:=l.take off++(vs++l.drop (off+vs.length))
theorem length_splA{α:Type}(l:List α)(off:Nat)(vs:List α)(h:off+vs.length<=l.length):(splA l off vs).length=l.length:=by
 simp[splA];omega
theorem foldl_set(vs:List Value):∀(n off:Nat)(cells:Array Value),off+n+vs.length<=cells.size->
 ((vs.zipIdx n).foldl (λcs(x:Value×Nat)=>cs.setIfInBounds (off+x.2) x.1) cells).toList=splA cells.toList (off+n) vs:=by
 induction vs with
 |nil=>intro n off cells _;simp[splA]
 |cons v r ih=>
  intro n off cells h
  simp only[List.zipIdx_cons,List.foldl_cons]
  simp only[List.length_cons]at h
  rw[ih (n+1) off _ (by simp;omega)]
  simp only[splA,Array.toList_setIfInBounds,List.length_cons]
  have hlt:off+n<cells.toList.length:=by simp;omega
  apply List.ext_getElem?
  intro j
  rcases Nat.lt_trichotomy j (off+n)with hj|hj|hj
  ·rw[List.getElem?_append_left (by simp;omega),List.getElem?_append_left (by simp;omega)]
   rw[List.getElem?_take,List.getElem?_take,if_pos (by omega),if_pos hj,List.getElem?_set_ne (by omega)]
  ·subst hj
   rw[List.getElem?_append_left (by simp;omega),List.getElem?_take,if_pos (by omega),List.getElem?_set_self hlt]
   rw[List.getElem?_append_right (by simp;omega)]
   have hm:min (off+n) cells.toList.length=off+n:=by omega
   simp only[List.length_take,hm,Nat.sub_self,List.cons_append,List.getElem?_cons_zero]
  ·rw[List.getElem?_append_right (by simp;omega)]
   rw[List.getElem?_append_right (l₁:=cells.toList.take (off+n)) (by simp;omega)]
   simp only[List.length_take,List.length_set]
   rw[show j -min (off+(n+1)) cells.toList.length=j -(off+n)-1 by simp at hlt⊢;omega,show j -min (off+n) cells.toList.length=(j -(off+n)-1)+1 by simp at hlt⊢;omega]
   rw[List.cons_append,List.getElem?_cons_succ]
   by_cases hr:j -(off+n)-1<r.length
   ·rw[List.getElem?_append_left hr,List.getElem?_append_left hr]
   ·rw[List.getElem?_append_right (by omega),List.getElem?_append_right (by omega)]
    rw[List.getElem?_drop,List.getElem?_drop,List.getElem?_set_ne (by omega)]
    congr 1;omega
section
variable{w:World}{M:Nat->Prop}{m:Mem}{ρ:Nat->Value}
theorem A.DenL_spl{l vs:List A}{ys zs:List Value}(off:Nat)(h1:A.DenL w M m ρ l ys)(h2:A.DenL w M m ρ vs zs):A.DenL w M m ρ (splA l off vs) (splA ys off zs):=by
 have hl:=(A.DenL_iff.1 h2).1
 unfold splA
 rw[hl]
 exact A.DenL_append (A.DenL_take off h1) (A.DenL_append h2 (A.DenL_drop _ h1))
end
def structPl(P:Program)(t:TypeId):Option (List (Nat×Nat)):=
 match P.underlying t with
 |some (.struct fs)=>if fs.toList.all λf=>(P.info? f.type).isSome then some (fs.toList.map λf=>(f.offset,P.cellsOf f.type))else none
 |some (.array k e)=>if(P.info? e).isSome then some ((List.range k).map λi=>(i*P.cellsOf e,P.cellsOf e))else none
 |_=>none
def fillA(pl:List (Nat×Nat)):List A->List (Nat×List A)->Option (List A)
 |cells,[]=>some cells
 |cells,(i,vs)::rest=>match pl[i]? with
  |none=>none
  |some (off,size)=>if vs.length=size/\off+size<=cells.length then fillA pl (splA cells off vs) rest else none
inductive Parts(w:World)(M:Nat->Prop)(m:Mem)(ρ:Nat->Value):List (Nat×List A)->List (Nat×Value)->Prop
 |nil:Parts w M m ρ [] []
 |cons {i:Nat} {l:List A} {y:Value} {r:List (Nat×List A)} {s:List (Nat×Value)} (h:A.DenL w M m ρ l y.cells.toList) (h0:∀u∈y.cells.toList,u.oneCell'=true) (t:Parts w M m ρ r s):Parts w M m ρ ((i,l)::r) ((i,y)::s)
theorem fillA_den{w:World}{M:Nat->Prop}{m:Mem}{ρ:Nat->Value}{pl:List (Nat×Nat)}{place:Nat->Option (Nat×Nat)}(hp:∀i p,pl[i]?=some p->place i=some p){ps:List (Nat×List A)}{vs:List (Nat×Value)}(hps:Parts w M m ρ ps vs):
 ∀{cells out:List A}{cs:Array Value},A.DenL w M m ρ cells cs.toList->(∀u∈cs.toList,u.oneCell'=true)->fillA pl cells ps=some out->∃cs',Instr.fill place cs vs=some cs'/\A.DenL w M m ρ out cs'.toList/\∀u∈cs'.toList,u.oneCell'=true:=by
 induction hps with
 |nil=>
  intro cells out cs hd hcs hf
  simp only[fillA,Option.some.injEq]at hf;subst hf
  exact⟨cs,rfl,hd,hcs⟩
 |cons h h0 t ih=>
  rename_i i l y r s
  intro cells out cs hd hcs hf
  simp only[fillA]at hf
  split at hf
  ·cases hf
  ·rename_i off size hpl
   split at hf
   ·rename_i hc
    obtain⟨hc1,hc2⟩:=hc
    have hlen:=(A.DenL_iff.1 h).1
    have hlen2:=(A.DenL_iff.1 hd).1
    have hfold:=foldl_set y.cells.toList 0 off cs (by simp at hlen hlen2⊢;omega)
    have hz:y.cells.zipIdx.foldl (λcs(x:Value×Nat)=>cs.setIfInBounds (off+x.2) x.1) cs=(y.cells.toList.zipIdx 0).foldl (λcs(x:Value×Nat)=>cs.setIfInBounds (off+x.2) x.1) cs:=by
     rw[<-Array.foldl_toList];simp
    obtain⟨cs',h1,h2⟩:=ih (cs:=y.cells.zipIdx.foldl (λcs(x:Value×Nat)=>cs.setIfInBounds (off+x.2) x.1) cs) (by
     rw[hz,hfold];exact A.DenL_spl off hd h) (by
     rw[hz,hfold];intro u hu
     simp only[splA,List.mem_append]at hu
     rcases hu with hu|hu|hu
     · exact hcs u (List.mem_of_mem_take hu)
     · exact h0 u hu
     · exact hcs u (List.mem_of_mem_drop hu)) hf
    refine⟨cs',?_,h2⟩
    simp only[Instr.fill,hp i _ hpl]
    rw[if_neg]
    ·exact h1
    ·simp at hlen hlen2;simp;omega
   ·cases hf
theorem run_mapM_size{P:Program}{w:World}:∀(l:List Field),(∀f∈l,(P.info? f.type).isSome=true)->
 (l.mapM λ(f:Field)=>(do pure (f.offset,<-sizeOf f.type):Sem (Nat×Nat))).run P w=.ok (l.map λf=>(f.offset,P.cellsOf f.type)) w
 |[],_=>by simp[List.mapM_nil]
 |f::r,h=>by
  obtain⟨i,hi⟩:=Option.isSome_iff_exists.1 (h f (by simp))
  have ih:=run_mapM_size (P:=P) (w:=w) r (λg hg=>h g (by simp[hg]))
  simp only[List.mapM_cons,Sem.run_bind,run_sizeOf hi,Result.andThen_ok,Sem.run_pure,ih,List.map_cons]
section
variable{M0 S0:Nat->Prop}{w0:World}{N:Fr}{T:Nat->A}{m:Mem}{ρ:Nat->Value}{a:Act}{w:World}{P:Program}
theorem sd_build{t:TypeId}{pl:List (Nat×Nat)}{z:List C}{ps:List (Nat×List A)}{vs:List (Nat×Value)}{out:List A}{M:Nat->Prop}(hpl:structPl P t=some pl)(hz:zeroC P t=some z)(hps:Parts w M m ρ ps vs)
 (hf:fillA pl (z.map .d) ps=some out):∃y,(Instr.build t vs.toArray).run P w=.ok y w/\(A.agg out).Den w M m ρ y:=by
 obtain⟨zv,hz1,hz2,⟨i,hi,hzi⟩,hz0⟩:=zeroC_run hz w
 have hzd:A.DenL w M m ρ (z.map .d) zv.cells.toList:=A.DenL_map_d.2 (hz2 w M)
 unfold structPl at hpl
 split at hpl
 ·rename_i fs hu
  split at hpl
  ·rename_i hall
   simp only[Option.some.injEq]at hpl;subst hpl
   obtain⟨cs,h1,h2,h3⟩:=fillA_den (place:=λ(i:Nat)=>(fs.toList.map λf=>(f.offset,P.cellsOf f.type))[i]?) (λi p h=>h) hps hzd hz0 hf
   refine⟨.agg cs,?_,by simp only[A.Den];exact⟨cs,rfl,h3,h2⟩⟩
   have hm:=run_mapM_size (P:=P) (w:=w) fs.toList (by simpa only[List.all_eq_true]using hall)
   have hm':(fs.mapM λ(f:Field)=>(do pure (f.offset,<-sizeOf f.type):Sem (Nat×Nat))).run P w=.ok (fs.toList.map λf=>(f.offset,P.cellsOf f.type)).toArray w:=by
    rw[<-Array.toArray_toList (xs:=fs),List.mapM_toArray]
    simp only[Sem.run_map,hm,Result.andThen_ok,List.toList_toArray]
   have hplace:(λ(x:Nat)=>(fs.toList.map λf=>(f.offset,P.cellsOf f.type)).toArray[x]?)=λ(i:Nat)=>(fs.toList.map λf=>(f.offset,P.cellsOf f.type))[i]?:=by
    funext x;simp
   simp only[Instr.build,Sem.run_bind,hz1,Result.andThen_ok,run_underlying hu,hm',List.toList_toArray,hplace,h1,Sem.run_pure]
  ·cases hpl
 ·rename_i k e hu
  split at hpl
  ·rename_i he
   simp only[Option.some.injEq]at hpl;subst hpl
   obtain⟨ie,hie⟩:=Option.isSome_iff_exists.1 he
   obtain⟨cs,h1,h2,h3⟩:=fillA_den (place:=λi=>some (i*P.cellsOf e,P.cellsOf e)) (λi p h=>by
    simp only[List.getElem?_map,Option.map_eq_some_iff]at h
    obtain⟨j,h1,h2⟩:=h
    have hj:j=i:=by
     have:=(List.getElem?_eq_some_iff.1 h1).2
     simpa using this.symm
    rw[<-h2,hj]) hps hzd hz0 hf
   refine⟨.agg cs,?_,by simp only[A.Den];exact⟨cs,rfl,h3,h2⟩⟩
   simp only[Instr.build,Sem.run_bind,hz1,Result.andThen_ok,run_underlying hu,run_sizeOf hie,List.toList_toArray,h1,Sem.run_pure]
  ·cases hpl
 ·cases hpl
end
end Go.Pv
namespace Go.Pv
open Go.RowKit
mutual
def A.hs:A->List Nat
 |.lp i _=>[i]
 |.h i=>[i]
 |.ep i _ _ _=>[i]
 |.sv i _ _=>[i]
 |.fn _ f c=>A.hsL f++A.hsL c
 |.agg l=>A.hsL l
 |.tup l=>A.hsL l
 |.ifc _ a=>A.hs a
 |.d _=>[]
 |.x=>[]
def A.hsL:List A->List Nat
 |[]=>[]
 |c::r=>A.hs c++A.hsL r
end
theorem applyU_append(m:Mem):∀(u v:List (Nat×R)),applyU m (u++v)=applyU (applyU m u) v
 |[],v=>rfl
 |(i,r)::t,v=>by simp only[List.cons_append,applyU];exact applyU_append _ t v
section
variable{M0 S0:Nat->Prop}{w0:World}{N:Fr}{T:Nat->A}{m:Mem}{ρ:Nat->Value}{a:Act}{w:World}{P:Program}
theorem setM_eq(m:Mem)(i:Nat)(r:R):setM m i r i=some r:=by simp[setM]
theorem sd_store_lp(h:SatAt M0 S0 w0 N T m ρ a w){t:TypeId}{i off:Nat}{l vs:List A}{p:Value}{o:Operand}(hp:(A.lp i off).Den w (Mut M0 m ρ) m ρ p)(hi:m i=some (.cells false l))
 (hv:(evT T o).cells m=some vs)(hn:vs.length=P.cellsOf t)(hfit:off+vs.length<=l.length)(hi':(P.info? t).isSome=true):
 ∃w',(Instr.storeAt t p (a.eval o)).run P w=.ok () w'/\SatAt M0 S0 w0 N T (setM m i (.cells false (splA l off vs))) ρ a w'/\Onto m (setM m i (.cells false (splA l off vs))) ρ ρ:=by
 simp only[A.Den]at hp
 obtain⟨b,hb,rfl⟩:=has_of hp hi (by simp)
 obtain⟨b',cs,t',e1,h1,h2,h3,h5⟩:=h.res i _ hi
 rw[hb]at e1;simp at e1;subst e1
 obtain⟨hd,hone⟩:=cells_den h (ev_den h o) hv
 have hlen:=(A.DenL_iff.1 hd).1
 have hlen2:=(A.DenL_iff.1 h2).1
 obtain⟨ti,hti⟩:=Option.isSome_iff_exists.1 hi'
 have hrun:=run_storeCells_at P b off t' (a.eval o).cells.toList 0 cs w h1 (by simp at hlen hlen2⊢;omega) hone
 simp only[Nat.add_zero]at hrun
 refine⟨w.setRow b (cs.toList.take off++(a.eval o).cells.toList++cs.toList.drop (off+(a.eval o).cells.toList.length)).toArray,?_,?_,?_⟩
 rotate_left 2
 ·have:=Onto.set (m:=m) (ρ:=ρ) i (.cells false (splA l off vs)) (ρ i) (λ_ _=>⟨by rw[hi];simp,rfl,λfz t es l' e=>by rw[hi]at e;simp at e⟩)
  rwa [setH_same]at this
 ·have hs:(a.eval o).cells.size=P.cellsOf t:=by rw[<-hn,hlen];simp
  simp only[Instr.storeAt,Instr.sureAddr,storeVar,Sem.run_bind,Sem.run_pure,Result.andThen_ok,run_sizeOf hti,hs,ne_eq,not_true_eq_false,if_false]
  exact hrun
 ·have hk:Keeps (λk=>k=b) w (w.setRow b (cs.toList.take off++(a.eval o).cells.toList++cs.toList.drop (off+(a.eval o).cells.toList.length)).toArray):=
   ⟨rfl,rfl,rfl,by simp[World.setRow],λk _ hk=>setRow_other w b k _ hk⟩
  refine h.write hi rfl rfl (by simp) hk (λk _ e=>by rw[hb,e];rfl) ?_
  intro hO hst hm
  refine⟨b,_,t',hb,setRow_heap w b _ _ t' _ h1,?_,by simp,?_⟩
  ·have:=A.DenL_spl off (A.DenL_mono hst hm hO _ _ h2) (A.DenL_mono hst hm hO _ _ hd)
   simpa [splA,List.append_assoc]using this
  ·intro u hu
   simp only[List.mem_append]at hu
   rcases hu with(hu|hu)|hu
   ·exact h5 u (List.mem_of_mem_take hu)
   ·exact hone u hu
   ·exact h5 u (List.mem_of_mem_drop hu)
theorem flatten_set{α:Type}{es:Nat}:∀(l:List (List α))(k:Nat)(r:List α),(∀e∈l,e.length=es)->k<l.length->r.length=es->(l.set k r).flatten=splA l.flatten (k*es) r
 |[],k,r,_,hk,_=>by simp at hk
 |e::l,0,r,hl,_,hr=>by
  have he:=hl e (by simp)
  simp only[List.set_cons_zero,List.flatten_cons,splA,Nat.zero_mul,Nat.zero_add,List.take_zero,List.nil_append]
  rw[hr,<-he,List.drop_left]
 |e::l,k+1,r,hl,hk,hr=>by
  have he:=hl e (by simp)
  have ih:=flatten_set l k r (λe' h'=>hl e' (by simp[h'])) (by simpa using hk) hr
  simp only[List.set_cons_succ,List.flatten_cons,ih,splA]
  rw[Nat.succ_mul,Nat.add_comm (k*es) es,<-he,List.take_length_add_append,List.append_assoc,Nat.add_assoc,List.drop_length_add_append]
theorem splA_splA{α:Type}(F row vs:List α)(ke es off:Nat)(hF:ke+es<=F.length)(hrow:row.length=es)(hr:∀j,j<es->F[ke+j]?=row[j]?)(hv:off+vs.length<=es):
 splA F ke (splA row off vs)=splA F (ke+off) vs:=by
 have hsl:(splA row off vs).length=es:=by rw[length_splA _ _ _ (by omega),hrow]
 apply List.ext_getElem?
 intro j
 conv=>lhs;rw[splA]
 conv=>rhs;rw[splA]
 rw[hsl]
 rcases Nat.lt_or_ge j ke with q|q
 ·rw[List.getElem?_append_left (by simp;omega),List.getElem?_append_left (by simp;omega),List.getElem?_take,List.getElem?_take,if_pos q,if_pos (by omega)]
 ·rw[List.getElem?_append_right (by simp;omega)]
  have e1:j -(F.take ke).length=j -ke:=by simp;omega
  rw[e1]
  rcases Nat.lt_or_ge (j -ke) es with q2|q2
  ·rw[List.getElem?_append_left (by omega),splA]
   rcases Nat.lt_or_ge (j -ke) off with q3|q3
   ·rw[List.getElem?_append_left (by simp;omega),List.getElem?_take,if_pos q3,List.getElem?_append_left (by simp;omega),List.getElem?_take,if_pos (by omega)]
    rw[<-hr _ q2];congr 1;omega
   ·rw[List.getElem?_append_right (by simp;omega),List.getElem?_append_right (l₁:=F.take (ke+off)) (by simp;omega)]
    have e2:j -ke -(row.take off).length=j -(ke+off):=by simp;omega
    have e3:j -(F.take (ke+off)).length=j -(ke+off):=by simp;omega
    rw[e2,e3]
    rcases Nat.lt_or_ge (j -(ke+off)) vs.length with q4|q4
    ·rw[List.getElem?_append_left q4,List.getElem?_append_left q4]
    ·rw[List.getElem?_append_right q4,List.getElem?_append_right q4,List.getElem?_drop,List.getElem?_drop]
     rw[<-hr _ (by omega)];congr 1;omega
  ·rw[List.getElem?_append_right (by omega),List.getElem?_append_right (l₁:=F.take (ke+off)) (by simp;omega)]
   have e3:j -(F.take (ke+off)).length=j -(ke+off):=by simp;omega
   rw[e3,List.getElem?_append_right (by omega),List.getElem?_drop,List.getElem?_drop]
   congr 1;omega
theorem RowH.set{g:Nat}{cur:Array Value}{t:TypeId}(h:RowH w g cur t)(cs:Array Value)(hs:cs.size=cur.size):RowH (w.setRow g cs) g cs t:=by
 obtain⟨f,h,q⟩:=h
 exact⟨f,setRow_heap w g cur cs t f h,by rw[hs];exact q⟩
theorem rowH_store(P:Program)(g o:Nat)(t:TypeId):∀(vs:List Value)(i:Nat)(cur:Array Value)(w:World),RowH w g cur t->o+i+vs.length<=cur.size->(∀v∈vs,v.oneCell'=true)->
 (storeCells ⟨g,o,none⟩ vs i).run P w=.ok () (w.setRow g (cur.toList.take (o+i)++vs++cur.toList.drop (o+i+vs.length)).toArray)
 |[],i,cur,w,hg,_,_=>by
  obtain⟨f,hg,_⟩:=hg
  simp only[storeCells,List.append_nil,List.length_nil,Nat.add_zero,List.take_append_drop,Array.toArray_toList]
  rw[setRow_self w g cur t f hg]
  rfl
 |v::rest,i,cur,w,hg0,hl,h1=>by
  have hi:o+i<cur.size:=by simp at hl;omega
  obtain⟨f,hg,hq⟩:=hg0
  have hadd:(⟨g,o,none⟩:Addr).add i=⟨g,o+i,none⟩:=by unfold Addr.add;split<;>simp_all
  have hcell:w.cell? ⟨g,o+i,none⟩=some cur[o+i]:=by simp[World.cell?,hg,hi]
  have hfro:w.frozen? ⟨g,o+i,none⟩=false:=by
   simp only[World.frozen?,hg]
   rcases hq with rfl|hq
   ·simp
   ·have:¬f.1<=o+i:=by omega
    simp[this]
  have hst:(store ((⟨g,o,none⟩:Addr).add i) v).run P w=.ok () (w.setRow g (cur.setIfInBounds (o+i) v)):=by
   rw[hadd,run_store P w _ v _ (h1 v (by simp)),hcell]
   simp[hfro,setCell_eq_setRow w g (o+i) cur t f v hg]
  have ih:=rowH_store P g o t rest (i+1) (cur.setIfInBounds (o+i) v) (w.setRow g (cur.setIfInBounds (o+i) v)) (RowH.set ⟨f,hg,hq⟩ _ (by simp)) (by simp at hl⊢;omega) (λx hx=>h1 x (by simp[hx]))
  simp only[storeCells,Sem.run_bind,hst,Result.andThen_ok,ih,setRow_setRow]
  congr 3
  have e:=list_seg_step cur.toList (o+i) v rest (by simp at hl⊢;omega)
  simpa [Array.toList_setIfInBounds,Nat.add_assoc]using e
theorem ownsRow_setCells{e:TypeId}{size n:Nat}{g p cap:Nat}{xs vs:List Value}(h:OwnS w e size (.slice (some ⟨g,p,none⟩) n cap) n xs)(o:Nat)(hvs:vs≠[])(hfit:o+vs.length<=xs.length)(hone:∀u∈vs,u.oneCell'=true):
 ∃w',(storeCells ⟨g,p+o,none⟩ vs).run P w=.ok () w'/\OwnS w' e size (.slice (some ⟨g,p,none⟩) n cap) n (splA xs o vs)/\Keeps (λk=>k=g) w w':=by
 rcases h with⟨h',_⟩|⟨hxn,g',og,cap',cur,h',hb,hg,hnc,hcm,hcs,htake⟩
 ·subst h';exfalso;apply hvs;exact List.eq_nil_of_length_eq_zero (by simp only[List.length_nil]at hfit;omega)
 ·simp only[Value.slice.injEq,Option.some.injEq,Addr.mk.injEq,and_true,true_and]at h'
  obtain⟨⟨rfl,rfl⟩,rfl⟩:=h'
  have hxl:p+xs.length<=cur.toList.length:=by
   have:xs.length<=(cur.toList.drop p).length:=by rw[<-htake];simp;omega
   have h2:p<=cur.size:=by omega
   simp at this⊢;omega
  have hrun:=rowH_store P g (p+o) e vs 0 cur w hg (by simp at hxl⊢;omega) hone
  simp only[Nat.add_zero]at hrun
  refine⟨_,hrun,.inr ⟨by rw[length_splA _ _ _ hfit,hxn],g,p,cap,_,rfl,hb,hg.set _ (by simp at hxl;simp;omega),hnc,hcm,?_,?_⟩,⟨rfl,rfl,rfl,by simp[World.setRow],λk _ hk=>setRow_other w g k _ hk⟩⟩
  ·simp at hxl;simp;omega
  ·have hn:n*size=xs.length:=hxn.symm
   rw[hn]
   have hxj:∀j,j<xs.length->xs[j]?=cur.toList[p+j]?:=by
    intro j hj
    have:=congrArg (λl=>l[j]?) htake
    simp only[List.getElem?_take,List.getElem?_drop]at this
    rw[if_pos (by omega)]at this
    exact this.symm
   simp only[Array.length_toList]at hxl
   apply List.ext_getElem?
   intro j
   simp only[List.getElem?_take,splA]
   split
   ·rename_i hj
    rw[List.getElem?_drop]
    rcases Nat.lt_or_ge j o with h1|h1
    ·rw[List.append_assoc,List.getElem?_append_left (by simp;omega),List.getElem?_append_left (by simp;omega),List.getElem?_take,if_pos (by omega),List.getElem?_take,if_pos h1]
     exact(hxj j (by omega)).symm
    ·rw[List.append_assoc,List.getElem?_append_right (by simp;omega),List.getElem?_append_right (l₁:=xs.take o) (by simp;omega)]
     have e1:p+j -(cur.toList.take (p+o)).length=j -o:=by simp;omega
     have e2:j -(xs.take o).length=j -o:=by simp;omega
     rw[e1,e2]
     rcases Nat.lt_or_ge (j -o) vs.length with h2|h2
     ·rw[List.getElem?_append_left h2,List.getElem?_append_left h2]
     ·rw[List.getElem?_append_right h2,List.getElem?_append_right h2,List.getElem?_drop,List.getElem?_drop,hxj _ (by omega)]
      congr 1;omega
   ·rename_i hj
    rw[List.getElem?_eq_none]
    simp;omega
theorem ownsRow_form{e:TypeId}{size n:Nat}{v:Value}{xs:List Value}(h:OwnS w e size v n xs)(hn:0<n):∃g o cap,v=.slice (some ⟨g,o,none⟩) n cap/\0<cap:=by
 rcases h with⟨_,h0,_⟩|⟨_,g,og,cap,cur,hv,hp,_⟩
 ·omega
 ·exact⟨g,og,cap,hv,hp⟩
theorem sd_store_ep(h:SatAt M0 S0 w0 N T m ρ a w){t te:TypeId}{i es k off:Nat}{l:List (List A)}{vs:List A}{p:Value}{o:Operand}(hp:(A.ep i es k off).Den w (Mut M0 m ρ) m ρ p)(hi:m i=some (.osl false te es l))
 (hv:(evT T o).cells m=some vs)(hk:k<l.length)(hn:vs.length=P.cellsOf t)(hvs:vs≠[])(hfit:off+vs.length<=es)(hi':(P.info? t).isSome=true):
 ∃w',(Instr.storeAt t p (a.eval o)).run P w=.ok () w'/\SatAt M0 S0 w0 N T (setM m i (.osl false te es (l.set k (splA (l.getD k []) off vs)))) ρ a w'/\Onto m (setM m i (.osl false te es (l.set k (splA (l.getD k []) off vs)))) ρ ρ:=by
 simp only[A.Den]at hp
 obtain⟨b,og,n,cap,hb,rfl⟩:=has_of hp hi (by simp)
 obtain⟨hd,hone⟩:=cells_den h (ev_den h o) hv
 obtain⟨xs,g1,g2,g3,g4,g5⟩:=h.res i _ hi
 have hlen:=(A.DenL_iff.1 hd).1
 have hlen2:=(A.DenL_iff.1 g2).1
 obtain⟨ti,hti⟩:=Option.isSome_iff_exists.1 hi'
 have hn':n=l.length/\0<cap:=by
  obtain⟨g,o',cap',hv,hp⟩:=ownsRow_form g1 (by omega)
  rw[hb]at hv;simp at hv;obtain⟨_,e1,e2⟩:=hv;exact⟨e1,by rw[e2];exact hp⟩
 obtain⟨rfl,hcap⟩:=hn'
 rw[hb]at g1
 have hbound:k*es+off+(a.eval o).cells.toList.length<=xs.length:=by
  rw[<-hlen2,length_flatten_rows g3,<-hlen]
  calc k*es+off+vs.length<=k*es+es:=by omega
   _=(k+1)*es:=by rw[Nat.succ_mul]
   _<=l.length*es:=Nat.mul_le_mul_right _ hk
 obtain⟨w',hrun,hown,hkeep⟩:=ownsRow_setCells (P:=P) g1 (k*es+off) (λe=>hvs (List.eq_nil_of_length_eq_zero (by rw[hlen,e];rfl))) hbound hone
 refine⟨w',?_,?_,?_⟩
 rotate_left 2
 ·have h2:=Onto.set (m:=m) (ρ:=ρ) i (.osl false te es (l.set k (splA (l.getD k []) off vs))) (ρ i) (λ_ _=>⟨by rw[hi];simp,rfl,λfz t es' l' e=>⟨false,te,_,by rw[hi]at e;simp at e;obtain⟨_,_,e1,_⟩:=e;rw[e1],by rw[hi]at e;simp at e;obtain⟨_,_,_,e2⟩:=e;simp[<-e2]⟩⟩)
  rwa [setH_same]at h2
 ·have hs:(a.eval o).cells.size=P.cellsOf t:=by rw[<-hn,hlen];simp
  simp only[Instr.storeAt,Instr.sureAddr,storeVar,Sem.run_bind,Sem.run_pure,Result.andThen_ok,run_sizeOf hti,hs,ne_eq,not_true_eq_false,if_false]
  exact hrun
 ·have hrow:(l.getD k []).length=es:=by
   rw[List.getD_eq_getElem?_getD,List.getElem?_eq_getElem hk];exact g3 _ (List.getElem_mem hk)
  have hsl:(splA (l.getD k []) off vs).length=es:=by rw[length_splA _ _ _ (by omega),hrow]
  refine h.write hi rfl rfl (λfz t es' l' e=>⟨false,te,_,by simp at e;obtain⟨_,_,e1,_⟩:=e;rw[e1],by simp at e;obtain⟨_,_,_,e2⟩:=e;simp[<-e2]⟩) hkeep (λc _ e=>by rw[hb,e];simp[blk];omega) ?_
  intro hO hst hm
  refine⟨splA xs (k*es+off) (a.eval o).cells.toList,by rw[hb];simpa using hown,?_,?_,by simp,?_⟩
  ·have hf:(l.set k (splA (l.getD k []) off vs)).flatten=splA l.flatten (k*es+off) vs:=by
    rw[flatten_set l k _ g3 hk hsl]
    have hlf:=length_flatten_rows g3
    refine splA_splA _ _ _ _ es _ ?_ hrow (λj hj=>getElem?_flatten_row es l k _ j g3 (by simp[List.getD_eq_getElem?_getD,List.getElem?_eq_getElem hk]) hj) hfit
    rw[hlf];calc k*es+es=(k+1)*es:=by rw[Nat.succ_mul]
     _<=l.length*es:=Nat.mul_le_mul_right _ hk
   rw[hf]
   exact A.DenL_spl _ (A.DenL_mono hst hm hO _ _ g2) (A.DenL_mono hst hm hO _ _ hd)
  ·intro e he
   rcases List.mem_or_eq_of_mem_set he with he|he
   ·exact g3 e he
   ·rw[he];exact hsl
  ·intro u hu
   simp only[splA,List.mem_append]at hu
   rcases hu with hu|hu|hu
   ·exact g5 u (List.mem_of_mem_take hu)
   ·exact hone u hu
   ·exact g5 u (List.mem_of_mem_drop hu)
end
end Go.Pv
namespace Go.Pv
open Go.RowKit
def srcRows(m:Mem):A->Option (List (List A))
 |.h j=>match m j with
  |some (.osl _ _ _ l)=>some l
  |_=>none
 |.sv j lo n=>match m j with
  |some (.osl _ _ _ l)=>some ((l.drop lo).take n)
  |_=>none
 |.d (.sl _ l)=>some (l.map (·.map A.d))
 |.d (.nl _)=>some []
 |_=>none
theorem flatten_map_d(l:List (List C)):(l.map (·.map A.d)).flatten=l.flatten.map A.d:=by
 induction l with
 |nil=>rfl
 |cons e r ih=>simp only[List.map_cons,List.flatten_cons,List.map_append,ih]
section
variable{M0 S0:Nat->Prop}{w0:World}{N:Fr}{T:Nat->A}{m:Mem}{ρ:Nat->Value}{a:Act}{w:World}{P:Program}
theorem row_cells{b es:Nat}{M:Nat->Prop}:∀(l:List (List C))(o:Nat),C.DenRow w M b es o l->
 ∃news:List Value,news.length=l.length*es/\(∀u∈news,u.oneCell'=true)/\C.DenL w M l.flatten news/\∀(j:Nat)(v:Value),news[j]?=some v->w.cell? ((⟨b,o,none⟩:Addr).add j)=some v
 |[],o,h=>⟨[],by simp,by simp,by simp[C.DenL],by simp⟩
 |e::r,o,h=>by
  simp only[C.DenRow]at h
  obtain⟨h1,h2,h3⟩:=h
  obtain⟨n2,g1,g0,g2,g3⟩:=row_cells (es:=es) r (o+es) h3
  rw[C.DenAt_iff]at h2
  obtain⟨n1,f1,f0,f3,f2⟩:=mem_cells (w:=w) (b:=b) (M:=M) e o h2
  refine⟨n1++n2,by simp[f1,g1,h1,Nat.succ_mul];omega,?_,by simpa using C.DenL_append f2 g2,?_⟩
  ·intro u hu;simp at hu;exact hu.elim (f0 u) (g0 u)
  ·intro j v hv
   rcases Nat.lt_or_ge j n1.length with hj|hj
   ·rw[List.getElem?_append_left hj]at hv;exact f3 j v hv
   ·rw[List.getElem?_append_right hj]at hv
    have:=g3 _ v hv
    rw[Addr.add_lit]at this⊢
    rw[show o+j=o+es+(j -n1.length) by rw[f1,h1]at*;omega];exact this
theorem src_mem(h:SatAt M0 S0 w0 N T m ρ a w){x:A}{y:Value}{l:List (List A)}{es:Nat}(hx:x.Den w (Mut M0 m ρ) m ρ y)(hs:srcRows m x=some l)(hes:∀e∈l,e.length=es):
 ∃ad cap news,y=.slice ad l.length cap/\news.length=l.length*es/\(∀u∈news,u.oneCell'=true)/\A.DenL w (Mut M0 m ρ) m ρ l.flatten news/\
  ((ad=none/\l=[])\/∃d,ad=some d/\∀(j:Nat)(v:Value),news[j]?=some v->w.cell? (d.add j)=some v):=by
 have key:∀{es':Nat}{ad:Option Addr}{cap:Nat}{l:List (List C)},(∀e∈l,e.length=es)->(l=[]\/∃b off,ad=some ⟨b,off,none⟩/\C.DenRow w (Mut M0 m ρ) b es' off l)->
  ∃ad' cap' news,Value.slice ad l.length cap=.slice ad' l.length cap'/\news.length=l.length*es/\(∀u∈news,u.oneCell'=true)/\A.DenL w (Mut M0 m ρ) m ρ (l.map (·.map A.d)).flatten news/\
  ((ad'=none/\l=[])\/∃d,ad'=some d/\∀(j:Nat)(v:Value),news[j]?=some v->w.cell? (d.add j)=some v):=by
  intro es' ad cap l hes hl
  by_cases hnil:l=[]
  ·subst hnil
   refine⟨ad,cap,[],rfl,by simp,by simp,by simp[A.DenL],?_⟩
   cases ad with
   |none=>exact .inl ⟨rfl,rfl⟩
   |some d=>exact .inr ⟨d,rfl,by simp⟩
  ·obtain⟨b,off,rfl,hr⟩:=hl.resolve_left hnil
   have hee:es'=es:=by
    cases l with
    |nil=>exact absurd rfl hnil
    |cons e r=>
     simp only[C.DenRow]at hr
     rw[<-hr.1,hes e (by simp)]
   subst hee
   obtain⟨news,h1,h2,h3,h4⟩:=row_cells l off hr
   exact⟨_,cap,news,rfl,h1,h2,by rw[flatten_map_d];exact A.DenL_map_d.2 h3,.inr ⟨_,rfl,h4⟩⟩
 have keyO:∀{i es':Nat}{fz:Bool}{t:TypeId}{l':List (List A)}(lo n:Nat),m i=some (.osl fz t es' l')->lo+n<=l'.length->(n=0\/es'=es)->∃news,news.length=n*es/\(∀u∈news,u.oneCell'=true)/\A.DenL w (Mut M0 m ρ) m ρ ((l'.drop lo).take n).flatten news/\
  ∃ad cap,ρ i=.slice ad l'.length cap/\(n=0\/∃b o,ad=some ⟨b,o,none⟩/\∀(j:Nat)(v:Value),news[j]?=some v->w.cell? ⟨b,o+(lo*es+j),none⟩=some v):=by
  intro i es' fz t l' lo n hi hln hee
  obtain⟨xs,h1,h2,h3,h4,h5⟩:=h.res i _ hi
  have hsh:∃ad cap,ρ i=.slice ad l'.length cap:=by
   rcases h1 with⟨hx,hn,ad,hv⟩|⟨hl,g,og,cap,cur,hv,_⟩
   ·exact⟨ad,0,by rw[hv,hn]⟩
   ·exact⟨_,cap,hv⟩
  rcases hee with rfl|rfl
  ·obtain⟨ad,cap,e⟩:=hsh
   exact⟨[],by simp,by simp,by simp[A.DenL],ad,cap,e,.inl rfl⟩
  ·have hcut:((l'.drop lo).take n).flatten=(l'.flatten.drop (lo*es')).take (n*es'):=by
    rw[flatten_take _ n (es:=es') (λe he=>h3 e (List.mem_of_mem_drop he)),flatten_drop l' lo h3]
   have hxl:xs.length=l'.length*es':=by rw[<-(A.DenL_iff.1 h2).1,length_flatten_rows h3]
   have hb:lo*es'+n*es'<=l'.length*es':=by rw[<-Nat.add_mul];exact Nat.mul_le_mul_right _ hln
   refine⟨(xs.drop (lo*es')).take (n*es'),by simp;omega,λu hu=>h5 u (List.mem_of_mem_drop (List.mem_of_mem_take hu)),by rw[hcut];exact A.DenL_take _ (A.DenL_drop _ h2),?_⟩
   rcases h1 with⟨hx,hn,ad,hv⟩|⟨hl,g,og,cap,cur,hv,hp,hg,hc,hm,hcs,htk⟩
   ·exact⟨ad,0,by rw[hv,hn],.inl (by omega)⟩
   ·refine⟨_,cap,hv,.inr ⟨g,og,rfl,?_⟩⟩
    intro j v hj
    rw[List.getElem?_take]at hj
    split at hj
    ·rw[List.getElem?_drop]at hj
     exact OwnS.cells (.inr ⟨hl,g,og,cap,cur,hv,hp,hg,hc,hm,hcs,htk⟩) hv _ v hj
    ·cases hj
 cases x with
 |h i=>
  simp only[srcRows]at hs
  split at hs
  ·rename_i fz t es' l' hi
   simp only[Option.some.injEq]at hs;subst hs
   simp only[A.Den]at hx
   rw[has_of hx hi (by simp)]
   have hee:l'.length=0\/es'=es:=by
    obtain⟨xs,h1,h2,h3,h4,h5⟩:=h.res i _ hi
    cases l' with
    |nil=>exact .inl rfl
    |cons e r=>right;rw[<-h3 e (by simp),hes e (by simp)]
   obtain⟨news,k1,k2,k3,ad,cap,k4,k5⟩:=keyO 0 l'.length hi (by omega) hee
   refine⟨ad,cap,news,k4,k1,k2,by simpa using k3,?_⟩
   rcases k5 with k5|⟨b,o,rfl,k6⟩
   ·have hn0:news=[]:=List.eq_nil_of_length_eq_zero (by rw[k1,k5];simp)
    have hl0:=List.eq_nil_of_length_eq_zero k5
    cases ad with
    |none=>exact .inl ⟨rfl,hl0⟩
    |some d=>exact .inr ⟨d,rfl,by simp[hn0]⟩
   ·exact .inr ⟨_,rfl,λj v hj=>by rw[Addr.add_lit];have:=k6 j v hj;simpa using this⟩
  ·cases hs
 |sv i lo n=>
  simp only[srcRows]at hs
  split at hs
  ·rename_i fz t es' l' hi
   simp only[Option.some.injEq]at hs;subst hs
   simp only[A.Den]at hx
   obtain⟨ad,cap,rfl,hc,es2,fz',t',l2,e1,e2,h3⟩:=has_of hx hi (by simp)
   rw[hi]at e1;simp at e1;obtain⟨rfl,rfl,rfl,rfl⟩:=e1
   have hlen:((l'.drop lo).take n).length=n:=by simp;omega
   have hee:n=0\/es'=es:=by
    obtain⟨xs,h1,h2,h3,h4,h5⟩:=h.res i _ hi
    cases hc:(l'.drop lo).take n with
    |nil=>left;rw[hc]at hlen;simpa using hlen.symm
    |cons e r=>
     right
     have hm:e∈(l'.drop lo).take n:=by rw[hc];simp
     rw[<-h3 e (List.mem_of_mem_drop (List.mem_of_mem_take hm)),hes e hm]
   obtain⟨news,k1,k2,k3,ad2,cap2,k4,k5⟩:=keyO lo n hi e2 hee
   rw[hlen]
   refine⟨ad,cap,news,rfl,k1,k2,k3,?_⟩
   by_cases hn:n=0
   ·subst hn
    have hn0:news=[]:=List.eq_nil_of_length_eq_zero (by rw[k1];simp)
    cases ad with
    |none=>exact .inl ⟨rfl,by simp⟩
    |some d=>exact .inr ⟨d,rfl,by simp[hn0]⟩
   ·obtain⟨b,og,n',cap',h4,rfl,_⟩:=h3.resolve_left (λq=>hn q.1)
    obtain⟨b2,o2,rfl,k6⟩:=k5.resolve_left hn
    rw[h4]at k4;simp at k4;obtain⟨⟨rfl,rfl⟩,_⟩:=k4
    have hee':=hee.resolve_left hn
    subst hee'
    exact .inr ⟨_,rfl,λj v hj=>by rw[Addr.add_lit,Nat.add_assoc];exact k6 j v hj⟩
  ·cases hs
 |d c=>
  cases c with
  |sl es' l'=>
   simp only[srcRows,Option.some.injEq]at hs;subst hs
   simp only[A.Den,C.Den]at hx
   obtain⟨ad,cap,rfl,hc,hl⟩:=hx
   obtain⟨ad',cap',news,k1,k2,k3,k4,k5⟩:=key (l:=l') (λe he=>by have:=hes (e.map A.d) (List.mem_map.2 ⟨e,he,rfl⟩);simpa using this) (hl.imp id λ⟨b,off,e1,_,_,e2⟩=>⟨b,off,e1,e2⟩)
   exact⟨ad',cap',news,by simpa using k1,by simpa using k2,k3,k4,k5.imp (λ⟨a,b⟩=>⟨a,by rw[b];rfl⟩) id⟩
  |nl es'=>
   simp only[srcRows,Option.some.injEq]at hs;subst hs
   simp only[A.Den,C.Den]at hx
   subst hx
   exact⟨none,0,[],rfl,by simp,by simp,by simp[A.DenL],.inl ⟨rfl,rfl⟩⟩
  |_=>simp[srcRows]at hs
 |_=>simp[srcRows]at hs
def dstRows(m:Mem):A->Option (Option Nat×List (List A))
 |.h i=>match m i with
  |some (.osl false _ _ l)=>some (some i,l)
  |_=>none
 |.d (.nl _)=>some (none,[])
 |_=>none
def elemOf'(P:Program)(t:TypeId):Option TypeId:=
 match P.underlying t with
 |some (.slice e)=>some e
 |_=>none
theorem elemOf'_eq{t e:TypeId}(h:elemOf' P t=some e):P.underlying t=some (.slice e):=by
 unfold elemOf' at h
 split at h
 ·simp at h;subst h;assumption
 ·cases h
def killU:Option Nat->List (Nat×R)
 |none=>[]
 |some i=>[(i,.dead)]
theorem run_append_room_at(P:Program)(w:World){t ty e:TypeId}{i:TypeInfo}(ht:P.underlying t=some (.slice e))(hi:P.info? e=some i)
 (g p sLen sCap:Nat)(cur:Array Value)(hg:RowH w g cur e)
 (a:Addr)(m c:Nat)(news:List Value)(hl:news.length=m*i.size)(hnews:∀(j:Nat)(u:Value),news[j]?=some u->w.cell? (a.add j)=some u)(h1:∀u∈news,u.oneCell'=true)
 (hroom:sLen+m<=sCap)(hfit:p+sLen*i.size+news.length<=cur.size):
 (Builtin.append_ #[t,t] ty #[.slice (some ⟨g,p,none⟩) sLen sCap,.slice (some a) m c]).run P w=
   .ok (.slice (some ⟨g,p,none⟩) (sLen+m) sCap) (w.setRow g (cur.toList.take (p+sLen*i.size)++news++cur.toList.drop (p+sLen*i.size+news.length)).toArray):=by
 have hf:=run_firstCells_some (P:=P) w i.size m a m c news hl hnews
 have hst:=rowH_store P g (p+sLen*i.size) e news 0 cur w hg (by simpa using hfit) h1
 simp only[Nat.add_zero]at hst
 simp[Builtin.append_,run_underlying ht,sizeOf,typeInfo,hi,Builtin.lenOf,hroom,hf,Addr.add_lit,hst]
theorem run_append(P:Program)(w:World){t ty e:TypeId}{es by_:Nat}{i:TypeInfo}{zv:Value}(ht:P.underlying t=some (.slice e))(hi:P.info? e=some i)(hzi:i.zero=some zv)(hsz:i.size=es)(hbz:i.bytes=by_)(hzs:zv.cells.size=es)(hes0:0<es)(hby0:0<by_)
 {v:Value}{n k cap:Nat}{xs news:List Value}{ad:Option Addr}(hown0:OwnS w e es v n xs\/(v=.slice none 0 0/\n=0/\xs=[]/\0<k))(hnl:news.length=k*es)(hn1:∀u∈news,u.oneCell'=true)
 (hsrc:(ad=none/\k=0)\/∃d,ad=some d/\∀(j:Nat)(u:Value),news[j]?=some u->w.cell? (d.add j)=some u)(hsize:(n+k)*by_<=140737488355328):
 ∃v' w',(Builtin.append_ #[t,t] ty #[v,.slice ad k cap]).run P w=.ok v' w'/\OwnS w' e es v' (n+k) (xs++news)/\Keeps (λb=>blk v=some b) w w'/\(∀b,blk v'=some b->blk v=some b\/w.heap.size<=b)/\(∀b,blk v'=some b->b<w'.heap.size):=by
 have hmx:n+k<=maxLen:=by
  have:(n+k)*1<=(n+k)*by_:=Nat.mul_le_mul_left _ hby0
  unfold maxLen;omega
 have hmx63:n+k<=9223372036854775807:=by unfold maxLen at hmx;omega
 have blkLt:∀{v:Value}{n:Nat}{xs:List Value}{w:World},OwnS w e es v n xs->∀b,blk v=some b->b<w.heap.size:=by
  intro v n xs w ho b hb
  rcases ho with⟨_,_,a,rfl⟩|⟨_,g,og,c,cur,rfl,hp,hg,_⟩
  ·cases a<;>simp[blk]at hb
  ·simp[blk]at hb;obtain⟨_,rfl⟩:=hb;exact hg.lt
 rcases hsrc with⟨rfl,rfl⟩|⟨d,rfl,hcell⟩
 ·
  have hown:OwnS w e es v n xs:=hown0.resolve_right λ⟨_,_,_,h⟩=>by omega
  have hn0:news=[]:=List.eq_nil_of_length_eq_zero (by simpa using hnl)
  subst hn0
  have hrun:(Builtin.append_ #[t,t] ty #[v,.slice none 0 cap]).run P w=.ok v w:=by
   rcases hown with⟨rfl,rfl,a,rfl⟩|⟨_,g,og,c,cur,rfl,_,_,hnc,_⟩
   ·simp[Builtin.append_,run_underlying ht,sizeOf,typeInfo,hi,Builtin.lenOf,Builtin.firstCells,storeCells]
   ·simp[Builtin.append_,run_underlying ht,sizeOf,typeInfo,hi,Builtin.lenOf,Builtin.firstCells,hnc,storeCells]
  exact⟨v,w,hrun,by simpa using hown,Keeps.refl _ w,λb hb=>.inl hb,blkLt hown⟩
 ·
  have grown:∀(old:Nat),xs.length=n*es->0<n+k->
   OwnS (w.drew.alloc (.cells (xs.toArray++news.toArray++Builtin.zeroCells zv.cells (grownCap w (n+k) old e -(n+k))) e)) e es (.slice (some ⟨w.heap.size,0,none⟩) (n+k) (grownCap w (n+k) old e)) (n+k) (xs++news):=by
   intro old hxl hpos
   have hge:=grownCap_ge w (n+k) old e
   refine .inr ⟨by rw[List.length_append,hxl,hnl,Nat.add_mul],w.heap.size,0,_,_,rfl,by omega,.of (heap_alloc_new w.drew _),hge,grownCap_le_maxLen w (n+k) old e hmx,?_,?_⟩
   ·rw[Nat.zero_add]
    simp only[Array.size_append,List.size_toArray,size_zeroCells,hzs,hxl,hnl,<-Nat.add_mul]
    refine Nat.le_of_eq ?_
    congr 1;omega
   ·simp only[Array.toList_append,List.drop_zero]
    rw[List.append_assoc,<-List.append_assoc,List.take_left' (by rw[List.length_append,hxl,hnl,Nat.add_mul])]
  have kp:∀(o:Obj)(X:Nat->Prop),Keeps X w (w.drew.alloc o):=λo X=>⟨rfl,rfl,rfl,by simp,λb hb _=>by rw[Below.heap_alloc w.drew o b (by simpa using hb)];rfl⟩
  rcases hown0 with hown|⟨rfl,rfl,rfl,hkp⟩
  rotate_left 1
  ·have hrun:(Builtin.append_ #[t,t] ty #[.slice none 0 0,.slice (some d) k cap]).run P w=.ok (.slice (some ⟨w.heap.size,0,none⟩) (0+k) (grownCap w (0+k) 0 e)) (w.drew.alloc (.cells (([]:List Value).toArray++news.toArray++Builtin.zeroCells zv.cells (grownCap w (0+k) 0 e -(0+k))) e)):=by
    have h48:k*i.bytes<=281474976710656:=by rw[hbz];simp only[Nat.zero_add]at hsize;omega
    have:=run_append_nil (P:=P) w t ty e i zv ht hi hzi d k cap news (by rw[hnl,hsz]) hcell (by omega) (by omega) h48
    simpa using this
   refine⟨_,_,hrun,grown 0 (by simp) (by omega),kp _ _,λb hb=>.inr ?_,λb hb=>?_⟩
   ·simp[blk]at hb;omega
   ·simp[blk]at hb;simp;omega
  rcases hown with⟨rfl,rfl,a,rfl⟩|⟨hxl,g,og,c,cur,rfl,hp,hg,hnc,hcm,hcs,htake⟩
  ·by_cases hk:k=0
   ·subst hk
    have hn0:news=[]:=List.eq_nil_of_length_eq_zero (by simpa using hnl)
    subst hn0
    refine⟨.slice (some a) 0 0,w,?_,.inl ⟨rfl,rfl,a,rfl⟩,Keeps.refl _ w,λb hb=>.inl hb,?_⟩
    ·have hl:=run_firstCells_some (P:=P) w es 0 d 0 cap [] (by simp) (by simp)
     simp[Builtin.append_,run_underlying ht,run_sizeOf hi,Program.cellsOf,hi,hsz,Builtin.lenOf,hl,storeCells]
    ·intro b hb;simp[blk]at hb
   ·have hrun:(Builtin.append_ #[t,t] ty #[.slice (some a) 0 0,.slice (some d) k cap]).run P w=.ok (.slice (some ⟨w.heap.size,0,none⟩) (0+k) (grownCap w (0+k) 0 e)) (w.drew.alloc (.cells (([]:List Value).toArray++news.toArray++Builtin.zeroCells zv.cells (grownCap w (0+k) 0 e -(0+k))) e)):=by
     have hfit:Builtin.nextslicecap (0+k) 0*i.bytes<=281474976710656:=growslice_fits (by omega) (by rw[hbz];exact hsize)
     exact run_append_grow (P:=P) w t ty e i zv ht hi hzi a 0 0 [] (by simp) (by simp) d k cap news (by rw[hnl,hsz]) hcell (by omega) (by omega) hfit
    refine⟨_,_,hrun,grown 0 (by simp) (by omega),kp _ _,λb hb=>.inr ?_,λb hb=>?_⟩
    ·simp[blk]at hb;omega
    ·simp[blk]at hb;simp;omega
  ·by_cases hroom:n+k<=c
   ·have hfit:og+n*i.size+news.length<=cur.size:=by
     have:=Nat.mul_le_mul_right es hroom
     rw[Nat.add_mul]at this
     rw[hnl,hsz];omega
    have hrun:=run_append_room_at P w (ty:=ty) ht hi g og n c cur hg d k cap news (by rw[hnl,hsz]) hcell hn1 hroom hfit
    refine⟨_,_,hrun,.inr ⟨by rw[List.length_append,hxl,hnl,Nat.add_mul],g,og,c,_,rfl,hp,hg.set _ (by simp only[List.size_toArray,List.length_append,List.length_take,List.length_drop,Array.length_toList];omega),hroom,hcm,?_,?_⟩,⟨rfl,rfl,rfl,by simp[World.setRow],λb _ hb=>setRow_other w g b _ (λe=>hb (by rw[e];simp[blk];omega))⟩,λb hb=>.inl ?_,λb hb=>?_⟩
    ·simp only[List.size_toArray,List.length_append,List.length_take,List.length_drop,Array.length_toList];omega
    ·rw[hsz,List.append_assoc,List.drop_append_of_le_length (by simp;omega),List.drop_take,Nat.add_sub_cancel_left,htake,<-List.append_assoc,List.take_left' (by rw[List.length_append,hxl,hnl,Nat.add_mul])]
    ·simp[blk]at hb⊢;exact hb
    ·simp[blk]at hb;obtain⟨_,rfl⟩:=hb;simp[World.setRow];exact hg.lt
   ·have holds:∀(j:Nat)(u:Value),xs[j]?=some u->w.cell? ((⟨g,og,none⟩:Addr).add j)=some u:=by
     intro j u hu
     rw[Addr.add_lit]
     exact OwnS.cells (.inr ⟨hxl,g,og,c,cur,rfl,hp,hg,hnc,hcm,hcs,htake⟩) rfl j u hu
    have hrun:=run_append_grow (P:=P) w t ty e i zv ht hi hzi ⟨g,og,none⟩ n c xs (by rw[hxl,hsz]) holds d k cap news (by rw[hnl,hsz]) hcell (by omega) (by omega) (growslice_fits (by omega) (by rw[hbz];exact hsize))
    refine⟨_,_,hrun,grown c hxl (by omega),kp _ _,λb hb=>.inr ?_,λb hb=>?_⟩
    ·simp[blk]at hb;omega
    ·simp[blk]at hb;simp;omega
theorem sd_append0(h:SatAt M0 S0 w0 N T m ρ a w)(hlt:∀b,M0 b->b<w0.heap.size){t e ty:TypeId}{es by_:Nat}{od ox:Operand}{k:Option Nat}{l l2:List (List A)}{z:List C}{d:Nat}{v:Value}{xs:List Value}
 (hsrc:srcRows m (evT T ox)=some l2)(he:elemOf' P t=some e)(hz:zeroC P e=some z)(hzl:z.length=es)(hes0:0<es)(hszP:P.cellsOf e=es)(hby:P.bytesOf e=by_)(hby0:0<by_)
 (hle:∀r∈l,r.length=es)(hl2:∀r∈l2,r.length=es)(hkes:∀i,k=some i->∃l',m i=some (.osl false e es l'))(hd:m d=none)(hsize:(l.length+l2.length)*by_<=140737488355328)
 (hv:a.eval od=v)(hown:OwnS w e es v l.length xs\/(v=.slice none 0 0/\l.length=0/\xs=[]/\0<l2.length))(hxd:A.DenL w (Mut M0 m ρ) m ρ l.flatten xs)(hx1:∀u∈xs,u.oneCell'=true)(hvb:∀b,blk v=some b->∃i r,k=some i/\m i=some r/\r.live=true/\blk (ρ i)=some b)(hvk:∀i,k=some i->∃r,m i=some r/\r.live=true):
 ∃ρ' v w',(Builtin.append_ #[t,t] ty #[a.eval od,a.eval ox]).run P w=.ok v w'/\SatAt M0 S0 w0 N T (setM (applyU m (killU k)) d (.osl false e es (l++l2))) ρ' a w'/\Onto m (setM (applyU m (killU k)) d (.osl false e es (l++l2))) ρ ρ'/\
  (A.h d).Den w' (Mut M0 (setM (applyU m (killU k)) d (.osl false e es (l++l2))) ρ') (setM (applyU m (killU k)) d (.osl false e es (l++l2))) ρ' v:=by
 have ht:=elemOf'_eq he
 obtain⟨zv,_,hz2,⟨i,hi,hzi⟩,_⟩:=zeroC_run hz w
 have hzs:zv.cells.size=es:=by have:=(C.DenL_iff.1 (hz2 w (λ_=>False))).1;rw[hzl]at this;simpa using this.symm
 have hsz:i.size=es:=by rw[<-hszP];simp[Program.cellsOf,hi]
 have hbz:i.bytes=by_:=by rw[<-hby];simp[Program.bytesOf,hi]
 obtain⟨ad,cap,news,hy,hnl,hn1,hnd,hsrcm⟩:=src_mem h (ev_den h ox) hsrc hl2
 obtain⟨v',w',hrun,hown',hkeep,hwhere,hwlt⟩:=run_append P w (ty:=ty) (cap:=cap) ht hi hzi hsz hbz hzs hes0 hby0 hown hnl hn1 (hsrcm.imp (λ⟨q1,q2⟩=>⟨q1,by rw[q2];rfl⟩) id) hsize
 rw[<-hv,<-hy]at hrun
 have fin:∀{m':Mem}{M1:Nat->Prop},SatAt M1 S0 w0 N T m' ρ a w->(∀b,M0 b->M1 b)->(∀b,blk v=some b->M1 b/\¬M0 b/\(w0.heap.size<=b\/S0 b))->m' d=none->(∀b,Mut M1 m' ρ b->b<w.heap.size->Mut M0 m ρ b)->Onto m m' ρ ρ->
  SatAt M0 S0 w0 N T (setM m' d (.osl false e es (l++l2))) (setH ρ d v') a w':=by
  intro m' M1 h1 hM hvo hd' hmm hOm
  have h2:=h1.world hkeep (λb _ e=>⟨(hvo b e).1,(hvo b e).2.2⟩)
  refine h2.claim hd' (λb hb=>⟨.inl (hM b hb),λe=>?_⟩) (λb hb=>?_) rfl ?_
  ·rcases hwhere b e with f|f
   ·exact(hvo b f).2.1 hb
   ·have:=hlt b hb;have:=h.keeps.size;omega
  ·refine⟨?_,?_,hwlt b hb⟩
   ·rcases hwhere b hb with f|f
    ·exact .inl (hvo b f).1
    ·exact .inr f
   ·rcases hwhere b hb with f|f
    ·exact(hvo b f).2.2
    ·exact .inl (Nat.le_trans h.keeps.size f)
  ·have hlen:(l++l2).length=l.length+l2.length:=by simp
   refine⟨xs++news,by rw[hlen];exact hown',?_,?_,by simp,?_⟩
   ·rw[List.flatten_append]
    have hst:Stays (Mut M0 m ρ) w w':=hkeep.stays λb _ e=>by
     obtain⟨i',r',_,q1,q2,q3⟩:=hvb b e
     exact .inr ⟨i',r',q1,q2,q3⟩
    have hsub:∀b,Mut M0 (setM m' d (.osl false e es (l++l2))) (setH ρ d v') b->b<w.heap.size->Mut M0 m ρ b:=by
     rintro b (q|⟨j,r,q1,q2,q3⟩) hb
     ·exact .inl q
     ·by_cases ej:j=d
      ·subst ej
       simp[setH]at q3
       rcases hwhere b q3 with f|f
       ·obtain⟨i',r',_,p1,p2,p3⟩:=hvb b f
        exact .inr ⟨i',r',p1,p2,p3⟩
       ·omega
      ·exact hmm b (.inr ⟨j,r,by simpa [setM,ej]using q1,q2,by simpa [setH,ej]using q3⟩) hb
    have hOn:Onto m (setM m' d (.osl false e es (l++l2))) ρ (setH ρ d v'):=hOm.trans (Onto.new _ _ hd')
    exact A.DenL_append (A.DenL_mono hst hsub hOn _ _ hxd) (A.DenL_mono hst hsub hOn _ _ hnd)
   ·intro r hr;simp at hr;exact hr.elim (hle r) (hl2 r)
   ·intro u hu;simp at hu;exact hu.elim (hx1 u) (hn1 u)
 refine⟨setH ρ d v',v',w',hrun,?_,?_,?_⟩
 rotate_left 1
 ·cases k with
  |none=>exact Onto.new _ _ hd
  |some i'=>
   obtain⟨l',hl'⟩:=hkes i' rfl
   have hdi:d≠i':=by rintro rfl;rw[hd]at hl';cases hl'
   refine Onto.trans (m2:=setM m i' .dead) (ρ2:=ρ) ?_ (Onto.new _ _ (by simp[setM,hdi,hd]))
   have:=Onto.set (m:=m) (ρ:=ρ) i' .dead (ρ i') (λ_ e=>absurd rfl e)
   rwa [setH_same]at this
 rotate_left 1
 ·cases k with
  |none=>
   refine fin h (λ_ hb=>hb) (λb hb=>?_) hd (λb hb _=>hb) (Onto.refl m ρ)
   obtain⟨_,_,q,_⟩:=hvb b hb;cases q
  |some i'=>
   obtain⟨r',hr1,hr2⟩:=hvk i' rfl
   have hk:=h.kill hr1 hr2
   have hdi:d≠i':=by rintro rfl;rw[hd]at hr1;cases hr1
   refine fin hk (λ_ hb=>.inl hb) (λb hb=>?_) (by simp[killU,applyU,setM,hdi,hd]) ?_ ?_
   rotate_left 2
   ·have:=Onto.set (m:=m) (ρ:=ρ) i' .dead (ρ i') (λ_ e=>absurd rfl e)
    rwa [setH_same]at this
   ·obtain⟨i2,r2,q0,q1,q2,q3⟩:=hvb b hb
    cases q0
    obtain⟨q4,q5,_⟩:=h.own i' r2 b q1 q2 q3
    exact⟨.inr q3,q5,q4⟩
   ·rintro b ((q|q)|⟨j,r,q1,q2,q3⟩) _
    ·exact .inl q
    ·exact .inr ⟨i',r',hr1,hr2,q⟩
    ·by_cases ej:j=i'
     ·subst ej;simp[killU,applyU,setM]at q1;subst q1;simp[R.live]at q2
     ·exact .inr ⟨j,r,by simpa [killU,applyU,setM,ej]using q1,q2,q3⟩
 ·simp only[A.Den]
  exact⟨by simp[setM],λ_=>by simp[setH]⟩
theorem sd_append(h:SatAt M0 S0 w0 N T m ρ a w)(hlt:∀b,M0 b->b<w0.heap.size){t e ty:TypeId}{es by_:Nat}{od ox:Operand}{k:Option Nat}{l l2:List (List A)}{z:List C}{d:Nat}
 (hdst:dstRows m (evT T od)=some (k,l))(hsrc:srcRows m (evT T ox)=some l2)(he:elemOf' P t=some e)(hz:zeroC P e=some z)(hzl:z.length=es)(hes0:0<es)(hszP:P.cellsOf e=es)(hby:P.bytesOf e=by_)(hby0:0<by_)
 (hle:∀r∈l,r.length=es)(hl2:∀r∈l2,r.length=es)(hkes:∀i,k=some i->∃l',m i=some (.osl false e es l'))(hd:m d=none)(hkn:k=none->l2≠[])(hsize:(l.length+l2.length)*by_<=140737488355328):
 ∃ρ' v w',(Builtin.append_ #[t,t] ty #[a.eval od,a.eval ox]).run P w=.ok v w'/\SatAt M0 S0 w0 N T (setM (applyU m (killU k)) d (.osl false e es (l++l2))) ρ' a w'/\Onto m (setM (applyU m (killU k)) d (.osl false e es (l++l2))) ρ ρ'/\
  (A.h d).Den w' (Mut M0 (setM (applyU m (killU k)) d (.osl false e es (l++l2))) ρ') (setM (applyU m (killU k)) d (.osl false e es (l++l2))) ρ' v:=by
 have hdd:∃(v:Value)(xs:List Value),a.eval od=v/\(OwnS w e es v l.length xs\/(v=.slice none 0 0/\l.length=0/\xs=[]/\0<l2.length))/\A.DenL w (Mut M0 m ρ) m ρ l.flatten xs/\(∀u∈xs,u.oneCell'=true)/\(∀b,blk v=some b->∃i r,k=some i/\m i=some r/\r.live=true/\blk (ρ i)=some b)/\(∀i,k=some i->∃r,m i=some r/\r.live=true):=by
  have hev:=ev_den h od
  cases hod:evT T od with
  |h i'=>
   rw[hod]at hdst hev
   simp only[dstRows]at hdst
   split at hdst
   ·rename_i t' es' l' hm'
    simp only[Option.some.injEq,Prod.mk.injEq]at hdst
    obtain⟨rfl,rfl⟩:=hdst
    simp only[A.Den]at hev
    have hv:=has_of hev hm' (by simp)
    obtain⟨l3,h1⟩:=hkes i' rfl
    rw[hm']at h1;simp at h1;obtain⟨rfl,rfl,rfl⟩:=h1
    obtain⟨xs,g1,g2,g3,g4,g5⟩:=h.res i' _ hm'
    exact⟨ρ i',xs,hv,.inl g1,g2,g5,λb hb=>⟨i',_,rfl,hm',rfl,hb⟩,λi e=>by cases e;exact⟨_,hm',rfl⟩⟩
   ·cases hdst
  |d c=>
   rw[hod]at hdst hev
   cases c with
   |nl es'=>
    simp only[dstRows,Option.some.injEq,Prod.mk.injEq]at hdst
    obtain⟨rfl,rfl⟩:=hdst
    simp only[A.Den,C.Den]at hev
    exact⟨.slice none 0 0,[],hev,.inr ⟨rfl,rfl,rfl,List.length_pos_iff.2 (hkn rfl)⟩,by simp[A.DenL],by simp,by simp[blk],by simp⟩
   |_=>simp[dstRows]at hdst
  |_=>rw[hod]at hdst;simp[dstRows]at hdst
 obtain⟨v,xs,hv,hown,hxd,hx1,hvb,hvk⟩:=hdd
 exact sd_append0 h hlt hsrc he hz hzl hes0 hszP hby hby0 hle hl2 hkes hd hsize hv hown hxd hx1 hvb hvk
end
end Go.Pv
namespace Go.Pv
open Go.RowKit
theorem madeCells_den{w:World}{M:Nat->Prop}{z:List C}{zero:Array Value}(hz:C.DenL w M z zero.toList)(h0:0<z.length)(n k:Nat)(hk:k<=n):
 C.DenL w M (List.replicate k z).flatten (((Array.range (n*z.length)).map (zero[· %zero.size]!)).toList.take (k*z.length)):=by
 have hzl:z.length=zero.size:=by simpa using(C.DenL_iff.1 hz).1
 have hrows:∀e∈List.replicate k z,e.length=z.length:=λe he=>by rw[List.eq_of_mem_replicate he]
 have hfl:(List.replicate k z).flatten.length=k*z.length:=by rw[length_flatten_rows hrows];simp
 rw[C.DenL_iff]
 refine⟨?_,λj c y hc hy=>?_⟩
 ·have hsz:((Array.range (n*z.length)).map (zero[· %zero.size]!)).toList.length=n*z.length:=by rw[Array.length_toList (xs:=(Array.range (n*z.length)).map (zero[· %zero.size]!)),Array.size_map,Array.size_range]
  rw[hfl,List.length_take,hsz]
  exact(Nat.min_eq_left (Nat.mul_le_mul_right _ hk)).symm
 ·have hj:j<k*z.length:=by rw[<-hfl];exact(List.getElem?_eq_some_iff.1 hc).1
  rw[List.getElem?_take,if_pos hj]at hy
  have hjn:j<n*z.length:=Nat.lt_of_lt_of_le hj (Nat.mul_le_mul_right _ hk)
  have hy':y=zero[j %zero.size]! :=by
   rw[Array.getElem?_toList,Array.getElem?_map,Array.getElem?_range,if_pos hjn]at hy
   simpa using hy.symm
  subst hy'
  have hmod:j %z.length<z.length:=Nat.mod_lt _ h0
  have hdiv:j/z.length<k:=by rw[Nat.div_lt_iff_lt_mul h0];exact hj
  have hrow:=getElem?_flatten_row z.length (List.replicate k z) (j/z.length) z (j %z.length) hrows (by simp[hdiv]) hmod
  rw[show j/z.length*z.length+j %z.length=j by rw[Nat.mul_comm];exact Nat.div_add_mod _ _]at hrow
  rw[hrow]at hc
  rw[<-hzl]
  have hlt:j %z.length<zero.toList.length:=by simp;omega
  have:=(C.DenL_iff.1 hz).2 _ c _ hc (List.getElem?_eq_getElem hlt)
  simp at hlt
  simpa [hlt]using this
theorem madeCells_one{zero:Array Value}(h0:∀u∈zero.toList,u.oneCell'=true)(hz:0<zero.size)(n:Nat):∀u∈((Array.range n).map (zero[· %zero.size]!)).toList,u.oneCell'=true:=by
 intro u hu
 simp at hu
 obtain⟨j,_,rfl⟩:=hu
 have hlt:j %zero.size<zero.size:=Nat.mod_lt _ hz
 have:zero[j %zero.size]! =zero[j %zero.size]:=by simp[hlt]
 rw[this];exact h0 _ (by simp)
def fillR(es:Nat):List (List A)->List (Nat×List A)->Option (List (List A))
 |rs,[]=>some rs
 |rs,(i,row)::rest=>if i<rs.length/\row.length=es then fillR es (rs.set i row) rest else none
theorem fillR_den{w:World}{M:Nat->Prop}{m:Mem}{ρ:Nat->Value}{es:Nat}{ps:List (Nat×List A)}{vs:List (Nat×Value)}(hps:Parts w M m ρ ps vs):
 ∀{rs out:List (List A)}{cs:Array Value},A.DenL w M m ρ rs.flatten cs.toList->(∀u∈cs.toList,u.oneCell'=true)->(∀e∈rs,e.length=es)->fillR es rs ps=some out->
  ∃cs',Instr.fill (λi=>some (i*es,es)) cs vs=some cs'/\A.DenL w M m ρ out.flatten cs'.toList/\(∀u∈cs'.toList,u.oneCell'=true)/\(∀e∈out,e.length=es)/\out.length=rs.length:=by
 induction hps with
 |nil=>
  intro rs out cs hd hcs hr hf
  simp only[fillR,Option.some.injEq]at hf;subst hf
  exact⟨cs,rfl,hd,hcs,hr,rfl⟩
 |cons h h0 t ih=>
  rename_i i l y r s
  intro rs out cs hd hcs hr hf
  simp only[fillR]at hf
  split at hf
  ·rename_i hc
   obtain⟨hc1,hc2⟩:=hc
   have hlen:=(A.DenL_iff.1 h).1
   have hlen2:=(A.DenL_iff.1 hd).1
   rw[length_flatten_rows hr]at hlen2
   have hb:i*es+es<=rs.length*es:=by
    calc i*es+es=(i+1)*es:=by rw[Nat.succ_mul]
     _<=rs.length*es:=Nat.mul_le_mul_right _ hc1
   have hfold:=foldl_set y.cells.toList 0 (i*es) cs (by simp at hlen hlen2⊢;omega)
   have hz:y.cells.zipIdx.foldl (λcs(x:Value×Nat)=>cs.setIfInBounds (i*es+x.2) x.1) cs=(y.cells.toList.zipIdx 0).foldl (λcs(x:Value×Nat)=>cs.setIfInBounds (i*es+x.2) x.1) cs:=by
    rw[<-Array.foldl_toList];simp
   obtain⟨cs',h1,h2,h3,h4,h5⟩:=ih (cs:=y.cells.zipIdx.foldl (λcs(x:Value×Nat)=>cs.setIfInBounds (i*es+x.2) x.1) cs) (by
    rw[hz,hfold,flatten_set rs i l hr hc1 hc2];exact A.DenL_spl _ hd h) (by
    rw[hz,hfold];intro u hu
    simp only[splA,List.mem_append]at hu
    rcases hu with hu|hu|hu
    · exact hcs u (List.mem_of_mem_take hu)
    · exact h0 u hu
    · exact hcs u (List.mem_of_mem_drop hu)) (by
    intro e he
    rcases List.mem_or_eq_of_mem_set he with he|he
    · exact hr e he
    · rw[he];exact hc2) hf
   refine⟨cs',?_,h2,h3,h4,by rw[h5];simp⟩
   simp only[Instr.fill]
   rw[if_neg]
   ·exact h1
   ·simp at hlen hlen2;simp;omega
  ·cases hf
def optCells(m:Mem):List (Nat×A)->Option (List (Nat×List A))
 |[]=>some []
 |(i,x)::r=>match x.cells m,optCells m r with
  |some l,some t=>some ((i,l)::t)
  |_,_=>none
section
variable{M0 S0:Nat->Prop}{w0:World}{N:Fr}{T:Nat->A}{m:Mem}{ρ:Nat->Value}{a:Act}{w:World}{P:Program}
theorem replicate_map_d(n:Nat)(z:List C):(List.replicate n (z.map A.d)).flatten=(List.replicate n z).flatten.map A.d:=by
 rw[<-flatten_map_d,List.map_replicate]
theorem optCells_den(h:SatAt M0 S0 w0 N T m ρ a w):∀{ps:List (Nat×Operand)}{rs:List (Nat×List A)},optCells m (ps.map λp=>(p.1,evT T p.2))=some rs->Parts w (Mut M0 m ρ) m ρ rs (ps.map λp=>(p.1,a.eval p.2))
 |[],rs,hc=>by simp only[List.map_nil,optCells,Option.some.injEq]at hc;subst hc;exact .nil
 |(i,o)::r,rs,hc=>by
  simp only[List.map_cons,optCells]at hc
  split at hc
  ·rename_i l t h1 h2
   simp only[Option.some.injEq]at hc;subst hc
   obtain⟨g1,g2⟩:=cells_den h (ev_den h o) h1
   exact .cons g1 g2 (optCells_den h h2)
  ·cases hc
theorem sd_buildSlice(h:SatAt M0 S0 w0 N T m ρ a w)(hlt:∀b,M0 b->b<w0.heap.size){t e:TypeId}{len es:Nat}{ps:List (Nat×Operand)}{out:List (List A)}{rp:List (Nat×List A)}{z:List C}{d:Nat}
 (he:elemOf' P t=some e)(hz:zeroC P e=some z)(hzl:z.length=es)(hes0:0<es)(hszP:P.cellsOf e=es)(hsize:len*es<=16777216)(hc:optCells m (ps.map λp=>(p.1,evT T p.2))=some rp)(hf:fillR es (List.replicate len (z.map A.d)) rp=some out)(hd:m d=none):
 ∃ρ' v w',(Instr.buildSlice t len (ps.map λp=>(p.1,a.eval p.2)).toArray).run P w=.ok v w'/\SatAt M0 S0 w0 N T (setM m d (.osl false e es out)) ρ' a w'/\Onto m (setM m d (.osl false e es out)) ρ ρ'/\
  (A.h d).Den w' (Mut M0 (setM m d (.osl false e es out)) ρ') (setM m d (.osl false e es out)) ρ' v:=by
 have ht:=elemOf'_eq he
 obtain⟨zv,hz1,hz2,⟨i,hi,hzi⟩,hz0⟩:=zeroC_run hz w
 have hp:=optCells_den h hc
 have hzs:zv.cells.size=es:=by have:=(C.DenL_iff.1 (hz2 w (λ_=>False))).1;rw[hzl]at this;simpa using this.symm
 have hmd:=madeCells_den (hz2 w (Mut M0 m ρ)) (by rw[hzl];exact hes0) len len (Nat.le_refl _)
 rw[hzl]at hmd
 have htk:(((Array.range (len*es)).map (zv.cells[· %zv.cells.size]!)).toList.take (len*es))=((Array.range (len*es)).map (zv.cells[· %zv.cells.size]!)).toList:=by
  rw[List.take_of_length_le];simp
 rw[htk]at hmd
 have hmd':=(A.DenL_map_d (m:=m) (ρ:=ρ)).2 hmd
 rw[<-replicate_map_d]at hmd'
 obtain⟨cs',g1,g2,g3,g4,g5⟩:=fillR_den hp hmd' (madeCells_one hz0 (by omega) _) (λe' he'=>by rw[List.eq_of_mem_replicate he',List.length_map,hzl]) hf
 have hlen:out.length=len:=by rw[g5];simp
 have hcs:cs'.size=len*es:=by have:=(A.DenL_iff.1 g2).1;rw[length_flatten_rows g4,hlen]at this;simpa using this.symm
 refine⟨setH ρ d (.slice (some ⟨w.heap.size,0,none⟩) len len),.slice (some ⟨w.heap.size,0,none⟩) len len,w.alloc (.cells cs' e),?_,?_,Onto.new _ _ hd,?_⟩
 ·have hzr:(zeroValue e).run P w=.ok zv w:=hz1
  have hng:¬(2^24<len*es):=by omega
  by_cases h0:len*es=0
  ·have hl0:len=0:=by rcases Nat.mul_eq_zero.1 h0 with q|q<;>omega
   subst hl0
   have e0:(Array.range (0*es)).map (λx=>zv.cells[x %zv.cells.size]!)= #[]:=by simp
   rw[e0]at g1
   have e1:(Array.map (λx=>(default:Value)) (Array.range 0))= #[]:=by simp
   simp[Instr.buildSlice,run_underlying ht,run_sizeOf hi,hszP,newRow,Array.range_zero',e1,g1]
  ·simp only[Instr.buildSlice,Sem.run_bind,run_underlying ht,Result.andThen_ok,run_sizeOf hi,hszP,gt_iff_lt,if_neg hng,h0,if_false,hzr,Sem.run_pure,Pure.pure,List.toList_toArray]
   simp only[Sem.run_pure',Result.andThen_ok,g1,newRow,run_newObj,Sem.run_bind,World.alloc_eq]
   rfl
 ·refine h.newres hlt (keeps_alloc w _) hd rfl (by simp[blk]) ?_
  intro hO hst hm
  refine⟨cs'.toList,?_,A.DenL_mono hst hm hO _ _ g2,g4,by simp,g3⟩
  by_cases h0:len=0
  ·subst h0
   exact .inl ⟨List.eq_nil_of_length_eq_zero (by simp[hcs]),hlen,_,rfl⟩
  ·refine .inr ⟨by rw[hlen];simpa using hcs,w.heap.size,0,len,cs',by rw[hlen],by omega,.of (heap_alloc_new w _),by rw[hlen];exact Nat.le_refl _,?_,by rw[Nat.zero_add,hcs];exact Nat.le_refl _,?_⟩
   ·have:len*1<=len*es:=Nat.mul_le_mul_left _ hes0
    unfold maxLen;omega
   ·rw[List.drop_zero,hlen,List.take_of_length_le];simp[hcs]
 ·simp only[A.Den]
  exact⟨by simp[setM],λ_=>by simp[setH]⟩
theorem sd_makeSlice(h:SatAt M0 S0 w0 N T m ρ a w)(hlt:∀b,M0 b->b<w0.heap.size){t e:TypeId}{es by_:Nat}{z:List C}{d:Nat}{kl kc:IntKind}{l c:Int}
 (he:elemOf' P t=some e)(hz:zeroC P e=some z)(hzl:z.length=es)(hes0:0<es)(hszP:P.cellsOf e=es)(hby:P.bytesOf e=by_)(h0:0<=l)(hlc:l<=c)(hbytes:(by_:Int)*c<=281474976710656)(h63:c<=9223372036854775807)(hd:m d=none):
 ∃ρ' v w',(Instr.makeSlice t (.int kl l) (.int kc c)).run P w=.ok v w'/\SatAt M0 S0 w0 N T (setM m d (.osl false e es (List.replicate l.toNat (z.map A.d)))) ρ' a w'/\Onto m (setM m d (.osl false e es (List.replicate l.toNat (z.map A.d)))) ρ ρ'/\
  (A.h d).Den w' (Mut M0 (setM m d (.osl false e es (List.replicate l.toNat (z.map A.d)))) ρ') (setM m d (.osl false e es (List.replicate l.toNat (z.map A.d)))) ρ' v:=by
 have ht:=elemOf'_eq he
 obtain⟨zv,hz1,hz2,⟨i,hi,hzi⟩,hz0⟩:=zeroC_run hz w
 have hzs:zv.cells.size=es:=by have:=(C.DenL_iff.1 (hz2 w (λ_=>False))).1;rw[hzl]at this;simpa using this.symm
 have hsz:i.size=es:=by rw[<-hszP];simp[Program.cellsOf,hi]
 have hbz:i.bytes=by_:=by rw[<-hby];simp[Program.bytesOf,hi]
 have hrun:=run_make (P:=P) w t e i zv ht hi hzi kl kc l c h0 hlc (by rw[hbz];exact hbytes) h63
 have hle:l.toNat<=c.toNat:=by omega
 refine⟨setH ρ d (.slice (some ⟨w.heap.size,0,none⟩) l.toNat c.toNat),_,_,hrun,?_,Onto.new _ _ hd,?_⟩
 ·refine h.newres hlt (keeps_alloc w _) hd rfl (by simp[blk]) ?_
  intro hO hst hm
  have hmd:=madeCells_den (hz2 (w.alloc (.cells (madeCells zv.cells (c.toNat*i.size)) e)) (Mut M0 (setM m d (.osl false e es (List.replicate l.toNat (z.map A.d)))) (setH ρ d (.slice (some ⟨w.heap.size,0,none⟩) l.toNat c.toNat)))) (by rw[hzl];exact hes0) c.toNat l.toNat hle
  rw[hzl]at hmd
  have hml:(((Array.range (c.toNat*es)).map (zv.cells[· %zv.cells.size]!)).toList.take (l.toNat*es)).length=l.toNat*es:=by
   have:l.toNat*es<=c.toNat*es:=Nat.mul_le_mul_right _ hle
   have hsz:((Array.range (c.toNat*es)).map (zv.cells[· %zv.cells.size]!)).toList.length=c.toNat*es:=by rw[Array.length_toList (xs:=(Array.range (c.toNat*es)).map (zv.cells[· %zv.cells.size]!)),Array.size_map,Array.size_range]
   rw[List.length_take,hsz];omega
  refine⟨((Array.range (c.toNat*es)).map (zv.cells[· %zv.cells.size]!)).toList.take (l.toNat*es),?_,by rw[replicate_map_d];exact A.DenL_map_d.2 hmd,?_,by simp,?_⟩
  ·by_cases hc0:c.toNat=0
   ·have hl0:l.toNat=0:=by omega
    exact .inl ⟨List.eq_nil_of_length_eq_zero (by rw[hml,hl0];simp),by simp[hl0],⟨w.heap.size,0,none⟩,by rw[hl0,hc0]⟩
   ·exact .inr ⟨by rw[hml];simp,w.heap.size,0,c.toNat,_,by simp,by omega,.of (heap_alloc_new w _),by simpa using hle,by unfold maxLen;omega,by simp[madeCells,hsz],by simp[madeCells,hsz]⟩
  ·intro e' he';rw[List.eq_of_mem_replicate he',List.length_map,hzl]
  ·exact λu hu=>madeCells_one hz0 (by omega) _ u (List.mem_of_mem_take hu)
 ·simp only[A.Den]
  exact⟨by simp[setM],λ_=>by simp[setH]⟩
theorem sd_makeMap(h:SatAt M0 S0 w0 N T m ρ a w)(hlt:∀b,M0 b->b<w0.heap.size){t:TypeId}{d:Nat}(hd:m d=none):
 ∃ρ' v w',(Instr.makeMap t none).run P w=.ok v w'/\SatAt M0 S0 w0 N T (setM m d (.mp false [] [])) ρ' a w'/\Onto m (setM m d (.mp false [] [])) ρ ρ'/\
  (A.h d).Den w' (Mut M0 (setM m d (.mp false [] [])) ρ') (setM m d (.mp false [] [])) ρ' v:=by
 refine⟨setH ρ d (.map (some w.heap.size)),.map (some w.heap.size),w.alloc (.map #[] 0),by simp[Instr.makeMap],?_,Onto.new _ _ hd,?_⟩
 ·refine h.newres hlt (keeps_alloc w _) hd rfl (by simp[blk]) ?_
  intro hO hst hm
  exact⟨w.heap.size,#[],0,[],rfl,heap_alloc_new w _,⟨by simp,rfl,by simp,by simp,by simp⟩,by simp[A.DenL],by simp,by simp[StIs]⟩
 ·simp only[A.Den]
  exact⟨by simp[setM],λ_=>by simp[setH]⟩
end
end Go.Pv
namespace Go.Pv
open Go.RowKit
def inR(k:IntKind)(n:Int):Prop:=k.min<=n/\n<=k.max
instance(k:IntKind)(n:Int):Decidable (inR k n):=by unfold inR;infer_instance
theorem wrap_inR{k:IntKind}{n:Int}(h:inR k n):k.wrap n=n:=by
 unfold inR at h
 cases k<;>simp[IntKind.min,IntKind.max,IntKind.signed,IntKind.bits]at h<;>simp[IntKind.wrap,IntKind.signed,IntKind.bits]<;>(try split)<;>omega
theorem inR_i64{n:Int}(h:-9223372036854775808<=n)(h':n<=9223372036854775807):inR .i64 n:=by
 simp[inR,IntKind.min,IntKind.max,IntKind.signed,IntKind.bits];omega
def bitsF(op:BinOp)(k:IntKind)(x y:Int):Int:=
 let a:=BitVec.ofInt k.bits x
 let b:=BitVec.ofInt k.bits y
 k.wrap (match op with
  |.and=>(a&&&b).toNat
  |.or=>(a|||b).toNat
  |.xor=>(a^^^b).toNat
  |_=>(a&&&~~~b).toNat:Nat)
def effInt(op:BinOp)(k k':IntKind)(a b:Int):Option (Bool×C):=
 match op with
 |.add=>some (decide (k=k'/\inR k (a+b)),.v (.int k (a+b)))
 |.sub=>some (decide (k=k'/\inR k (a -b)),.v (.int k (a -b)))
 |.mul=>some (decide (k=k'/\inR k (a*b)),.v (.int k (a*b)))
 |.quo=>some (decide (k=k'/\b≠0/\inR k (a.tdiv b)),.v (.int k (a.tdiv b)))
 |.rem=>some (decide (k=k'/\b≠0),.v (.int k (a.tmod b)))
 |.and=>some (decide (k=k'),.v (.int k (bitsF .and k a b)))
 |.or=>some (decide (k=k'),.v (.int k (bitsF .or k a b)))
 |.xor=>some (decide (k=k'),.v (.int k (bitsF .xor k a b)))
 |.andNot=>some (decide (k=k'),.v (.int k (bitsF .andNot k a b)))
 |.shl=>some (decide (0<=b),.v (.int k (k.wrap (a*2^(min b.toNat k.bits)))))
 |.shr=>some (decide (0<=b),.v (.int k (a.fdiv (2^(min b.toNat k.bits)))))
 |.eql=>some (decide (k=k'),.v (.bool (decide (a=b))))
 |.neq=>some (decide (k=k'),.v (.bool (!decide (a=b))))
 |.lss=>some (decide (k=k'),.v (.bool (decide (a<b))))
 |.leq=>some (decide (k=k'),.v (.bool (decide (a<=b))))
 |.gtr=>some (decide (k=k'),.v (.bool (decide (b<a))))
 |.geq=>some (decide (k=k'),.v (.bool (decide (b<=a))))
def eqCells:List C->List C->Option Bool
 |[],[]=>some true
 |.v (.int k a)::r,.v (.int k' b)::s=>if k=k' then(eqCells r s).map λt=>decide (a=b)&&t else none
 |.v (.bool a)::r,.v (.bool b)::s=>(eqCells r s).map λt=>decide (a=b)&&t
 |.v (.string a)::r,.v (.string b)::s=>(eqCells r s).map λt=> @decide (a=b) (sDec a b)&&t
 |_,_=>none
def isNil(m:Mem):A->Option (Nat×Bool)
 |.d (.v (.pointer none))=>some (0,true)
 |.d (.v (.map none))=>some (1,true)
 |.d (.v .nilFunc)=>some (3,true)
 |.d (.nl _)=>some (2,true)
 |.d (.ip _)=>some (0,false)
 |.d (.im _ _)=>some (1,false)
 |.d (.fn _ _ _)=>some (3,false)
 |.lp i _=>if aliveB m i then some (0,false)else none
 |.ep i _ _ _=>if aliveB m i then some (0,false)else none
 |.h i=>match m i with
  |some (.mp _ _ _)=>some (1,false)
  |some (.osl _ _ _ _)=>some (2,false)
  |some (.lo _ _ _ _ _ _)=>some (3,false)
  |_=>none
 |.sv i _ _=>match m i with
  |some (.osl _ _ _ (_::_))=>some (2,false)
  |_=>none
 |.d (.sl _ (_::_))=>some (2,false)
 |.fn _ _ _=>some (3,false)
 |_=>none
def nilT(P:Program)(t:TypeId):Option Nat:=
 match P.underlying t with
 |some (.pointer _)=>some 0
 |some (.map _ _)=>some 1
 |some (.slice _)=>some 2
 |some (.func _ _ _)=>some 3
 |_=>none
def isBoolT(P:Program)(t:TypeId):Bool:=match P.underlying t with
 |some .bool=>true
 |_=>false
theorem isBoolT_eq{P:Program}{t:TypeId}(h:isBoolT P t=true):P.underlying t=some .bool:=by
 unfold isBoolT at h;split at h<;>simp_all
def isStrT(P:Program)(t:TypeId):Bool:=match P.underlying t with
 |some .string=>true
 |_=>false
theorem isStrT_eq{P:Program}{t:TypeId}(h:isStrT P t=true):P.underlying t=some .string:=by
 unfold isStrT at h;split at h<;>simp_all
def effEq(P:Program)(m:Mem)(t:TypeId)(x y:A):Option (Bool×Bool):=
 match x,y with
 |.d (.v (.bool a)),.d (.v (.bool b))=>some (isBoolT P t,decide (a=b))
 |.d (.v (.string a)),.d (.v (.string b))=>some (true,@decide (a=b) (sDec a b))
 |x,y=>match isNil m x,isNil m y with
  |some (k,true),some (k',b)=>some (decide (nilT P t=some k/\k=k'),b)
  |some (k,b),some (k',true)=>some (decide (nilT P t=some k/\k=k'),b)
  |_,_=>none
def sCat(a b:ByteArray):ByteArray:=⟨(a.data.toList++b.data.toList).toArray⟩
theorem sCat_eq(a b:ByteArray):sCat a b=a++b:=by
 unfold sCat
 rw[ByteArray.ext_iff]
 simp
def effCat(x y:A):Option E:=
 match x,y with
 |.d (.v (.string a)),.d (.v (.string b))=>some (Nat.ble (a.data.toList.length+b.data.toList.length) 1000000,.d (.v (.string (sCat a b))),[])
 |_,_=>none
def effBin(P:Program)(m:Mem)(op:BinOp)(t:TypeId)(x y:A):Option E:=
 match x,y with
 |.d (.v (.int k a)),.d (.v (.int k' b))=>(effInt op k k' a b).map λr=>(r.1,.d r.2,[])
 |x,y=>match op with
  |.eql=>(effEq P m t x y).map λr=>(r.1,.d (.v (.bool r.2)),[])
  |.neq=>(effEq P m t x y).map λr=>(r.1,.d (.v (.bool (!r.2))),[])
  |.add=>effCat x y
  |_=>none
section
variable{M0 S0:Nat->Prop}{w0:World}{N:Fr}{T:Nat->A}{m:Mem}{ρ:Nat->Value}{a:Act}{w:World}{P:Program}
theorem sd_int{op:BinOp}{t:TypeId}{k k':IntKind}{x y:Int}{pre:Bool}{c:C}(he:effInt op k k' x y=some (pre,c))(hp:pre=true):
 ∃z,(binOp op t (.int k x) (.int k' y)).run P w=.ok z w/\∀M,c.Den w M z:=by
 cases op<;>simp only[effInt,Option.some.injEq,Prod.mk.injEq]at he<;>obtain⟨rfl,rfl⟩:=he<;>have hp:=of_decide_eq_true hp
 case add=>obtain⟨rfl,h⟩:=hp;exact⟨_,by simp[binOp_add,Op.intArith,wrap_inR h];rfl,λM=>by simp[C.Den]⟩
 case sub=>obtain⟨rfl,h⟩:=hp;exact⟨_,by simp[binOp_sub,Op.intArith,wrap_inR h];rfl,λM=>by simp[C.Den]⟩
 case mul=>obtain⟨rfl,h⟩:=hp;exact⟨_,by simp[binOp_mul,Op.intArith,wrap_inR h];rfl,λM=>by simp[C.Den]⟩
 case quo=>obtain⟨rfl,h0,h⟩:=hp;exact⟨_,by simp[binOp_quo,Op.intDiv,wrap_inR h,h0];rfl,λM=>by simp[C.Den]⟩
 case rem=>obtain⟨rfl,h0⟩:=hp;exact⟨_,by simp[binOp_rem,Op.intDiv,h0];rfl,λM=>by simp[C.Den]⟩
 case and=>subst hp;exact⟨_,by simp[binOp_and,Op.intBits];rfl,λM=>by simp[C.Den,bitsF]⟩
 case or=>subst hp;exact⟨_,by simp[binOp_or,Op.intBits];rfl,λM=>by simp[C.Den,bitsF]⟩
 case xor=>subst hp;exact⟨_,by simp[binOp_xor,Op.intBits];rfl,λM=>by simp[C.Den,bitsF]⟩
 case andNot=>subst hp;exact⟨_,by simp[binOp_andNot,Op.intBits];rfl,λM=>by simp[C.Den,bitsF]⟩
 case shl=>have:¬y<0:=by omega
           exact⟨_,by simp[binOp_shl,Op.shift,this];rfl,λM=>by simp[C.Den]⟩
 case shr=>have:¬y<0:=by omega
           exact⟨_,by simp[binOp_shr,Op.shift,this];rfl,λM=>by simp[C.Den]⟩
 case eql=>subst hp;exact⟨_,by simp[binOp_eql];rfl,λM=>by simp[C.Den];exact Bool.eq_iff_iff.2 (by simp)⟩
 case neq=>subst hp;exact⟨_,by simp[binOp_neq];rfl,λM=>by simp[C.Den,bne];exact Bool.eq_iff_iff.2 (by simp)⟩
 case lss=>subst hp;exact⟨_,by simp[binOp_lss];rfl,λM=>by simp[C.Den]⟩
 case leq=>subst hp;exact⟨_,by simp[binOp_leq];rfl,λM=>by simp[C.Den]⟩
 case gtr=>subst hp;exact⟨_,by simp[binOp_gtr];rfl,λM=>by simp[C.Den]⟩
 case geq=>subst hp;exact⟨_,by simp[binOp_geq];rfl,λM=>by simp[C.Den]⟩
def nilV:Value->Option (Nat×Bool)
 |.pointer p=>some (0,p.isNone)
 |.map r=>some (1,r.isNone)
 |.slice a _ _=>some (2,a.isNone)
 |.nilFunc=>some (3,true)
 |.func _ _ _=>some (3,false)
 |_=>none
theorem isNil_den(h:SatAt M0 S0 w0 N T m ρ a w){x:A}{y:Value}{b:Nat×Bool}(hx:x.Den w (Mut M0 m ρ) m ρ y)(hn:isNil m x=some b):nilV y=some b:=by
 cases x with
 |d c=>
  cases c with
  |v z=>
   simp only[A.Den,C.Den]at hx;subst hx
   cases y<;>simp[isNil]at hn
   ·rename_i p;cases p<;>simp[isNil]at hn;subst hn;rfl
   ·rename_i p;cases p<;>simp[isNil]at hn;subst hn;rfl
   ·subst hn;rfl
  |nl es=>simp only[A.Den,C.Den]at hx;subst hx;simp[isNil]at hn;subst hn;rfl
  |ip l=>simp only[A.Den,C.Den]at hx;obtain⟨_,_,rfl,_⟩:=hx;simp[isNil]at hn;subst hn;rfl
  |im l=>simp only[A.Den,C.Den]at hx;obtain⟨_,_,_,_,rfl,_⟩:=hx;simp[isNil]at hn;subst hn;rfl
  |fn f u v=>simp only[A.Den,C.Den]at hx;obtain⟨_,_,rfl,_⟩:=hx;simp[isNil]at hn;subst hn;rfl
  |sl es l=>
   cases l with
   |nil=>simp[isNil]at hn
   |cons e r=>
    simp only[A.Den,C.Den]at hx
    obtain⟨a',cap,rfl,_,h2⟩:=hx
    simp[isNil]at hn;subst hn
    rcases h2 with h2|⟨b,off,rfl,_⟩
    ·cases h2
    ·rfl
  |_=>simp[isNil]at hn
 |lp i off=>
  simp only[isNil]at hn
  split at hn
  ·rename_i hi;simp at hn;subst hn
   simp only[A.Den]at hx
   obtain⟨b,_,rfl⟩:=has_alive hx hi;rfl
  ·cases hn
 |ep i es k off=>
  simp only[isNil]at hn
  split at hn
  ·rename_i hi;simp at hn;subst hn
   simp only[A.Den]at hx
   obtain⟨b,_,_,_,_,rfl⟩:=has_alive hx hi;rfl
  ·cases hn
 |h i=>
  simp only[isNil]at hn
  split at hn
  ·rename_i fz kv st hi;simp at hn;subst hn
   simp only[A.Den]at hx
   rw[has_of hx hi (by simp)]
   obtain⟨_,_,_,_,e,_⟩:=h.res i _ hi
   rw[e];rfl
  ·rename_i fz t es r hi;simp at hn;subst hn
   simp only[A.Den]at hx
   rw[has_of hx hi (by simp)]
   obtain⟨xs,h1,_⟩:=h.res i _ hi
   rcases h1 with⟨_,_,_,e⟩|⟨_,g,og,cap,cur,e,_⟩<;>(rw[e];rfl)
  ·rename_i hi;simp at hn;subst hn
   simp only[A.Den]at hx
   rw[has_of hx hi (by simp)]
   obtain⟨_,_,_,_,e,_⟩:=h.res i _ hi
   rw[e];rfl
  ·cases hn
 |sv i lo n=>
  simp only[isNil]at hn
  split at hn
  ·rename_i fz t es e r hi;simp at hn;subst hn
   simp only[A.Den]at hx
   obtain⟨a',cap,rfl,_,es,fz,t,l,hm,_,h3⟩:=has_of hx hi (by simp)
   rw[hi]at hm;simp at hm;obtain⟨_,_,_,rfl⟩:=hm
   rcases h3 with⟨_,_,h3⟩|⟨b,og,n',cap',_,rfl,_⟩
   ·cases a' with
    |none=>simp at h3
    |some _=>rfl
   ·rfl
  ·cases hn
 |fn f u v=>simp only[A.Den]at hx;obtain⟨_,_,rfl,_⟩:=hx;simp[isNil]at hn;subst hn;rfl
 |_=>simp[isNil]at hn
theorem eqlNil_run{t:TypeId}{x y:Value}{k:Nat}{b c:Bool}(ht:nilT P t=some k)(hx:nilV x=some (k,b))(hy:nilV y=some (k,c))(w:World)(hbc:b=true\/c=true):
 (Op.equal t x y).run P w=.ok (b&&c) w:=by
 suffices key:∀d,(Op.equalIn (d+1) t x y).run P w=.ok (b&&c) w from key 9999
 intro d
 unfold nilT at ht
 split at ht
 ·rename_i e hu
  simp at ht;subst ht
  cases x<;>simp[nilV]at hx
  cases y<;>simp[nilV]at hy
  rename_i p q
  subst hx;subst hy
  cases p<;>cases q<;>simp at hbc<;>simp[Op.equalIn,run_underlying hu]
 ·rename_i e f hu
  simp at ht;subst ht
  cases x<;>simp[nilV]at hx
  cases y<;>simp[nilV]at hy
  rename_i p q
  subst hx;subst hy
  cases p<;>cases q<;>simp at hbc<;>simp[Op.equalIn,run_underlying hu]
 ·rename_i e hu
  simp at ht;subst ht
  cases x<;>simp[nilV]at hx
  cases y<;>simp[nilV]at hy
  rename_i p _ _ q _ _
  subst hx;subst hy
  cases p<;>cases q<;>simp at hbc<;>simp[Op.equalIn,run_underlying hu]
 ·rename_i e f g hu
  simp at ht;subst ht
  cases x<;>simp[nilV]at hx<;>cases y<;>simp[nilV]at hy<;>subst hx<;>subst hy<;>simp at hbc<;>simp[Op.equalIn,run_underlying hu]
 ·cases ht
theorem guard_pure{op:BinOp}{t:TypeId}{x y:Operand}{u v:Value}(h:nilV u≠none\/(∃b,u=.bool b)\/(∃s,u=.string s)\/∃k n,u=.int k n):eqGuard op t x y u v=pure ():=by
 cases u<;>first
  |(simp[nilV]at h;done)
  |(cases op<;>rfl)
theorem sd_eq(h:SatAt M0 S0 w0 N T m ρ a w){op:BinOp}{t:TypeId}{x y:A}{u v:Value}{ox oy:Operand}{pre:Bool}{b:Bool}(hx:x.Den w (Mut M0 m ρ) m ρ u)(hy:y.Den w (Mut M0 m ρ) m ρ v)
 (he:effEq P m t x y=some (pre,b))(hp:pre=true)(hop:op=.eql\/op=.neq):∃z,(do eqGuard op t ox oy u v;binOp op t u v).run P w=.ok z w/\z=.bool (if op=.eql then b else !b):=by
 unfold effEq at he
 split at he
 ·
  rename_i p q
  simp only[Option.some.injEq,Prod.mk.injEq]at he
  obtain⟨rfl,rfl⟩:=he
  simp only[A.Den,C.Den]at hx hy
  subst hx;subst hy
  have hp:=isBoolT_eq hp
  rcases hop with rfl|rfl
  ·exact⟨.bool (p==q),by simp[guard_pure,run_eql_bool w t p q hp],by cases p<;>cases q<;>rfl⟩
  ·exact⟨.bool (!(p==q)),by simp[guard_pure,run_neq_bool w t p q hp],by cases p<;>cases q<;>rfl⟩
 ·rename_i p q
  simp only[Option.some.injEq,Prod.mk.injEq]at he
  obtain⟨rfl,rfl⟩:=he
  simp only[A.Den,C.Den]at hx hy
  subst hx;subst hy
  have hs:(p.toList==q.toList)=decide (p=q):=by
   apply Bool.eq_iff_iff.2
   simp only[beq_iff_eq,decide_eq_true_eq]
   exact⟨λe=>by
    have e1:p.data.toList=q.data.toList:=by simpa [ByteArray.toList_eq]using e
    cases p;cases q;simp at e1;simp[e1],λe=>by rw[e]⟩
  rcases hop with rfl|rfl
  ·exact⟨.bool (decide (p=q)),by simp[guard_pure,binOp,Op.stringOp,hs],by simp⟩
  ·exact⟨.bool (!decide (p=q)),by simp[guard_pure,binOp,Op.stringOp,hs],by simp⟩
 ·
  have key:∀{k:Nat}{b c:Bool},isNil m x=some (k,b)->isNil m y=some (k,c)->nilT P t=some k->(b=true\/c=true)->∃z,(do eqGuard op t ox oy u v;binOp op t u v).run P w=.ok z w/\z=.bool (if op=.eql then b&&c else !(b&&c)):=by
   intro k b c h1 h2 h3 h4
   have n1:=isNil_den h hx h1
   have n2:=isNil_den h hy h2
   have hr:=eqlNil_run (P:=P) h3 n1 n2 w h4
   have hg:eqGuard op t ox oy u v=pure ():=guard_pure (.inl (by rw[n1];simp))
   have hb1:binOp .eql t u v=(do pure (.bool (<-Op.equal t u v))):=by cases u<;>simp[nilV]at n1<;>cases v<;>simp[nilV]at n2<;>rfl
   have hb2:binOp .neq t u v=(do pure (.bool (!(<-Op.equal t u v)))):=by cases u<;>simp[nilV]at n1<;>cases v<;>simp[nilV]at n2<;>rfl
   rcases hop with rfl|rfl
   ·exact⟨_,by rw[hg];simp[hb1,hr];rfl,by simp⟩
   ·exact⟨_,by rw[hg];simp[hb2,hr];rfl,by simp⟩
  split at he
  ·rename_i k k' b' h1 h2
   simp only[Option.some.injEq,Prod.mk.injEq]at he
   obtain⟨rfl,rfl⟩:=he
   obtain⟨h3,rfl⟩:=of_decide_eq_true hp
   simpa using key h1 h2 h3 (.inl rfl)
  ·rename_i k b' k' _ h1 h2
   simp only[Option.some.injEq,Prod.mk.injEq]at he
   obtain⟨rfl,rfl⟩:=he
   obtain⟨h3,rfl⟩:=of_decide_eq_true hp
   simpa using key h1 h2 h3 (.inr rfl)
  ·cases he
theorem sd_bin(h:SatAt M0 S0 w0 N T m ρ a w){op:BinOp}{t:TypeId}{x y:A}{u v:Value}{ox oy:Operand}{pre:Bool}{r:A}{ups:List (Nat×R)}(hx:x.Den w (Mut M0 m ρ) m ρ u)(hy:y.Den w (Mut M0 m ρ) m ρ v)
 (he:effBin P m op t x y=some (pre,r,ups))(hp:pre=true):ups=[]/\∃z,(do eqGuard op t ox oy u v;binOp op t u v).run P w=.ok z w/\r.Den w (Mut M0 m ρ) m ρ z:=by
 unfold effBin at he
 split at he
 ·rename_i k p k' q
  simp only[Option.map_eq_some_iff]at he
  obtain⟨⟨pre',c⟩,h1,h2⟩:=he
  simp only[Prod.mk.injEq]at h2
  obtain⟨rfl,rfl,rfl⟩:=h2
  simp only[A.Den,C.Den]at hx hy
  subst hx;subst hy
  obtain⟨z,h3,h4⟩:=sd_int (P:=P) (w:=w) (t:=t) h1 hp
  exact⟨rfl,z,by rw[guard_pure (.inr (.inr (.inr ⟨k,p,rfl⟩)))];simpa using h3,by simp only[A.Den];exact h4 _⟩
 ·split at he
  ·simp only[Option.map_eq_some_iff]at he
   obtain⟨⟨pre',b⟩,h1,h2⟩:=he
   simp only[Prod.mk.injEq]at h2
   obtain⟨rfl,rfl,rfl⟩:=h2
   obtain⟨z,h3,h4⟩:=sd_eq h (op:=.eql) (ox:=ox) (oy:=oy) hx hy h1 hp (.inl rfl)
   exact⟨rfl,z,h3,by simp only[A.Den,C.Den];simpa using h4⟩
  ·simp only[Option.map_eq_some_iff]at he
   obtain⟨⟨pre',b⟩,h1,h2⟩:=he
   simp only[Prod.mk.injEq]at h2
   obtain⟨rfl,rfl,rfl⟩:=h2
   obtain⟨z,h3,h4⟩:=sd_eq h (op:=.neq) (ox:=ox) (oy:=oy) hx hy h1 hp (.inr rfl)
   exact⟨rfl,z,h3,by simp only[A.Den,C.Den];simpa using h4⟩
  ·unfold effCat at he
   split at he
   ·rename_i a b _
    simp only[Option.some.injEq,Prod.mk.injEq]at he
    obtain⟨rfl,rfl,rfl⟩:=he
    simp only[A.Den,C.Den]at hx hy
    subst hx;subst hy
    have hs:=Nat.le_of_ble_eq_true hp
    have hn:¬(((a.size+b.size:Nat):Int)>IntKind.i64.max):=by
     have h1:a.size=a.data.toList.length:=Array.length_toList.symm
     have h2:b.size=b.data.toList.length:=Array.length_toList.symm
     simp only[IntKind.max,IntKind.bits,IntKind.signed]
     rw[h1,h2]
     simp
     omega
    refine⟨rfl,.string (a++b),?_,by simp only[A.Den,C.Den,sCat_eq]⟩
    rw[guard_pure (.inr (.inr (.inl ⟨_,rfl⟩)))]
    simp only[binOp,Op.stringOp,pure_bind]
    rw[if_neg hn]
    simp
   ·cases he
  ·cases he
end
end Go.Pv
namespace Go.Pv
open Go.RowKit
def fldOff(P:Program)(t:TypeId)(f:Nat):Option (Nat×TypeId):=
 match P.underlying t with
 |some (.struct fs)=>match fs[f]? with
  |some fd=>if(P.info? fd.type).isSome&&P.cellsOf fd.type !=0 then some (fd.offset,fd.type)else none
  |none=>none
 |_=>none
def shiftA(m:Mem)(o:Nat):A->Option A
 |.lp i off=>if aliveB m i then some (.lp i (off+o))else none
 |.ep i es k off=>if aliveB m i then some (.ep i es k (off+o))else none
 |.d (.ip l)=>some (.d (.ip (l.drop o)))
 |_=>none
def effFieldAddr(P:Program)(m:Mem)(t:TypeId)(x:A)(f:Nat):Option E:=
 match fldOff P t f with
 |some (o,_)=>(shiftA m o x).map λz=>(true,z,[])
 |none=>none
def effField(P:Program)(m:Mem)(t:TypeId)(x:A)(f:Nat):Option E:=
 match x,fldOff P t f with
 |.d (.agg l),some (o,ft)=>match aggOf P ft with
  |some true=>some (decide (o+P.cellsOf ft<=l.length),.d (.agg ((l.drop o).take (P.cellsOf ft))),[])
  |some false=>some (decide (o<l.length),.d (l.getD o default),[])
  |none=>none
 |.agg l,some (o,ft)=>match aggOf P ft with
  |some true=>some (decide (o+P.cellsOf ft<=l.length),.agg ((l.drop o).take (P.cellsOf ft)),[])
  |some false=>some (decide (o<l.length),l.getD o .x,[])
  |none=>none
 |_,_=>none
def effIndexAddr(P:Program)(m:Mem)(t:TypeId)(x ix:A):Option E:=
 match ix with
 |.d (.v (.int k n))=>match P.underlying t with
  |some (.slice e)=>match x with
   |.h i=>match m i with
    |some (.osl _ _ es l)=>some (decide (es=P.cellsOf e/\0<es/\0<=n/\n<l.length),.ep i es n.toNat 0,[])
    |_=>none
   |.sv i lo c=>match m i with
    |some (.osl _ _ es l)=>some (decide (es=P.cellsOf e/\0<es/\0<=n/\n<c),.ep i es (lo+n.toNat) 0,[])
    |_=>none
   |.d (.sl es l)=>some (decide (es=P.cellsOf e/\0<es/\0<=n/\n<l.length),.d (.ip (l.getD n.toNat [])),[])
   |_=>none
  |some (.array len e)=>(shiftA m (n.toNat*P.cellsOf e) x).map λz=>(decide (0<P.cellsOf e/\0<=n/\n<len),z,[])
  |_=>none
 |_=>none
def effLen(P:Program)(m:Mem)(t:TypeId)(x:A):Option E:=
 match x with
 |.d (.v (.string s))=>some (isStrT P t,.d (.v (.int .i64 s.size)),[])
 |.d (.v (.map none))=>some (decide (nilT P t=some 1),.d (.v (.int .i64 0)),[])
 |.h i=>match m i with
  |some (.osl _ _ _ l)=>some (decide (nilT P t=some 2),.d (.v (.int .i64 l.length)),[])
  |some (.mp _ kv _)=>some (decide (nilT P t=some 1),.d (.v (.int .i64 kv.length)),[])
  |_=>none
 |.d (.im ks _)=>some (decide (nilT P t=some 1),.d (.v (.int .i64 ks.length)),[])
 |x=>(srcRows m x).map λl=>(decide (nilT P t=some 2),.d (.v (.int .i64 l.length)),[])
def effConvert(P:Program)(src dst:TypeId)(x:A):Option E:=
 match x,P.underlying src,P.underlying dst with
 |.d (.v (.int _ n)),some _,some (.int k)=>some (decide (inR k n),.d (.v (.int k n)),[])
 |_,_,_=>none
def effUn(op:UnOp)(x:A):Option E:=
 match op,x with
 |.not,.d (.v (.bool b))=>some (true,.d (.v (.bool (!b))),[])
 |.neg,.d (.v (.int k n))=>some (decide (inR k (0 -n)),.d (.v (.int k (0 -n))),[])
 |_,_=>none
def effNilCheck(m:Mem)(x:A):Option E:=
 match isNil m x with
 |some (0,false)=>some (true,x,[])
 |_=>match x with
  |.fn (.func g) f c=>some (true,.fn (.func g) f c,[])
  |.d (.fn (.func g) f c)=>some (true,.d (.fn (.func g) f c),[])
  |_=>none
def sExt(s:ByteArray)(l h:Nat):ByteArray:=⟨((s.data.toList.drop l).take (h -l)).toArray⟩
theorem sExt_eq(s:ByteArray)(l h:Nat):sExt s l h=s.extract l h:=by
 unfold sExt
 cases s with
 |mk d=>
  have:(⟨d⟩:ByteArray).extract l h=⟨d.extract l h⟩:=by
   rw[ByteArray.ext_iff];simp
  rw[this]
  congr 1
  exact Array.ext' (by simp[List.extract,List.take_drop])
def cutB(hi:Option A)(n:Nat):Option Int:=
 match hi with
 |none=>some n
 |some (.d (.v (.int _ h)))=>some h
 |_=>none
def slicePre(P:Program)(m:Mem)(e:TypeId)(i:Nat)(hi mx:Bool)(l h c:Int)(n:Nat):Bool:=
 (hi|| !mx)&&(match m i with|some (.osl _ _ es _)=>decide (es=P.cellsOf e)|_=>false)&&decide (0<P.cellsOf e/\0<=l/\l<=h/\h<=c/\c<=n)
theorem slicePre_iff{P:Program}{m:Mem}{e:TypeId}{i:Nat}{hi mx:Bool}{l h c:Int}{n:Nat}(hp:slicePre P m e i hi mx l h c n=true):
 (hi=true\/mx=false)/\(∃fz t' l',m i=some (.osl fz t' (P.cellsOf e) l'))/\0<P.cellsOf e/\0<=l/\l<=h/\h<=c/\c<=n:=by
 unfold slicePre at hp
 simp only[Bool.and_eq_true,decide_eq_true_eq]at hp
 obtain⟨⟨h1,h2⟩,h3⟩:=hp
 refine⟨by cases hi<;>cases mx<;>simp_all,?_,h3⟩
 split at h2
 ·rename_i fz t' es l' hm
  have:=of_decide_eq_true h2
  subst this
  exact⟨fz,t',l',hm⟩
 ·cases h2
def effSlice(P:Program)(m:Mem)(t:TypeId)(x:A)(lo hi mx:Option A):Option E:=
 match x with
 |.d (.v (.string s))=>match cutB (lo.orElse λ_=>some (.d (.v (.int .i64 0)))) 0,cutB hi s.size,mx with
  |some l,some h,none=>some (isStrT P t&&decide (0<=l/\l<=h/\h<=s.size),.d (.v (.string (sExt s l.toNat h.toNat))),[])
  |_,_,_=>none
 |x=>match srcRows m x,elemOf' P t with
  |some L,some e=>match cutB (lo.orElse λ_=>some (.d (.v (.int .i64 0)))) 0,cutB hi L.length,cutB mx L.length with
   |some l,some h,some c=>match x with
    |.h i=>some (slicePre P m e i hi.isSome mx.isSome l h c L.length,.sv i l.toNat (h -l).toNat,[])
    |.sv i o n=>some (slicePre P m e i hi.isSome mx.isSome l h c L.length,.sv i (o+l.toNat) (h -l).toNat,[])
    |.d (.sl es l0)=>some (decide ((hi.isSome=true\/mx.isSome=false)/\es=P.cellsOf e/\0<es/\0<=l/\l<=h/\h<=c/\c<=l0.length),.d (.sl es ((l0.drop l.toNat).take (h -l).toNat)),[])
    |.d (.nl es)=>some (decide ((hi.isSome=true\/mx.isSome=false)/\0<P.cellsOf e/\l=0/\h=0/\c=0),.d (.nl es),[])
    |_=>none
   |_,_,_=>none
  |_,_=>none
section
variable{M0 S0:Nat->Prop}{w0:World}{N:Fr}{T:Nat->A}{m:Mem}{ρ:Nat->Value}{a:Act}{w:World}{P:Program}
theorem shiftA_den(h:SatAt M0 S0 w0 N T m ρ a w){x z:A}{y:Value}{o:Nat}(hx:x.Den w (Mut M0 m ρ) m ρ y)(hs:shiftA m o x=some z):
 ∃b off,y=.pointer (some ⟨b,off,none⟩)/\z.Den w (Mut M0 m ρ) m ρ (.pointer (some ⟨b,off+o,none⟩)):=by
 cases x with
 |lp i off=>
  simp only[shiftA]at hs
  split at hs
  ·rename_i hi;simp at hs;subst hs
   simp only[A.Den]at hx⊢
   obtain⟨b,h1,rfl⟩:=has_alive hx hi
   exact⟨b,off,rfl,hx.1,λ_=>⟨b,h1,rfl⟩⟩
  ·cases hs
 |ep i es k off=>
  simp only[shiftA]at hs
  split at hs
  ·rename_i hi;simp at hs;subst hs
   simp only[A.Den]at hx⊢
   obtain⟨b,og,n,cap,h1,rfl⟩:=has_alive hx hi
   exact⟨b,_,rfl,hx.1,λ_=>⟨b,og,n,cap,h1,by simp only[Nat.add_assoc]⟩⟩
  ·cases hs
 |d c=>
  cases c with
  |ip l=>
   simp[shiftA]at hs;subst hs
   simp only[A.Den,C.Den]at hx⊢
   obtain⟨b,off,rfl,h1,h2,h3⟩:=hx
   exact⟨b,off,rfl,b,off+o,rfl,h1,h2,C.DenAt_drop o h3⟩
  |_=>simp[shiftA]at hs
 |_=>simp[shiftA]at hs
theorem sd_fieldAddr(h:SatAt M0 S0 w0 N T m ρ a w){t:TypeId}{x v:A}{y:Value}{f:Nat}{pre:Bool}{ups:List (Nat×R)}(hx:x.Den w (Mut M0 m ρ) m ρ y)(he:effFieldAddr P m t x f=some (pre,v,ups))(hp:pre=true):
 ups=[]/\∃z,(Instr.fieldAt t y f).run P w=.ok z w/\v.Den w (Mut M0 m ρ) m ρ z:=by
 unfold effFieldAddr at he
 split at he
 ·rename_i o ft hf
  simp only[Option.map_eq_some_iff]at he
  obtain⟨z,h1,h2⟩:=he
  simp only[Prod.mk.injEq]at h2
  obtain⟨_,rfl,rfl⟩:=h2
  obtain⟨b,off,rfl,h3⟩:=shiftA_den h hx h1
  unfold fldOff at hf
  split at hf
  ·rename_i fs hu
   split at hf
   ·rename_i fd hfd
    split at hf
    ·rename_i hc
     simp only[Option.some.injEq,Prod.mk.injEq]at hf
     obtain⟨rfl,rfl⟩:=hf
     simp only[Bool.and_eq_true,bne_iff_ne,ne_eq]at hc
     obtain⟨ti,hti⟩:=Option.isSome_iff_exists.1 hc.1
     refine⟨rfl,_,?_,h3⟩
     simp[Instr.fieldAt,run_underlying hu,hfd,Instr.sureAddr,fieldPlace,run_sizeOf hti,hc.2,Addr.add_lit]
    ·cases hf
   ·cases hf
  ·cases hf
 ·cases he
theorem sd_field(h:SatAt M0 S0 w0 N T m ρ a w){t:TypeId}{x v:A}{y:Value}{f:Nat}{pre:Bool}{ups:List (Nat×R)}(hx:x.Den w (Mut M0 m ρ) m ρ y)(he:effField P m t x f=some (pre,v,ups))(hp:pre=true):
 ups=[]/\∃z,(Instr.field t y f).run P w=.ok z w/\v.Den w (Mut M0 m ρ) m ρ z:=by
 have hrun:∀{o:Nat}{ft:TypeId},fldOff P t f=some (o,ft)->∃fs fd,P.underlying t=some (.struct fs)/\fs[f]?=some fd/\fd.offset=o/\fd.type=ft:=by
  intro o ft hf
  unfold fldOff at hf
  split at hf
  ·rename_i fs hu
   split at hf
   ·rename_i fd hfd
    split at hf
    ·simp only[Option.some.injEq,Prod.mk.injEq]at hf
     exact⟨fs,fd,hu,hfd,hf.1,hf.2⟩
    ·cases hf
   ·cases hf
  ·cases hf
 unfold effField at he
 split at he
 ·rename_i l o ft hf
  obtain⟨fs,fd,hu,hfd,rfl,rfl⟩:=hrun hf
  simp only[A.Den,C.Den]at hx
  obtain⟨vs,rfl,h0,hd⟩:=hx
  have hlen:=(C.DenL_iff.1 hd).1
  split at he
  ·rename_i hg
   simp only[Option.some.injEq,Prod.mk.injEq]at he
   obtain⟨rfl,rfl,rfl⟩:=he
   have hp:=of_decide_eq_true hp
   refine⟨rfl,.agg (vs.extract fd.offset (fd.offset+P.cellsOf fd.type)),by simp[Instr.field,run_underlying hu,hfd,part,asAgg,run_isAgg hg,run_sizeOf' hg],?_⟩
   simp only[A.Den,C.Den]
   have e1:(vs.extract fd.offset (fd.offset+P.cellsOf fd.type)).toList=(vs.toList.drop fd.offset).take (P.cellsOf fd.type):=by
    rw[Array.toList_extract];simp[List.extract_eq_take_drop]
   exact⟨_,rfl,by rw[e1];exact λu hu=>h0 u (List.mem_of_mem_drop (List.mem_of_mem_take hu)),by rw[e1];exact C.DenL_take _ (C.DenL_drop _ hd)⟩
  ·rename_i hg
   simp only[Option.some.injEq,Prod.mk.injEq]at he
   obtain⟨rfl,rfl,rfl⟩:=he
   have hp:=of_decide_eq_true hp
   have hlt:fd.offset<vs.toList.length:=by omega
   refine⟨rfl,vs.toList[fd.offset],?_,?_⟩
   ·have:vs[fd.offset]?=some vs.toList[fd.offset]:=by simp at hlt;simp[hlt]
    simp[Instr.field,run_underlying hu,hfd,part,asAgg,run_isAgg hg,this]
   ·simp only[A.Den]
    rw[List.getD_eq_getElem?_getD,List.getElem?_eq_getElem hp]
    exact(C.DenL_iff.1 hd).2 _ _ _ (List.getElem?_eq_getElem hp) (List.getElem?_eq_getElem hlt)
  ·cases he
 ·rename_i l o ft hf
  obtain⟨fs,fd,hu,hfd,rfl,rfl⟩:=hrun hf
  simp only[A.Den]at hx
  obtain⟨vs,rfl,h0,hd⟩:=hx
  have hlen:=(A.DenL_iff.1 hd).1
  split at he
  ·rename_i hg
   simp only[Option.some.injEq,Prod.mk.injEq]at he
   obtain⟨rfl,rfl,rfl⟩:=he
   have hp:=of_decide_eq_true hp
   refine⟨rfl,.agg (vs.extract fd.offset (fd.offset+P.cellsOf fd.type)),by simp[Instr.field,run_underlying hu,hfd,part,asAgg,run_isAgg hg,run_sizeOf' hg],?_⟩
   simp only[A.Den]
   have e1:(vs.extract fd.offset (fd.offset+P.cellsOf fd.type)).toList=(vs.toList.drop fd.offset).take (P.cellsOf fd.type):=by
    rw[Array.toList_extract];simp[List.extract_eq_take_drop]
   exact⟨_,rfl,by rw[e1];exact λu hu=>h0 u (List.mem_of_mem_drop (List.mem_of_mem_take hu)),by rw[e1];exact A.DenL_take _ (A.DenL_drop _ hd)⟩
  ·rename_i hg
   simp only[Option.some.injEq,Prod.mk.injEq]at he
   obtain⟨rfl,rfl,rfl⟩:=he
   have hp:=of_decide_eq_true hp
   have hlt:fd.offset<vs.toList.length:=by omega
   refine⟨rfl,vs.toList[fd.offset],?_,?_⟩
   ·have:vs[fd.offset]?=some vs.toList[fd.offset]:=by simp at hlt;simp[hlt]
    simp[Instr.field,run_underlying hu,hfd,part,asAgg,run_isAgg hg,this]
   ·rw[List.getD_eq_getElem?_getD,List.getElem?_eq_getElem hp]
    exact(A.DenL_iff.1 hd).2 _ _ _ (List.getElem?_eq_getElem hp) (List.getElem?_eq_getElem hlt)
  ·cases he
 ·cases he
theorem src_val(h:SatAt M0 S0 w0 N T m ρ a w){x:A}{y:Value}{l:List (List A)}(hx:x.Den w (Mut M0 m ρ) m ρ y)(hs:srcRows m x=some l):∃ad cap,y=.slice ad l.length cap/\l.length<=cap:=by
 cases x with
 |h i=>
  simp only[srcRows]at hs
  split at hs
  ·rename_i fz t es' l' hi
   simp only[Option.some.injEq]at hs;subst hs
   simp only[A.Den]at hx
   rw[has_of hx hi (by simp)]
   obtain⟨xs,h1,_⟩:=h.res i _ hi
   rcases h1 with⟨_,hn,ad,hv⟩|⟨_,g,og,cap,cur,hv,_,_,hc,_⟩
   ·exact⟨ad,0,by rw[hv,hn],by omega⟩
   ·exact⟨_,cap,hv,hc⟩
  ·cases hs
 |sv i lo n=>
  simp only[srcRows]at hs
  split at hs
  ·rename_i fz t es' l' hi
   simp only[Option.some.injEq]at hs;subst hs
   simp only[A.Den]at hx
   obtain⟨ad,cap,rfl,hc,es2,fz',t',l2,e1,e2,_⟩:=has_of hx hi (by simp)
   rw[hi]at e1;simp at e1;obtain⟨rfl,rfl,rfl,rfl⟩:=e1
   have hlen:((l'.drop lo).take n).length=n:=by simp;omega
   exact⟨ad,cap,by rw[hlen],by rw[hlen];exact hc⟩
  ·cases hs
 |d c=>
  cases c with
  |sl es' l'=>
   simp only[srcRows,Option.some.injEq]at hs;subst hs
   simp only[A.Den,C.Den]at hx
   obtain⟨ad,cap,rfl,hc,_⟩:=hx
   exact⟨ad,cap,by simp,by simpa using hc⟩
  |nl es'=>
   simp only[srcRows,Option.some.injEq]at hs;subst hs
   simp only[A.Den,C.Den]at hx
   subst hx
   exact⟨none,0,rfl,by simp⟩
  |_=>simp[srcRows]at hs
 |_=>simp[srcRows]at hs
theorem nilT_slice{t:TypeId}(h:nilT P t=some 2):∃e,P.underlying t=some (.slice e):=by
 unfold nilT at h
 split at h<;>simp at h
 exact⟨_,by assumption⟩
theorem nilT_map{t:TypeId}(h:nilT P t=some 1):∃k e,P.underlying t=some (.map k e):=by
 unfold nilT at h
 split at h<;>simp at h
 exact⟨_,_,by assumption⟩
theorem MapIs.size{es:Array MapEntry}{clock:Nat}{ks:List Ky}{l:List MapEntry}(h:MapIs es clock ks l):es.size=ks.length:=by
 have h1:=h.perm.length_eq
 have h2:=congrArg List.length h.keys
 simp at h1 h2
 omega
theorem sd_len(h:SatAt M0 S0 w0 N T m ρ a w){t ty:TypeId}{x v:A}{y:Value}{pre:Bool}{ups:List (Nat×R)}(hx:x.Den w (Mut M0 m ρ) m ρ y)(he:effLen P m t x=some (pre,v,ups))(hp:pre=true):
 ups=[]/\∃z,(Builtin.len_ #[t] ty #[y]).run P w=.ok z w/\v.Den w (Mut M0 m ρ) m ρ z:=by
 have hsl:∀{l:List (List A)},srcRows m x=some l->nilT P t=some 2->∃z,(Builtin.len_ #[t] ty #[y]).run P w=.ok z w/\(A.d (.v (.int .i64 l.length))).Den w (Mut M0 m ρ) m ρ z:=by
  intro l hs ht
  obtain⟨e,hu⟩:=nilT_slice ht
  obtain⟨ad,cap,rfl,_⟩:=src_val h hx hs
  exact⟨_,by simp[Builtin.len_,run_underlying hu];rfl,by simp[A.Den,C.Den,goInt]⟩
 unfold effLen at he
 split at he
 ·simp only[Option.some.injEq,Prod.mk.injEq]at he
  obtain⟨rfl,rfl,rfl⟩:=he
  simp only[A.Den,C.Den]at hx;subst hx
  exact⟨rfl,_,by simp[Builtin.len_,run_underlying (isStrT_eq hp)];rfl,by simp[A.Den,C.Den,goInt]⟩
 ·simp only[Option.some.injEq,Prod.mk.injEq]at he
  obtain⟨rfl,rfl,rfl⟩:=he
  obtain⟨k,e,hu⟩:=nilT_map (of_decide_eq_true hp)
  simp only[A.Den,C.Den]at hx;subst hx
  exact⟨rfl,_,by simp[Builtin.len_,run_underlying hu];rfl,by simp[A.Den,C.Den,goInt]⟩
 ·rename_i i
  split at he
  ·rename_i fz t' es l hi
   simp only[Option.some.injEq,Prod.mk.injEq]at he
   obtain⟨rfl,rfl,rfl⟩:=he
   exact⟨rfl,hsl (by simp[srcRows,hi]) (of_decide_eq_true hp)⟩
  ·rename_i fz kv st hi
   simp only[Option.some.injEq,Prod.mk.injEq]at he
   obtain⟨rfl,rfl,rfl⟩:=he
   obtain⟨k,e,hu⟩:=nilT_map (of_decide_eq_true hp)
   simp only[A.Den]at hx
   rw[has_of hx hi (by simp)]
   obtain⟨b,es,cl,l,h1,h2,h3,_⟩:=h.res i _ hi
   rw[h1]
   refine⟨rfl,_,by simp[Builtin.len_,run_underlying hu,getObj,Sem.run,h2];rfl,?_⟩
   have hsz:=h3.size
   rw[List.length_map]at hsz
   simp[A.Den,C.Den,goInt,hsz]
  ·cases he
 ·simp only[Option.some.injEq,Prod.mk.injEq]at he
  obtain⟨rfl,rfl,rfl⟩:=he
  obtain⟨k,e,hu⟩:=nilT_map (of_decide_eq_true hp)
  simp only[A.Den,C.Den]at hx
  obtain⟨b,es,cl,l,rfl,_,h2,h3,_⟩:=hx
  refine⟨rfl,_,by simp[Builtin.len_,run_underlying hu,getObj,Sem.run,h2];rfl,?_⟩
  simp[A.Den,C.Den,goInt,<-h3.size]
 ·simp only[Option.map_eq_some_iff]at he
  obtain⟨l,h1,h2⟩:=he
  simp only[Prod.mk.injEq]at h2
  obtain⟨rfl,rfl,rfl⟩:=h2
  exact⟨rfl,hsl h1 (of_decide_eq_true hp)⟩
theorem sd_convert{src dst:TypeId}{x v:A}{y:Value}{pre:Bool}{ups:List (Nat×R)}{M:Nat->Prop}(hx:x.Den w M m ρ y)(he:effConvert P src dst x=some (pre,v,ups))(hp:pre=true):
 ups=[]/\∃z,(convert src dst y).run P w=.ok z w/\v.Den w M m ρ z:=by
 unfold effConvert at he
 split at he
 ·rename_i k' n d k h1 h2
  simp only[Option.some.injEq,Prod.mk.injEq]at he
  obtain⟨rfl,rfl,rfl⟩:=he
  simp only[A.Den,C.Den]at hx;subst hx
  exact⟨rfl,.int k n,by simp[convert,run_underlying h1,run_underlying h2,Conv.intToInt,wrap_inR (of_decide_eq_true hp)],by simp[A.Den,C.Den]⟩
 ·cases he
theorem sd_un{op:UnOp}{x v:A}{y:Value}{pre:Bool}{ups:List (Nat×R)}{M:Nat->Prop}(hx:x.Den w M m ρ y)(he:effUn op x=some (pre,v,ups))(hp:pre=true):
 ups=[]/\∃z,(Op.unary op y).run P w=.ok z w/\v.Den w M m ρ z:=by
 unfold effUn at he
 split at he
 ·simp only[Option.some.injEq,Prod.mk.injEq]at he
  obtain⟨rfl,rfl,rfl⟩:=he
  simp only[A.Den,C.Den]at hx;subst hx
  exact⟨rfl,_,by simp[Op.unary];rfl,by simp[A.Den,C.Den]⟩
 ·rename_i k n
  simp only[Option.some.injEq,Prod.mk.injEq]at he
  obtain⟨rfl,rfl,rfl⟩:=he
  simp only[A.Den,C.Den]at hx;subst hx
  exact⟨rfl,.int k (0 -n),by simp only[Op.unary,Op.intArith,Sem.run_pure,wrap_inR (of_decide_eq_true hp)],by simp[A.Den,C.Den]⟩
 ·cases he
end
end Go.Pv
namespace Go.Pv
open Go.RowKit
section
variable{M0 S0:Nat->Prop}{w0:World}{N:Fr}{T:Nat->A}{m:Mem}{ρ:Nat->Value}{a:Act}{w:World}{P:Program}
theorem osl_pos(h:SatAt M0 S0 w0 N T m ρ a w){i es:Nat}{fz:Bool}{t:TypeId}{l:List (List A)}(hi:m i=some (.osl fz t es l))(hl:0<l.length):∃b o cap,ρ i=.slice (some ⟨b,o,none⟩) l.length cap:=by
 obtain⟨xs,h1,_⟩:=h.res i _ hi
 obtain⟨g,o,cap,hv,_⟩:=ownsRow_form h1 hl
 exact⟨g,o,cap,hv⟩
theorem info_pos{e:TypeId}(h:0<P.cellsOf e):∃i,P.info? e=some i:=by
 cases hq:P.info? e with
 |none=>simp[Program.cellsOf,hq]at h
 |some i=>exact⟨i,rfl⟩
theorem sd_indexAddr(h:SatAt M0 S0 w0 N T m ρ a w){t:TypeId}{x ix v:A}{y iy:Value}{pre:Bool}{ups:List (Nat×R)}(hx:x.Den w (Mut M0 m ρ) m ρ y)(hix:ix.Den w (Mut M0 m ρ) m ρ iy)
 (he:effIndexAddr P m t x ix=some (pre,v,ups))(hp:pre=true):ups=[]/\∃z,(Instr.indexAt t y iy).run P w=.ok z w/\v.Den w (Mut M0 m ρ) m ρ z:=by
 unfold effIndexAddr at he
 split at he
 ·rename_i k n
  simp only[A.Den,C.Den]at hix;subst hix
  split at he
  ·rename_i e hu
   have hel:P.elem t=e:=by simp[Program.elem,hu]
   have hu':P.underlying t=some (.slice (P.elem t)):=by rw[hel];exact hu
   have hrun:∀{d:Addr}{len cap es:Nat},es=P.cellsOf e->0<es->0<=n->n<len->(Instr.indexAt t (.slice (some d) len cap) (.int k n)).run P w=.ok (.pointer (some (d.add (n.toNat*es)))) w:=by
    intro d len cap es hes hpos h0 h1
    obtain⟨i,hi⟩:=info_pos (P:=P) (by rw[<-hes];exact hpos)
    rw[run_indexAt_slice w t d len cap k n hu',if_pos ⟨h0,by omega⟩,hel,run_sizeOf hi,hes]
    rfl
   split at he
   ·rename_i i
    split at he
    ·rename_i fz t' es l hi
     simp only[Option.some.injEq,Prod.mk.injEq]at he
     obtain⟨rfl,rfl,rfl⟩:=he
     obtain⟨hes,hes0,h0,h1⟩:=of_decide_eq_true hp
     simp only[A.Den]at hx
     obtain⟨b,og,cap,hb⟩:=osl_pos h hi (by omega)
     rw[has_of hx hi (by simp),hb]
     refine⟨rfl,_,hrun hes hes0 h0 h1,?_⟩
     simp only[A.Den]
     exact⟨hx.1,λ_=>⟨b,og,_,cap,hb,by rw[Addr.add_lit];simp⟩⟩
    ·cases he
   ·rename_i i lo c
    split at he
    ·rename_i fz t' es l hi
     simp only[Option.some.injEq,Prod.mk.injEq]at he
     obtain⟨rfl,rfl,rfl⟩:=he
     obtain⟨hes,hes0,h0,h1⟩:=of_decide_eq_true hp
     simp only[A.Den]at hx
     obtain⟨ad,cap,rfl,hc,es2,fz',t2,l2,e1,e2,h3⟩:=has_of hx hi (by simp)
     rw[hi]at e1;simp at e1;obtain⟨rfl,rfl,rfl,rfl⟩:=e1
     obtain⟨b,og,n',cap',h4,rfl,_⟩:=h3.resolve_left (by omega)
     refine⟨rfl,_,hrun hes hes0 h0 h1,?_⟩
     simp only[A.Den]
     exact⟨hx.1,λ_=>⟨b,og,_,cap',h4,by rw[Addr.add_lit];simp[Nat.add_mul,Nat.add_assoc]⟩⟩
    ·cases he
   ·rename_i es l
    simp only[Option.some.injEq,Prod.mk.injEq]at he
    obtain⟨rfl,rfl,rfl⟩:=he
    obtain⟨hes,hes0,h0,h1⟩:=of_decide_eq_true hp
    simp only[A.Den,C.Den]at hx
    obtain⟨ad,cap,rfl,hc,hl⟩:=hx
    obtain⟨b,off,rfl,hm,hb,hr⟩:=hl.resolve_left (by rintro rfl;simp at h1;omega)
    refine⟨rfl,_,hrun hes hes0 h0 h1,?_⟩
    simp only[A.Den,C.Den]
    refine⟨b,off+n.toNat*es,by rw[Addr.add_lit],hm,hb,?_⟩
    rw[C.DenRow_iff]at hr
    exact(hr n.toNat _ (by rw[List.getD_eq_getElem?_getD,List.getElem?_eq_getElem (by omega)];rfl)).2
   ·cases he
  ·rename_i len e hu
   simp only[Option.map_eq_some_iff]at he
   obtain⟨z,h1,h2⟩:=he
   simp only[Prod.mk.injEq]at h2
   obtain⟨rfl,rfl,rfl⟩:=h2
   obtain⟨hpos,h3,h4⟩:=of_decide_eq_true hp
   obtain⟨b,off,rfl,h5⟩:=shiftA_den h hx h1
   obtain⟨i,hi⟩:=info_pos hpos
   refine⟨rfl,_,?_,h5⟩
   have hel:P.elem t=e:=by simp[Program.elem,hu]
   have hln:P.arrayLen t=len:=by simp[Program.arrayLen,hu]
   rw[run_indexAt_array w t ⟨b,off,none⟩ k n (by rw[hel,hln];exact hu),hln,if_pos ⟨h3,by omega⟩,hel,run_sizeOf hi]
   simp[Addr.add_lit]
  ·cases he
 ·cases he
theorem sd_nilCheck(h:SatAt M0 S0 w0 N T m ρ a w){x v:A}{y:Value}{pre:Bool}{ups:List (Nat×R)}(hx:x.Den w (Mut M0 m ρ) m ρ y)(he:effNilCheck m x=some (pre,v,ups))(hp:pre=true):
 ups=[]/\(∃d,y=.pointer (some d)\/∃g f c,y=.func (.func g) f c)/\v.Den w (Mut M0 m ρ) m ρ y:=by
 unfold effNilCheck at he
 split at he
 ·rename_i hn
  simp only[Option.some.injEq,Prod.mk.injEq]at he
  obtain⟨rfl,rfl,rfl⟩:=he
  have:=isNil_den h hx hn
  cases y<;>simp[nilV]at this
  rename_i p
  cases p with
  |none=>simp at this
  |some d=>exact⟨rfl,⟨d,.inl rfl⟩,hx⟩
 ·split at he
  ·simp only[Option.some.injEq,Prod.mk.injEq]at he
   obtain⟨rfl,rfl,rfl⟩:=he
   have hx':=hx
   simp only[A.Den]at hx'
   obtain⟨us,vs,rfl,_⟩:=hx'
   exact⟨rfl,⟨default,.inr ⟨_,_,_,rfl⟩⟩,hx⟩
  ·simp only[Option.some.injEq,Prod.mk.injEq]at he
   obtain⟨rfl,rfl,rfl⟩:=he
   have hx':=hx
   simp only[A.Den,C.Den]at hx'
   obtain⟨us,vs,rfl,_⟩:=hx'
   exact⟨rfl,⟨default,.inr ⟨_,_,_,rfl⟩⟩,hx⟩
  ·cases he
theorem cutB_den{hi:Option A}{vhi:Option Value}{n:Nat}{h:Int}{M:Nat->Prop}(hd:(hi=none/\vhi=none)\/∃x y,hi=some x/\vhi=some y/\x.Den w M m ρ y)(hc:cutB hi n=some h):(vhi=none/\hi=none/\h=n)\/∃k,vhi=some (.int k h)/\hi.isSome=true:=by
 rcases hd with⟨rfl,rfl⟩|⟨x,y,rfl,rfl,hxy⟩
 ·simp[cutB]at hc;exact .inl ⟨rfl,rfl,hc.symm⟩
 ·unfold cutB at hc
  split at hc
  ·rename_i heq;cases heq
  ·rename_i k h' heq
   simp at heq;subst heq
   simp at hc;subst hc
   simp only[A.Den,C.Den]at hxy;subst hxy
   exact .inr ⟨k,rfl,rfl⟩
  ·cases hc
theorem run_bound{k:IntKind}{i:Int}{y:Nat}{code:BoundsCode}(h0:0<=i)(h1:i<=y):(Instr.sliceBound (.int k i) y code).run P w=.ok i.toNat w:=by
 simp[Instr.sliceBound,asIntOf,h0,h1]
theorem run_bounds{isS:Bool}{len cap:Nat}{lo hi mx:Option Value}{l h c:Int}(hl:lo=none/\l=0\/∃k,lo=some (.int k l))(hh:hi=none/\h=len\/∃k,hi=some (.int k h))(hm:mx=none\/∃k,mx=some (.int k c))
 (hhm:hi.isSome=true\/mx.isSome=false)(h0:0<=l)(h1:l<=h)(h2:h<=c)(h3:c<=len)(hlc:len<=cap):
 ∃M,(Instr.sliceBounds isS len cap lo hi mx).run P w=.ok (l.toNat,h.toNat,M) w/\h.toNat<=M/\M<=cap/\(mx.isSome=true->M=c.toNat):=by
 rcases hm with rfl|⟨km,rfl⟩
 ·refine⟨cap,?_,by omega,by omega,by simp⟩
  rcases hh with⟨rfl,rfl⟩|⟨kh,rfl⟩
  ·rcases hl with⟨rfl,rfl⟩|⟨kl,rfl⟩
   ·simp[Instr.sliceBounds]
   ·simp[Instr.sliceBounds,run_bound (P:=P) (w:=w) (k:=kl) (i:=l) (y:=len) h0 h1]
  ·have r1:=run_bound (P:=P) (w:=w) (k:=kh) (i:=h) (y:=cap) (code:=if isS then .sliceAcap else .sliceAlen) (by omega) (by omega)
   rcases hl with⟨rfl,rfl⟩|⟨kl,rfl⟩
   ·simp[Instr.sliceBounds,r1]
   ·have r2:=run_bound (P:=P) (w:=w) (k:=kl) (i:=l) (y:=h.toNat) (code:=.sliceB) h0 (by omega)
    simp[Instr.sliceBounds,r1,r2]
 ·rcases hh with⟨rfl,rfl⟩|⟨kh,rfl⟩
  ·simp at hhm
  ·have r0:=run_bound (P:=P) (w:=w) (k:=km) (i:=c) (y:=cap) (code:=if isS then .slice3Acap else .slice3Alen) (by omega) (by omega)
   have r1:=run_bound (P:=P) (w:=w) (k:=kh) (i:=h) (y:=c.toNat) (code:=.slice3B) (by omega) (by omega)
   refine⟨c.toNat,?_,by omega,by omega,λ_=>rfl⟩
   rcases hl with⟨rfl,rfl⟩|⟨kl,rfl⟩
   ·simp[Instr.sliceBounds,r0,r1]
   ·have r2:=run_bound (P:=P) (w:=w) (k:=kl) (i:=l) (y:=h.toNat) (code:=.slice3C) h0 (by omega)
    simp[Instr.sliceBounds,r0,r1,r2]
def OptDen(w:World)(M:Nat->Prop)(m:Mem)(ρ:Nat->Value)(x:Option A)(y:Option Value):Prop:=(x=none/\y=none)\/∃u v,x=some u/\y=some v/\u.Den w M m ρ v
def Clip(hi mx:Option A):Prop:=∃k k' q,hi=some (.d (.v (.int k q)))/\mx=some (.d (.v (.int k' q)))
theorem clip_cut{hi mx:Option A}{n n':Nat}{h c:Int}(hc:Clip hi mx)(h1:cutB hi n=some h)(h2:cutB mx n'=some c):h=c:=by
 obtain⟨k,k',q,rfl,rfl⟩:=hc
 simp only[cutB,Option.some.injEq]at h1 h2
 rw[<-h1,<-h2]
theorem sd_slice'(h:SatAt M0 S0 w0 N T m ρ a w){t:TypeId}{x v:A}{y:Value}{lo hi mx:Option A}{vlo vhi vmx:Option Value}{pre:Bool}{ups:List (Nat×R)}(hx:x.Den w (Mut M0 m ρ) m ρ y)
 (hlo:OptDen w (Mut M0 m ρ) m ρ lo vlo)(hhi:OptDen w (Mut M0 m ρ) m ρ hi vhi)(hmx:OptDen w (Mut M0 m ρ) m ρ mx vmx)
 (he:effSlice P m t x lo hi mx=some (pre,v,ups))(hp:pre=true):ups=[]/\∃z,(Instr.sliceAt t y vlo vhi vmx).run P w=.ok z w/\v.Den w (Mut M0 m ρ) m ρ z/\(Clip hi mx->∃a n,z=.slice a n n):=by
 have hL:∀{l:Int},cutB (lo.orElse λ_=>some (.d (.v (.int .i64 0)))) 0=some l->(vlo=none/\l=0)\/∃k,vlo=some (.int k l):=by
  intro l hl
  rcases hlo with⟨rfl,rfl⟩|⟨u,q,rfl,rfl,hd⟩
  ·simp[cutB]at hl;exact .inl ⟨rfl,hl.symm⟩
  ·rcases cutB_den (w:=w) (m:=m) (ρ:=ρ) (M:=Mut M0 m ρ) (hi:=some u) (vhi:=some q) (.inr ⟨u,q,rfl,rfl,hd⟩) hl with⟨e,_⟩|⟨k,e,_⟩
   ·cases e
   ·exact .inr ⟨k,e⟩
 unfold effSlice at he
 split at he
 ·rename_i s
  simp only[A.Den,C.Den]at hx;subst hx
  split at he
  ·rename_i l hh h1 h2
   simp only[Option.some.injEq,Prod.mk.injEq]at he
   obtain⟨rfl,rfl,rfl⟩:=he
   rw[Bool.and_eq_true]at hp
   obtain⟨hu,h3⟩:=hp
   obtain⟨h3,h4,h5⟩:=of_decide_eq_true h3
   have hu:=isStrT_eq hu
   have hmn:vmx=none:=by
    rcases hmx with⟨_,e⟩|⟨u,q,e,_⟩
    ·exact e
    ·cases e
   subst hmn
   obtain⟨Mx,hr,_,_,_⟩:=run_bounds (P:=P) (w:=w) (isS:=false) (len:=s.size) (cap:=s.size) (c:=s.size) (mx:=none) (hL h1) ((cutB_den hhi h2).imp (λ⟨q,_,r⟩=>⟨q,r⟩) (λ⟨k,q,_⟩=>⟨k,q⟩)) (.inl rfl) (.inr rfl) h3 h4 h5 (Int.le_refl _) (Nat.le_refl _)
   refine⟨rfl,.string (s.extract l.toNat hh.toNat),?_,by simp[A.Den,C.Den,sExt_eq],?_⟩
   rotate_left 1
   ·rintro⟨_,_,_,_,e⟩;cases e
   simp[Instr.sliceAt,run_underlying hu,Instr.slice,hr]
  ·cases he
 ·rename_i hns
  split at he
  ·rename_i L e hs hel
   have hu:=elemOf'_eq hel
   obtain⟨ad,cap,rfl,hcap⟩:=src_val h hx hs
   split at he
   ·rename_i l hh c h1 h2 h3
    have hrun:(hi.isSome=true\/mx.isSome=false)->0<P.cellsOf e->0<=l->l<=hh->hh<=c->c<=L.length->
     ∃ad' cap',(Instr.sliceAt t (.slice ad L.length cap) vlo vhi vmx).run P w=.ok (.slice ad' (hh -l).toNat cap') w/\(hh -l).toNat<=cap'/\(cap'=0\/ad'=ad.map (·.add (l.toNat*P.cellsOf e)))/\(ad=none↔ad'=none)/\cap'+l.toNat<=cap/\(vmx.isSome=true->cap'=c.toNat -l.toNat):=by
     intro q0 q1 q2 q3 q4 q5
     have qh:=cutB_den hhi h2
     have qm:=cutB_den hmx h3
     have e1:vhi.isSome=true\/vmx.isSome=false:=by
      rcases q0 with q|q
      ·rcases qh with⟨_,r,_⟩|⟨k,r,_⟩
       ·rw[r]at q;cases q
       ·left;rw[r];rfl
      ·rcases qm with⟨r,_⟩|⟨k,r,r2⟩
       ·right;rw[r];rfl
       ·rw[r2]at q;cases q
     obtain⟨Mx,hr,hM,hMc,hMm⟩:=run_bounds (P:=P) (w:=w) (isS:=true) (len:=L.length) (cap:=cap) (hL h1) (qh.imp (λ⟨q,_,r⟩=>⟨q,r⟩) (λ⟨k,q,_⟩=>⟨k,q⟩)) (qm.imp (λ⟨q,_⟩=>q) (λ⟨k,q,_⟩=>⟨k,q⟩)) e1 q2 q3 q4 q5 hcap
     obtain⟨i,hi'⟩:=info_pos q1
     refine⟨_,Mx -l.toNat,by simp[Instr.sliceAt,run_underlying hu,Instr.slice,hr,run_sizeOf hi'];exact⟨rfl,by omega⟩,by omega,?_,?_,by omega,λe=>by rw[hMm e]⟩
     ·by_cases hM2:Mx=l.toNat
      ·left;omega
      ·right;simp[hM2]
     ·by_cases hM2:Mx=l.toNat<;>simp[hM2]
    have fin:∀{ad':Option Addr}{cap':Nat},0<=l->l<=hh->(Clip hi mx->hh=c)->(vmx.isSome=true->cap'=c.toNat -l.toNat)->(Clip hi mx->∃a n,Value.slice ad' (hh -l).toNat cap'=.slice a n n):=by
     intro ad' cap' q0 q1 e hcl hc
     have e1:=e hc
     have e2:vmx.isSome=true:=by
      obtain⟨_,_,_,_,e3⟩:=hc
      rcases hmx with⟨e4,_⟩|⟨u,v,_,e4,_⟩
      ·rw[e3]at e4;cases e4
      ·rw[e4];rfl
     have e3:=hcl e2
     exact⟨ad',_,by rw[e3,show c.toNat -l.toNat=(hh -l).toNat by omega]⟩
    split at he
    ·rename_i i
     simp only[Option.some.injEq,Prod.mk.injEq]at he
     obtain⟨rfl,rfl,rfl⟩:=he
     obtain⟨q0,⟨fz,t',l',hm⟩,q1,q2,q3,q4,q5⟩:=slicePre_iff hp
     obtain⟨ad',cap',hr,hc',had,hnn,hcap2,hcl⟩:=hrun q0 q1 q2 q3 q4 q5
     refine⟨rfl,_,hr,?_,fin q2 q3 (clip_cut · h2 h3) hcl⟩
     simp only[srcRows,hm,Option.some.injEq]at hs;subst hs
     simp only[A.Den]at hx⊢
     refine⟨hx.1,λ_=>⟨ad',cap',rfl,hc',P.cellsOf e,fz,t',l',hm,by omega,?_⟩⟩
     have hnil:ad'=none->l'.length=0:=by
      intro q
      have q:=hnn.2 q;subst q
      obtain⟨xs,k1,_⟩:=h.res i _ hm
      have hv:=has_of hx hm (by simp)
      rw[<-hv]at k1
      rcases k1 with⟨_,k1,_⟩|⟨_,_,_,_,_,k1,_⟩
      ·exact k1
      ·simp at k1
     by_cases hz:cap'=0
     ·exact .inl ⟨by omega,hz,hnil⟩
     ·right
      have had:=had.resolve_left hz
      subst had
      have hv:=has_of hx hm (by simp)
      obtain⟨xs,k1,_⟩:=h.res i _ hm
      rcases k1 with⟨_,_,a0,k1⟩|⟨_,b,og,cp,cur,k1,_⟩
      ·rw[k1]at hv;simp at hv;omega
      ·have hb:=k1
       rw[k1]at hv;simp at hv;obtain⟨rfl,rfl⟩:=hv
       exact⟨b,og,_,_,hb,by simp[Addr.add_lit],by omega⟩
    ·rename_i i o n
     simp only[Option.some.injEq,Prod.mk.injEq]at he
     obtain⟨rfl,rfl,rfl⟩:=he
     obtain⟨q0,⟨fz,t',l',hm⟩,q1,q2,q3,q4,q5⟩:=slicePre_iff hp
     obtain⟨ad',cap',hr,hc',had,hnn,hcap2,hcl⟩:=hrun q0 q1 q2 q3 q4 q5
     refine⟨rfl,_,hr,?_,fin q2 q3 (clip_cut · h2 h3) hcl⟩
     simp only[srcRows,hm,Option.some.injEq]at hs;subst hs
     simp only[A.Den]at hx⊢
     obtain⟨ad2,cap2,hy,hc2,es2,fz2,t2,l2,e1,e2,h4⟩:=has_of hx hm (by simp)
     rw[hm]at e1;simp at e1;obtain⟨rfl,rfl,rfl,rfl⟩:=e1
     have hln:((l'.drop o).take n).length=n:=by simp;omega
     rw[hln]at q5
     refine⟨hx.1,λ_=>⟨ad',cap',rfl,hc',P.cellsOf e,fz,t',l',hm,by omega,?_⟩⟩
     have hnil:ad'=none->l'.length=0:=by
      intro q
      have q:=hnn.2 q;subst q
      simp at hy;obtain⟨rfl,_⟩:=hy
      rcases h4 with⟨_,_,k1⟩|⟨_,_,_,_,_,k1,_⟩
      ·exact k1 rfl
      ·simp at k1
     by_cases hz:cap'=0
     ·exact .inl ⟨by omega,hz,hnil⟩
     ·right
      have had:=had.resolve_left hz
      subst had
      simp at hy;obtain⟨rfl,hcc⟩:=hy
      rcases h4 with⟨_,k0,_⟩|⟨b,og,n',cap'',h6,h7,h8⟩
      ·omega
      ·subst h7
       exact⟨b,og,n',cap'',h6,by simp[Addr.add_lit,Nat.add_mul,Nat.add_assoc],by omega⟩
    ·rename_i es l'
     simp only[Option.some.injEq,Prod.mk.injEq]at he
     obtain⟨rfl,rfl,rfl⟩:=he
     obtain⟨q0,rfl,q1,q2,q3,q4,q5⟩:=of_decide_eq_true hp
     simp only[srcRows,Option.some.injEq]at hs;subst hs
     obtain⟨ad',cap',hr,hc',had,hnn,_,hcl⟩:=hrun q0 q1 q2 q3 q4 (by simpa using q5)
     refine⟨rfl,_,hr,?_,fin q2 q3 (clip_cut · h2 h3) hcl⟩
     simp only[A.Den,C.Den]at hx⊢
     have hln:((l'.drop l.toNat).take (hh -l).toNat).length=(hh -l).toNat:=by simp;omega
     refine⟨ad',cap',by rw[hln],by rw[hln];exact hc',?_⟩
     by_cases hz:(hh -l).toNat=0
     ·left;rw[hz];simp
     ·right
      obtain⟨ad2,cap2,hy,_,h4⟩:=hx
      simp at hy;obtain⟨rfl,rfl⟩:=hy
      obtain⟨b,off,rfl,h5,h6,h7⟩:=h4.resolve_left (by rintro rfl;simp at q5;omega)
      have:=had.resolve_left (by omega)
      subst this
      exact⟨b,off+l.toNat*P.cellsOf e,by simp[Addr.add_lit],h5,h6,denRow_cut h7⟩
    ·rename_i es
     simp only[Option.some.injEq,Prod.mk.injEq]at he
     obtain⟨rfl,rfl,rfl⟩:=he
     obtain⟨q0,q1,rfl,rfl,rfl⟩:=of_decide_eq_true hp
     simp only[srcRows,Option.some.injEq]at hs;subst hs
     obtain⟨ad',cap',hr,hc',had,hn,hc2,_⟩:=hrun q0 q1 (by omega) (by omega) (by omega) (by simp)
     simp only[A.Den,C.Den]at hx
     simp only[Value.slice.injEq]at hx
     obtain⟨rfl,_,rfl⟩:=hx
     have e1:=hn.1 rfl;subst e1
     have e2:cap'=0:=by omega
     subst e2
     refine⟨rfl,_,hr,?_,λ_=>⟨none,0,rfl⟩⟩
     simp only[A.Den,C.Den];rfl
    ·cases he
   ·cases he
  ·cases he
theorem sd_slice(h:SatAt M0 S0 w0 N T m ρ a w){t:TypeId}{x v:A}{y:Value}{lo hi mx:Option A}{vlo vhi vmx:Option Value}{pre:Bool}{ups:List (Nat×R)}(hx:x.Den w (Mut M0 m ρ) m ρ y)
 (hlo:OptDen w (Mut M0 m ρ) m ρ lo vlo)(hhi:OptDen w (Mut M0 m ρ) m ρ hi vhi)(hmx:OptDen w (Mut M0 m ρ) m ρ mx vmx)
 (he:effSlice P m t x lo hi mx=some (pre,v,ups))(hp:pre=true):ups=[]/\∃z,(Instr.sliceAt t y vlo vhi vmx).run P w=.ok z w/\v.Den w (Mut M0 m ρ) m ρ z:=by
 obtain⟨h1,z,h2,h3,_⟩:=sd_slice' h hx hlo hhi hmx he hp
 exact⟨h1,z,h2,h3⟩
end
end Go.Pv
namespace Go.Pv
open Go.RowKit
def esOf(P:Program)(t:TypeId):Nat:=
 match P.underlying t with
 |some (.slice e)=>P.cellsOf e
 |_=>0
def mvA(P:Program)(t:TypeId):A->A
 |.d (.nl _)=>.d (.nl (esOf P t))
 |x=>x
def effBuild(P:Program)(m:Mem)(T:Nat->A)(t:TypeId)(ps:List (Nat×Operand)):Option E:=
 match structPl P t,zeroC P t,optCells m (ps.map λp=>(p.1,evT T p.2))with
 |some pl,some z,some parts=>(fillA pl (z.map .d) parts).map λout=>(true,.agg out,[])
 |_,_,_=>none
def freeB(m:Mem)(d:Nat):Bool:=match m d with
 |none=>true
 |some _=>false
theorem freeB_eq{m:Mem}{d:Nat}(h:freeB m d=true):m d=none:=by
 unfold freeB at h;split at h<;>simp_all
def effBuildSlice(P:Program)(m:Mem)(T:Nat->A)(d:Nat)(t:TypeId)(len:Nat)(ps:List (Nat×Operand)):Option E:=
 match elemOf' P t with
 |some e=>match zeroC P e,optCells m (ps.map λp=>(p.1,evT T p.2))with
  |some z,some rp=>(fillR (P.cellsOf e) (List.replicate len (z.map A.d)) rp).map λout=>
   (decide (z.length=P.cellsOf e/\0<P.cellsOf e/\len*P.cellsOf e<=16777216)&&freeB m d,.h d,[(d,.osl false e (P.cellsOf e) out)])
  |_,_=>none
 |none=>none
def effStore(P:Program)(m:Mem)(T:Nat->A)(t:TypeId)(ad x:Operand):Option E:=
 match evT T ad,(evT T x).cells m with
 |.lp i off,some vs=>match m i with
  |some (.cells false l)=>some (decide (vs.length=P.cellsOf t/\0<P.cellsOf t/\off+vs.length<=l.length),.x,[(i,.cells false (splA l off vs))])
  |_=>none
 |.ep i es k off,some vs=>match m i with
  |some (.osl false te es' l)=>some (decide (es'=es/\k<l.length/\vs.length=P.cellsOf t/\0<P.cellsOf t/\off+vs.length<=es),.x,[(i,.osl false te es (l.set k (splA (l.getD k []) off vs)))])
  |_=>none
 |_,_=>none
def dstOk(m:Mem)(e:TypeId)(es:Nat):Option Nat->Bool
 |none=>true
 |some i=>match m i with
  |some (.osl false e' es' _)=>decide (e'=e/\es'=es)
  |_=>false
def srcEs(m:Mem)(es:Nat):A->Bool
 |.h j=>match m j with
  |some (.osl _ _ es' _)=>decide (es'=es)
  |_=>false
 |.sv j _ _=>match m j with
  |some (.osl _ _ es' _)=>decide (es'=es)
  |_=>false
 |.d (.sl es' _)=>decide (es'=es)
 |.d (.nl _)=>true
 |_=>false
def goesB(k:Option Nat)(l:List (List A)):Bool:=match k,l with
 |none,[]=>false
 |_,_=>true
def effAppend(P:Program)(m:Mem)(T:Nat->A)(d:Nat)(t:TypeId)(od ox:Operand):Option E:=
 match elemOf' P t with
 |some e=>match dstRows m (evT T od),srcRows m (evT T ox),zeroC P e with
  |some (k,l),some l2,some z=>some (decide (z.length=P.cellsOf e/\0<P.cellsOf e/\0<P.bytesOf e/\(l.length+l2.length)*P.bytesOf e<=140737488355328)&&(dstOk m e (P.cellsOf e) k&&(srcEs m (P.cellsOf e) (evT T ox)&&(freeB m d&&goesB k l2))),
    .h d,killU k++[(d,.osl false e (P.cellsOf e) (l++l2))])
  |_,_,_=>none
 |none=>none
def effMakeSlice(P:Program)(m:Mem)(d:Nat)(t:TypeId)(l c:A):Option E:=
 match elemOf' P t,l,c with
 |some e,.d (.v (.int kl l)),.d (.v (.int kc c))=>(zeroC P e).map λz=>
  (decide (z.length=P.cellsOf e/\0<P.cellsOf e/\0<=l/\l<=c/\(P.bytesOf e:Int)*c<=281474976710656/\c<=9223372036854775807)&&freeB m d,.h d,[(d,.osl false e (P.cellsOf e) (List.replicate l.toNat (z.map A.d)))])
 |_,_,_=>none
def effMinMax(mx:Bool)(x y:A):Option E:=
 match x,y with
 |.d (.v (.int k a)),.d (.v (.int k' b))=>some (decide (k=k'),.d (.v (.int k (if mx then(if b>a then b else a)else(if b<a then b else a)))),[])
 |_,_=>none
def effOp(P:Program)(m:Mem)(T:Nat->A)(d:Nat)(o:Oper):Option E:=
 match o.op with
 |.move x=>some (true,mvA P o.type (evT T x),[])
 |.assign x=>some (true,mvA P o.type (evT T x),[])
 |.pick c a b=>match evT T c with
  |.d (.v (.bool t))=>some (true,bif t then evT T a else evT T b,[])
  |_=>none
 |.alloc t=>(zeroC P t).map λl=>(freeB m d,.lp d 0,[(d,.cells false (l.map .d))])
 |.box t x=>((evT T x).cells m).map λl=>(freeB m d,.lp d 0,[(d,.cells false l)])
 |.build t ps=>effBuild P m T t ps.toList
 |.buildSlice t n ps=>effBuildSlice P m T d t n ps.toList
 |.load t x=>effLoad P m t (evT T x)
 |.store t x y=>effStore P m T t x y
 |.nilCheck x=>effNilCheck m (evT T x)
 |.binOp op t x y _=>effBin P m op t (evT T x) (evT T y)
 |.unOp op _ x=>effUn op (evT T x)
 |.convert s t x=>effConvert P s t (evT T x)
 |.makeFunc f first caps=>some (true,.fn f (first.toList.map (evT T)) (caps.toList.map (evT T)),[])
 |.makeMap t none=>some (freeB m d,.h d,[(d,.mp false [] [])])
 |.makeSlice t l c=>effMakeSlice P m d t (evT T l) (evT T c)
 |.slice t x lo hi mx=>effSlice P m t (evT T x) (lo.map (evT T)) (hi.map (evT T)) (mx.map (evT T))
 |.fieldAddr t x f=>effFieldAddr P m t (evT T x) f
 |.field t x f=>effField P m t (evT T x) f
 |.indexAddr t x i=>effIndexAddr P m t (evT T x) (evT T i)
 |.extract x i=>match evT T x with
  |.tup l=>some (decide (i<l.length),l.getD i .x,[])
  |_=>none
 |.call c=>match c.callee,c.args.toList,c.argTypes.toList with
  |.builtin .len,[x],[t]=>effLen P m t (evT T x)
  |.builtin .append,[x,y],[t,t']=>(effAppend P m T d t x y).map λr=>(decide (t=t')&&r.1,r.2)
  |.builtin .max,[x,y],_=>effMinMax true (evT T x) (evT T y)
  |.builtin .min,[x,y],_=>effMinMax false (evT T x) (evT T y)
  |_,_,_=>none
 |_=>none
section
variable{M0 S0:Nat->Prop}{w0:World}{N:Fr}{T:Nat->A}{m:Mem}{ρ:Nat->Value}{a:Act}{w:World}{P:Program}
theorem mvA_den{t:TypeId}{x:A}{y:Value}{M:Nat->Prop}(h:x.Den w M m ρ y):(mvA P t x).Den w M m ρ y:=by
 unfold mvA
 split
 ·simp only[A.Den,C.Den]at h⊢;exact h
 ·exact h
def Gives(P:Program)(M0 S0:Nat->Prop)(w0:World)(N:Fr)(T:Nat->A)(m:Mem)(ρ:Nat->Value)(a:Act)(w:World)(o:Oper)(v:A)(m':Mem):Prop:=
 ∃y w' ρ' res,(execOp a.eval o).run P w=.ok res w'/\(res=.value y\/(res=.skip/\y=undef))/\SatAt M0 S0 w0 N T m' ρ' a w'/\Onto m m' ρ ρ'/\v.Den w' (Mut M0 m' ρ') m' ρ' y
theorem gives_pure(h:SatAt M0 S0 w0 N T m ρ a w){o:Oper}{v:A}{y:Value}(hr:(execOp a.eval o).run P w=.ok (.value y) w)(hv:v.Den w (Mut M0 m ρ) m ρ y):Gives P M0 S0 w0 N T m ρ a w o v m:=
 ⟨y,w,ρ,_,hr,.inl rfl,h,Onto.refl _ _,hv⟩
theorem lenRows_of(h:SatAt M0 S0 w0 N T m ρ a w){x:A}{y:Value}{l:List (List A)}{es:Nat}(hx:x.Den w (Mut M0 m ρ) m ρ y)(hs:srcRows m x=some l)(he:srcEs m es x=true):∀r∈l,r.length=es:=by
 cases x with
 |h j=>
  simp only[srcRows]at hs;simp only[srcEs]at he
  split at hs
  ·rename_i fz t es' l' hj
   simp at hs;subst hs
   rw[hj]at he;simp at he;subst he
   obtain⟨xs,_,_,h3,_⟩:=h.res j _ hj
   exact h3
  ·cases hs
 |sv j lo n=>
  simp only[srcRows]at hs;simp only[srcEs]at he
  split at hs
  ·rename_i fz t es' l' hj
   simp at hs;subst hs
   rw[hj]at he;simp at he;subst he
   obtain⟨xs,_,_,h3,_⟩:=h.res j _ hj
   exact λr hr=>h3 r (List.mem_of_mem_drop (List.mem_of_mem_take hr))
  ·cases hs
 |d c=>
  cases c with
  |sl es' l'=>
   simp[srcRows]at hs;subst hs
   simp only[srcEs]at he;have he:=of_decide_eq_true he;subst he
   simp only[A.Den,C.Den]at hx
   obtain⟨ad,cap,_,_,hl⟩:=hx
   rcases hl with rfl|⟨b,off,_,_,_,hr⟩
   ·simp
   ·intro r hr'
    rw[C.DenRow_iff]at hr
    obtain⟨r0,hr0,rfl⟩:=List.mem_map.1 hr'
    obtain⟨k,hk,rfl⟩:=List.mem_iff_getElem.1 hr0
    rw[List.length_map]
    exact(hr k _ (List.getElem?_eq_getElem hk)).1
  |nl es'=>simp[srcRows]at hs;subst hs;simp
  |_=>simp[srcRows]at hs
 |_=>simp[srcRows]at hs
theorem arr1{α:Type}{a:Array α}{x:α}(h:a.toList=[x]):a= #[x]:=by cases a;simp_all
theorem arr2{α:Type}{a:Array α}{x y:α}(h:a.toList=[x,y]):a= #[x,y]:=by cases a;simp_all
theorem denL_map_ev(h:SatAt M0 S0 w0 N T m ρ a w):∀(l:List Operand),A.DenL w (Mut M0 m ρ) m ρ (l.map (evT T)) (l.map a.eval)
 |[]=>by simp[A.DenL]
 |o::r=>by simp only[List.map_cons,A.DenL];exact⟨_,_,rfl,ev_den h o,denL_map_ev h r⟩
theorem optDen_map(h:SatAt M0 S0 w0 N T m ρ a w)(o:Option Operand):OptDen w (Mut M0 m ρ) m ρ (o.map (evT T)) (o.map a.eval):=by
 cases o with
 |none=>exact .inl ⟨rfl,rfl⟩
 |some o=>exact .inr ⟨_,_,rfl,rfl,ev_den h o⟩
theorem sd_op(h:SatAt M0 S0 w0 N T m ρ a w)(hlt:∀b,M0 b->b<w0.heap.size){o:Oper}{d:Nat}{pre:Bool}{v:A}{ups:List (Nat×R)}(he:effOp P m T d o=some (pre,v,ups))(hp:pre=true):Gives P M0 S0 w0 N T m ρ a w o v (applyU m ups):=by
 unfold effOp at he
 split at he
 case h_1 x ho=>
  simp only[Option.some.injEq,Prod.mk.injEq]at he;obtain⟨_,rfl,rfl⟩:=he
  exact gives_pure h (by simp[execOp,ho]) (mvA_den (ev_den h x))
 case h_2 x ho=>
  simp only[Option.some.injEq,Prod.mk.injEq]at he;obtain⟨_,rfl,rfl⟩:=he
  exact gives_pure h (by simp[execOp,ho]) (mvA_den (ev_den h x))
 case h_3 c x y ho=>
  split at he
  ·rename_i t hc
   simp only[Option.some.injEq,Prod.mk.injEq]at he;obtain⟨_,rfl,rfl⟩:=he
   have hcv:=ev_den h c
   rw[hc]at hcv;simp only[A.Den,C.Den]at hcv
   refine gives_pure h (y:=if t then a.eval x else a.eval y) (by simp[execOp,ho,hcv,asBool]) ?_
   cases t
   ·exact ev_den h y
   ·exact ev_den h x
  ·cases he
 case h_4 t ho=>
  simp only[Option.map_eq_some_iff]at he
  obtain⟨l,h1,h2⟩:=he
  simp only[Prod.mk.injEq]at h2;obtain⟨rfl,rfl,rfl⟩:=h2
  obtain⟨ρ',w',hr,hs,hO,hv⟩:=sd_alloc h hlt h1 (freeB_eq hp)
  exact⟨_,w',ρ',_,by simp[execOp,ho,hr],.inl rfl,hs,hO,hv⟩
 case h_5 t x ho=>
  simp only[Option.map_eq_some_iff]at he
  obtain⟨l,h1,h2⟩:=he
  simp only[Prod.mk.injEq]at h2;obtain⟨rfl,rfl,rfl⟩:=h2
  obtain⟨ρ',w',hr,hs,hO,hv⟩:=sd_box (P:=P) (t:=t) h hlt (ev_den h x) h1 (freeB_eq hp)
  exact⟨_,w',ρ',_,by simp[execOp,ho,hr],.inl rfl,hs,hO,hv⟩
 case h_6 t ps ho=>
  unfold effBuild at he
  split at he
  ·rename_i pl z parts h1 h2 h3
   simp only[Option.map_eq_some_iff]at he
   obtain⟨out,h4,h5⟩:=he
   simp only[Prod.mk.injEq]at h5;obtain⟨rfl,rfl,rfl⟩:=h5
   obtain⟨y,hr,hv⟩:=sd_build (P:=P) (w:=w) h1 h2 (optCells_den h h3) h4
   refine gives_pure h (y:=y) ?_ hv
   have e:(ps.map λ(i,x)=>(i,a.eval x))=(ps.toList.map λp=>(p.1,a.eval p.2)).toArray:=by cases ps;simp
   simp only[execOp,ho,e,Sem.run_bind,hr,Result.andThen_ok,Sem.run_pure]
  ·cases he
 case h_7 t n ps ho=>
  unfold effBuildSlice at he
  split at he
  ·rename_i e hel
   split at he
   ·rename_i z rp h1 h2
    simp only[Option.map_eq_some_iff]at he
    obtain⟨out,h4,h5⟩:=he
    simp only[Prod.mk.injEq]at h5;obtain⟨rfl,rfl,rfl⟩:=h5
    rw[Bool.and_eq_true]at hp
    obtain⟨p1,p2,p3⟩:=of_decide_eq_true hp.1
    obtain⟨ρ',y,w',hr,hs,hO,hv⟩:=sd_buildSlice h hlt hel h1 p1 p2 rfl p3 h2 h4 (freeB_eq hp.2)
    have e2:(ps.map λ(i,x)=>(i,a.eval x))=(ps.toList.map λp=>(p.1,a.eval p.2)).toArray:=by cases ps;simp
    exact⟨y,w',ρ',_,by simp only[execOp,ho,e2,Sem.run_bind,hr,Result.andThen_ok,Sem.run_pure],.inl rfl,hs,hO,hv⟩
   ·cases he
  ·cases he
 case h_8 t x ho=>
  obtain⟨rfl,z,hr,hv⟩:=sd_load (P:=P) h (ev_den h x) he hp
  exact gives_pure h (by simp[execOp,ho,hr]) hv
 case h_9 t x y ho=>
  unfold effStore at he
  split at he
  ·rename_i i off vs hx h2
   split at he
   ·rename_i l h1
    simp only[Option.some.injEq,Prod.mk.injEq]at he;obtain⟨rfl,rfl,rfl⟩:=he
    obtain⟨p1,p2,p3⟩:=of_decide_eq_true hp
    have hxd:=ev_den h x
    rw[hx]at hxd
    obtain⟨ti,hti⟩:=info_pos p2
    obtain⟨w',hr,hs,hO⟩:=sd_store_lp (P:=P) (t:=t) h hxd h1 h2 p1 p3 (by rw[hti];rfl)
    exact⟨undef,w',ρ,_,by simp[execOp,ho,hr],.inr ⟨rfl,rfl⟩,hs,hO,by simp only[A.Den]⟩
   ·cases he
  ·rename_i i es k off vs hx h1
   split at he
   ·rename_i te es' l h2
    simp only[Option.some.injEq,Prod.mk.injEq]at he;obtain⟨rfl,rfl,rfl⟩:=he
    obtain⟨rfl,p1,p2,p3,p4⟩:=of_decide_eq_true hp
    obtain⟨ti,hti⟩:=info_pos p3
    have hxd:=ev_den h x
    rw[hx]at hxd
    obtain⟨w',hr,hs,hO⟩:=sd_store_ep (P:=P) (t:=t) h hxd h2 h1 p1 p2 (by rintro rfl;simp at p2;omega) p4 (by rw[hti];rfl)
    exact⟨undef,w',ρ,_,by simp[execOp,ho,hr],.inr ⟨rfl,rfl⟩,hs,hO,by simp only[A.Den]⟩
   ·cases he
  ·cases he
 case h_10 x ho=>
  obtain⟨rfl,⟨d,hy⟩,hv⟩:=sd_nilCheck h (ev_den h x) he hp
  refine gives_pure h (y:=a.eval x) ?_ hv
  rcases hy with hy|⟨g,f,c,hy⟩<;>simp[execOp,ho,hy]
 case h_11 op t x y ty ho=>
  obtain⟨rfl,z,hr,hv⟩:=sd_bin (P:=P) (ox:=x) (oy:=y) h (ev_den h x) (ev_den h y) he hp
  refine gives_pure h (y:=z) ?_ hv
  simp only[execOp,ho,Sem.run_bind]at hr⊢
  rw[hr];rfl
 case h_12 op ty x ho=>
  obtain⟨rfl,z,hr,hv⟩:=sd_un (P:=P) (ev_den h x) he hp
  exact gives_pure h (by simp[execOp,ho,hr]) hv
 case h_13 s t x ho=>
  obtain⟨rfl,z,hr,hv⟩:=sd_convert (P:=P) (ev_den h x) he hp
  exact gives_pure h (by simp[execOp,ho,hr]) hv
 case h_14 f first caps ho=>
  simp only[Option.some.injEq,Prod.mk.injEq]at he;obtain⟨_,rfl,rfl⟩:=he
  refine gives_pure h (y:=.func f (first.map a.eval) (caps.map a.eval)) (by simp[execOp,ho,Instr.makeFunc]) ?_
  simp only[A.Den]
  exact⟨_,_,rfl,by simpa using denL_map_ev h first.toList,by simpa using denL_map_ev h caps.toList⟩
 case h_15 t ho=>
  simp only[Option.some.injEq,Prod.mk.injEq]at he;obtain⟨rfl,rfl,rfl⟩:=he
  obtain⟨ρ',y,w',hr,hs,hO,hv⟩:=sd_makeMap (P:=P) (t:=t) h hlt (freeB_eq hp)
  exact⟨y,w',ρ',_,by simp[execOp,ho,hr],.inl rfl,hs,hO,hv⟩
 case h_16 t l c ho=>
  unfold effMakeSlice at he
  split at he
  ·rename_i e kl l' kc c' h1 h2 h3
   simp only[Option.map_eq_some_iff]at he
   obtain⟨z,h4,h5⟩:=he
   simp only[Prod.mk.injEq]at h5;obtain⟨rfl,rfl,rfl⟩:=h5
   rw[Bool.and_eq_true]at hp
   obtain⟨p1,p2,p3,p4,p5,p6⟩:=of_decide_eq_true hp.1
   obtain⟨ρ',y,w',hr,hs,hO,hv⟩:=sd_makeSlice (P:=P) (kl:=kl) (kc:=kc) h hlt h1 h4 p1 p2 rfl rfl p3 p4 p5 p6 (freeB_eq hp.2)
   have hl:=ev_den h l;have hc:=ev_den h c
   rw[h2]at hl;rw[h3]at hc
   simp only[A.Den,C.Den]at hl hc
   exact⟨y,w',ρ',_,by simp[execOp,ho,hl,hc,hr],.inl rfl,hs,hO,hv⟩
  ·cases he
 case h_17 t x lo hi mx ho=>
  obtain⟨rfl,z,hr,hv⟩:=sd_slice (P:=P) h (ev_den h x) (optDen_map h lo) (optDen_map h hi) (optDen_map h mx) he hp
  exact gives_pure h (by simp[execOp,ho,hr]) hv
 case h_18 t x f ho=>
  obtain⟨rfl,z,hr,hv⟩:=sd_fieldAddr (P:=P) h (ev_den h x) he hp
  exact gives_pure h (by simp[execOp,ho,hr]) hv
 case h_19 t x f ho=>
  obtain⟨rfl,z,hr,hv⟩:=sd_field (P:=P) h (ev_den h x) he hp
  exact gives_pure h (by simp[execOp,ho,hr]) hv
 case h_20 t x i ho=>
  obtain⟨rfl,z,hr,hv⟩:=sd_indexAddr (P:=P) h (ev_den h x) (ev_den h i) he hp
  exact gives_pure h (by simp[execOp,ho,hr]) hv
 case h_21 x i ho=>
  split at he
  ·rename_i l hx
   simp only[Option.some.injEq,Prod.mk.injEq]at he;obtain⟨rfl,rfl,rfl⟩:=he
   have hp:=of_decide_eq_true hp
   have hxd:=ev_den h x
   rw[hx]at hxd;simp only[A.Den]at hxd
   obtain⟨vs,hv,hd⟩:=hxd
   have hlen:=(A.DenL_iff.1 hd).1
   have hlt':i<vs.toList.length:=by omega
   refine gives_pure h (y:=vs.toList[i]) ?_ ?_
   ·have:vs[i]?=some vs.toList[i]:=by simp at hlt';simp[hlt']
    simp[execOp,ho,hv,Instr.extract,this]
   ·rw[List.getD_eq_getElem?_getD,List.getElem?_eq_getElem hp]
    exact(A.DenL_iff.1 hd).2 _ _ _ (List.getElem?_eq_getElem hp) (List.getElem?_eq_getElem hlt')
  ·cases he
 case h_22 c ho=>
  obtain⟨callee,args,tys⟩:=c
  simp only at he
  split at he
  ·rename_i x t h2 h3
   have e1:=arr1 h2;have e2:=arr1 h3;subst e1;subst e2
   obtain⟨rfl,z,hr,hv⟩:=sd_len (P:=P) (ty:=o.type) h (ev_den h x) he hp
   exact gives_pure h (by simp[execOp,ho,resolve,invoke,builtin,hr]) hv
  ·rename_i x y t t' h2 h3
   have e1:=arr2 h2;have e2:=arr2 h3;subst e1;subst e2
   simp only[Option.map_eq_some_iff]at he
   obtain⟨⟨p,q,r⟩,h4,h5⟩:=he
   simp only[Prod.mk.injEq]at h5;obtain⟨rfl,rfl,rfl⟩:=h5
   rw[Bool.and_eq_true]at hp
   obtain⟨htt,hp⟩:=hp
   have htt:=of_decide_eq_true htt
   subst htt
   unfold effAppend at h4
   split at h4
   ·rename_i e hel
    split at h4
    ·rename_i k l l2 z g1 g2 g3
     simp only[Option.some.injEq,Prod.mk.injEq]at h4;obtain⟨rfl,rfl,rfl⟩:=h4
     simp only[Bool.and_eq_true]at hp
     obtain⟨p0,p4,p5,p6⟩:=hp
     obtain⟨p1,p2,p3,p7⟩:=of_decide_eq_true p0
     obtain⟨p6,p8⟩:=p6
     have p6:=freeB_eq p6
     have hk:∀i,k=some i->∃l',m i=some (.osl false e (P.cellsOf e) l'):=by
      rintro i rfl
      simp only[dstOk]at p4
      split at p4
      ·rename_i e' es' l' hi;obtain⟨rfl,rfl⟩:=of_decide_eq_true p4;exact⟨l',hi⟩
      ·cases p4
     have hle:∀r∈l,r.length=P.cellsOf e:=by
      cases hxe:evT T x with
      |h i=>
       rw[hxe]at g1;simp only[dstRows]at g1
       split at g1
       ·rename_i t2 es2 l2' hi
        simp at g1;obtain⟨rfl,rfl⟩:=g1
        obtain⟨l',hi'⟩:=hk i rfl
        rw[hi]at hi';simp at hi';obtain⟨rfl,rfl,rfl⟩:=hi'
        obtain⟨xs,_,_,h3,_⟩:=h.res i _ hi
        exact h3
       ·cases g1
      |d c=>
       rw[hxe]at g1
       cases c<;>simp[dstRows]at g1
       obtain⟨_,rfl⟩:=g1;simp
      |_=>rw[hxe]at g1;simp[dstRows]at g1
     obtain⟨ρ',y',w',hr,hs,hO,hv⟩:=sd_append (P:=P) (ty:=o.type) h hlt g1 g2 hel g3 p1 p2 rfl rfl p3 hle (lenRows_of h (ev_den h y) g2 p5) hk p6 (λe1 e2=>by subst e1;subst e2;cases p8) p7
     rw[applyU_append]
     exact⟨y',w',ρ',_,by simp[execOp,ho,resolve,invoke,builtin,hr],.inl rfl,hs,hO,hv⟩
    ·cases h4
   ·cases h4
  ·rename_i x y h2
   have e1:=arr2 h2;subst e1
   unfold effMinMax at he
   split at he
   ·rename_i k p k' q hx hy
    simp only[Option.some.injEq,Prod.mk.injEq]at he;obtain⟨rfl,rfl,rfl⟩:=he
    have hp:=of_decide_eq_true hp
    subst hp
    have hxd:=ev_den h x;have hyd:=ev_den h y
    rw[hx]at hxd;rw[hy]at hyd
    simp only[A.Den,C.Den]at hxd hyd
    exact gives_pure h (by simp[execOp,ho,resolve,invoke,builtin,Builtin.max_,Builtin.max2,hxd,hyd];rfl) (by simp[A.Den,C.Den])
   ·cases he
  ·rename_i x y h2
   have e1:=arr2 h2;subst e1
   unfold effMinMax at he
   split at he
   ·rename_i k p k' q hx hy
    simp only[Option.some.injEq,Prod.mk.injEq]at he;obtain⟨rfl,rfl,rfl⟩:=he
    have hp:=of_decide_eq_true hp
    subst hp
    have hxd:=ev_den h x;have hyd:=ev_den h y
    rw[hx]at hxd;rw[hy]at hyd
    simp only[A.Den,C.Den]at hxd hyd
    exact gives_pure h (by simp[execOp,ho,resolve,invoke,builtin,Builtin.min_,Builtin.min2,hxd,hyd];rfl) (by simp[A.Den,C.Den])
   ·cases he
  ·cases he
 case h_23=>cases he
end
end Go.Pv
namespace Go.Pv
open Go.RowKit
mutual
def A.ren(g:Nat->Nat):A->A
 |.lp i off=>.lp (g i) off
 |.h i=>.h (g i)
 |.ep i es k off=>.ep (g i) es k off
 |.sv i lo n=>.sv (g i) lo n
 |.fn f a c=>.fn f (A.renL g a) (A.renL g c)
 |.agg l=>.agg (A.renL g l)
 |.tup l=>.tup (A.renL g l)
 |.ifc t a=>.ifc t (A.ren g a)
 |.d c=>.d c
 |.x=>.x
def A.renL(g:Nat->Nat):List A->List A
 |[]=>[]
 |c::r=>A.ren g c::A.renL g r
end
theorem renL_append(g:Nat->Nat):∀l r:List A,A.renL g (l++r)=A.renL g l++A.renL g r
 |[],r=>rfl
 |c::l,r=>by simp[A.renL,renL_append g l r]
theorem renL_map(g:Nat->Nat):∀l:List A,A.renL g l=l.map (A.ren g)
 |[]=>rfl
 |c::l=>by simp[A.renL,renL_map g l]
theorem renL_length(g:Nat->Nat):∀l:List A,(A.renL g l).length=l.length
 |[]=>rfl
 |c::l=>by simp[A.renL,renL_length g l]
theorem renL_flatten(g:Nat->Nat):∀l:List (List A),(l.map (A.renL g)).flatten=A.renL g l.flatten
 |[]=>rfl
 |e::l=>by simp only[List.map_cons,List.flatten_cons,renL_append,renL_flatten g l]
def R.ren(g:Nat->Nat):R->R
 |.cells fz l=>.cells fz (A.renL g l)
 |.osl fz t es l=>.osl fz t es (l.map (A.renL g))
 |.mp fz kv st=>.mp fz (kv.map λp=>(p.1,p.2.ren g)) (st.map λp=>(p.1,g p.2))
 |.fr l=>.fr (A.renL g l)
 |.it i sc a b=>.it (g i) (g sc) (a.map g) (b.map g)
 |.lo st pend ts ps asg bod=>.lo st pend (A.renL g ts) ps asg bod
 |.cu src es l=>.cu (src.ren g) es (l.map (A.renL g))
 |r=>r
def OntoG(g:Nat->Nat)(m m':Mem)(ρ ρ':Nat->Value):Prop:=∀i,m i≠none->m' (g i)≠none/\(m' (g i)≠some .dead->m i≠some .dead/\ρ' (g i)=ρ i/\∀fz t es l,m i=some (.osl fz t es l)->∃fz' t' l',m' (g i)=some (.osl fz' t' es l')/\l'.length=l.length)
theorem Has.monoG{g:Nat->Nat}{m m':Mem}{ρ ρ':Nat->Value}(hO:OntoG g m m' ρ ρ'){i:Nat}{p q:Prop}(h:Has m i p)
 (hpq:ρ' (g i)=ρ i->(∀fz t es l,m i=some (.osl fz t es l)->∃fz' t' l',m' (g i)=some (.osl fz' t' es l')/\l'.length=l.length)->p->q):Has m' (g i) q:=by
 obtain⟨h1,h2⟩:=hO i h.1
 exact⟨h1,λhd=>hpq (h2 hd).2.1 (h2 hd).2.2 (h.2 (h2 hd).1)⟩
mutual
theorem A.Den_push{g:Nat->Nat}{w w':World}{M M':Nat->Prop}{m m':Mem}{ρ ρ':Nat->Value}(h:Stays M w w')(hM:∀b,M' b->b<w.heap.size->M b)(hO:OntoG g m m' ρ ρ'):
 ∀(a:A)(y:Value),a.Den w M m ρ y->(a.ren g).Den w' M' m' ρ' y
 |.d c,y,hd=>by
  simp only[A.ren,A.Den]at hd⊢
  exact C.Den_mono h hM c y hd
 |.lp i off,y,hd=>by
  simp only[A.ren,A.Den]at hd⊢
  exact hd.monoG hO λe _⟨b,h1,h2⟩=>⟨b,e.trans h1,h2⟩
 |.h i,y,hd=>by
  simp only[A.ren,A.Den]at hd⊢
  exact hd.monoG hO λe _ h1=>h1.trans e.symm
 |.ep i es k off,y,hd=>by
  simp only[A.ren,A.Den]at hd⊢
  exact hd.monoG hO λe _⟨b,o,n,cap,h1,h2⟩=>⟨b,o,n,cap,e.trans h1,h2⟩
 |.sv i lo n,y,hd=>by
  simp only[A.ren,A.Den]at hd⊢
  refine hd.monoG hO λe e2⟨a,cap,h1,h2,es,fz,t,l,h5,h6,h3⟩=>?_
  obtain⟨fz',t',l',h7,h8⟩:=e2 fz t es l h5
  exact⟨a,cap,h1,h2,es,fz',t',l',h7,by omega,h3.imp (λ⟨q1,q0,q2⟩=>⟨q1,q0,λq=>by rw[h8];exact q2 q⟩) λ⟨b,o,n',cap',h9,h10⟩=>⟨b,o,n',cap',e.trans h9,h10⟩⟩
 |.fn f first caps,y,hd=>by
  simp only[A.ren,A.Den]at hd⊢
  obtain⟨us,vs,hy,h1,h2⟩:=hd
  exact⟨us,vs,hy,A.DenL_push h hM hO first _ h1,A.DenL_push h hM hO caps _ h2⟩
 |.agg l,y,hd=>by
  simp only[A.ren,A.Den]at hd⊢
  obtain⟨vs,hy,h0,h1⟩:=hd
  exact⟨vs,hy,h0,A.DenL_push h hM hO l _ h1⟩
 |.tup l,y,hd=>by
  simp only[A.ren,A.Den]at hd⊢
  obtain⟨vs,hy,h1⟩:=hd
  exact⟨vs,hy,A.DenL_push h hM hO l _ h1⟩
 |.ifc t a,y,hd=>by
  simp only[A.ren,A.Den]at hd⊢
  obtain⟨v,hy,h1⟩:=hd
  exact⟨v,hy,A.Den_push h hM hO a _ h1⟩
 |.x,y,hd=>by simp only[A.ren,A.Den]
theorem A.DenL_push{g:Nat->Nat}{w w':World}{M M':Nat->Prop}{m m':Mem}{ρ ρ':Nat->Value}(h:Stays M w w')(hM:∀b,M' b->b<w.heap.size->M b)(hO:OntoG g m m' ρ ρ'):
 ∀(l:List A)(ys:List Value),A.DenL w M m ρ l ys->A.DenL w' M' m' ρ' (A.renL g l) ys
 |[],ys,hd=>by simpa only[A.renL,A.DenL]using hd
 |c::r,ys,hd=>by
  simp only[A.renL,A.DenL]at hd⊢
  obtain⟨y,yr,hy,h1,h2⟩:=hd
  exact⟨y,yr,hy,A.Den_push h hM hO c y h1,A.DenL_push h hM hO r yr h2⟩
end
theorem HasL.push{g:Nat->Nat}{m m':Mem}{ρ ρ':Nat->Value}(hO:OntoG g m m' ρ ρ'){ids:List Nat}{p q:Prop}(h:HasL m ids p)(hpq:(∀i∈ids,stampOf ρ' (g i)=stampOf ρ i)->p->q):HasL m' (ids.map g) q:=by
 refine⟨λi hi=>?_,λhd=>hpq (λi hi=>?_) (h.2 λi hi=>?_)⟩
 ·obtain⟨j,hj,rfl⟩:=List.mem_map.1 hi
  exact(hO j (h.1 j hj)).1
 ·unfold stampOf
  rw[((hO i (h.1 i hi)).2 (hd (g i) (List.mem_map.2 ⟨i,hi,rfl⟩))).2.1]
 ·exact((hO i (h.1 i hi)).2 (hd (g i) (List.mem_map.2 ⟨i,hi,rfl⟩))).1
theorem StIs.push{g:Nat->Nat}{m m':Mem}{ρ ρ':Nat->Value}(hO:OntoG g m m' ρ ρ'){st:List (Ky×Nat)}{l:List MapEntry}{cl:Nat}(h:StIs m ρ st l cl):StIs m' ρ' (st.map λp=>(p.1,g p.2)) l cl:=by
 intro p hp
 obtain⟨q,hq,rfl⟩:=List.mem_map.1 hp
 exact(h q hq).monoG hO λhe _ r=>by
  have e1:stampOf ρ' (g q.2)=stampOf ρ q.2:=by unfold stampOf;rw[he]
  show(∀e∈l,e.key=q.1.val->e.born=stampOf ρ' (g q.2))/\stampOf ρ' (g q.2)<=cl/\(q.1=.agg []->stampOf ρ' (g q.2)=cl)
  rw[e1];exact r
theorem ItIs.push{g:Nat->Nat}(hg:∀i j,g i=g j->i=j){m m':Mem}{ρ ρ':Nat->Value}(hO:OntoG g m m' ρ ρ'){start seen:List Nat}{since:Nat}{sa:Array Nat}(h:ItIs m ρ start seen since sa):ItIs m' ρ' (start.map g) (seen.map g) since sa:=
 ⟨λi hi=>by
   obtain⟨j,hj,rfl⟩:=List.mem_map.1 hi
   exact List.mem_map.2 ⟨j,h.1 j hj,rfl⟩,HasL.push hO h.2 λhe⟨h0,h1,h2,h3,h4⟩=>⟨h0.map g (λa b hab e=>hab (hg a b e)),by rw[List.map_map,show(start.map (stampOf ρ'∘g))=start.map (stampOf ρ)from List.map_congr_left he];exact h1,λi hi=>by
   obtain⟨j,hj,rfl⟩:=List.mem_map.1 hi
   rw[he j hj]
   refine⟨(h2 j hj).1,(h2 j hj).2.trans ?_⟩
   have:(g j∈seen.map g)↔j∈seen:=⟨λh=>by obtain⟨k,hk,e⟩:=List.mem_map.1 h;rw[hg _ _ e]at hk;exact hk,λh=>List.mem_map.2 ⟨j,h,rfl⟩⟩
   simp only[this],λi hi=>by
    obtain⟨j,hj,rfl⟩:=List.mem_map.1 hi
    exact List.mem_map.2 ⟨j,h3 j hj,rfl⟩,by
    rw[h4]
    cases seen with
    |nil=>rfl
    |cons s r=>simp only[List.map_cons,List.head?_cons,Option.map_some];rw[he s (h3 s (by simp))]⟩⟩
theorem R.Ok_push{g:Nat->Nat}(hg:∀i j,g i=g j->i=j){w w':World}{M M':Nat->Prop}{m m':Mem}{ρ ρ':Nat->Value}(h:Stays M w w')(hM:∀b,M' b->b<w.heap.size->M b)(hO:OntoG g m m' ρ ρ')
 {hd:Value}(hb:∀b,blk hd=some b->b<w.heap.size->w'.heap[b]?=w.heap[b]?){r:R}(hr:r.Ok w M m ρ hd):(r.ren g).Ok w' M' m' ρ' hd:=by
 cases r with
 |dead=>trivial
 |cells fz l=>
  obtain⟨b,cs,t,rfl,h1,h2,h3,h4⟩:=hr
  have hlt:b<w.heap.size:=(Array.getElem?_eq_some_iff.1 h1).1
  exact⟨b,cs,t,rfl,(hb b rfl hlt).trans h1,A.DenL_push h hM hO l _ h2,λe f=>h3 e (hM b f hlt),h4⟩
 |osl fz t es l=>
  obtain⟨xs,h1,h2,h3,h4,h5⟩:=hr
  refine⟨xs,?_,by rw[renL_flatten];exact A.DenL_push h hM hO _ _ h2,?_,?_,h5⟩
  rotate_left 1
  ·intro e he
   obtain⟨e',he',rfl⟩:=List.mem_map.1 he
   rw[renL_length];exact h3 e' he'
  rotate_left 1
  ·rw[List.length_map]
   rcases h1 with hn|⟨hl,g,og,cap,cur,rfl,hp,hh,rest⟩
   ·exact .inl hn
   ·exact .inr ⟨hl,g,og,cap,cur,rfl,hp,hh.back (hb g (by simp[blk];omega) hh.lt),rest⟩
  ·intro e b hbb f
   rcases h1 with⟨_,_,a,rfl⟩|⟨hl,g,og,cap,cur,rfl,hp,hh,rest⟩
   ·cases a<;>simp[blk]at hbb
   ·simp[blk]at hbb
    obtain⟨_,rfl⟩:=hbb
    exact h4 e _ (by simp[blk];omega) (hM _ f hh.lt)
 |mp fz kv st=>
  obtain⟨b,es,cl,l,rfl,h1,h2,h3,h4,h5⟩:=hr
  have hlt:b<w.heap.size:=(Array.getElem?_eq_some_iff.1 h1).1
  have e1:(kv.map λp=>(p.1,p.2.ren g)).map (·.1)=kv.map (·.1):=by rw[List.map_map];rfl
  have e2:(kv.map λp=>(p.1,p.2.ren g)).map (·.2)=A.renL g (kv.map (·.2)):=by rw[renL_map,List.map_map,List.map_map];rfl
  refine⟨b,es,cl,l,rfl,(hb b rfl hlt).trans h1,by rw[e1];exact h2,by rw[e2];exact A.DenL_push h hM hO _ _ h3,λe f=>h4 e (hM b f hlt),h5.push hO⟩
 |fr l=>
  obtain⟨vs,rfl,h1⟩:=hr
  exact⟨vs,rfl,A.DenL_push h hM hO _ _ h1⟩
 |it i sc start seen=>
  obtain⟨b,mb,si,sa,rfl,h1,h2,h5,h4⟩:=hr
  have hlt:b<w.heap.size:=(Array.getElem?_eq_some_iff.1 h1).1
  exact⟨b,mb,si,sa,rfl,(hb b rfl hlt).trans h1,h2.monoG hO λe _ q=>e.trans q,h5.monoG hO λe _ q=>by unfold stampOf at q⊢;rw[e];exact q,h4.push hg hO⟩
 |sta=>exact hr
 |it0=>
  obtain⟨b,rfl,h1⟩:=hr
  exact⟨b,rfl,(hb b rfl (Array.getElem?_eq_some_iff.1 h1).1).trans h1⟩
 |si s pos=>
  obtain⟨b,rfl,h1⟩:=hr
  exact⟨b,rfl,(hb b rfl (Array.getElem?_eq_some_iff.1 h1).1).trans h1⟩
 |lo st pend ts ps asg bod=>
  obtain⟨l,fn,vs,D,rfl,h1,h2⟩:=hr
  exact⟨l,fn,vs,D,rfl,(hb l rfl (Array.getElem?_eq_some_iff.1 h1).1).trans h1,A.DenL_push h hM hO _ _ h2⟩
 |df tk=>
  obtain⟨b,rfl,h1⟩:=hr
  exact⟨b,rfl,(hb b rfl (Array.getElem?_eq_some_iff.1 h1).1).trans h1⟩
 |di cur rest=>
  obtain⟨b,mb,es,cl,sa,ll,rfl,h1,h2,h3,h4,h5,h6,h7,h8,h9⟩:=hr
  have hlt:mb<w.heap.size:=(Array.getElem?_eq_some_iff.1 h3).1
  exact⟨b,mb,es,cl,sa,ll,rfl,(hb b rfl (Array.getElem?_eq_some_iff.1 h1).1).trans h1,λf=>h2 (hM mb f hlt),(h.2 mb hlt h2).trans h3,h4,h5,h6,h7,C.DenL_mono h hM _ _ h8,h9.mono h hM⟩
 |cu src es l=>
  obtain⟨a,rfl,h1,h2,h3⟩:=hr
  refine⟨a,by rw[List.length_map],A.Den_push h hM hO _ _ h1,?_,h3.imp (λe=>by rw[e];rfl) ?_⟩
  ·intro e he
   obtain⟨e',he',rfl⟩:=List.mem_map.1 he
   rw[renL_length];exact h2 e' he'
  ·rintro⟨b,off,xs,e,h4,h5,h6,h7,h8⟩
   exact⟨b,off,xs,e,λf=>h4 (hM b f h5),Nat.lt_of_lt_of_le h5 h.1,by rw[renL_flatten];exact A.DenL_push h hM hO _ _ h6,h7,λj v hj=>(h.cell h5 h4).trans (h8 j v hj)⟩
theorem R.ren_live(g:Nat->Nat)(r:R):(r.ren g).live=r.live:=by cases r<;>rfl
def callable(P:Program)(f:FuncId):Bool:=
 match P.funcs[f]? with
 |some fn=> !(fn.name== "runtime.NumGoroutine")&&fn.body.isSome
 |none=>false
theorem run_callFunc'{P:Program}{f:FuncId}(h:callable P f=true)(args:Array Value)(w:World):(callFunc f args).run P w=.ok (.enter f args) w:=by
 unfold callable at h
 split at h
 ·rename_i fn hf
  simp only[Bool.and_eq_true,Bool.not_eq_true']at h
  obtain⟨b,hb⟩:=Option.isSome_iff_exists.1 h.2
  have:(fn.name= "runtime.NumGoroutine")=False:=by simpa using h.1
  simp[callFunc,hf,h.1,hb,this]
 ·cases h
end Go.Pv
namespace Go.Pv
open Go.RowKit
def FW(ro:Option Nat):Fence:={fn:=λ_=>True,depth:=none,alive:=false,round:=ro}
def noDefer(o:Oper):Bool:=match o.op with
 |.defer _=>false
 |_=>true
theorem noDefer_ne{o:Oper}(h:noDefer o=true):∀c,o.op≠.defer c:=by
 intro c e;unfold noDefer at h;rw[e]at h;cases h
theorem wpIn_run{P:Program}{o:Oper}{ro:Option Nat}{a:Act}{w:World}{next:Act->World->Prop}{Q:Exit->Act->World->Prop}(hd:noDefer o=true)(h:o.uponIn (FW ro) 0 P a next Q ((execOp a.eval o).run P w)):o.wpIn (FW ro) 0 P a w next Q:=by
 refine⟨λ_ _=>trivial,?_⟩
 rw[Oper.semAt_eq _ _ _ (noDefer_ne hd)];exact h
theorem wpIn_val{P:Program}{o:Oper}{ro:Option Nat}{a:Act}{w w':World}{y:Value}{res:Next}{next:Act->World->Prop}{Q:Exit->Act->World->Prop}(hd:noDefer o=true)(hr:(execOp a.eval o).run P w=.ok res w')(hres:res=.value y\/(res=.skip/\y=undef))(h:next (a.put o.dst y) w'):o.wpIn (FW ro) 0 P a w next Q:=by
 refine wpIn_run hd ?_
 rw[hr]
 rcases hres with rfl|⟨rfl,rfl⟩
 ·exact h
 ·exact h
theorem wpIn_enter{P:Program}{o:Oper}{ro:Option Nat}{a:Act}{w w':World}{f:FuncId}{args:Array Value}{next:Act->World->Prop}{Q:Exit->Act->World->Prop}(hd:noDefer o=true)(hr:(execOp a.eval o).run P w=.ok (.enter f args) w')
 (h:Calls P f args w' λe w''=>(∃y,e=.returned y/\next (a.put o.dst y) w'')\/∃ch,e=.panicked ch/\Q (.panic ch) a w''):o.wpIn (FW ro) 0 P a w next Q:=by
 refine wpIn_run hd ?_
 rw[hr,Oper.uponIn_enter]
 refine⟨λe=>(by cases e),?_⟩
 have h1:CallsIn (FW ro) (0 -1) P f args w' _:=callsIn_wide.2 h
 refine⟨h1.1,λcs hroom=>?_⟩
 obtain⟨e,w3,fr,q,r⟩:=h1.2 cs hroom
 refine⟨e,w3,fr,?_,r⟩
 rcases q with⟨y,rfl,q⟩|⟨ch,rfl,q⟩
 ·exact q
 ·exact q
def OpT(P:Program)(o:Oper)(T:Nat->A)(m:Mem)(v:A)(m':Mem):Prop:=
 ∀(ro:Option Nat)(N:Fr)(M0 S0:Nat->Prop)(w0:World)(ρ:Nat->Value)(a:Act)(w:World),SatAt M0 S0 w0 N T m ρ a w->(∀b,M0 b->b<w0.heap.size)->
  ∀(next:Act->World->Prop)(Q:Exit->Act->World->Prop),
   (∀(y:Value)(w':World)(ρ':Nat->Value),SatAt M0 S0 w0 N T m' ρ' a w'->Onto m m' ρ ρ'->v.Den w' (Mut M0 m' ρ') m' ρ' y->next (a.put o.dst y) w')->o.wpIn (FW ro) 0 P a w next Q
section
variable{M0 S0:Nat->Prop}{w0:World}{N:Fr}{T:Nat->A}{m:Mem}{ρ:Nat->Value}{a:Act}{w:World}{P:Program}
def callArgs(T:Nat->A)(c:Call):Option (FuncId×List A):=
 match c.callee with
 |.value fo=>match evT T fo with
  |.fn (.func f) us vs=>some (f,us++(c.args.toList.map (evT T)++vs))
  |.d (.fn (.func f) us vs)=>some (f,us.map A.d++(c.args.toList.map (evT T)++vs.map A.d))
  |_=>none
 |_=>none
theorem call_run(h:SatAt M0 S0 w0 N T m ρ a w){o:Oper}{c:Call}{f:FuncId}{as:List A}(ho:o.op=.call c)(hc:callArgs T c=some (f,as))(hcl:callable P f=true):
 ∃vs:List Value,(execOp a.eval o).run P w=.ok (.enter f vs.toArray) w/\A.DenL w (Mut M0 m ρ) m ρ as vs:=by
 obtain⟨callee,args,tys⟩:=c
 unfold callArgs at hc
 simp only at hc
 split at hc
 ·rename_i _ fo
  have hfo:=ev_den h fo
  have key:∀{us vs:Array Value},a.eval fo=.func (.func f) us vs->(execOp a.eval o).run P w=.ok (.enter f (us.toList++(args.toList.map a.eval++vs.toList)).toArray) w:=by
   intro us vs he
   have:us++args.map a.eval++vs=(us.toList++(args.toList.map a.eval++vs.toList)).toArray:=by
    cases us;cases vs;cases args;simp
   simp only[execOp,ho,resolve,he,Deferred.ofValue,Sem.run_bind,Sem.run_pure,Result.andThen_ok,invoke,run_callFunc' hcl,this]
  split at hc
  ·rename_i f' us vs he
   simp only[Option.some.injEq,Prod.mk.injEq]at hc
   obtain⟨rfl,rfl⟩:=hc
   rw[he]at hfo
   simp only[A.Den]at hfo
   obtain⟨u,v,hv,h1,h2⟩:=hfo
   exact⟨_,key hv,A.DenL_append h1 (A.DenL_append (denL_map_ev h args.toList) h2)⟩
  ·rename_i f' us vs he
   simp only[Option.some.injEq,Prod.mk.injEq]at hc
   obtain⟨rfl,rfl⟩:=hc
   rw[he]at hfo
   simp only[A.Den,C.Den]at hfo
   obtain⟨u,v,hv,h1,h2⟩:=hfo
   exact⟨_,key hv,A.DenL_append (A.DenL_map_d.2 h1) (A.DenL_append (denL_map_ev h args.toList) (A.DenL_map_d.2 h2))⟩
  ·cases hc
 ·cases hc
theorem mut_lt(h:SatAt M0 S0 w0 N T m ρ a w)(hlt:∀b,M0 b->b<w0.heap.size):∀b,Mut M0 m ρ b->b<w.heap.size:=by
 rintro b (e|⟨i,r,hi,hl,hb⟩)
 ·exact Nat.lt_of_lt_of_le (hlt b e) h.keeps.size
 ·exact(h.own i r b hi hl hb).2.2
end
end Go.Pv
namespace Go.Pv
open Go.RowKit
def R.hs:R->List Nat
 |.cells _ l=>A.hsL l
 |.osl _ _ _ l=>A.hsL l.flatten
 |.mp _ kv st=>A.hsL (kv.map (·.2))++st.map (·.2)
 |.fr l=>A.hsL l
 |.it i sc start _=>i::sc::start
 |.lo _ _ ts _ _ _=>A.hsL ts
 |.cu src _ l=>src.hs++A.hsL l.flatten
 |_=>[]
theorem Has.restrict{m m1:Mem}(hm:∀i r,m1 i=some r->m i=some r){i:Nat}(hi:m1 i≠none){p q:Prop}(h:Has m i p)(hpq:m1 i=m i->p->q):Has m1 i q:=by
 refine⟨hi,λhd=>?_⟩
 cases h1:m1 i with
 |none=>exact absurd h1 hi
 |some r=>
  have h2:=hm i r h1
  exact hpq (by rw[h1,h2]) (h.2 (by rw[h2];rw[h1]at hd;exact hd))
theorem HasL.restrict{m m1:Mem}(hm:∀i r,m1 i=some r->m i=some r){ids:List Nat}(hi:∀i∈ids,m1 i≠none){p:Prop}(h:HasL m ids p):HasL m1 ids p:=by
 refine⟨hi,λhd=>h.2 λi hii e=>hd i hii ?_⟩
 cases h1:m1 i with
 |none=>exact absurd h1 (hi i hii)
 |some r=>rw[<-e,hm i r h1]
mutual
theorem A.Den_restrict{w:World}{M:Nat->Prop}{m m1:Mem}{ρ:Nat->Value}(hm:∀i r,m1 i=some r->m i=some r):∀(a:A)(y:Value),(∀i∈a.hs,m1 i≠none)->a.Den w M m ρ y->a.Den w M m1 ρ y
 |.d c,y,_,hd=>by simpa only[A.Den]using hd
 |.lp i off,y,hi,hd=>by
  simp only[A.Den]at hd⊢
  exact hd.restrict hm (hi i (by simp[A.hs])) λ_ e=>e
 |.h i,y,hi,hd=>by
  simp only[A.Den]at hd⊢
  exact hd.restrict hm (hi i (by simp[A.hs])) λ_ e=>e
 |.ep i es k off,y,hi,hd=>by
  simp only[A.Den]at hd⊢
  exact hd.restrict hm (hi i (by simp[A.hs])) λ_ e=>e
 |.sv i lo n,y,hi,hd=>by
  simp only[A.Den]at hd⊢
  exact hd.restrict hm (hi i (by simp[A.hs])) λe⟨a,cap,h1,h2,es,fz,t,l,h5,h6⟩=>⟨a,cap,h1,h2,es,fz,t,l,e.trans h5,h6⟩
 |.fn f first caps,y,hi,hd=>by
  simp only[A.Den]at hd⊢
  obtain⟨us,vs,hy,h1,h2⟩:=hd
  exact⟨us,vs,hy,A.DenL_restrict hm first _ (λi h=>hi i (by simp[A.hs,h])) h1,A.DenL_restrict hm caps _ (λi h=>hi i (by simp[A.hs,h])) h2⟩
 |.agg l,y,hi,hd=>by
  simp only[A.Den]at hd⊢
  obtain⟨vs,hy,h0,h1⟩:=hd
  exact⟨vs,hy,h0,A.DenL_restrict hm l _ (λi h=>hi i (by simpa [A.hs]using h)) h1⟩
 |.tup l,y,hi,hd=>by
  simp only[A.Den]at hd⊢
  obtain⟨vs,hy,h1⟩:=hd
  exact⟨vs,hy,A.DenL_restrict hm l _ (λi h=>hi i (by simpa [A.hs]using h)) h1⟩
 |.ifc t a,y,hi,hd=>by
  simp only[A.Den]at hd⊢
  obtain⟨v,hy,h1⟩:=hd
  exact⟨v,hy,A.Den_restrict hm a _ (λi h=>hi i (by simpa [A.hs]using h)) h1⟩
 |.x,y,_,hd=>by simp only[A.Den]
theorem A.DenL_restrict{w:World}{M:Nat->Prop}{m m1:Mem}{ρ:Nat->Value}(hm:∀i r,m1 i=some r->m i=some r):∀(l:List A)(ys:List Value),(∀i∈A.hsL l,m1 i≠none)->A.DenL w M m ρ l ys->A.DenL w M m1 ρ l ys
 |[],ys,_,hd=>by simpa only[A.DenL]using hd
 |c::r,ys,hi,hd=>by
  simp only[A.DenL]at hd⊢
  obtain⟨y,yr,hy,h1,h2⟩:=hd
  exact⟨y,yr,hy,A.Den_restrict hm c y (λi h=>hi i (by simp[A.hsL,h])) h1,A.DenL_restrict hm r yr (λi h=>hi i (by simp[A.hsL,h])) h2⟩
end
theorem R.Ok_restrict{w:World}{M:Nat->Prop}{m m1:Mem}{ρ:Nat->Value}(hm:∀i r,m1 i=some r->m i=some r){r:R}{h:Value}(hi:∀i∈r.hs,m1 i≠none)(hr:r.Ok w M m ρ h):r.Ok w M m1 ρ h:=by
 cases r with
 |dead=>trivial
 |cells fz l=>
  obtain⟨b,cs,t,e,h1,h2,h3⟩:=hr
  exact⟨b,cs,t,e,h1,A.DenL_restrict hm _ _ (λi q=>hi i (by simpa [R.hs]using q)) h2,h3⟩
 |osl fz t es l=>
  obtain⟨xs,h1,h2,h3⟩:=hr
  exact⟨xs,h1,A.DenL_restrict hm _ _ (λi q=>hi i (by simpa [R.hs]using q)) h2,h3⟩
 |fr l=>
  obtain⟨vs,e,h1⟩:=hr
  exact⟨vs,e,A.DenL_restrict hm _ _ (λi q=>hi i (by simpa [R.hs]using q)) h1⟩
 |it i sc start seen=>
  obtain⟨b,mb,si,sa,e,h1,h2,h5,h4⟩:=hr
  exact⟨b,mb,si,sa,e,h1,h2.restrict hm (hi i (by simp[R.hs])) λ_ q=>q,h5.restrict hm (hi sc (by simp[R.hs])) λ_ q=>q,h4.1,HasL.restrict hm (λj hj=>hi j (by simp[R.hs,hj])) h4.2⟩
 |sta=>exact hr
 |it0=>exact hr
 |si s pos=>exact hr
 |di cur rest=>exact hr
 |df tk=>exact hr
 |cu src es l=>
  obtain⟨a,e,h1,h2,h3⟩:=hr
  refine⟨a,e,A.Den_restrict hm _ _ (λi q=>hi i (by simp only[R.hs,List.mem_append];exact .inl q)) h1,h2,h3.imp id ?_⟩
  rintro⟨b,off,xs,e,h4,h5,h6,h7⟩
  exact⟨b,off,xs,e,h4,h5,A.DenL_restrict hm _ _ (λi q=>hi i (by simp only[R.hs,List.mem_append];exact .inr q)) h6,h7⟩
 |lo st pend ts ps asg bod=>
  obtain⟨l,fn,vs,D,e,h1,h2⟩:=hr
  exact⟨l,fn,vs,D,e,h1,A.DenL_restrict hm _ _ (λi q=>hi i (by simpa [R.hs]using q)) h2⟩
 |mp fz kv st=>
  obtain⟨b,es,cl,l,e,h1,h2,h3,h4,h5⟩:=hr
  exact⟨b,es,cl,l,e,h1,h2,A.DenL_restrict hm _ _ (λi q=>hi i (by simp[R.hs,q])) h3,h4,λp hp=>(h5 p hp).restrict hm (hi p.2 (by simp only[R.hs,List.mem_append];exact .inr (List.mem_map.2 ⟨p,hp,rfl⟩))) λ_ q=>q⟩
theorem applyU_mono:∀(u:List (Nat×R)){m1 m:Mem},(∀i r,m1 i=some r->m i=some r)->∀i r,applyU m1 u i=some r->applyU m u i=some r
 |[],m1,m,h,i,r,e=>h i r e
 |(j,q)::t,m1,m,h,i,r,e=>by
  simp only[applyU]at e⊢
  refine applyU_mono t (λk s hk=>?_) i r e
  by_cases hkj:k=j
  ·subst hkj;simpa [setM]using hk
  ·simp[setM,hkj]at hk⊢;exact h k s hk
theorem applyU_none:∀(u:List (Nat×R)){m1:Mem}{i:Nat},applyU m1 u i=none->m1 i=none/\∀m:Mem,applyU m u i=m i
 |[],m1,i,e=>⟨e,λ_=>rfl⟩
 |(j,q)::t,m1,i,e=>by
  simp only[applyU]at e⊢
  obtain⟨h1,h2⟩:=applyU_none t e
  have hij:i≠j:=by rintro rfl;simp[setM]at h1
  exact⟨by simpa [setM,hij]using h1,λm=>by rw[h2];simp[setM,hij]⟩
theorem applyU_new:∀(u:List (Nat×R)){m1:Mem}{i:Nat},m1 i=none->applyU m1 u i≠none->∃p∈u,p.1=i
 |[],m1,i,h,e=>absurd h e
 |(j,q)::t,m1,i,h,e=>by
  by_cases hij:i=j
  ·exact⟨(j,q),by simp,hij.symm⟩
  ·simp only[applyU]at e
   obtain⟨p,hp,hpi⟩:=applyU_new t (m1:=setM m1 j q) (by simp[setM,hij,h]) e
   exact⟨p,by simp[hp],hpi⟩
theorem OpT.frame{P:Program}{o:Oper}{T1 T:Nat->A}{m1 m:Mem}{v:A}{ups:List (Nat×R)}(h:OpT P o T1 m1 v (applyU m1 ups))(hT:∀n,T1 n=.x\/(T1 n=T n/\∀i∈(T n).hs,m1 i≠none))
 (hm:∀i r,m1 i=some r->m i=some r)(hcl:∀i r,m1 i=some r->∀j∈r.hs,m1 j≠none)(hfresh:∀p∈ups,m1 p.1=none->m p.1=none):OpT P o T m v (applyU m ups):=by
 intro ro N M0 S0 w0 ρ a w hs hlt next Q hn
 let M1:Nat->Prop:=λb=>M0 b\/∃i r,m i=some r/\m1 i=none/\r.live=true/\blk (ρ i)=some b
 let S1:Nat->Prop:=λb=>∃i r,m1 i=some r/\r.live=true/\blk (ρ i)=some b
 have hmut:∀b,Mut M1 m1 ρ b↔Mut M0 m ρ b:=by
  intro b
  constructor
  ·rintro((e|⟨i,r,e1,_,e2,e3⟩)|⟨i,r,e1,e2,e3⟩)
   ·exact .inl e
   ·exact .inr ⟨i,r,e1,e2,e3⟩
   ·exact .inr ⟨i,r,hm i r e1,e2,e3⟩
  ·rintro(e|⟨i,r,e1,e2,e3⟩)
   ·exact .inl (.inl e)
   ·cases hi:m1 i with
    |none=>exact .inl (.inr ⟨i,r,e1,hi,e2,e3⟩)
    |some r'=>
     have:=hm i r' hi
     rw[e1]at this;simp at this;subst this
     exact .inr ⟨i,r,hi,e2,e3⟩
 have hmutE:Mut M1 m1 ρ=Mut M0 m ρ:=funext λb=>propext (hmut b)
 have h0:SatAt M1 S1 w ⟨N.n,none⟩ T1 m1 ρ a w:=
  {keeps:=Keeps.refl _ _,size:=hs.size,defers:=λds e=>by cases e
   tmps:=λn=>by
    rw[hmutE]
    rcases hT n with e|⟨e,hids⟩
    · rw[e];simp only[A.Den]
    · rw[e];exact A.Den_restrict hm _ _ hids (hs.tmps n)
   res:=λi r hi=>by rw[hmutE];exact R.Ok_restrict hm (hcl i r hi) (hs.res i r (hm i r hi))
   own:=λi r b hi hl hb=>by
    obtain⟨x,y,z⟩:=hs.own i r b (hm i r hi) hl hb
    refine⟨.inr ⟨i,r,hi,hl,hb⟩,?_,z⟩
    rintro(e|⟨j,s,e1,e2,e3,e4⟩)
    · exact y e
    · have:=hs.apart i j r s b (hm i r hi) hl e1 e3 hb e4
      subst this;rw[hi]at e2;cases e2
   apart:=λi j r s b hi l1 hj l2 b1 b2=>hs.apart i j r s b (hm i r hi) l1 (hm j s hj) l2 b1 b2}
 have hlt1:∀b,M1 b->b<w.heap.size:=λb hb=>mut_lt hs hlt b ((hmut b).1 (.inl hb))
 refine h ro ⟨N.n,none⟩ M1 S1 w ρ a w h0 hlt1 next Q ?_
 intro y w' ρ' h1 hO hv
 let ρ2:Nat->Value:=λi=>if(applyU m1 ups i).isSome then ρ' i else ρ i
 have hA:∀{i:Nat}{r:R},applyU m1 ups i=some r->applyU m ups i=some r/\ρ2 i=ρ' i:=λ{i r}e=>⟨applyU_mono ups hm i r e,by simp[ρ2,e]⟩
 have hB:∀{i:Nat},applyU m1 ups i=none->m1 i=none/\applyU m ups i=m i/\ρ2 i=ρ i:=λ{i}e=>⟨(applyU_none ups e).1,(applyU_none ups e).2 m,by simp[ρ2,e]⟩
 have kk:=h1.keeps
 have hS1:∀b,S1 b->Mut M0 m ρ b:=λb⟨i,r,e1,e2,e3⟩=>.inr ⟨i,r,hm i r e1,e2,e3⟩
 have hst:Stays (Mut M0 m ρ) w w':=kk.stays λb _ e=>hS1 b e
 have hon:Onto m (applyU m ups) ρ ρ2:=by
  intro i hi
  cases h':applyU m1 ups i with
  |none=>
   obtain⟨e1,e2,e3⟩:=hB h'
   rw[e2]
   exact⟨hi,λhd=>⟨hd,e3,λfz t es l e=>⟨fz,t,l,e,rfl⟩⟩⟩
  |some r=>
   obtain⟨e1,e2⟩:=hA h'
   rw[e1]
   refine⟨by simp,λhd=>?_⟩
   cases hmi:m1 i with
   |none=>
    obtain⟨p,hp,rfl⟩:=applyU_new ups hmi (by rw[h'];simp)
    exact absurd (hfresh p hp hmi) hi
   |some r0=>
    have hmi':=hm i r0 hmi
    obtain⟨_,q⟩:=hO i (by rw[hmi];simp)
    rw[h']at q
    obtain⟨q1,q2,q3⟩:=q hd
    rw[hmi'];rw[hmi]at q1 q3
    exact⟨q1,by rw[e2];exact q2,q3⟩
 have hsub:∀b,Mut M0 (applyU m ups) ρ2 b->b<w.heap.size->Mut M0 m ρ b:=by
  rintro b (e|⟨i,r,hi,hl,hb⟩) hbl
  ·exact .inl e
  ·cases h':applyU m1 ups i with
   |none=>
    obtain⟨e1,e2,e3⟩:=hB h'
    rw[e2]at hi;rw[e3]at hb
    exact .inr ⟨i,r,hi,hl,hb⟩
   |some r'=>
    obtain⟨e1,e2⟩:=hA h'
    rw[e1]at hi;simp at hi;subst hi
    rw[e2]at hb
    rcases(h1.own i r' b h' hl hb).1 with q|q
    ·omega
    ·exact hS1 b q
 have hsub2:∀b,Mut M0 (applyU m ups) ρ2 b->Mut M1 (applyU m1 ups) ρ' b:=by
  rintro b (e|⟨i,r,hi,hl,hb⟩)
  ·exact .inl (.inl e)
  ·cases h':applyU m1 ups i with
   |none=>
    obtain⟨e1,e2,e3⟩:=hB h'
    rw[e2]at hi;rw[e3]at hb
    exact .inl (.inr ⟨i,r,hi,e1,hl,hb⟩)
   |some r'=>
    obtain⟨e1,e2⟩:=hA h'
    rw[e1]at hi;simp at hi;subst hi
    rw[e2]at hb
    exact .inr ⟨i,r',h',hl,hb⟩
 have hon2:Onto (applyU m1 ups) (applyU m ups) ρ' ρ2:=by
  intro i hi
  cases h':applyU m1 ups i with
  |none=>exact absurd h' hi
  |some r=>
   obtain⟨e1,e2⟩:=hA h'
   rw[e1]
   exact⟨by simp,λhd=>⟨hd,e2,λfz t es l e=>⟨fz,t,l,e,rfl⟩⟩⟩
 refine hn y w' ρ2 ?_ hon (A.Den_mono (Stays.refl _ w') (λb hb _=>hsub2 b hb) hon2 _ _ hv)
 refine{keeps:=hs.keeps.trans kk λb hb⟨i,r,e1,e2,e3⟩=>?_,size:=h1.size,defers:=λds e=>DefsDen_mono hst hsub hon _ _ (hs.defers ds e)
        tmps:=λn=>A.Den_mono hst hsub hon _ _ (hs.tmps n)
        res:=λi r hi=>?_,own:=λi r b hi hl hb=>?_,apart:=λi j r s b hi l1 hj l2 b1 b2=>?_}
 ·rcases(hs.own i r b (hm i r e1) e2 e3).1 with q|q
  ·omega
  ·exact q
 ·cases h':applyU m1 ups i with
  |some r'=>
   obtain⟨e1,e2⟩:=hA h'
   rw[e1]at hi;simp at hi;subst hi
   rw[e2]
   exact R.Ok_mono (Stays.refl _ w') (λb hb _=>hsub2 b hb) hon2 (λ_ _ _=>rfl) (h1.res i r' h')
  |none=>
   obtain⟨e1,e2,e3⟩:=hB h'
   rw[e2]at hi;rw[e3]
   by_cases hd:r=.dead
   ·subst hd;trivial
   ·refine R.Ok_mono hst hsub hon (λb hb hlt'=>?_) (hs.res i r hi)
    refine kk.block b hlt' ?_
    rintro⟨j,s,q1,q2,q3⟩
    have hij:i≠j:=by rintro rfl;rw[e1]at q1;cases q1
    exact hs.other (hm j s q1) q2 q3 hi hd hij hb
 ·cases h':applyU m1 ups i with
  |some r'=>
   obtain⟨e1,e2⟩:=hA h'
   rw[e1]at hi;simp at hi;subst hi
   rw[e2]at hb
   obtain⟨x,y,z⟩:=h1.own i r' b h' hl hb
   refine⟨?_,λe=>y (.inl e),z⟩
   rcases x with q|⟨j,s,q1,q2,q3⟩
   ·exact .inl (Nat.le_trans hs.keeps.size q)
   ·exact(hs.own j s b (hm j s q1) q2 q3).1
  |none=>
   obtain⟨e1,e2,e3⟩:=hB h'
   rw[e2]at hi;rw[e3]at hb
   obtain⟨x,y,z⟩:=hs.own i r b hi hl hb
   exact⟨x,y,Nat.lt_of_lt_of_le z kk.size⟩
 ·cases h':applyU m1 ups i with
  |some r'=>
   obtain⟨e1,e2⟩:=hA h'
   rw[e1]at hi;simp at hi;subst hi
   rw[e2]at b1
   cases h2:applyU m1 ups j with
   |some s'=>
    obtain⟨e3,e4⟩:=hA h2
    rw[e3]at hj;simp at hj;subst hj
    rw[e4]at b2
    exact h1.apart i j r' s' b h' l1 h2 l2 b1 b2
   |none=>
    obtain⟨e3,e4,e5⟩:=hB h2
    rw[e4]at hj;rw[e5]at b2
    exact absurd (.inr ⟨j,s,hj,e3,l2,b2⟩) (h1.own i r' b h' l1 b1).2.1
  |none=>
   obtain⟨e1,e2,e3⟩:=hB h'
   rw[e2]at hi;rw[e3]at b1
   cases h2:applyU m1 ups j with
   |some s'=>
    obtain⟨e4,e5⟩:=hA h2
    rw[e4]at hj;simp at hj;subst hj
    rw[e5]at b2
    exact absurd (.inr ⟨i,r,hi,e1,l1,b1⟩) (h1.own j s' b h2 l2 b2).2.1
   |none=>
    obtain⟨e4,e5,e6⟩:=hB h2
    rw[e5]at hj;rw[e6]at b2
    exact hs.apart i j r s b hi l1 hj l2 b1 b2
end Go.Pv
