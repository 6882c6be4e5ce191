import Derived.Test.YtpdcbahjjmooiaaGreatA4
import Derived.OrdersIn
import Derived.RecoverIn
import Derived.Orders
/- A program logic over the model, contracts of the functions that the law reaches: part 5. (Names and blanks were shortened by program.) -/
set_option linter.unusedVariables false
set_option linter.unusedSimpArgs false
set_option linter.constructorNameAsVariable false
set_option linter.unusedSectionVars false
set_option linter.deprecated false
set_option maxRecDepth 100000
set_option maxHeartbeats 8000000
open Go
namespace Go.Pv
open Go.RowKit
variable{g:Nat->Nat}{m m' m1:Mem}{ρ ρ':Nat->Value}{w w':World}{M:Nat->Prop}{P:Program}{o:Oper}{X:Nat->Bool}
mutual
def A.eZ(g:Nat->Nat):A->A
 |.lp i off=>.lp (g i) off
 |.h i=>.h (g i)
 |.ep i es k off=>.ep (g i) es k off
 |.sv i lo n=>.sv (g i) lo n
 |.fn f a c=>.fn f (A.iV g a) (A.iV g c)
 |.agg l=>.agg (A.iV g l)
 |.eL l=>.eL (A.iV g l)
 |.AE t a=>.AE t (A.eZ g a)
 |.d c=>.d c
 |.x=>.x
def A.iV(g:Nat->Nat):List A->List A
 |[]=>[]
 |c::r=>A.eZ g c::A.iV g r
end
theorem HP(g:Nat->Nat):∀l r:List A,A.iV g (l++r)=A.iV g l++A.iV g r
 |[],r=>rfl
 |c::l,r=>by simp[A.iV,HP g l r]
theorem K7(g:Nat->Nat):∀l:List A,A.iV g l=l.map (A.eZ g)
 |[]=>rfl
 |c::l=>by simp[A.iV,K7 g l]
theorem AS(g:Nat->Nat):∀l:List A,(A.iV g l).length=l.length
 |[]=>rfl
 |c::l=>by simp[A.iV,AS g l]
theorem tD(g:Nat->Nat):∀l:List (List A),(l.map (A.iV g)).flatten=A.iV g l.flatten
 |[]=>rfl
 |e::l=>by simp only[aG,dL,HP,tD g l]
def R.eZ(g:Nat->Nat):R->R
 |.cells fz l=>.cells fz (A.iV g l)
 |.fW fz t es l=>.fW fz t es (l.map (A.iV g))
 |.mp fz kv st=>.mp fz (kv.map λp=>(p.1,p.2.eZ g)) (st.map λp=>(p.1,g p.2))
 |.fr l=>.fr (A.iV g l)
 |.it i sc a b=>.it (g i) (g sc) (a.map g) (b.map g)
 |.lo st pend ts ps asg bod=>.lo st pend (A.iV g ts) ps asg bod
 |.cu src es l=>.cu (src.eZ g) es (l.map (A.iV g))
 |r=>r
def G2(g:Nat->Nat)(m m':Mem)(ρ ρ':Nat->Value):Prop:=∀i,m i≠none->m' (g i)≠none/\(m' (g i)≠some .dead->m i≠some .dead/\ρ' (g i)=ρ i/\∀fz t es l,m i=some (.fW fz t es l)->∃fz' t' l',m' (g i)=some (.fW fz' t' es l')/\l'.length=l.length)
theorem Has.KV(hO:G2 g m m' ρ ρ'){i:Nat}{p q:Prop}(h:Has m i p)
 (hpq:ρ' (g i)=ρ i->(∀fz t es l,m i=some (.fW fz t es l)->∃fz' t' l',m' (g i)=some (.fW fz' t' es l')/\l'.length=l.length)->p->q):Has m' (g i) q:=by
 obtain⟨h1,h2⟩:=hO i h.1;exact⟨h1,λhd=>hpq (h2 hd).2.1 (h2 hd).2.2 (h.2 (h2 hd).1)⟩
mutual
theorem A.C6{g:Nat->Nat}{w w':World}{M M':Nat->Prop}{m m':Mem}{ρ ρ':Nat->Value}(h:dV M w w')(hM:∀b,M' b->b<w.heap.size->M b)(hO:G2 g m m' ρ ρ'):
 ∀(a:A)(y:Value),a.Den w M m ρ y->(a.eZ g).Den w' M' m' ρ' y
 |.d c,y,hd=>by
  simp only[A.eZ,A.Den]at hd⊢;exact C.dC h hM c y hd
 |.lp i off,y,hd=>by
  simp only[A.eZ,A.Den]at hd⊢;exact hd.KV hO λe _⟨b,h1,h2⟩=>⟨b,e.trans h1,h2⟩
 |.h i,y,hd=>by
  simp only[A.eZ,A.Den]at hd⊢;exact hd.KV hO λe _ h1=>h1.trans e.symm
 |.ep i es k off,y,hd=>by
  simp only[A.eZ,A.Den]at hd⊢;exact hd.KV hO λe _⟨b,o,n,cap,h1,h2⟩=>⟨b,o,n,cap,e.trans h1,h2⟩
 |.sv i lo n,y,hd=>by
  simp only[A.eZ,A.Den]at hd⊢;refine hd.KV hO λe e2⟨a,cap,h1,h2,es,fz,t,l,h5,h6,h3⟩=>?_;obtain⟨fz',t',l',h7,h8⟩:=e2 fz t es l h5;exact⟨a,cap,h1,h2,es,fz',t',l',h7,by omega,h3.imp (λ⟨q1,q0,q2⟩=>⟨q1,q0,λq=>by rw[h8];exact q2 q⟩) λ⟨b,o,n',cap',h9,h10⟩=>⟨b,o,n',cap',e.trans h9,h10⟩⟩
 |.fn f first caps,y,hd=>by
  simp only[A.eZ,A.Den]at hd⊢;obtain⟨us,vs,hy,h1,h2⟩:=hd;exact⟨us,vs,hy,A.lM h hM hO first _ h1,A.lM h hM hO caps _ h2⟩
 |.agg l,y,hd=>by
  simp only[A.eZ,A.Den]at hd⊢;obtain⟨vs,hy,h0,h1⟩:=hd;exact⟨vs,hy,h0,A.lM h hM hO l _ h1⟩
 |.eL l,y,hd=>by
  simp only[A.eZ,A.Den]at hd⊢;obtain⟨vs,hy,h1⟩:=hd;exact⟨vs,hy,A.lM h hM hO l _ h1⟩
 |.AE t a,y,hd=>by
  simp only[A.eZ,A.Den]at hd⊢;obtain⟨v,hy,h1⟩:=hd;exact⟨v,hy,A.C6 h hM hO a _ h1⟩
 |.x,y,hd=>by simp only[A.eZ,A.Den]
theorem A.lM{g:Nat->Nat}{w w':World}{M M':Nat->Prop}{m m':Mem}{ρ ρ':Nat->Value}(h:dV M w w')(hM:∀b,M' b->b<w.heap.size->M b)(hO:G2 g m m' ρ ρ'):
 ∀(l:List A)(ys:List Value),A.bR w M m ρ l ys->A.bR w' M' m' ρ' (A.iV g l) ys
 |[],ys,hd=>by simpa only[A.iV,A.bR]using hd
 |c::r,ys,hd=>by
  simp only[A.iV,A.bR]at hd⊢;obtain⟨y,yr,hy,h1,h2⟩:=hd;exact⟨y,yr,hy,A.C6 h hM hO c y h1,A.lM h hM hO r yr h2⟩
end
theorem FA.push(hO:G2 g m m' ρ ρ'){ids:List Nat}{p q:Prop}(h:FA m ids p)(hpq:(∀i∈ids,dX ρ' (g i)=dX ρ i)->p->q):FA m' (ids.map g) q:=by
 refine⟨λi hi=>?_,λhd=>hpq (λi hi=>?_) (h.2 λi hi=>?_)⟩
 ·obtain⟨j,hj,rfl⟩:=aM.1 hi;exact(hO j (h.1 j hj)).1
 ·unfold dX;rw[((hO i (h.1 i hi)).2 (hd (g i) (aM.2 ⟨i,hi,rfl⟩))).2.1]
 ·exact((hO i (h.1 i hi)).2 (hd (g i) (aM.2 ⟨i,hi,rfl⟩))).1
theorem vW.push(hO:G2 g m m' ρ ρ'){st:List (Ky×Nat)}{l:List MapEntry}{cl:Nat}(h:vW m ρ st l cl):vW m' ρ' (st.map λp=>(p.1,g p.2)) l cl:=by
 intro p hp;obtain⟨q,hq,rfl⟩:=aM.1 hp;exact(h q hq).KV hO λhe _ r=>by
  have e1:dX ρ' (g q.2)=dX ρ q.2:=by unfold dX;rw[he]
  show(∀e∈l,e.key=q.1.val->e.born=dX ρ' (g q.2))/\dX ρ' (g q.2)<=cl/\(q.1=.agg []->dX ρ' (g q.2)=cl);rw[e1];exact r
theorem U9.push{g:Nat->Nat}(hg:∀i j,g i=g j->i=j){m m':Mem}{ρ ρ':Nat->Value}(hO:G2 g m m' ρ ρ'){start seen:List Nat}{since:Nat}{sa:Array Nat}(h:U9 m ρ start seen since sa):U9 m' ρ' (start.map g) (seen.map g) since sa:=
 ⟨λi hi=>by
   obtain⟨j,hj,rfl⟩:=aM.1 hi
   exact aM.2 ⟨j,h.1 j hj,rfl⟩,FA.push hO h.2 λhe⟨h0,h1,h2,h3,h4⟩=>⟨h0.map g (λa b hab e=>hab (hg a b e)),by rw[bH,show(start.map (dX ρ'∘g))=start.map (dX ρ)from cQ he];exact h1,λi hi=>by
   obtain⟨j,hj,rfl⟩:=aM.1 hi;rw[he j hj];refine⟨(h2 j hj).1,(h2 j hj).2.trans ?_⟩;have:(g j∈seen.map g)↔j∈seen:=⟨λh=>by obtain⟨k,hk,e⟩:=aM.1 h;rw[hg _ _ e]at hk;exact hk,λh=>aM.2 ⟨j,h,rfl⟩⟩;simp only[this],λi hi=>by
    obtain⟨j,hj,rfl⟩:=aM.1 hi;exact aM.2 ⟨j,h3 j hj,rfl⟩,by
    rw[h4];cases seen with
    |nil=>rfl
    |cons s r=>simp only[aG,List.head?_cons,dF];rw[he s (h3 s (by simp))]⟩⟩
theorem R.aGI(hg:∀i j,g i=g j->i=j){w w':World}{M M':Nat->Prop}{m m':Mem}{ρ ρ':Nat->Value}(h:dV M w w')(hM:∀b,M' b->b<w.heap.size->M b)(hO:G2 g m m' ρ ρ')
 {hd:Value}(hb:∀b,jK hd=some b->b<w.heap.size->w'.heap[b]?=w.heap[b]?){r:R}(hr:r.Ok w M m ρ hd):(r.eZ g).Ok w' M' m' ρ' hd:=by
 cases r with
 |dead=>trivial
 |cells fz l=>
  obtain⟨b,cs,t,rfl,h1,h2,h3,h4⟩:=hr;have hlt:b<w.heap.size:=(aL.1 h1).1;exact⟨b,cs,t,rfl,(hb b rfl hlt).trans h1,A.lM h hM hO l _ h2,λe f=>h3 e (hM b f hlt),h4⟩
 |fW fz t es l=>
  obtain⟨xs,h1,h2,h3,h4,h5⟩:=hr;refine⟨xs,?_,by rw[tD];exact A.lM h hM hO _ _ h2,?_,?_,h5⟩
  rotate_left 1
  ·intro e he;obtain⟨e',he',rfl⟩:=aM.1 he;rw[AS];exact h3 e' he'
  rotate_left 1
  ·rw[aB];rcases h1 with hn|⟨hl,g,og,cap,cur,rfl,hp,hh,rest⟩
   ·exact .inl hn
   ·exact .inr ⟨hl,g,og,cap,cur,rfl,hp,(hb g (by simp[jK];omega) (aL.1 hh).1).trans hh,rest⟩
  ·intro e b hbb f;rcases h1 with⟨_,_,a,rfl⟩|⟨hl,g,og,cap,cur,rfl,hp,hh,rest⟩
   ·cases a<;>simp[jK]at hbb
   ·simp[jK]at hbb;obtain⟨_,rfl⟩:=hbb;exact h4 e _ (by simp[jK];omega) (hM _ f (aL.1 hh).1)
 |mp fz kv st=>
  obtain⟨b,es,cl,l,rfl,h1,h2,h3,h4,h5⟩:=hr;have hlt:b<w.heap.size:=(aL.1 h1).1;have e1:(kv.map λp=>(p.1,p.2.eZ g)).map (·.1)=kv.map (·.1):=by rw[bH];rfl
  have e2:(kv.map λp=>(p.1,p.2.eZ g)).map (·.2)=A.iV g (kv.map (·.2)):=by rw[K7,bH,bH];rfl
  refine⟨b,es,cl,l,rfl,(hb b rfl hlt).trans h1,by rw[e1];exact h2,by rw[e2];exact A.lM h hM hO _ _ h3,λe f=>h4 e (hM b f hlt),h5.push hO⟩
 |fr l=>
  obtain⟨vs,rfl,h1⟩:=hr;exact⟨vs,rfl,A.lM h hM hO _ _ h1⟩
 |it i sc start seen=>
  obtain⟨b,mb,si,sa,rfl,h1,h2,h5,h4⟩:=hr;have hlt:b<w.heap.size:=(aL.1 h1).1;exact⟨b,mb,si,sa,rfl,(hb b rfl hlt).trans h1,h2.KV hO λe _ q=>e.trans q,h5.KV hO λe _ q=>by unfold dX at q⊢;rw[e];exact q,h4.push hg hO⟩
 |wL=>exact hr
 |it0=>
  obtain⟨b,rfl,h1⟩:=hr;exact⟨b,rfl,(hb b rfl (aL.1 h1).1).trans h1⟩
 |si s pos=>
  obtain⟨b,rfl,h1⟩:=hr;exact⟨b,rfl,(hb b rfl (aL.1 h1).1).trans h1⟩
 |lo st pend ts ps asg bod=>
  obtain⟨l,fn,vs,D,rfl,h1,h2⟩:=hr;exact⟨l,fn,vs,D,rfl,(hb l rfl (aL.1 h1).1).trans h1,A.lM h hM hO _ _ h2⟩
 |df tk=>
  obtain⟨b,rfl,h1⟩:=hr;exact⟨b,rfl,(hb b rfl (aL.1 h1).1).trans h1⟩
 |di cur rest=>
  obtain⟨b,mb,es,cl,sa,ll,rfl,h1,h2,h3,h4,h5,h6,h7,h8,h9⟩:=hr;have hlt:mb<w.heap.size:=(aL.1 h3).1;exact⟨b,mb,es,cl,sa,ll,rfl,(hb b rfl (aL.1 h1).1).trans h1,λf=>h2 (hM mb f hlt),(h.2 mb hlt h2).trans h3,h4,h5,h6,h7,C.dK h hM _ _ h8,h9.mono h hM⟩
 |cu src es l=>
  obtain⟨a,rfl,h1,h2,h3⟩:=hr;refine⟨a,by rw[aB],A.C6 h hM hO _ _ h1,?_,h3.imp (λe=>by rw[e];rfl) ?_⟩
  ·intro e he;obtain⟨e',he',rfl⟩:=aM.1 he;rw[AS];exact h2 e' he'
  ·rintro⟨b,off,xs,e,h4,h5,h6,h7,h8⟩;exact⟨b,off,xs,e,λf=>h4 (hM b f h5),cG h5 h.1,by rw[tD];exact A.lM h hM hO _ _ h6,h7,λj v hj=>(h.cell h5 h4).trans (h8 j v hj)⟩
theorem R.aEV(g:Nat->Nat)(r:R):(r.eZ g).live=r.live:=by cases r<;>rfl
def kW(P:Program)(f:FuncId):Bool:=
 match P.funcs[f]? with
 |some fn=> !(fn.name== "runtime.NumGoroutine")&&fn.body.isSome
 |none=>false
theorem B3{f:FuncId}(h:kW P f=true)(args:Array Value)(w:World):(callFunc f args).run P w=.ok (.enter f args) w:=by
 unfold kW at h;split at h
 ·rename_i fn hf;simp only[aE,k9]at h;obtain⟨b,hb⟩:=eS.1 h.2;have:(fn.name= "runtime.NumGoroutine")=False:=by simpa using h.1
  simp[callFunc,hf,h.1,hb,this]
 ·cases h
def FW(ro:Option Nat):Fence:={fn:=λ_=>True,depth:=none,alive:=false,round:=ro}
def jO(o:Oper):Bool:=match o.op with
 |.defer _=>false
 |_=>true
theorem WB(h:jO o=true):∀c,o.op≠.defer c:=by
 intro c e;unfold jO at h;rw[e]at h;cases h
theorem L9{ro:Option Nat}{a:Act}{next:Act->World->Prop}{Q:Exit->Act->World->Prop}(hd:jO o=true)(h:o.uponIn (FW ro) 0 P a next Q ((execOp a.eval o).run P w)):o.wpIn (FW ro) 0 P a w next Q:=by
 refine⟨λ_ _=>trivial,?_⟩;rw[Oper.semAt_eq _ _ _ (WB hd)];exact h
theorem qQ{ro:Option Nat}{a:Act}{y:Value}{res:Next}{next:Act->World->Prop}{Q:Exit->Act->World->Prop}(hd:jO o=true)(hr:(execOp a.eval o).run P w=.ok res w')(hres:res=.value y\/(res=.skip/\y=undef))(h:next (a.put o.dst y) w'):o.wpIn (FW ro) 0 P a w next Q:=by
 refine L9 hd ?_;rw[hr];rcases hres with rfl|⟨rfl,rfl⟩
 ·exact h
 ·exact h
theorem W7{ro:Option Nat}{a:Act}{f:FuncId}{args:Array Value}{next:Act->World->Prop}{Q:Exit->Act->World->Prop}(hd:jO o=true)(hr:(execOp a.eval o).run P w=.ok (.enter f args) w')
 (h:Calls P f args w' λe w''=>(∃y,e=.returned y/\next (a.put o.dst y) w'')\/∃ch,e=.panicked ch/\Q (.panic ch) a w''):o.wpIn (FW ro) 0 P a w next Q:=by
 refine L9 hd ?_;rw[hr,Oper.uponIn_enter];refine⟨λe=>(by cases e),?_⟩;have h1:CallsIn (FW ro) (0 -1) P f args w' _:=callsIn_wide.2 h;refine⟨h1.1,λcs hroom=>?_⟩;obtain⟨e,w3,fr,q,r⟩:=h1.2 cs hroom;refine⟨e,w3,fr,?_,r⟩;rcases q with⟨y,rfl,q⟩|⟨ch,rfl,q⟩
 ·exact q
 ·exact q
def qT(P:Program)(o:Oper)(T:Nat->A)(m:Mem)(v:A)(m':Mem):Prop:=
 ∀(ro:Option Nat)(N:Fr)(M0 S0:Nat->Prop)(w0:World)(ρ:Nat->Value)(a:Act)(w:World),bC M0 S0 w0 N T m ρ a w->(∀b,M0 b->b<w0.heap.size)->
  ∀(next:Act->World->Prop)(Q:Exit->Act->World->Prop),
   (∀(y:Value)(w':World)(ρ':Nat->Value),bC M0 S0 w0 N T m' ρ' a w'->cI m m' ρ ρ'->v.Den w' (dD M0 m' ρ') m' ρ' y->next (a.put o.dst y) w')->o.wpIn (FW ro) 0 P a w next Q
section
variable{M0 S0:Nat->Prop}{w0:World}{N:Fr}{T:Nat->A}{m:Mem}{ρ:Nat->Value}{a:Act}{w:World}{P:Program}
def mO(T:Nat->A)(c:Call):Option (FuncId×List A):=
 match c.callee with
 |.value fo=>match dN T fo with
  |.fn (.func f) us vs=>some (f,us++(c.args.toList.map (dN T)++vs))
  |.d (.fn (.func f) us vs)=>some (f,us.map A.d++(c.args.toList.map (dN T)++vs.map A.d))
  |_=>none
 |_=>none
theorem aCB(h:bC M0 S0 w0 N T m ρ a w){o:Oper}{c:Call}{f:FuncId}{as:List A}(ho:o.op=.call c)(hc:mO T c=some (f,as))(hcl:kW P f=true):
 ∃vs:List Value,(execOp a.eval o).run P w=.ok (.enter f vs.toArray) w/\A.bR w (dD M0 m ρ) m ρ as vs:=by
 obtain⟨callee,args,tys⟩:=c;unfold mO at hc;simp only at hc;split at hc
 ·rename_i _ fo;have hfo:=cU h fo;have key:∀{us vs:Array Value},a.eval fo=.func (.func f) us vs->(execOp a.eval o).run P w=.ok (.enter f (us.toList++(args.toList.map a.eval++vs.toList)).toArray) w:=by
   intro us vs he;have:us++args.map a.eval++vs=(us.toList++(args.toList.map a.eval++vs.toList)).toArray:=by
    cases us;cases vs;cases args;simp
   simp only[execOp,ho,resolve,he,Deferred.ofValue,aV,cB,aN,invoke,B3 hcl,this]
  split at hc
  ·rename_i f' us vs he;simp only[aA,aD]at hc;obtain⟨rfl,rfl⟩:=hc;rw[he]at hfo;simp only[A.Den]at hfo;obtain⟨u,v,hv,h1,h2⟩:=hfo;exact⟨_,key hv,A.iH h1 (A.iH (pP h args.toList) h2)⟩
  ·rename_i f' us vs he;simp only[aA,aD]at hc;obtain⟨rfl,rfl⟩:=hc;rw[he]at hfo;simp only[A.Den,C.Den]at hfo;obtain⟨u,v,hv,h1,h2⟩:=hfo;exact⟨_,key hv,A.iH (A.iO.2 h1) (A.iH (pP h args.toList) (A.iO.2 h2))⟩
  ·cases hc
 ·cases hc
theorem V8(h:bC M0 S0 w0 N T m ρ a w)(hlt:∀b,M0 b->b<w0.heap.size):∀b,dD M0 m ρ b->b<w.heap.size:=by
 rintro b (e|⟨i,r,hi,hl,hb⟩)
 ·exact cG (hlt b e) h.keeps.size
 ·exact(h.own i r b hi hl hb).2.2
end
def R.hs:R->List Nat
 |.cells _ l=>A.lQ l
 |.fW _ _ _ l=>A.lQ l.flatten
 |.mp _ kv st=>A.lQ (kv.map (·.2))++st.map (·.2)
 |.fr l=>A.lQ l
 |.it i sc start _=>i::sc::start
 |.lo _ _ ts _ _ _=>A.lQ ts
 |.cu src _ l=>src.hs++A.lQ l.flatten
 |_=>[]
theorem Has.restrict(hm:∀i r,m1 i=some r->m i=some r){i:Nat}(hi:m1 i≠none){p q:Prop}(h:Has m i p)(hpq:m1 i=m i->p->q):Has m1 i q:=by
 refine⟨hi,λhd=>?_⟩;cases h1:m1 i with
 |none=>exact absurd h1 hi
 |some r=>
  have h2:=hm i r h1;exact hpq (by rw[h1,h2]) (h.2 (by rw[h2];rw[h1]at hd;exact hd))
theorem FA.restrict(hm:∀i r,m1 i=some r->m i=some r){ids:List Nat}(hi:∀i∈ids,m1 i≠none){p:Prop}(h:FA m ids p):FA m1 ids p:=by
 refine⟨hi,λhd=>h.2 λi hii e=>hd i hii ?_⟩;cases h1:m1 i with
 |none=>exact absurd h1 (hi i hii)
 |some r=>rw[<-e,hm i r h1]
mutual
theorem A.kU{w:World}{M:Nat->Prop}{m m1:Mem}{ρ:Nat->Value}(hm:∀i r,m1 i=some r->m i=some r):∀(a:A)(y:Value),(∀i∈a.hs,m1 i≠none)->a.Den w M m ρ y->a.Den w M m1 ρ y
 |.d c,y,_,hd=>by simpa only[A.Den]using hd
 |.lp i off,y,hi,hd=>by
  simp only[A.Den]at hd⊢;exact hd.restrict hm (hi i (by simp[A.hs])) λ_ e=>e
 |.h i,y,hi,hd=>by
  simp only[A.Den]at hd⊢;exact hd.restrict hm (hi i (by simp[A.hs])) λ_ e=>e
 |.ep i es k off,y,hi,hd=>by
  simp only[A.Den]at hd⊢;exact hd.restrict hm (hi i (by simp[A.hs])) λ_ e=>e
 |.sv i lo n,y,hi,hd=>by
  simp only[A.Den]at hd⊢;exact hd.restrict hm (hi i (by simp[A.hs])) λe⟨a,cap,h1,h2,es,fz,t,l,h5,h6⟩=>⟨a,cap,h1,h2,es,fz,t,l,e.trans h5,h6⟩
 |.fn f first caps,y,hi,hd=>by
  simp only[A.Den]at hd⊢;obtain⟨us,vs,hy,h1,h2⟩:=hd;exact⟨us,vs,hy,A.fG hm first _ (λi h=>hi i (by simp[A.hs,h])) h1,A.fG hm caps _ (λi h=>hi i (by simp[A.hs,h])) h2⟩
 |.agg l,y,hi,hd=>by
  simp only[A.Den]at hd⊢;obtain⟨vs,hy,h0,h1⟩:=hd;exact⟨vs,hy,h0,A.fG hm l _ (λi h=>hi i (by simpa [A.hs]using h)) h1⟩
 |.eL l,y,hi,hd=>by
  simp only[A.Den]at hd⊢;obtain⟨vs,hy,h1⟩:=hd;exact⟨vs,hy,A.fG hm l _ (λi h=>hi i (by simpa [A.hs]using h)) h1⟩
 |.AE t a,y,hi,hd=>by
  simp only[A.Den]at hd⊢;obtain⟨v,hy,h1⟩:=hd;exact⟨v,hy,A.kU hm a _ (λi h=>hi i (by simpa [A.hs]using h)) h1⟩
 |.x,y,_,hd=>by simp only[A.Den]
theorem A.fG{w:World}{M:Nat->Prop}{m m1:Mem}{ρ:Nat->Value}(hm:∀i r,m1 i=some r->m i=some r):∀(l:List A)(ys:List Value),(∀i∈A.lQ l,m1 i≠none)->A.bR w M m ρ l ys->A.bR w M m1 ρ l ys
 |[],ys,_,hd=>by simpa only[A.bR]using hd
 |c::r,ys,hi,hd=>by
  simp only[A.bR]at hd⊢;obtain⟨y,yr,hy,h1,h2⟩:=hd;exact⟨y,yr,hy,A.kU hm c y (λi h=>hi i (by simp[A.lQ,h])) h1,A.fG hm r yr (λi h=>hi i (by simp[A.lQ,h])) h2⟩
end
theorem R.rY(hm:∀i r,m1 i=some r->m i=some r){r:R}{h:Value}(hi:∀i∈r.hs,m1 i≠none)(hr:r.Ok w M m ρ h):r.Ok w M m1 ρ h:=by
 cases r with
 |dead=>trivial
 |cells fz l=>
  obtain⟨b,cs,t,e,h1,h2,h3⟩:=hr;exact⟨b,cs,t,e,h1,A.fG hm _ _ (λi q=>hi i (by simpa [R.hs]using q)) h2,h3⟩
 |fW fz t es l=>
  obtain⟨xs,h1,h2,h3⟩:=hr;exact⟨xs,h1,A.fG hm _ _ (λi q=>hi i (by simpa [R.hs]using q)) h2,h3⟩
 |fr l=>
  obtain⟨vs,e,h1⟩:=hr;exact⟨vs,e,A.fG hm _ _ (λi q=>hi i (by simpa [R.hs]using q)) h1⟩
 |it i sc start seen=>
  obtain⟨b,mb,si,sa,e,h1,h2,h5,h4⟩:=hr;exact⟨b,mb,si,sa,e,h1,h2.restrict hm (hi i (by simp[R.hs])) λ_ q=>q,h5.restrict hm (hi sc (by simp[R.hs])) λ_ q=>q,h4.1,FA.restrict hm (λj hj=>hi j (by simp[R.hs,hj])) h4.2⟩
 |wL=>exact hr
 |it0=>exact hr
 |si s pos=>exact hr
 |di cur rest=>exact hr
 |df tk=>exact hr
 |cu src es l=>
  obtain⟨a,e,h1,h2,h3⟩:=hr;refine⟨a,e,A.kU hm _ _ (λi q=>hi i (by simp only[R.hs,bN];exact .inl q)) h1,h2,h3.imp id ?_⟩;rintro⟨b,off,xs,e,h4,h5,h6,h7⟩;exact⟨b,off,xs,e,h4,h5,A.fG hm _ _ (λi q=>hi i (by simp only[R.hs,bN];exact .inr q)) h6,h7⟩
 |lo st pend ts ps asg bod=>
  obtain⟨l,fn,vs,D,e,h1,h2⟩:=hr;exact⟨l,fn,vs,D,e,h1,A.fG hm _ _ (λi q=>hi i (by simpa [R.hs]using q)) h2⟩
 |mp fz kv st=>
  obtain⟨b,es,cl,l,e,h1,h2,h3,h4,h5⟩:=hr;exact⟨b,es,cl,l,e,h1,h2,A.fG hm _ _ (λi q=>hi i (by simp[R.hs,q])) h3,h4,λp hp=>(h5 p hp).restrict hm (hi p.2 (by simp only[R.hs,bN];exact .inr (aM.2 ⟨p,hp,rfl⟩))) λ_ q=>q⟩
theorem pN:∀(u:List (Nat×R)){m1 m:Mem},(∀i r,m1 i=some r->m i=some r)->∀i r,aH m1 u i=some r->aH m u i=some r
 |[],m1,m,h,i,r,e=>h i r e
 |(j,q)::t,m1,m,h,i,r,e=>by
  simp only[aH]at e⊢;refine pN t (λk s hk=>?_) i r e;by_cases hkj:k=j
  ·subst hkj;simpa [aX]using hk
  ·simp[aX,hkj]at hk⊢;exact h k s hk
theorem nP:∀(u:List (Nat×R)){m1:Mem}{i:Nat},aH m1 u i=none->m1 i=none/\∀m:Mem,aH m u i=m i
 |[],m1,i,e=>⟨e,λ_=>rfl⟩
 |(j,q)::t,m1,i,e=>by
  simp only[aH]at e⊢;obtain⟨h1,h2⟩:=nP t e;have hij:i≠j:=by rintro rfl;simp[aX]at h1
  exact⟨by simpa [aX,hij]using h1,λm=>by rw[h2];simp[aX,hij]⟩
theorem xS:∀(u:List (Nat×R)){m1:Mem}{i:Nat},m1 i=none->aH m1 u i≠none->∃p∈u,p.1=i
 |[],m1,i,h,e=>absurd h e
 |(j,q)::t,m1,i,h,e=>by
  by_cases hij:i=j
  ·exact⟨(j,q),by simp,hij.symm⟩
  ·simp only[aH]at e;obtain⟨p,hp,hpi⟩:=xS t (m1:=aX m1 j q) (by simp[aX,hij,h]) e;exact⟨p,by simp[hp],hpi⟩
theorem qT.frame{T1 T:Nat->A}{v:A}{ups:List (Nat×R)}(h:qT P o T1 m1 v (aH m1 ups))(hT:∀n,T1 n=.x\/(T1 n=T n/\∀i∈(T n).hs,m1 i≠none))
 (hm:∀i r,m1 i=some r->m i=some r)(hcl:∀i r,m1 i=some r->∀j∈r.hs,m1 j≠none)(hfresh:∀p∈ups,m1 p.1=none->m p.1=none):qT P o T m v (aH m ups):=by
 intro ro N M0 S0 w0 ρ a w hs hlt next Q hn
 let M1:Nat->Prop:=λb=>M0 b\/∃i r,m i=some r/\m1 i=none/\r.live=true/\jK (ρ i)=some b;let S1:Nat->Prop:=λb=>∃i r,m1 i=some r/\r.live=true/\jK (ρ i)=some b;have hmut:∀b,dD M1 m1 ρ b↔dD M0 m ρ b:=by
  intro b;constructor
  ·rintro((e|⟨i,r,e1,_,e2,e3⟩)|⟨i,r,e1,e2,e3⟩)
   ·exact .inl e
   ·exact .inr ⟨i,r,e1,e2,e3⟩
   ·exact .inr ⟨i,r,hm i r e1,e2,e3⟩
  ·rintro(e|⟨i,r,e1,e2,e3⟩)
   ·exact .inl (.inl e)
   ·cases hi:m1 i with
    |none=>exact .inl (.inr ⟨i,r,e1,hi,e2,e3⟩)
    |some r'=>
     have:=hm i r' hi;rw[e1]at this;simp at this;subst this;exact .inr ⟨i,r,hi,e2,e3⟩
 have hmutE:dD M1 m1 ρ=dD M0 m ρ:=funext λb=>propext (hmut b);have h0:bC M1 S1 w ⟨N.n,none⟩ T1 m1 ρ a w:=
  {keeps:=iF.refl _ _,size:=hs.size,defers:=λds e=>by cases e
   tmps:=λn=>by
    rw[hmutE];rcases hT n with e|⟨e,hids⟩
    · rw[e];simp only[A.Den]
    · rw[e];exact A.kU hm _ _ hids (hs.tmps n)
   res:=λi r hi=>by rw[hmutE];exact R.rY hm (hcl i r hi) (hs.res i r (hm i r hi))
   own:=λi r b hi hl hb=>by
    obtain⟨x,y,z⟩:=hs.own i r b (hm i r hi) hl hb;refine⟨.inr ⟨i,r,hi,hl,hb⟩,?_,z⟩;rintro(e|⟨j,s,e1,e2,e3,e4⟩)
    · exact y e
    · have:=hs.apart i j r s b (hm i r hi) hl e1 e3 hb e4
      subst this;rw[hi]at e2;cases e2
   apart:=λi j r s b hi l1 hj l2 b1 b2=>hs.apart i j r s b (hm i r hi) l1 (hm j s hj) l2 b1 b2}
 have hlt1:∀b,M1 b->b<w.heap.size:=λb hb=>V8 hs hlt b ((hmut b).1 (.inl hb));refine h ro ⟨N.n,none⟩ M1 S1 w ρ a w h0 hlt1 next Q ?_
 intro y w' ρ' h1 hO hv;let ρ2:Nat->Value:=λi=>if(aH m1 ups i).isSome then ρ' i else ρ i
 have hA:∀{i:Nat}{r:R},aH m1 ups i=some r->aH m ups i=some r/\ρ2 i=ρ' i:=λ{i r}e=>⟨pN ups hm i r e,by simp[ρ2,e]⟩;have hB:∀{i:Nat},aH m1 ups i=none->m1 i=none/\aH m ups i=m i/\ρ2 i=ρ i:=λ{i}e=>⟨(nP ups e).1,(nP ups e).2 m,by simp[ρ2,e]⟩;have kk:=h1.keeps;have hS1:∀b,S1 b->dD M0 m ρ b:=λb⟨i,r,e1,e2,e3⟩=>.inr ⟨i,r,hm i r e1,e2,e3⟩;have hst:dV (dD M0 m ρ) w w':=kk.stays λb _ e=>hS1 b e;have hon:cI m (aH m ups) ρ ρ2:=by
  intro i hi;cases h':aH m1 ups i with
  |none=>
   obtain⟨e1,e2,e3⟩:=hB h';rw[e2];exact⟨hi,λhd=>⟨hd,e3,λfz t es l e=>⟨fz,t,l,e,rfl⟩⟩⟩
  |some r=>
   obtain⟨e1,e2⟩:=hA h';rw[e1];refine⟨by simp,λhd=>?_⟩;cases hmi:m1 i with
   |none=>
    obtain⟨p,hp,rfl⟩:=xS ups hmi (by rw[h'];simp);exact absurd (hfresh p hp hmi) hi
   |some r0=>
    have hmi':=hm i r0 hmi;obtain⟨_,q⟩:=hO i (by rw[hmi];simp);rw[h']at q;obtain⟨q1,q2,q3⟩:=q hd;rw[hmi'];rw[hmi]at q1 q3;exact⟨q1,by rw[e2];exact q2,q3⟩
 have hsub:∀b,dD M0 (aH m ups) ρ2 b->b<w.heap.size->dD M0 m ρ b:=by
  rintro b (e|⟨i,r,hi,hl,hb⟩) hbl
  ·exact .inl e
  ·cases h':aH m1 ups i with
   |none=>
    obtain⟨e1,e2,e3⟩:=hB h';rw[e2]at hi;rw[e3]at hb;exact .inr ⟨i,r,hi,hl,hb⟩
   |some r'=>
    obtain⟨e1,e2⟩:=hA h';rw[e1]at hi;simp at hi;subst hi;rw[e2]at hb;rcases(h1.own i r' b h' hl hb).1 with q|q
    ·omega
    ·exact hS1 b q
 have hsub2:∀b,dD M0 (aH m ups) ρ2 b->dD M1 (aH m1 ups) ρ' b:=by
  rintro b (e|⟨i,r,hi,hl,hb⟩)
  ·exact .inl (.inl e)
  ·cases h':aH m1 ups i with
   |none=>
    obtain⟨e1,e2,e3⟩:=hB h';rw[e2]at hi;rw[e3]at hb;exact .inl (.inr ⟨i,r,hi,e1,hl,hb⟩)
   |some r'=>
    obtain⟨e1,e2⟩:=hA h';rw[e1]at hi;simp at hi;subst hi;rw[e2]at hb;exact .inr ⟨i,r',h',hl,hb⟩
 have hon2:cI (aH m1 ups) (aH m ups) ρ' ρ2:=by
  intro i hi;cases h':aH m1 ups i with
  |none=>exact absurd h' hi
  |some r=>
   obtain⟨e1,e2⟩:=hA h';rw[e1];exact⟨by simp,λhd=>⟨hd,e2,λfz t es l e=>⟨fz,t,l,e,rfl⟩⟩⟩
 refine hn y w' ρ2 ?_ hon (A.dC (dV.refl _ w') (λb hb _=>hsub2 b hb) hon2 _ _ hv)
 refine{keeps:=hs.keeps.trans kk λb hb⟨i,r,e1,e2,e3⟩=>?_,size:=h1.size,defers:=λds e=>eJ hst hsub hon _ _ (hs.defers ds e)
        tmps:=λn=>A.dC hst hsub hon _ _ (hs.tmps n)
        res:=λi r hi=>?_,own:=λi r b hi hl hb=>?_,apart:=λi j r s b hi l1 hj l2 b1 b2=>?_}
 ·rcases(hs.own i r b (hm i r e1) e2 e3).1 with q|q
  ·omega
  ·exact q
 ·cases h':aH m1 ups i with
  |some r'=>
   obtain⟨e1,e2⟩:=hA h';rw[e1]at hi;simp at hi;subst hi;rw[e2];exact R.hU (dV.refl _ w') (λb hb _=>hsub2 b hb) hon2 (λ_ _ _=>rfl) (h1.res i r' h')
  |none=>
   obtain⟨e1,e2,e3⟩:=hB h';rw[e2]at hi;rw[e3];by_cases hd:r=.dead
   ·subst hd;trivial
   ·refine R.hU hst hsub hon (λb hb hlt'=>?_) (hs.res i r hi);refine kk.block b hlt' ?_;rintro⟨j,s,q1,q2,q3⟩;have hij:i≠j:=by rintro rfl;rw[e1]at q1;cases q1
    exact hs.other (hm j s q1) q2 q3 hi hd hij hb
 ·cases h':aH m1 ups i with
  |some r'=>
   obtain⟨e1,e2⟩:=hA h';rw[e1]at hi;simp at hi;subst hi;rw[e2]at hb;obtain⟨x,y,z⟩:=h1.own i r' b h' hl hb;refine⟨?_,λe=>y (.inl e),z⟩;rcases x with q|⟨j,s,q1,q2,q3⟩
   ·exact .inl (cL hs.keeps.size q)
   ·exact(hs.own j s b (hm j s q1) q2 q3).1
  |none=>
   obtain⟨e1,e2,e3⟩:=hB h';rw[e2]at hi;rw[e3]at hb;obtain⟨x,y,z⟩:=hs.own i r b hi hl hb;exact⟨x,y,cG z kk.size⟩
 ·cases h':aH m1 ups i with
  |some r'=>
   obtain⟨e1,e2⟩:=hA h';rw[e1]at hi;simp at hi;subst hi;rw[e2]at b1;cases h2:aH m1 ups j with
   |some s'=>
    obtain⟨e3,e4⟩:=hA h2;rw[e3]at hj;simp at hj;subst hj;rw[e4]at b2;exact h1.apart i j r' s' b h' l1 h2 l2 b1 b2
   |none=>
    obtain⟨e3,e4,e5⟩:=hB h2;rw[e4]at hj;rw[e5]at b2;exact absurd (.inr ⟨j,s,hj,e3,l2,b2⟩) (h1.own i r' b h' l1 b1).2.1
  |none=>
   obtain⟨e1,e2,e3⟩:=hB h';rw[e2]at hi;rw[e3]at b1;cases h2:aH m1 ups j with
   |some s'=>
    obtain⟨e4,e5⟩:=hA h2;rw[e4]at hj;simp at hj;subst hj;rw[e5]at b2;exact absurd (.inr ⟨i,r,hi,e1,l1,b1⟩) (h1.own j s' b h2 l2 b2).2.1
   |none=>
    obtain⟨e4,e5,e6⟩:=hB h2;rw[e5]at hj;rw[e6]at b2;exact hs.apart i j r s b hi l1 hj l2 b1 b2
structure Rec where
 dst:Option Nat
 v:A
 u:List (Nat×R)
def mK(T:Nat->A):List Rec->Nat->A
 |[]=>T
 |r::rs=>mK (lI T r.dst r.v) rs
def kZ(m:Mem):List Rec->Mem
 |[]=>m
 |r::rs=>kZ (aH m r.u) rs
def nM(X:Nat->Bool):Nat->List Rec->List Rec
 |_,[]=>[]
 |k,r::rs=>if X k then r::nM X (k+1) rs else nM X (k+1) rs
theorem n9:∀(u:List (Nat×R))(m:Mem){n:Nat},(∀p∈u,p.1≠n)->aH m u n=m n
 |[],m,n,_=>rfl
 |(i,r)::t,m,n,h=>by
  simp only[aH];rw[n9 t _ (λp hp=>h p (by simp[hp]))];have:n≠i:=λe=>h (i,r) (by simp) e.symm;simp[aX,this]
theorem sZ:∀(u:List (Nat×R)){m m':Mem}{n:Nat},m n=m' n->aH m u n=aH m' u n
 |[],m,m',n,h=>h
 |(i,r)::t,m,m',n,h=>by
  simp only[aH];refine sZ t ?_;unfold aX;split
  ·rfl
  ·exact h
theorem RP(u v:List (Nat×R))(m:Mem)(h:∀p∈u,∀q∈v,q.1≠p.1):aH (aH m u) v=aH (aH m v) u:=by
 funext n;by_cases hn:∃p∈u,p.1=n
 ·obtain⟨p,hp,rfl⟩:=hn;rw[n9 v _ (λq hq=>h p hp q hq)];exact sZ u (n9 v _ (λq hq=>h p hp q hq)).symm
 ·have hn':∀p∈u,p.1≠n:=λp hp e=>hn ⟨p,hp,e⟩;rw[n9 u (aH m v) hn'];exact sZ v (n9 u _ hn')
theorem aBS(T:Nat->A)(d e:Option Nat)(v x:A)(h:∀n,d=some n->e≠some n):lI (lI T d v) e x=lI (lI T e x) d v:=by
 funext n;unfold lI;by_cases h1:d=some n
 ·have:=h n h1;simp[h1,this]
 ·simp[h1]
theorem OI(u:List (Nat×R)):∀(l:List Rec)(m:Mem),(∀q∈l,∀p∈u,∀x∈q.u,x.1≠p.1)->kZ (aH m u) l=aH (kZ m l) u
 |[],m,_=>rfl
 |r::l,m,h=>by
  simp only[kZ];rw[RP u r.u m (h r (by simp))];exact OI u l _ (λq hq=>h q (by simp[hq]))
theorem OJ(d:Option Nat)(v:A):∀(l:List Rec)(T:Nat->A),(∀q∈l,∀n,d=some n->q.dst≠some n)->mK (lI T d v) l=lI (mK T l) d v
 |[],T,_=>rfl
 |r::l,T,h=>by
  simp only[mK];rw[aBS T d r.dst v r.v (h r (by simp))];exact OJ d v l _ (λq hq=>h q (by simp[hq]))
theorem QY{X:Nat->Bool}:∀{l:List Rec}{k:Nat}{r:Rec},r∈nM X k l->∃i,X (k+i)=true/\l[i]?=some r
 |[],k,r,h=>by simp[nM]at h
 |q::l,k,r,h=>by
  simp only[nM]at h;split at h
  ·rename_i hx;simp only[aO]at h;rcases h with rfl|h
   ·exact⟨0,by simpa using hx,rfl⟩
   ·obtain⟨i,h1,h2⟩:=QY h;exact⟨i+1,by rw[show k+(i+1)=k+1+i by omega];exact h1,by simpa using h2⟩
  ·obtain⟨i,h1,h2⟩:=QY h;exact⟨i+1,by rw[show k+(i+1)=k+1+i by omega];exact h1,by simpa using h2⟩
theorem OR{X Y:Nat->Bool}:∀(l:List Rec)(k:Nat),(∀i,k<=i->X i=Y i)->nM X k l=nM Y k l
 |[],k,_=>rfl
 |r::l,k,h=>by
  simp only[nM,h k (bT _)];rw[OR l (k+1) (λi hi=>h i (by omega))]
theorem Y8{X:Nat->Bool}:∀(l:List Rec)(k:Nat),(∀i,k<=i->i<k+l.length->X i=true)->nM X k l=l
 |[],k,_=>rfl
 |r::l,k,h=>by
  simp only[nM,h k (bT _) (by simp),if_true];rw[Y8 l (k+1) (λi h1 h2=>h i (by omega) (by simp;omega))]
theorem LK{X:Nat->Bool}:∀(l:List Rec)(k:Nat),(∀i,X i=false)->nM X k l=[]
 |[],k,_=>rfl
 |r::l,k,h=>by
  simp only[nM,h k,bY,if_false];exact LK l (k+1) h
def FE(X:Nat->Bool)(j:Nat):Nat->Bool:=λi=>if i=j then true else X i
theorem LJ(X:Nat->Bool)(r:Rec):∀(l:List Rec)(k j:Nat)(T:Nat->A)(m:Mem),X (k+j)=false->l[j]?=some r->
 (∀i q,j<i->X (k+i)=true->l[i]?=some q->(∀p∈r.u,∀x∈q.u,x.1≠p.1)/\∀n,r.dst=some n->q.dst≠some n)->
 kZ m (nM (FE X (k+j)) k l)=aH (kZ m (nM X k l)) r.u/\mK T (nM (FE X (k+j)) k l)=lI (mK T (nM X k l)) r.dst r.v
 |[],k,j,T,m,_,h,_=>by simp at h
 |q::l,k,0,T,m,hX,h,hd=>by
  simp at h;subst h;have h1:FE X k k=true:=by simp[FE]
  simp only[iE]at hX⊢;simp only[nM,h1,if_true,hX,bY,if_false,kZ,mK];have e:nM (FE X k) (k+1) l=nM X (k+1) l:=OR l (k+1) λi hi=>by unfold FE;rw[if_neg (by omega)]
  rw[e];have hm:∀x∈nM X (k+1) l,(∀p∈q.u,∀y∈x.u,y.1≠p.1)/\∀n,q.dst=some n->x.dst≠some n:=by
   intro x hx;obtain⟨i,h2,h3⟩:=QY hx;exact hd (i+1) x (by omega) (by rw[show k+(i+1)=k+1+i by omega];exact h2) (by simpa using h3)
  exact⟨OI _ _ _ λx hx=>(hm x hx).1,OJ _ _ _ _ λx hx=>(hm x hx).2⟩
 |q::l,k,j+1,T,m,hX,h,hd=>by
  have e:FE X (k+(j+1)) k=X k:=by unfold FE;rw[if_neg (by omega)]
  have ih:=λT m=>LJ X r l (k+1) j T m (by rw[show k+1+j=k+(j+1) by omega];exact hX) (by simpa using h) (λi q' hi hx hq=>hd (i+1) q' (by omega) (by rw[show k+(i+1)=k+1+i by omega];exact hx) (by simpa using hq));rw[show k+1+j=k+(j+1) by omega]at ih;simp only[nM,e];split
  ·simp only[kZ,mK];exact ih _ _
  ·exact ih _ _
theorem nZ{X Y:Nat->Bool}{n:Nat}:∀(l:List Rec)(k:Nat)(m m':Mem),(∀i q,l[i]?=some q->X (k+i)≠Y (k+i)->∀p∈q.u,p.1≠n)->m n=m' n->kZ m (nM X k l) n=kZ m' (nM Y k l) n
 |[],k,m,m',_,h=>h
 |q::l,k,m,m',hd,h=>by
  have hd':∀i q',l[i]?=some q'->X (k+1+i)≠Y (k+1+i)->∀p∈q'.u,p.1≠n:=λi q' hq hx=>hd (i+1) q' (by simpa using hq) (by rw[show k+(i+1)=k+1+i by omega];exact hx);have h0:=hd 0 q rfl;simp only[iE]at h0;simp only[nM];cases hx:X k<;>cases hy:Y k<;>simp only[if_true,bY,if_false,kZ]
  ·exact nZ l (k+1) m m' hd' h
  ·exact nZ l (k+1) _ _ hd' (h.trans (n9 _ _ (h0 (by simp[hx,hy]))).symm)
  ·exact nZ l (k+1) _ _ hd' ((n9 _ _ (h0 (by simp[hx,hy]))).trans h)
  ·exact nZ l (k+1) _ _ hd' (sZ _ h)
theorem pI{X Y:Nat->Bool}{n:Nat}:∀(l:List Rec)(k:Nat)(T T':Nat->A),(∀i q,l[i]?=some q->X (k+i)≠Y (k+i)->q.dst≠some n)->T n=T' n->mK T (nM X k l) n=mK T' (nM Y k l) n
 |[],k,m,m',_,h=>h
 |q::l,k,m,m',hd,h=>by
  have hd':∀i q',l[i]?=some q'->X (k+1+i)≠Y (k+1+i)->q'.dst≠some n:=λi q' hq hx=>hd (i+1) q' (by simpa using hq) (by rw[show k+(i+1)=k+1+i by omega];exact hx);have h0:=hd 0 q rfl;simp only[iE]at h0;simp only[nM];cases hx:X k<;>cases hy:Y k<;>simp only[if_true,bY,if_false,mK]
  ·exact pI l (k+1) m m' hd' h
  ·exact pI l (k+1) _ _ hd' (h.trans (by unfold lI;rw[if_neg (h0 (by simp[hx,hy]))]))
  ·exact pI l (k+1) _ _ hd' (Eq.trans (by unfold lI;rw[if_neg (h0 (by simp[hx,hy]))]) h)
  ·refine pI l (k+1) _ _ hd' ?_;unfold lI;split
   ·rfl
   ·exact h
def kO(ops:Array Oper)(T:Nat->A)(o:Oper):Option Bool:=
 match o.guard with
 |none=>some true
 |some (j,want)=>match(ops[j]?).bind (·.dst)with
  |some d=>match T d with
   |.d (.v (.bool b))=>some (b==want)
   |.eL _=>some false
   |_=>none
  |none=>none
section
variable{M0 S0:Nat->Prop}{w0:World}{N:Fr}{T:Nat->A}{m:Mem}{ρ:Nat->Value}{a:Act}{w:World}{P:Program}
theorem L8(h:bC M0 S0 w0 N T m ρ a w){ops:Array Oper}{o:Oper}{b:Bool}(hw:kO ops T o=some b):Region.wanted o (yielded ops a.tmps)=b:=by
 unfold kO at hw;unfold Region.wanted;split at hw
 ·rename_i hg;simp only[hg];simpa using hw
 ·rename_i j want hg;simp only[hg];split at hw
  ·rename_i d hd;split at hw
   ·rename_i t ht;simp only[aA]at hw;have h1:=h.tmps d;rw[ht]at h1;simp only[A.Den,C.Den]at h1;have h2:a.tmps[d]?=some (.bool t):=by
     rw[cZ]at h1;cases hq:a.tmps[d]? with
     |none=>rw[hq]at h1;simp[undef]at h1
     |some x=>rw[hq]at h1;simp at h1;rw[h1]
    unfold yielded;rw[hd];simp only[Option.bind_some,h2];rw[<-hw];cases t<;>cases want<;>rfl
   ·rename_i l ht;simp only[aA]at hw;have h1:=h.tmps d;rw[ht]at h1;simp only[A.Den]at h1;obtain⟨vs,h1,_⟩:=h1;have h2:a.tmps[d]?=none\/a.tmps[d]?=some (.tuple vs):=by
     rw[cZ]at h1;cases hq:a.tmps[d]? with
     |none=>exact .inl rfl
     |some x=>rw[hq]at h1;simp at h1;rw[h1];exact .inr rfl
    unfold yielded;rw[hd];rcases h2 with h2|h2<;>simp only[Option.bind_some,h2]<;>(subst hw;rfl)
   ·cases hw
  ·cases hw
theorem bC.drew(h:bC M0 S0 w0 N T m ρ a w)(k:Nat):bC M0 S0 w0 N T m ρ a {w with drawn:=k}:=by
 have hst:dV (dD M0 m ρ) w {w with drawn:=k}:=⟨bT _,λ_ _ _=>rfl⟩
 exact{keeps:=h.keeps.trans (S':=λ_=>False) ⟨rfl,rfl,rfl,bT _,λ_ _ _=>rfl⟩ (λ_ _ e=>e.elim),size:=h.size
       defers:=λds e=>eJ hst (λ_ e _=>e) (cI.refl m ρ) _ _ (h.defers ds e)
       tmps:=λn=>A.dC hst (λ_ e _=>e) (cI.refl m ρ) _ _ (h.tmps n)
       res:=λi r hi=>R.hU hst (λ_ e _=>e) (cI.refl m ρ) (λ_ _ _=>rfl) (h.res i r hi)
       own:=h.own,apart:=h.apart}
end
structure RL(P:Program)(ops:Array Oper)(recs:List Rec)(anc:Nat->Nat->Bool)(F:Nat->Nat->Prop)(Rq:Nat->Mem->Prop)(n:Nat)(T:Nat->A)(m:Mem):Prop where
 len:recs.length=ops.size
 dst:∀(k:Nat)(o:Oper)(r:Rec),ops[k]?=some o->recs[k]?=some r->r.dst=o.dst/\∀d,o.dst=some d->d<n
 gA:∀(k:Nat)(o:Oper)(r:Rec),ops[k]?=some o->recs[k]?=some r->
  ((kO ops (mK T (nM (anc k) 0 recs)) o=some false/\r.v=.eL []/\r.u=[])\/
   (kO ops (mK T (nM (anc k) 0 recs)) o=some true/\∀(T':Nat->A)(m':Mem),(∀x∈o.looksAt ops,T' x=mK T (nM (anc k) 0 recs) x)->(∀i,F k i->m' i=kZ m (nM (anc k) 0 recs) i)->
     Rq k m'->(∀p∈r.u,kZ m (nM (anc k) 0 recs) p.1=none->m' p.1=none)->qT P o T' m' r.v (aH m' r.u)))
 rq:∀(k:Nat)(o:Oper)(X:Nat->Bool),ops[k]?=some o->X k=false->(∀i q,recs[i]?=some q->X i≠anc k i->i≠k/\anc i k=false/\anc k i=false)->Rq k (kZ m (nM X 0 recs))
 guard:∀(k:Nat)(o:Oper)(j:Nat)(b:Bool),ops[k]?=some o->o.guard=some (j,b)->∀d,(ops[j]?).bind (·.dst)=some d->d∈o.looksAt ops
 fresh:∀(k:Nat)(r:Rec),recs[k]?=some r->∀p∈r.u,kZ m (nM (anc k) 0 recs) p.1=none->F k p.1
 apart:∀(i j:Nat)(p q:Rec)(o:Oper),i≠j->recs[i]?=some p->recs[j]?=some q->ops[j]?=some o->anc i j=false->anc j i=false->
  (∀d,p.dst=some d->d∉o.looksAt ops/\q.dst≠some d)/\∀x∈p.u,¬F j x.1/\∀y∈q.u,y.1≠x.1
 down:∀(k:Nat)(o:Oper),ops[k]?=some o->∀e∈o.after,Region.binds .any e=true->e.on<k
 anc:∀(k:Nat)(o:Oper)(j:Nat),ops[k]?=some o->anc k j=true->∃e∈o.after,Region.binds .any e=true/\(e.on=j\/anc e.on j=true)
theorem xA{p q:Nat->Bool}:∀{l:List Nat}{i:Nat},(∀j,q j=true->p j=true)->i∈l->p i=true->q i=false->(l.filter q).length<(l.filter p).length
 |[],i,_,h,_,_=>by simp at h
 |x::l,i,hpq,h,hp,hq=>by
  have hle:∀(l:List Nat),(l.filter q).length<=(l.filter p).length:=by
   intro l;induction l with
   |nil=>simp
   |cons y l ih=>
    simp only[lZ];cases hy:q y
    ·cases p y<;>simp<;>omega
    ·simp[hpq y hy];omega
  simp only[lZ];simp only[aO]at h;by_cases hx:i=x
  ·subst hx;have:=hle l;simp[hp,hq];omega
  ·have ih:=xA hpq (h.resolve_left hx) hp hq;cases hy:q x
   ·cases p x<;>simp<;>omega
   ·simp[hpq x hy];exact ih
section
variable{M0 S0:Nat->Prop}{w0:World}{N:Fr}{T:Nat->A}{m:Mem}{ρ:Nat->Value}{P:Program}{ops:Array Oper}{recs:List Rec}{anc:Nat->Nat->Bool}{F:Nat->Nat->Prop}{Rq:Nat->Mem->Prop}
theorem WM{ro:Option Nat}(hok:RL P ops recs anc F Rq N.n T m)(hlt:∀b,M0 b->b<w0.heap.size){Q:Exit->Act->World->Prop}
 (hQ:∀(a:Act)(w:World)(ρ':Nat->Value),bC M0 S0 w0 N (mK T recs) (kZ m recs) ρ' a w->cI m (kZ m recs) ρ ρ'->Q .normal a w):
 ∀(fuel:Nat)(listed:Array Bool)(ρ':Nat->Value)(a:Act)(w:World),listed.size=ops.size->((List.range ops.size).filter λi=> !listed.getD i false).length<=fuel->
  (∀k o,ops[k]?=some o->listed.getD k false=true->∀e∈o.after,Region.binds .any e=true->listed.getD e.on false=true)->
  bC M0 S0 w0 N (mK T (nM (λi=>listed.getD i false) 0 recs)) (kZ m (nM (λi=>listed.getD i false) 0 recs)) ρ' a w->cI m (kZ m (nM (λi=>listed.getD i false) 0 recs)) ρ ρ'->
  wpAnyIn (FW ro) 0 P .any ops Q fuel listed a w:=by
 have hfin:∀(listed:Array Bool)(ρ':Nat->Value)(a:Act)(w:World),listed.size=ops.size->Region.ready .any ops listed=[]->
  bC M0 S0 w0 N (mK T (nM (λi=>listed.getD i false) 0 recs)) (kZ m (nM (λi=>listed.getD i false) 0 recs)) ρ' a w->cI m (kZ m (nM (λi=>listed.getD i false) 0 recs)) ρ ρ'->Q .normal a w:=by
  intro listed ρ' a w hsz hr hs hO;have hall:∀i,i<ops.size->listed.getD i false=true:=by
   intro i;induction i using Nat.strongRecOn with
   |_ i ih=>
    intro hi;cases hX:listed.getD i false with
    |true=>rfl
    |false=>
     exfalso;have hmem:i∈Region.ready .any ops listed:=by
      unfold Region.ready;rw[jU];refine⟨by simpa using hi,?_⟩;have h1:listed.getD i true=false:=by
       have:i<listed.size:=by omega
       simp[Array.getD,this]at hX⊢;exact hX
      rw[h1,cF hi];simp only[Bool.not_false,dF,gZ,cA,Array.all_eq_true'];intro e he;cases hb:Region.binds .any e with
      |false=>simp
      |true=>
       have hd:=hok.down i _ (cF hi) e he hb;simp[ih e.on hd (by omega)]
     rw[hr]at hmem;simp at hmem
  have hsel:nM (λi=>listed.getD i false) 0 recs=recs:=Y8 recs 0 λi _ h=>hall i (by have:=hok.len;omega);rw[hsel]at hs hO;exact hQ a w ρ' hs hO
 intro fuel;induction fuel with
 |zero=>
  intro listed ρ' a w hsz hf hcl hs hO;have hr:Region.ready .any ops listed=[]:=by
   unfold Region.ready;rw[List.filter_eq_nil_iff];intro i hi;have h0:(List.range ops.size).filter (λi=> !listed.getD i false)=[]:=bL (by omega);rw[List.filter_eq_nil_iff]at h0;have h1:=h0 i hi;have hil:i<listed.size:=by have:=jI.1 hi;omega
   simp[Array.getD,hil]at h1⊢;simp[h1]
  exact⟨hr,hfin listed ρ' a w hsz hr hs hO⟩
 |succ fuel ih=>
  intro listed ρ' a w hsz hf hcl hs hO;refine⟨λhr=>hfin listed ρ' a w hsz hr hs hO,λk hk=>?_⟩;unfold Region.ready at hk;rw[jU]at hk;obtain⟨hk1,hk2⟩:=hk;have hkn:k<ops.size:=by simpa using hk1
  have hko:ops[k]?=some ops[k]:=cF hkn;rw[hko]at hk2;simp only[dF,gZ,aE,k9,Array.all_eq_true',gP]at hk2;obtain⟨hk3,hk4⟩:=hk2;have hkl:k<listed.size:=by omega
  have hXk:listed.getD k false=false:=by simp[Array.getD,hkl]at hk3⊢;exact hk3
  have hdir:∀e∈(ops[k]).after,Region.binds .any e=true->listed.getD e.on false=true:=by
   intro e he hb;rcases hk4 e he with h|h
   ·rw[hb]at h;cases h
   ·exact h
  have hcl2:∀(i:Nat)(o:Oper),ops[i]?=some o->(∀e∈o.after,Region.binds .any e=true->listed.getD e.on false=true)->∀j,anc i j=true->listed.getD j false=true:=by
   intro i;induction i using Nat.strongRecOn with
   |_ i ih2=>
    intro o ho hdir j hj;obtain⟨e,he,hb,h⟩:=hok.anc i o j ho hj;have hel:=hdir e he hb;rcases h with rfl|h
    ·exact hel
    ·have hlt2:=hok.down i o ho e he hb;have hio:i<ops.size:=(aL.1 ho).1;exact ih2 e.on hlt2 _ (cF (by omega)) (hcl e.on _ (cF (by omega)) hel) j h
  have hdown:∀(i:Nat)(o:Oper),ops[i]?=some o->∀j,anc i j=true->j<i:=by
   intro i;induction i using Nat.strongRecOn with
   |_ i ih2=>
    intro o ho j hj;obtain⟨e,he,hb,h⟩:=hok.anc i o j ho hj;have hlt2:=hok.down i o ho e he hb;rcases h with rfl|h
    ·exact hlt2
    ·have hio:i<ops.size:=(aL.1 ho).1;exact Nat.lt_trans (ih2 e.on hlt2 _ (cF (by omega)) j h) hlt2
  have hanck:∀j,anc k j=true->listed.getD j false=true:=hcl2 k _ hko hdir;have hrk:k<recs.length:=by have:=hok.len;omega
  have hr:recs[k]?=some recs[k]:=aC hrk;have hinc:∀i q,recs[i]?=some q->listed.getD i false≠anc k i->i≠k/\anc i k=false/\anc k i=false:=by
   intro i q hq hne;have hio:i<ops.size:=by have:=(bA.1 hq).1;have:=hok.len;omega
   have hXi:listed.getD i false=true:=by
    cases h:listed.getD i false with
    |true=>rfl
    |false=>
     cases h2:anc k i with
     |true=>exact(hanck i h2).symm.trans h▸rfl
     |false=>rw[h,h2]at hne;exact absurd rfl hne
   have hki:anc k i=false:=by
    cases h2:anc k i with
    |true=>rw[hXi,h2]at hne;exact absurd rfl hne
    |false=>rfl
   refine⟨(by rintro rfl;rw[hXk]at hXi;cases hXi),?_,hki⟩;cases h3:anc i k with
   |false=>rfl
   |true=>
    have:=hcl2 i _ (cF hio) (hcl i _ (cF hio) hXi) k h3;rw[hXk]at this;cases this
  have hTk:∀x∈(ops[k]).looksAt ops,mK T (nM (λi=>listed.getD i false) 0 recs) x=mK T (nM (anc k) 0 recs) x:=by
   intro x hx;refine pI recs 0 T T (λi q hq hne=>?_) rfl;rw[fF]at hne;obtain⟨h1,h2,h3⟩:=hinc i q hq hne;exact λe=>((hok.apart i k q _ _ h1 hq hr hko h2 h3).1 x e).1 hx
  have hmk:∀n,F k n->kZ m (nM (λi=>listed.getD i false) 0 recs) n=kZ m (nM (anc k) 0 recs) n:=by
   intro n hn;refine nZ recs 0 m m (λi q hq hne p hp e=>?_) rfl;rw[fF]at hne;obtain⟨h1,h2,h3⟩:=hinc i q hq hne;exact((hok.apart i k q _ _ h1 hq hr hko h2 h3).2 p hp).1 (e▸hn)
  have hsel:=LJ (λi=>listed.getD i false) recs[k] recs 0 k T m (by simpa using hXk) hr (λi q hi hX hq=>by
   have hX':listed.getD i false=true:=by simpa using hX
   have hio:i<ops.size:=by have:=(bA.1 hq).1;have:=hok.len;omega
   have h2:anc i k=false:=by
    cases h3:anc i k with
    |false=>rfl
    |true=>
     have:=hcl2 i _ (cF hio) (hcl i _ (cF hio) hX') k h3;rw[hXk]at this;cases this
   have h3:anc k i=false:=by
    cases h3:anc k i with
    |false=>rfl
    |true=>have:=hdown k _ hko i h3;omega
   have:=hok.apart k i _ q _ (by omega) hr hq (cF hio) h3 h2
   exact⟨λp hp=>(this.2 p hp).2,λn hn=>(this.1 n hn).2⟩)
  have hX':(λi=>(listed.setIfInBounds k true).getD i false)=FE (λi=>listed.getD i false) (0+k):=by
   funext i;unfold FE;rw[fF];by_cases e:i=k
   ·subst e;simp[Array.getD,hkl]
   ·rw[if_neg e];show(listed.setIfInBounds k true).getD i false=listed.getD i false;rw[cZ,cZ,eD (tG e)]
  obtain⟨hd1,hd2⟩:=hok.dst k _ _ hko hr;have hnext:∀(ρ2:Nat->Value)(a2:Act)(w2:World),bC M0 S0 w0 N (lI (mK T (nM (λi=>listed.getD i false) 0 recs)) recs[k].dst recs[k].v) (aH (kZ m (nM (λi=>listed.getD i false) 0 recs)) recs[k].u) ρ2 a2 w2->
   cI (kZ m (nM (λi=>listed.getD i false) 0 recs)) (aH (kZ m (nM (λi=>listed.getD i false) 0 recs)) recs[k].u) ρ' ρ2->wpAnyIn (FW ro) 0 P .any ops Q fuel (listed.setIfInBounds k true) a2 w2:=by
   intro ρ2 a2 w2 hs2 hO2;refine ih _ ρ2 a2 w2 (by simpa using hsz) ?_ ?_ ?_ ?_
   ·have:=xA (l:=List.range ops.size) (p:=λi=> !listed.getD i false) (q:=λi=> !(listed.setIfInBounds k true).getD i false) (i:=k) (λj hj=>by
     have hj':(λi=>(listed.setIfInBounds k true).getD i false) j=false:=by simpa using hj
     rw[hX']at hj';unfold FE at hj';split at hj'
     · cases hj'
     · simpa using hj') (by simpa using hkn) (by simp only[hXk];rfl) (by
       have:(λi=>(listed.setIfInBounds k true).getD i false) k=true:=by rw[hX'];simp[FE]
       simpa using this)
    omega
   ·intro i o ho hi e he hb;have hi':(λi=>(listed.setIfInBounds k true).getD i false) i=true:=hi;show(λi=>(listed.setIfInBounds k true).getD i false) e.on=true;rw[hX']at hi'⊢;unfold FE at hi'⊢;rw[fF]at hi'⊢;split
    ·rfl
    ·split at hi'
     ·rename_i hik;subst hik;rw[hko]at ho;simp at ho;subst ho;exact hdir e he hb
     ·exact hcl i o ho hi' e he hb
   ·rw[hX',hsel.1,hsel.2];exact hs2
   ·rw[hX',hsel.1];exact hO.trans hO2
  unfold wpOpIn;rw[hko];simp only;have hwant:∀b,kO ops (mK T (nM (anc k) 0 recs)) ops[k]=some b->kO ops (mK T (nM (λi=>listed.getD i false) 0 recs)) ops[k]=some b:=by
   intro b hb;unfold kO at hb⊢;split at hb
   ·exact hb
   ·rename_i j want hg;split at hb
    ·rename_i d hd;rw[hTk d (hok.guard k _ j want hko hg d hd)];simpa [hg,hd]using hb
    ·cases hb
  rcases hok.gA k _ _ hko hr with⟨hw,hv,hu⟩|⟨hw,hop⟩
  ·rw[L8 hs (hwant _ hw)];simp only[bY,if_false];refine⟨λ_ _=>trivial,hnext ρ' _ w ?_ (by rw[hu];exact cI.refl _ _)⟩;rw[hu,hv,hd1];exact hs.put _ (λn hn=>hd2 n hn) (by simp only[A.Den];exact⟨#[],rfl,rfl⟩)
  ·rw[L8 hs (hwant _ hw)];simp only[if_true];refine hop _ _ hTk hmk (hok.rq k _ _ hko hXk hinc) (λp hp hn=>?_) ro N M0 S0 w0 ρ' a w hs hlt _ Q ?_
   ·rw[hmk _ (hok.fresh k _ hr p hp hn)];exact hn
   ·intro y w' ρ2 hs2 hO2 hden;refine hnext ρ2 _ w' ?_ hO2;rw[hd1];exact hs2.put _ (λn hn=>hd2 n hn) hden
theorem T5{ro:Option Nat}(hm:P.follows .mixedOrders=true)(hok:RL P ops recs anc F Rq N.n T m)(hlt:∀b,M0 b->b<w0.heap.size){id:Nat}{Q:Exit->Act->World->Prop}{a:Act}{w:World}(hs:bC M0 S0 w0 N T m ρ a w)
 (hQ:∀(a:Act)(w:World)(ρ':Nat->Value),bC M0 S0 w0 N (mK T recs) (kZ m recs) ρ' a w->cI m (kZ m recs) ρ ρ'->Q .normal a w):(Code.region id ops true).wpIn (FW ro) 0 P Q a w:=by
 refine wpIn_region_any hm ?_;have h0:(λi=>(Array.replicate ops.size false).getD i false)=λ_=>false:=by
  funext i;by_cases h:i<ops.size<;>simp[Array.getD,h]
 refine WM hok hlt hQ ops.size _ ρ a _ (by simp) ?_ ?_ ?_ ?_
 ·have:=List.length_filter_le (λi=> !(Array.replicate ops.size false).getD i false) (List.range ops.size);simpa using this
 ·intro k o _ hk;have:(λi=>(Array.replicate ops.size false).getD i false) k=true:=hk;rw[h0]at this;cases this
 ·rw[h0,LK recs 0 (λ_=>rfl)];exact hs.drew _
 ·rw[h0,LK recs 0 (λ_=>rfl)];exact cI.refl _ _
end
end Go.Pv
