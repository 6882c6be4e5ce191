import Derived.Test.YtpdcbahjjmooiaaGreatH1
/- A program logic over the model, contracts of the functions that the law reaches: part 2. (Names and blanks were shortened by program.) -/
set_option linter.unusedVariables false
set_option linter.unusedSimpArgs false
set_option linter.constructorNameAsVariable false
set_option linter.unusedSectionVars false
set_option linter.deprecated false
set_option maxRecDepth 100000
set_option maxHeartbeats 8000000
open Go
namespace Go.Pv
open Go.RowKit
variable{w:World}{M:Nat->Prop}{t:TypeId}
def mM{α:Type}(l:List α)(off:Nat)(vs:List α):List α:=l.take off++(vs++l.drop (off+vs.length))
theorem AI{α:Type}(l:List α)(off:Nat)(vs:List α)(h:off+vs.length<=l.length):(mM l off vs).length=l.length:=by
 simp[mM];omega
theorem NP(vs:List Value):∀(n off:Nat)(cells:Array Value),off+n+vs.length<=cells.size->
 ((vs.zipIdx n).foldl (λcs(x:Value×Nat)=>cs.setIfInBounds (off+x.2) x.1) cells).toList=mM cells.toList (off+n) vs:=by
 induction vs with
 |nil=>intro n off cells _;simp[mM]
 |cons v r ih=>
  intro n off cells h;simp only[List.zipIdx_cons,fX];simp only[aQ]at h;rw[ih (n+1) off _ zM];simp only[mM,Array.toList_setIfInBounds,aQ];have cX:off+n<cells.toList.length:=zM;apply iQ;intro j;rcases Nat.lt_trichotomy j (off+n)with hj|hj|hj
  ·rw[bX zM,bX zM];rw[cM,cM,aUF oM,aUF hj,List.getElem?_set_ne oM]
  ·subst hj;rw[bX zM,cM,aUF oM,List.getElem?_set_self cX];rw[bO zM];have hm:min (off+n) cells.toList.length=off+n:=oM;simp only[cW,hm,Nat.sub_self,bW,iK]
  ·rw[bO zM];rw[bO (l₁:=cells.toList.take (off+n)) zM];simp only[cW,cE];rw[show j -min (off+(n+1)) cells.toList.length=j -(off+n)-1 by simp at cX⊢;omega,show j -min (off+n) cells.toList.length=(j -(off+n)-1)+1 by simp at cX⊢;omega];rw[bW,jQ];by_cases hr:j -(off+n)-1<r.length
   ·rw[bX hr,bX hr]
   ·rw[bO oM,bO oM];rw[eA,eA,List.getElem?_set_ne oM];congr 1;omega
section
variable{w:World}{M:Nat->Prop}{m:Mem}{ρ:Nat->Value}
theorem A.C5{l vs:List A}{ys zs:List Value}(off:Nat)(h1:A.bR w M m ρ l ys)(h2:A.bR w M m ρ vs zs):A.bR w M m ρ (mM l off vs) (mM ys off zs):=by
 have hl:=(A.c9.1 h2).1;unfold mM;rw[hl];exact A.iH (A.mT off h1) (A.iH h2 (A.lL _ h1))
end
def LQ(P:Program)(t:TypeId):Option (List (Nat×Nat)):=
 match P.underlying t with
 |some (.struct fs)=>if fs.toList.all λf=>(P.info? f.type).isSome then some (fs.toList.map λf=>(f.offset,P.cellsOf f.type))else none
 |some (.array k e)=>if(P.info? e).isSome then some ((List.range k).map λi=>(i*P.cellsOf e,P.cellsOf e))else none
 |_=>none
def NM(pl:List (Nat×Nat)):List A->List (Nat×List A)->Option (List A)
 |cells,[]=>some cells
 |cells,(i,vs)::rest=>match pl[i]? with
  |none=>none
  |some (off,size)=>if vs.length=size/\off+size<=cells.length then NM pl (mM cells off vs) rest else none
inductive I0(w:World)(M:Nat->Prop)(m:Mem)(ρ:Nat->Value):List (Nat×List A)->List (Nat×Value)->Prop
 |nil:I0 w M m ρ [] []
 |cons {i:Nat} {l:List A} {y:Value} {r:List (Nat×List A)} {s:List (Nat×Value)} (h:A.bR w M m ρ l y.cells.toList) (h0:∀u∈y.cells.toList,u.oneCell'=true) (t:I0 w M m ρ r s):I0 w M m ρ ((i,l)::r) ((i,y)::s)
theorem NN{m:Mem}{ρ:Nat->Value}{pl:List (Nat×Nat)}{place:Nat->Option (Nat×Nat)}(hp:∀i p,pl[i]?=some p->place i=some p){ps:List (Nat×List A)}{vs:List (Nat×Value)}(hps:I0 w M m ρ ps vs):
 ∀{cells out:List A}{cs:Array Value},A.bR w M m ρ cells cs.toList->(∀u∈cs.toList,u.oneCell'=true)->NM pl cells ps=some out->∃cs',Instr.fill place cs vs=some cs'/\A.bR w M m ρ out cs'.toList/\∀u∈cs'.toList,u.oneCell'=true:=by
 induction hps with
 |nil=>
  intro cells out cs hd TW hf;simp only[NM,aA]at hf;subst hf;exact⟨cs,rfl,hd,TW⟩
 |cons h h0 t ih=>
  rename_i i l y r s;intro cells out cs hd TW hf;simp only[NM]at hf;split at hf
  ·cases hf
  ·rename_i off size hpl;split at hf
   ·rename_i hc;obtain⟨hc1,wF⟩:=hc;have hlen:=(A.c9.1 h).1;have aXK:=(A.c9.1 hd).1;have aYW:=NP y.cells.toList 0 off cs (by simp at hlen aXK⊢;omega);have hz:y.cells.zipIdx.foldl (λcs(x:Value×Nat)=>cs.setIfInBounds (off+x.2) x.1) cs=(y.cells.toList.zipIdx 0).foldl (λcs(x:Value×Nat)=>cs.setIfInBounds (off+x.2) x.1) cs:=by
     rw[<-Array.foldl_toList];simp
    obtain⟨cs',h1,h2⟩:=ih (cs:=y.cells.zipIdx.foldl (λcs(x:Value×Nat)=>cs.setIfInBounds (off+x.2) x.1) cs) (by
     rw[hz,aYW];exact A.C5 off hd h) (by
     rw[hz,aYW];intro u hu;simp only[mM,bN]at hu;rcases hu with hu|hu|hu
     · exact TW u (dJ hu)
     · exact h0 u hu
     · exact TW u (dI hu)) hf
    refine⟨cs',?_,h2⟩;simp only[Instr.fill,hp i _ hpl];rw[aT7]
    ·exact h1
    ·simp at hlen aXK;simp;omega
   ·cases hf
theorem B4{P:Program}{w:World}:∀(l:List Field),(∀f∈l,(P.info? f.type).isSome=true)->
 (l.mapM λ(f:Field)=>(do pure (f.offset,<-sizeOf f.type):Sem (Nat×Nat))).run P w=.ok (l.map λf=>(f.offset,P.cellsOf f.type)) w
 |[],_=>by simp[List.mapM_nil]
 |f::r,h=>by
  obtain⟨i,hi⟩:=eS.1 (h f sM);have ih:=B4 (P:=P) (w:=w) r (λg hg=>h g (by simp[hg]));simp only[List.mapM_cons,aV,run_sizeOf hi,aN,cB,ih,aG]
section
variable{M0 S0:Nat->Prop}{w0:World}{N:Fr}{T:Nat->A}{m:Mem}{ρ:Nat->Value}{a:Act}{w:World}{P:Program}
theorem aE7{pl:List (Nat×Nat)}{z:List C}{ps:List (Nat×List A)}{vs:List (Nat×Value)}{out:List A}(hpl:LQ P t=some pl)(hz:o5 P t=some z)(hps:I0 w M m ρ ps vs)
 (hf:NM pl (z.map .d) ps=some out):∃y,(Instr.build t vs.toArray).run P w=.ok y w/\(A.agg out).Den w M m ρ y:=by
 obtain⟨zv,XN,XO,⟨i,hi,hzi⟩,hz0⟩:=qA hz w;have hzd:A.bR w M m ρ (z.map .d) zv.cells.toList:=A.iO.2 (XO w M);unfold LQ at hpl;split at hpl
 ·rename_i fs hu;split at hpl
  ·rename_i aWV;simp only[aA]at hpl;subst hpl;obtain⟨cs,h1,h2,h3⟩:=NN (place:=λ(i:Nat)=>(fs.toList.map λf=>(f.offset,P.cellsOf f.type))[i]?) (λi p h=>h) hps hzd hz0 hf;refine⟨.agg cs,?_,by simp only[A.Den];exact⟨cs,rfl,h3,h2⟩⟩;have hm:=B4 (P:=P) (w:=w) fs.toList (by simpa only[cV]using aWV);have zI:(fs.mapM λ(f:Field)=>(do pure (f.offset,<-sizeOf f.type):Sem (Nat×Nat))).run P w=.ok (fs.toList.map λf=>(f.offset,P.cellsOf f.type)).toArray w:=by
    rw[<-Array.toArray_toList (xs:=fs),List.mapM_toArray];simp only[Sem.run_map,hm,aN,jY]
   have a03:(λ(x:Nat)=>(fs.toList.map λf=>(f.offset,P.cellsOf f.type)).toArray[x]?)=λ(i:Nat)=>(fs.toList.map λf=>(f.offset,P.cellsOf f.type))[i]?:=by
    funext x;simp
   simp only[Instr.build,aV,XN,aN,run_underlying hu,zI,jY,a03,h1,cB]
  ·cases hpl
 ·rename_i k e hu;split at hpl
  ·rename_i he;simp only[aA]at hpl;subst hpl;obtain⟨ie,hie⟩:=eS.1 he
   obtain⟨cs,h1,h2,h3⟩:=NN (place:=λi=>some (i*P.cellsOf e,P.cellsOf e)) (λi p h=>by
    simp only[cK,bU]at h;obtain⟨j,h1,h2⟩:=h;have hj:j=i:=by
     have:=(bA.1 h1).2;simpa using this.symm
    rw[<-h2,hj]) hps hzd hz0 hf
   refine⟨.agg cs,?_,by simp only[A.Den];exact⟨cs,rfl,h3,h2⟩⟩;simp only[Instr.build,aV,XN,aN,run_underlying hu,run_sizeOf hie,jY,h1,cB]
  ·cases hpl
 ·cases hpl
end
mutual
def A.hs:A->List Nat
 |.lp i _=>[i]
 |.h i=>[i]
 |.ep i _ _ _=>[i]
 |.sv i _ _=>[i]
 |.fn _ f c=>A.lQ f++A.lQ c
 |.agg l=>A.lQ l
 |.eL l=>A.lQ l
 |.AE _ a=>A.hs a
 |.d _=>[]
 |.x=>[]
def A.lQ:List A->List Nat
 |[]=>[]
 |c::r=>A.hs c++A.lQ r
end
theorem vX(m:Mem):∀(u v:List (Nat×R)),aH m (u++v)=aH (aH m u) v
 |[],v=>rfl
 |(i,r)::t,v=>by simp only[bW,aH];exact vX _ t v
section
variable{M0 S0:Nat->Prop}{w0:World}{N:Fr}{T:Nat->A}{m:Mem}{ρ:Nat->Value}{a:Act}{w:World}{P:Program}
theorem UJ(h:bC M0 S0 w0 N T m ρ a w){t:TypeId}{i off:Nat}{l vs:List A}{p:Value}{o:Operand}(hp:(A.lp i off).Den w (dD M0 m ρ) m ρ p)(hi:m i=some (.cells false l))
 (hv:(dN T o).cells m=some vs)(hn:vs.length=P.cellsOf t)(aXM:off+vs.length<=l.length)(hi':(P.info? t).isSome=true):
 ∃w',(Instr.storeAt t p (a.eval o)).run P w=.ok () w'/\bC M0 S0 w0 N T (aX m i (.cells false (mM l off vs))) ρ a w'/\gL m (aX m i (.cells false (mM l off vs))) ρ ρ:=by
 simp only[A.Den]at hp;obtain⟨b,hb,rfl⟩:=eH hp hi sM;obtain⟨b',cs,t',e1,h1,h2,h3,h5⟩:=h.res i _ hi;rw[hb]at e1;simp at e1;subst e1;obtain⟨hd,aX5⟩:=wQ h (cU h o) hv;have hlen:=(A.c9.1 hd).1;have aXK:=(A.c9.1 h2).1;obtain⟨ti,J3⟩:=eS.1 hi';have aVL:=run_storeCells_at P b off t' (a.eval o).cells.toList 0 cs w h1 (by simp at hlen aXK⊢;omega) aX5;simp only[iE]at aVL;refine⟨w.setRow b (cs.toList.take off++(a.eval o).cells.toList++cs.toList.drop (off+(a.eval o).cells.toList.length)).toArray,?_,?_,?_⟩
 rotate_left 2
 ·have:=gL.set (m:=m) (ρ:=ρ) i (.cells false (mM l off vs)) (ρ i) (λ_ _=>⟨by rw[hi];simp,rfl,λfz t es l' e=>by rw[hi]at e;simp at e⟩)
  rwa [jP]at this
 ·have hs:(a.eval o).cells.size=P.cellsOf t:=by rw[<-hn,hlen];simp
  simp only[Instr.storeAt,Instr.sureAddr,storeVar,aV,cB,aN,run_sizeOf J3,hs,ne_eq,not_true_eq_false,if_false];exact aVL
 ·have hk:iF (λk=>k=b) w (w.setRow b (cs.toList.take off++(a.eval o).cells.toList++cs.toList.drop (off+(a.eval o).cells.toList.length)).toArray):=
   ⟨rfl,rfl,rfl,by simp[World.setRow],λk _ hk=>setRow_other w b k _ hk⟩
  refine h.write hi rfl rfl sM hk (λk _ e=>by rw[hb,e];rfl) ?_;intro hO eB hm;refine⟨b,_,t',hb,setRow_heap w b _ _ t' _ h1,?_,sM,?_⟩
  ·have:=A.C5 off (A.dK eB hm hO _ _ h2) (A.dK eB hm hO _ _ hd);simpa [mM,bG]using this
  ·intro u hu;simp only[bN]at hu;rcases hu with(hu|hu)|hu
   ·exact h5 u (dJ hu)
   ·exact aX5 u hu
   ·exact h5 u (dI hu)
theorem z8{α:Type}{es:Nat}:∀(l:List (List α))(k:Nat)(r:List α),(∀e∈l,e.length=es)->k<l.length->r.length=es->(l.set k r).flatten=mM l.flatten (k*es) r
 |[],k,r,_,hk,_=>by simp at hk
 |e::l,0,r,hl,_,hr=>by
  have he:=hl e sM;simp only[List.set_cons_zero,dL,mM,Nat.zero_mul,fF,fD,bZ];rw[hr,<-he,List.drop_left]
 |e::l,k+1,r,hl,hk,hr=>by
  have he:=hl e sM;have ih:=z8 l k r (λe' h'=>hl e' (by simp[h'])) (by simpa using hk) hr;simp only[List.set_cons_succ,dL,ih,mM];rw[gY,Nat.add_comm (k*es) es,<-he,List.take_length_add_append,bG,fP,List.drop_length_add_append]
theorem aBU{α:Type}(F row vs:List α)(ke es off:Nat)(hF:ke+es<=F.length)(aY7:row.length=es)(hr:∀j,j<es->F[ke+j]?=row[j]?)(hv:off+vs.length<=es):
 mM F ke (mM row off vs)=mM F (ke+off) vs:=by
 have LB:(mM row off vs).length=es:=by rw[AI _ _ _ oM,aY7]
 apply iQ;intro j;conv=>lhs;rw[mM]
 conv=>rhs;rw[mM]
 rw[LB];rcases eQ j ke with q|q
 ·rw[bX zM,bX zM,cM,cM,aUF q,aUF oM]
 ·rw[bO zM];have e1:j -(F.take ke).length=j -ke:=zM;rw[e1];rcases eQ (j -ke) es with q2|q2
  ·rw[bX oM,mM];rcases eQ (j -ke) off with q3|q3
   ·rw[bX zM,cM,aUF q3,bX zM,cM,aUF oM];rw[<-hr _ q2];congr 1;omega
   ·rw[bO zM,bO (l₁:=F.take (ke+off)) zM];have e2:j -ke -(row.take off).length=j -(ke+off):=zM;have e3:j -(F.take (ke+off)).length=j -(ke+off):=zM;rw[e2,e3];rcases eQ (j -(ke+off)) vs.length with q4|q4
    ·rw[bX q4,bX q4]
    ·rw[bO q4,bO q4,eA,eA];rw[<-hr _ oM];congr 1;omega
  ·rw[bO oM,bO (l₁:=F.take (ke+off)) zM];have e3:j -(F.take (ke+off)).length=j -(ke+off):=zM;rw[e3,bO oM,eA,eA];congr 1;omega
theorem GG{e:TypeId}{size n:Nat}{g p cap:Nat}{xs vs:List Value}(h:vV w e size (.slice (some ⟨g,p,none⟩) n cap) n xs)(o:Nat)(P2:vs≠[])(aXM:o+vs.length<=xs.length)(aX5:∀u∈vs,u.oneCell'=true):
 ∃w',(storeCells ⟨g,p+o,none⟩ vs).run P w=.ok () w'/\vV w' e size (.slice (some ⟨g,p,none⟩) n cap) n (mM xs o vs)/\iF (λk=>k=g) w w':=by
 rcases h with⟨h',_⟩|⟨hxn,g',og,cap',cur,h',hb,hg,hnc,hcm,TW,aX3⟩
 ·subst h';exfalso;apply P2;exact bL (by simp only[cS]at aXM;omega)
 ·simp only[Value.slice.injEq,aA,rX,and_true,true_and]at h';obtain⟨⟨rfl,rfl⟩,rfl⟩:=h';have LR:p+xs.length<=cur.toList.length:=by
   have:xs.length<=(cur.toList.drop p).length:=by rw[<-aX3];simp;omega
   have h2:p<=cur.size:=oM;simp at this⊢;omega
  have aVL:=run_storeCells_at P g (p+o) e vs 0 cur w hg (by simp at LR⊢;omega) aX5;simp only[iE]at aVL;refine⟨_,aVL,.inr ⟨by rw[AI _ _ _ aXM,hxn],g,p,cap,_,rfl,hb,setRow_heap w g cur _ e _ hg,hnc,hcm,?_,?_⟩,⟨rfl,rfl,rfl,by simp[World.setRow],λk _ hk=>setRow_other w g k _ hk⟩⟩
  ·simp at LR;simp;omega
  ·have hn:n*size=xs.length:=hxn.symm;rw[hn];have hxj:∀j,j<xs.length->xs[j]?=cur.toList[p+j]?:=by
    intro j hj;have:=congrArg (λl=>l[j]?) aX3;simp only[cM,eA]at this;rw[aUF oM]at this;exact this.symm
   simp only[c7]at LR;apply iQ;intro j;simp only[cM,mM];split
   ·rename_i hj;rw[eA];rcases eQ j o with h1|h1
    ·rw[bG,bX zM,bX zM,cM,aUF oM,cM,aUF h1];exact(hxj j oM).symm
    ·rw[bG,bO zM,bO (l₁:=xs.take o) zM];have e1:p+j -(cur.toList.take (p+o)).length=j -o:=zM;have e2:j -(xs.take o).length=j -o:=zM;rw[e1,e2];rcases eQ (j -o) vs.length with h2|h2
     ·rw[bX h2,bX h2]
     ·rw[bO h2,bO h2,eA,eA,hxj _ oM];congr 1;omega
   ·rename_i hj;rw[c8];simp;omega
theorem EJ{e:TypeId}{size n:Nat}{v:Value}{xs:List Value}(h:vV w e size v n xs)(hn:0<n):∃g o cap,v=.slice (some ⟨g,o,none⟩) n cap/\0<cap:=by
 rcases h with⟨_,h0,_⟩|⟨_,g,og,cap,cur,hv,hp,_⟩
 ·omega
 ·exact⟨g,og,cap,hv,hp⟩
theorem UI(h:bC M0 S0 w0 N T m ρ a w){t te:TypeId}{i es k off:Nat}{l:List (List A)}{vs:List A}{p:Value}{o:Operand}(hp:(A.ep i es k off).Den w (dD M0 m ρ) m ρ p)(hi:m i=some (.fW false te es l))
 (hv:(dN T o).cells m=some vs)(hk:k<l.length)(hn:vs.length=P.cellsOf t)(P2:vs≠[])(aXM:off+vs.length<=es)(hi':(P.info? t).isSome=true):
 ∃w',(Instr.storeAt t p (a.eval o)).run P w=.ok () w'/\bC M0 S0 w0 N T (aX m i (.fW false te es (l.set k (mM (l.getD k []) off vs)))) ρ a w'/\gL m (aX m i (.fW false te es (l.set k (mM (l.getD k []) off vs)))) ρ ρ:=by
 simp only[A.Den]at hp;obtain⟨b,og,n,cap,hb,rfl⟩:=eH hp hi sM;obtain⟨hd,aX5⟩:=wQ h (cU h o) hv;obtain⟨xs,g1,g2,g3,g4,g5⟩:=h.res i _ hi;have hlen:=(A.c9.1 hd).1;have aXK:=(A.c9.1 g2).1;obtain⟨ti,J3⟩:=eS.1 hi';have hn':n=l.length/\0<cap:=by
  obtain⟨g,o',cap',hv,hp⟩:=EJ g1 oM;rw[hb]at hv;simp at hv;obtain⟨_,e1,e2⟩:=hv;exact⟨e1,by rw[e2];exact hp⟩
 obtain⟨rfl,aZ6⟩:=hn';rw[hb]at g1;have hbound:k*es+off+(a.eval o).cells.toList.length<=xs.length:=by
  rw[<-aXK,fI g3,<-hlen]
  calc k*es+off+vs.length<=k*es+es:=oM
   _=(k+1)*es:=by rw[gY]
   _<=l.length*es:=fE _ hk
 obtain⟨w',aVL,aWZ,aW2⟩:=GG (P:=P) g1 (k*es+off) (λe=>P2 (bL (by rw[hlen,e];rfl))) hbound aX5;refine⟨w',?_,?_,?_⟩
 rotate_left 2
 ·have h2:=gL.set (m:=m) (ρ:=ρ) i (.fW false te es (l.set k (mM (l.getD k []) off vs))) (ρ i) (λ_ _=>⟨by rw[hi];simp,rfl,λfz t es' l' e=>⟨false,te,_,by rw[hi]at e;simp at e;obtain⟨_,_,e1,_⟩:=e;rw[e1],by rw[hi]at e;simp at e;obtain⟨_,_,_,e2⟩:=e;simp[<-e2]⟩⟩)
  rwa [jP]at h2
 ·have hs:(a.eval o).cells.size=P.cellsOf t:=by rw[<-hn,hlen];simp
  simp only[Instr.storeAt,Instr.sureAddr,storeVar,aV,cB,aN,run_sizeOf J3,hs,ne_eq,not_true_eq_false,if_false];exact aVL
 ·have aY7:(l.getD k []).length=es:=by
   rw[bF,aC hk];exact g3 _ (aY hk)
  have LB:(mM (l.getD k []) off vs).length=es:=by rw[AI _ _ _ oM,aY7]
  refine h.write hi rfl rfl (λfz t es' l' e=>⟨false,te,_,by simp at e;obtain⟨_,_,e1,_⟩:=e;rw[e1],by simp at e;obtain⟨_,_,_,e2⟩:=e;simp[<-e2]⟩) aW2 (λc _ e=>by rw[hb,e];simp[jK];omega) ?_;intro hO eB hm;refine⟨mM xs (k*es+off) (a.eval o).cells.toList,by rw[hb];simpa using aWZ,?_,?_,sM,?_⟩
  ·have hf:(l.set k (mM (l.getD k []) off vs)).flatten=mM l.flatten (k*es+off) vs:=by
    rw[z8 l k _ g3 hk LB];have hlf:=fI g3;refine aBU _ _ _ _ es _ ?_ aY7 (λj hj=>kY es l k _ j g3 (by simp[bF,aC hk]) hj) aXM;rw[hlf];calc k*es+es=(k+1)*es:=by rw[gY]
     _<=l.length*es:=fE _ hk
   rw[hf];exact A.C5 _ (A.dK eB hm hO _ _ g2) (A.dK eB hm hO _ _ hd)
  ·intro e he;rcases oI he with he|he
   ·exact g3 e he
   ·rw[he];exact LB
  ·intro u hu;simp only[mM,bN]at hu;rcases hu with hu|hu|hu
   ·exact g5 u (dJ hu)
   ·exact aX5 u hu
   ·exact g5 u (dI hu)
end
def dO(m:Mem):A->Option (List (List A))
 |.h j=>match m j with
  |some (.fW _ _ _ l)=>some l
  |_=>none
 |.sv j lo n=>match m j with
  |some (.fW _ _ _ l)=>some ((l.drop lo).take n)
  |_=>none
 |.d (.sl _ l)=>some (l.map (·.map A.d))
 |.d (.nl _)=>some []
 |_=>none
theorem BY(l:List (List C)):(l.map (·.map A.d)).flatten=l.flatten.map A.d:=by
 induction l with
 |nil=>rfl
 |cons e r ih=>simp only[aG,dL,bP,ih]
section
variable{M0 S0:Nat->Prop}{w0:World}{N:Fr}{T:Nat->A}{m:Mem}{ρ:Nat->Value}{a:Act}{w:World}{P:Program}
theorem cP{b es:Nat}{M:Nat->Prop}:∀(l:List (List C))(o:Nat),C.lS w M b es o l->
 ∃news:List Value,news.length=l.length*es/\(∀u∈news,u.oneCell'=true)/\C.bR w M l.flatten news/\∀(j:Nat)(v:Value),news[j]?=some v->w.cell? ((⟨b,o,none⟩:Addr).add j)=some v
 |[],o,h=>⟨[],sM,sM,by simp[C.bR],sM⟩
 |e::r,o,h=>by
  simp only[C.lS]at h;obtain⟨h1,h2,h3⟩:=h;obtain⟨n2,g1,g0,g2,g3⟩:=cP (es:=es) r (o+es) h3;rw[C.rA]at h2;obtain⟨n1,f1,f0,f3,f2⟩:=GC (w:=w) (b:=b) (M:=M) e o h2;refine⟨n1++n2,by simp[f1,g1,h1,gY];omega,?_,by simpa using C.iH f2 g2,?_⟩
  ·intro u hu;simp at hu;exact hu.elim (f0 u) (g0 u)
  ·intro j v hv;rcases eQ j n1.length with hj|hj
   ·rw[bX hj]at hv;exact f3 j v hv
   ·rw[bO hj]at hv;have:=g3 _ v hv;rw[eP]at this⊢;rw[show o+j=o+es+(j -n1.length) by rw[f1,h1]at*;omega];exact this
theorem IT(h:bC M0 S0 w0 N T m ρ a w){x:A}{y:Value}{l:List (List A)}{es:Nat}(hx:x.Den w (dD M0 m ρ) m ρ y)(hs:dO m x=some l)(wP:∀e∈l,e.length=es):
 ∃ad cap news,y=.slice ad l.length cap/\news.length=l.length*es/\(∀u∈news,u.oneCell'=true)/\A.bR w (dD M0 m ρ) m ρ l.flatten news/\
  ((ad=none/\l=[])\/∃d,ad=some d/\∀(j:Nat)(v:Value),news[j]?=some v->w.cell? (d.add j)=some v):=by
 have key:∀{es':Nat}{ad:Option Addr}{cap:Nat}{l:List (List C)},(∀e∈l,e.length=es)->(l=[]\/∃b off,ad=some ⟨b,off,none⟩/\C.lS w (dD M0 m ρ) b es' off l)->
  ∃ad' cap' news,Value.slice ad l.length cap=.slice ad' l.length cap'/\news.length=l.length*es/\(∀u∈news,u.oneCell'=true)/\A.bR w (dD M0 m ρ) m ρ (l.map (·.map A.d)).flatten news/\
  ((ad'=none/\l=[])\/∃d,ad'=some d/\∀(j:Nat)(v:Value),news[j]?=some v->w.cell? (d.add j)=some v):=by
  intro es' ad cap l wP hl;by_cases aY5:l=[]
  ·subst aY5;refine⟨ad,cap,[],rfl,sM,sM,by simp[A.bR],?_⟩;cases ad with
   |none=>exact .inl ⟨rfl,rfl⟩
   |some d=>exact .inr ⟨d,rfl,sM⟩
  ·obtain⟨b,off,rfl,hr⟩:=hl.resolve_left aY5;have hee:es'=es:=by
    cases l with
    |nil=>exact absurd rfl aY5
    |cons e r=>
     simp only[C.lS]at hr;rw[<-hr.1,wP e sM]
   subst hee;obtain⟨news,h1,h2,h3,h4⟩:=cP l off hr;exact⟨_,cap,news,rfl,h1,h2,by rw[BY];exact A.iO.2 h3,.inr ⟨_,rfl,h4⟩⟩
 have keyO:∀{i es':Nat}{fz:Bool}{t:TypeId}{l':List (List A)}(lo n:Nat),m i=some (.fW fz t es' l')->lo+n<=l'.length->(n=0\/es'=es)->∃news,news.length=n*es/\(∀u∈news,u.oneCell'=true)/\A.bR w (dD M0 m ρ) m ρ ((l'.drop lo).take n).flatten news/\
  ∃ad cap,ρ i=.slice ad l'.length cap/\(n=0\/∃b o,ad=some ⟨b,o,none⟩/\∀(j:Nat)(v:Value),news[j]?=some v->w.cell? ⟨b,o+(lo*es+j),none⟩=some v):=by
  intro i es' fz t l' lo n hi hln hee;obtain⟨xs,h1,h2,h3,h4,h5⟩:=h.res i _ hi;have rQ:∃ad cap,ρ i=.slice ad l'.length cap:=by
   rcases h1 with⟨hx,hn,ad,hv⟩|⟨hl,g,og,cap,cur,hv,_⟩
   ·exact⟨ad,0,by rw[hv,hn]⟩
   ·exact⟨_,cap,hv⟩
  rcases hee with rfl|rfl
  ·obtain⟨ad,cap,e⟩:=rQ;exact⟨[],sM,sM,by simp[A.bR],ad,cap,e,.inl rfl⟩
  ·have aZ7:((l'.drop lo).take n).flatten=(l'.flatten.drop (lo*es')).take (n*es'):=by
    rw[DS _ n (es:=es') (λe he=>h3 e (dI he)),DR l' lo h3]
   have LR:xs.length=l'.length*es':=by rw[<-(A.c9.1 h2).1,fI h3]
   have hb:lo*es'+n*es'<=l'.length*es':=by rw[<-Nat.add_mul];exact fE _ hln
   refine⟨(xs.drop (lo*es')).take (n*es'),zM,λu hu=>h5 u (dI (dJ hu)),by rw[aZ7];exact A.mT _ (A.lL _ h2),?_⟩;rcases h1 with⟨hx,hn,ad,hv⟩|⟨hl,g,og,cap,cur,hv,hp,hg,hc,hm,TW,htk⟩
   ·exact⟨ad,0,by rw[hv,hn],.inl oM⟩
   ·refine⟨_,cap,hv,.inr ⟨g,og,rfl,?_⟩⟩;intro j v hj;rw[cM]at hj;split at hj
    ·rw[eA]at hj;exact vV.cells (.inr ⟨hl,g,og,cap,cur,hv,hp,hg,hc,hm,TW,htk⟩) hv _ v hj
    ·cases hj
 cases x with
 |h i=>
  simp only[dO]at hs;split at hs
  ·rename_i fz t es' l' hi;simp only[aA]at hs;subst hs;simp only[A.Den]at hx;rw[eH hx hi sM];have hee:l'.length=0\/es'=es:=by
    obtain⟨xs,h1,h2,h3,h4,h5⟩:=h.res i _ hi;cases l' with
    |nil=>exact .inl rfl
    |cons e r=>right;rw[<-h3 e sM,wP e sM]
   obtain⟨news,k1,k2,k3,ad,cap,k4,k5⟩:=keyO 0 l'.length hi oM hee;refine⟨ad,cap,news,k4,k1,k2,by simpa using k3,?_⟩;rcases k5 with k5|⟨b,o,rfl,k6⟩
   ·have hn0:news=[]:=bL (by rw[k1,k5];simp);have hl0:=bL k5;cases ad with
    |none=>exact .inl ⟨rfl,hl0⟩
    |some d=>exact .inr ⟨d,rfl,by simp[hn0]⟩
   ·exact .inr ⟨_,rfl,λj v hj=>by rw[eP];have:=k6 j v hj;simpa using this⟩
  ·cases hs
 |sv i lo n=>
  simp only[dO]at hs;split at hs
  ·rename_i fz t es' l' hi;simp only[aA]at hs;subst hs;simp only[A.Den]at hx;obtain⟨ad,cap,rfl,hc,es2,fz',t',l2,e1,e2,h3⟩:=eH hx hi sM;rw[hi]at e1;simp at e1;obtain⟨rfl,rfl,rfl,rfl⟩:=e1;have hlen:((l'.drop lo).take n).length=n:=zM;have hee:n=0\/es'=es:=by
    obtain⟨xs,h1,h2,h3,h4,h5⟩:=h.res i _ hi;cases hc:(l'.drop lo).take n with
    |nil=>left;rw[hc]at hlen;simpa using hlen.symm
    |cons e r=>
     right;have hm:e∈(l'.drop lo).take n:=by rw[hc];simp
     rw[<-h3 e (dI (dJ hm)),wP e hm]
   obtain⟨news,k1,k2,k3,ad2,cap2,k4,k5⟩:=keyO lo n hi e2 hee;rw[hlen];refine⟨ad,cap,news,rfl,k1,k2,k3,?_⟩;by_cases hn:n=0
   ·subst hn;have hn0:news=[]:=bL (by rw[k1];simp);cases ad with
    |none=>exact .inl ⟨rfl,sM⟩
    |some d=>exact .inr ⟨d,rfl,by simp[hn0]⟩
   ·obtain⟨b,og,n',cap',h4,rfl,_⟩:=h3.resolve_left (λq=>hn q.1);obtain⟨b2,o2,rfl,k6⟩:=k5.resolve_left hn;rw[h4]at k4;simp at k4;obtain⟨⟨rfl,rfl⟩,_⟩:=k4;have a16:=hee.resolve_left hn;subst a16;exact .inr ⟨_,rfl,λj v hj=>by rw[eP,fP];exact k6 j v hj⟩
  ·cases hs
 |d c=>
  cases c with
  |sl es' l'=>
   simp only[dO,aA]at hs;subst hs;simp only[A.Den,C.Den]at hx;obtain⟨ad,cap,rfl,hc,hl⟩:=hx;obtain⟨ad',cap',news,k1,k2,k3,k4,k5⟩:=key (l:=l') (λe he=>by have:=wP (e.map A.d) (aA4.2 ⟨e,he,rfl⟩);simpa using this) (hl.imp id λ⟨b,off,e1,_,_,e2⟩=>⟨b,off,e1,e2⟩);exact⟨ad',cap',news,by simpa using k1,by simpa using k2,k3,k4,k5.imp (λ⟨a,b⟩=>⟨a,by rw[b];rfl⟩) id⟩
  |nl es'=>
   simp only[dO,aA]at hs;subst hs;simp only[A.Den,C.Den]at hx;subst hx;exact⟨none,0,[],rfl,sM,sM,by simp[A.bR],.inl ⟨rfl,rfl⟩⟩
  |_=>simp[dO]at hs
 |_=>simp[dO]at hs
def iP(m:Mem):A->Option (Option Nat×List (List A))
 |.h i=>match m i with
  |some (.fW false _ _ l)=>some (some i,l)
  |_=>none
 |.d (.nl _)=>some (none,[])
 |_=>none
def j8(P:Program)(t:TypeId):Option TypeId:=
 match P.underlying t with
 |some (.slice e)=>some e
 |_=>none
theorem nU{e:TypeId}(h:j8 P t=some e):P.underlying t=some (.slice e):=by
 unfold j8 at h;split at h
 ·simp at h;subst h;assumption
 ·cases h
def uL:Option Nat->List (Nat×R)
 |none=>[]
 |some i=>[(i,.dead)]
theorem CZ(P:Program)(w:World){t ty e:TypeId}{i:TypeInfo}(ht:P.underlying t=some (.slice e))(hi:P.info? e=some i)
 (g p sLen sCap:Nat)(cur:Array Value)(hg:w.heap[g]?=some (.cells cur e (0,0)))
 (a:Addr)(m c:Nat)(news:List Value)(hl:news.length=m*i.size)(aZU:∀(j:Nat)(u:Value),news[j]?=some u->w.cell? (a.add j)=some u)(h1:∀u∈news,u.oneCell'=true)
 (aYI:sLen+m<=sCap)(aXM:p+sLen*i.size+news.length<=cur.size):
 (Builtin.append_ #[t,t] ty #[.slice (some ⟨g,p,none⟩) sLen sCap,.slice (some a) m c]).run P w=
   .ok (.slice (some ⟨g,p,none⟩) (sLen+m) sCap) (w.setRow g (cur.toList.take (p+sLen*i.size)++news++cur.toList.drop (p+sLen*i.size+news.length)).toArray):=by
 have hf:=run_firstCells_some (P:=P) w i.size m a m c news hl aZU;have eB:=run_storeCells_at P g (p+sLen*i.size) e news 0 cur w hg (by simpa using aXM) h1;simp only[iE]at eB;simp[Builtin.append_,run_underlying ht,sizeOf,typeInfo,hi,Builtin.lenOf,aYI,hf,eP,eB]
theorem LC(P:Program)(w:World){t ty e:TypeId}{es by_:Nat}{i:TypeInfo}{zv:Value}(ht:P.underlying t=some (.slice e))(hi:P.info? e=some i)(hzi:i.zero=some zv)(vZ:i.size=es)(hbz:i.bytes=by_)(hzs:zv.cells.size=es)(aXV:0<es)(aZK:0<by_)
 {v:Value}{n k cap:Nat}{xs news:List Value}{ad:Option Addr}(aZD:vV w e es v n xs\/(v=.slice none 0 0/\n=0/\xs=[]/\0<k))(E0:news.length=k*es)(P0:∀u∈news,u.oneCell'=true)
 (aY8:(ad=none/\k=0)\/∃d,ad=some d/\∀(j:Nat)(u:Value),news[j]?=some u->w.cell? (d.add j)=some u)(aYA:(n+k)*by_<=140737488355328):
 ∃v' w',(Builtin.append_ #[t,t] ty #[v,.slice ad k cap]).run P w=.ok v' w'/\vV w' e es v' (n+k) (xs++news)/\iF (λb=>jK v=some b) w w'/\(∀b,jK v'=some b->jK v=some b\/w.heap.size<=b)/\(∀b,jK v'=some b->b<w'.heap.size):=by
 have hmx:n+k<=maxLen:=by
  have:(n+k)*1<=(n+k)*by_:=sX _ aZK;unfold maxLen;omega
 have a1M:n+k<=9223372036854775807:=by unfold maxLen at hmx;omega
 have blkLt:∀{v:Value}{n:Nat}{xs:List Value}{w:World},vV w e es v n xs->∀b,jK v=some b->b<w.heap.size:=by
  intro v n xs w ho b hb;rcases ho with⟨_,_,a,rfl⟩|⟨_,g,og,c,cur,rfl,hp,hg,_⟩
  ·cases a<;>simp[jK]at hb
  ·simp[jK]at hb;obtain⟨_,rfl⟩:=hb;exact(aL.1 hg).1
 rcases aY8 with⟨rfl,rfl⟩|⟨d,rfl,aW7⟩
 ·
  have aWZ:vV w e es v n xs:=aZD.resolve_right λ⟨_,_,_,h⟩=>oM;have hn0:news=[]:=bL (by simpa using E0);subst hn0;have aVL:(Builtin.append_ #[t,t] ty #[v,.slice none 0 cap]).run P w=.ok v w:=by
   rcases aWZ with⟨rfl,rfl,a,rfl⟩|⟨_,g,og,c,cur,rfl,_,_,hnc,_⟩
   ·simp[Builtin.append_,run_underlying ht,sizeOf,typeInfo,hi,Builtin.lenOf,Builtin.firstCells,storeCells]
   ·simp[Builtin.append_,run_underlying ht,sizeOf,typeInfo,hi,Builtin.lenOf,Builtin.firstCells,hnc,storeCells]
  exact⟨v,w,aVL,by simpa using aWZ,iF.refl _ w,λb hb=>.inl hb,blkLt aWZ⟩
 ·
  have grown:∀(old:Nat),xs.length=n*es->0<n+k->
   vV (w.drew.alloc (.cells (xs.toArray++news.toArray++Builtin.zeroCells zv.cells (grownCap w (n+k) old e -(n+k))) e)) e es (.slice (some ⟨w.heap.size,0,none⟩) (n+k) (grownCap w (n+k) old e)) (n+k) (xs++news):=by
   intro old LR aWU;have hge:=grownCap_ge w (n+k) old e;refine .inr ⟨by rw[aU,LR,E0,fS],w.heap.size,0,_,_,rfl,oM,heap_alloc_new w.drew _,hge,grownCap_le_maxLen w (n+k) old e hmx,?_,?_⟩
   ·rw[fF];simp only[Array.size_append,nJ,size_zeroCells,hzs,LR,E0,<-Nat.add_mul];refine Nat.le_of_eq ?_;congr 1;omega
   ·simp only[Array.toList_append,n6];rw[bG,<-List.append_assoc,List.take_left' (by rw[aU,LR,E0,fS])]
  have kp:∀(o:Obj)(X:Nat->Prop),iF X w (w.drew.alloc o):=λo X=>⟨rfl,rfl,rfl,sM,λb hb _=>by rw[Below.heap_alloc w.drew o b (by simpa using hb)];rfl⟩;rcases aZD with aWZ|⟨rfl,rfl,rfl,hkp⟩
  rotate_left 1
  ·have aVL:(Builtin.append_ #[t,t] ty #[.slice none 0 0,.slice (some d) k cap]).run P w=.ok (.slice (some ⟨w.heap.size,0,none⟩) (0+k) (grownCap w (0+k) 0 e)) (w.drew.alloc (.cells (([]:List Value).toArray++news.toArray++Builtin.zeroCells zv.cells (grownCap w (0+k) 0 e -(0+k))) e)):=by
    have h48:k*i.bytes<=281474976710656:=by rw[hbz];simp only[fF]at aYA;omega
    have:=run_append_nil (P:=P) w t ty e i zv ht hi hzi d k cap news (by rw[E0,vZ]) aW7 oM oM h48;simpa using this
   refine⟨_,_,aVL,grown 0 sM oM,kp _ _,λb hb=>.inr ?_,λb hb=>?_⟩
   ·simp[jK]at hb;omega
   ·simp[jK]at hb;simp;omega
  rcases aWZ with⟨rfl,rfl,a,rfl⟩|⟨LR,g,og,c,cur,rfl,hp,hg,hnc,hcm,TW,aX3⟩
  ·by_cases hk:k=0
   ·subst hk;have hn0:news=[]:=bL (by simpa using E0);subst hn0;refine⟨.slice (some a) 0 0,w,?_,.inl ⟨rfl,rfl,a,rfl⟩,iF.refl _ w,λb hb=>.inl hb,?_⟩
    ·have hl:=run_firstCells_some (P:=P) w es 0 d 0 cap [] sM sM;simp[Builtin.append_,run_underlying ht,run_sizeOf hi,Program.cellsOf,hi,vZ,Builtin.lenOf,hl,storeCells]
    ·intro b hb;simp[jK]at hb
   ·have aVL:(Builtin.append_ #[t,t] ty #[.slice (some a) 0 0,.slice (some d) k cap]).run P w=.ok (.slice (some ⟨w.heap.size,0,none⟩) (0+k) (grownCap w (0+k) 0 e)) (w.drew.alloc (.cells (([]:List Value).toArray++news.toArray++Builtin.zeroCells zv.cells (grownCap w (0+k) 0 e -(0+k))) e)):=by
     have aXM:Builtin.nextslicecap (0+k) 0*i.bytes<=281474976710656:=growslice_fits oM (by rw[hbz];exact aYA);exact run_append_grow (P:=P) w t ty e i zv ht hi hzi a 0 0 [] sM sM d k cap news (by rw[E0,vZ]) aW7 oM oM aXM
    refine⟨_,_,aVL,grown 0 sM oM,kp _ _,λb hb=>.inr ?_,λb hb=>?_⟩
    ·simp[jK]at hb;omega
    ·simp[jK]at hb;simp;omega
  ·by_cases aYI:n+k<=c
   ·have aXM:og+n*i.size+news.length<=cur.size:=by
     have:=fE es aYI;rw[fS]at this;rw[E0,vZ];omega
    have aVL:=CZ P w (ty:=ty) ht hi g og n c cur hg d k cap news (by rw[E0,vZ]) aW7 P0 aYI aXM;refine⟨_,_,aVL,.inr ⟨by rw[aU,LR,E0,fS],g,og,c,_,rfl,hp,setRow_heap w g cur _ e _ hg,aYI,hcm,?_,?_⟩,⟨rfl,rfl,rfl,by simp[World.setRow],λb _ hb=>setRow_other w g b _ (λe=>hb (by rw[e];simp[jK];omega))⟩,λb hb=>.inl ?_,λb hb=>?_⟩
    ·simp only[nJ,aU,cW,l4,c7];omega
    ·rw[vZ,bG,List.drop_append_of_le_length zM,List.drop_take,Nat.add_sub_cancel_left,aX3,<-List.append_assoc,List.take_left' (by rw[aU,LR,E0,fS])]
    ·simp[jK]at hb⊢;exact hb
    ·simp[jK]at hb;obtain⟨_,rfl⟩:=hb;simp[World.setRow];exact(aL.1 hg).1
   ·have holds:∀(j:Nat)(u:Value),xs[j]?=some u->w.cell? ((⟨g,og,none⟩:Addr).add j)=some u:=by
     intro j u hu;rw[eP];exact vV.cells (.inr ⟨LR,g,og,c,cur,rfl,hp,hg,hnc,hcm,TW,aX3⟩) rfl j u hu
    have aVL:=run_append_grow (P:=P) w t ty e i zv ht hi hzi ⟨g,og,none⟩ n c xs (by rw[LR,vZ]) holds d k cap news (by rw[E0,vZ]) aW7 oM oM (growslice_fits oM (by rw[hbz];exact aYA));refine⟨_,_,aVL,grown c LR oM,kp _ _,λb hb=>.inr ?_,λb hb=>?_⟩
    ·simp[jK]at hb;omega
    ·simp[jK]at hb;simp;omega
theorem LI(h:bC M0 S0 w0 N T m ρ a w)(cX:∀b,M0 b->b<w0.heap.size){t e ty:TypeId}{es by_:Nat}{od ox:Operand}{k:Option Nat}{l l2:List (List A)}{z:List C}{d:Nat}{v:Value}{xs:List Value}
 (aY8:dO m (dN T ox)=some l2)(he:j8 P t=some e)(hz:o5 P e=some z)(hzl:z.length=es)(aXV:0<es)(aYZ:P.cellsOf e=es)(hby:P.bytesOf e=by_)(aZK:0<by_)
 (hle:∀r∈l,r.length=es)(hl2:∀r∈l2,r.length=es)(a0A:∀i,k=some i->∃l',m i=some (.fW false e es l'))(hd:m d=none)(aYA:(l.length+l2.length)*by_<=140737488355328)
 (hv:a.eval od=v)(aWZ:vV w e es v l.length xs\/(v=.slice none 0 0/\l.length=0/\xs=[]/\0<l2.length))(v8:A.bR w (dD M0 m ρ) m ρ l.flatten xs)(R2:∀u∈xs,u.oneCell'=true)(hvb:∀b,jK v=some b->∃i r,k=some i/\m i=some r/\r.live=true/\jK (ρ i)=some b)(hvk:∀i,k=some i->∃r,m i=some r/\r.live=true):
 ∃ρ' v w',(Builtin.append_ #[t,t] ty #[a.eval od,a.eval ox]).run P w=.ok v w'/\bC M0 S0 w0 N T (aX (aH m (uL k)) d (.fW false e es (l++l2))) ρ' a w'/\gL m (aX (aH m (uL k)) d (.fW false e es (l++l2))) ρ ρ'/\
  (A.h d).Den w' (dD M0 (aX (aH m (uL k)) d (.fW false e es (l++l2))) ρ') (aX (aH m (uL k)) d (.fW false e es (l++l2))) ρ' v:=by
 have ht:=nU he;obtain⟨zv,_,XO,⟨i,hi,hzi⟩,_⟩:=qA hz w;have hzs:zv.cells.size=es:=by have:=(C.c9.1 (XO w (λ_=>False))).1;rw[hzl]at this;simpa using this.symm
 have vZ:i.size=es:=by rw[<-aYZ];simp[Program.cellsOf,hi]
 have hbz:i.bytes=by_:=by rw[<-hby];simp[Program.bytesOf,hi]
 obtain⟨ad,cap,news,hy,E0,P0,y4,aZ2⟩:=IT h (cU h ox) aY8 hl2;obtain⟨v',w',aVL,aZX,aW2,aX8,a07⟩:=LC P w (ty:=ty) (cap:=cap) ht hi hzi vZ hbz hzs aXV aZK aWZ E0 P0 (aZ2.imp (λ⟨q1,q2⟩=>⟨q1,by rw[q2];rfl⟩) id) aYA;rw[<-hv,<-hy]at aVL;have fin:∀{m':Mem}{M1:Nat->Prop},bC M1 S0 w0 N T m' ρ a w->(∀b,M0 b->M1 b)->(∀b,jK v=some b->M1 b/\¬M0 b/\(w0.heap.size<=b\/S0 b))->m' d=none->(∀b,dD M1 m' ρ b->b<w.heap.size->dD M0 m ρ b)->gL m m' ρ ρ->
  bC M0 S0 w0 N T (aX m' d (.fW false e es (l++l2))) (dW ρ d v') a w':=by
  intro m' M1 h1 hM hvo hd' hmm hOm;have h2:=h1.world aW2 (λb _ e=>⟨(hvo b e).1,(hvo b e).2.2⟩);refine h2.aI5 hd' (λb hb=>⟨.inl (hM b hb),λe=>?_⟩) (λb hb=>?_) rfl ?_
  ·rcases aX8 b e with f|f
   ·exact(hvo b f).2.1 hb
   ·have:=cX b hb;have:=h.keeps.size;omega
  ·refine⟨?_,?_,a07 b hb⟩
   ·rcases aX8 b hb with f|f
    ·exact .inl (hvo b f).1
    ·exact .inr f
   ·rcases aX8 b hb with f|f
    ·exact(hvo b f).2.2
    ·exact .inl (cL h.keeps.size f)
  ·have hlen:(l++l2).length=l.length+l2.length:=sM;refine⟨xs++news,by rw[hlen];exact aZX,?_,?_,sM,?_⟩
   ·rw[fJ];have eB:dV (dD M0 m ρ) w w':=aW2.stays λb _ e=>by
     obtain⟨i',r',_,q1,q2,q3⟩:=hvb b e;exact .inr ⟨i',r',q1,q2,q3⟩
    have aVM:∀b,dD M0 (aX m' d (.fW false e es (l++l2))) (dW ρ d v') b->b<w.heap.size->dD M0 m ρ b:=by
     rintro b (q|⟨j,r,q1,q2,q3⟩) hb
     ·exact .inl q
     ·by_cases ej:j=d
      ·subst ej;simp[dW]at q3;rcases aX8 b q3 with f|f
       ·obtain⟨i',r',_,p1,p2,p3⟩:=hvb b f;exact .inr ⟨i',r',p1,p2,p3⟩
       ·omega
      ·exact hmm b (.inr ⟨j,r,by simpa [aX,ej]using q1,q2,by simpa [dW,ej]using q3⟩) hb
    have hOn:gL m (aX m' d (.fW false e es (l++l2))) ρ (dW ρ d v'):=hOm.trans (gL.new _ _ hd');exact A.iH (A.dK eB aVM hOn _ _ v8) (A.dK eB aVM hOn _ _ y4)
   ·intro r hr;simp at hr;exact hr.elim (hle r) (hl2 r)
   ·intro u hu;simp at hu;exact hu.elim (R2 u) (P0 u)
 refine⟨dW ρ d v',v',w',aVL,?_,?_,?_⟩
 rotate_left 1
 ·cases k with
  |none=>exact gL.new _ _ hd
  |some i'=>
   obtain⟨l',qK⟩:=a0A i' rfl;have hdi:d≠i':=by rintro rfl;rw[hd]at qK;cases qK
   refine gL.trans (m2:=aX m i' .dead) (ρ2:=ρ) ?_ (gL.new _ _ (by simp[aX,hdi,hd]));have:=gL.set (m:=m) (ρ:=ρ) i' .dead (ρ i') (λ_ e=>absurd rfl e)
   rwa [jP]at this
 rotate_left 1
 ·cases k with
  |none=>
   refine fin h (λ_ hb=>hb) (λb hb=>?_) hd (λb hb _=>hb) (gL.refl m ρ);obtain⟨_,_,q,_⟩:=hvb b hb;cases q
  |some i'=>
   obtain⟨r',hr1,hr2⟩:=hvk i' rfl;have hk:=h.kill hr1 hr2;have hdi:d≠i':=by rintro rfl;rw[hd]at hr1;cases hr1
   refine fin hk (λ_ hb=>.inl hb) (λb hb=>?_) (by simp[uL,aH,aX,hdi,hd]) ?_ ?_
   rotate_left 2
   ·have:=gL.set (m:=m) (ρ:=ρ) i' .dead (ρ i') (λ_ e=>absurd rfl e)
    rwa [jP]at this
   ·obtain⟨i2,r2,q0,q1,q2,q3⟩:=hvb b hb;cases q0;obtain⟨q4,q5,_⟩:=h.own i' r2 b q1 q2 q3;exact⟨.inr q3,q5,q4⟩
   ·rintro b ((q|q)|⟨j,r,q1,q2,q3⟩) _
    ·exact .inl q
    ·exact .inr ⟨i',r',hr1,hr2,q⟩
    ·by_cases ej:j=i'
     ·subst ej;simp[uL,aH,aX]at q1;subst q1;simp[R.live]at q2
     ·exact .inr ⟨j,r,by simpa [uL,aH,aX,ej]using q1,q2,q3⟩
 ·simp only[A.Den];exact⟨by simp[aX],λ_=>by simp[dW]⟩
theorem aBM(h:bC M0 S0 w0 N T m ρ a w)(cX:∀b,M0 b->b<w0.heap.size){t e ty:TypeId}{es by_:Nat}{od ox:Operand}{k:Option Nat}{l l2:List (List A)}{z:List C}{d:Nat}
 (aXY:iP m (dN T od)=some (k,l))(aY8:dO m (dN T ox)=some l2)(he:j8 P t=some e)(hz:o5 P e=some z)(hzl:z.length=es)(aXV:0<es)(aYZ:P.cellsOf e=es)(hby:P.bytesOf e=by_)(aZK:0<by_)
 (hle:∀r∈l,r.length=es)(hl2:∀r∈l2,r.length=es)(a0A:∀i,k=some i->∃l',m i=some (.fW false e es l'))(hd:m d=none)(hkn:k=none->l2≠[])(aYA:(l.length+l2.length)*by_<=140737488355328):
 ∃ρ' v w',(Builtin.append_ #[t,t] ty #[a.eval od,a.eval ox]).run P w=.ok v w'/\bC M0 S0 w0 N T (aX (aH m (uL k)) d (.fW false e es (l++l2))) ρ' a w'/\gL m (aX (aH m (uL k)) d (.fW false e es (l++l2))) ρ ρ'/\
  (A.h d).Den w' (dD M0 (aX (aH m (uL k)) d (.fW false e es (l++l2))) ρ') (aX (aH m (uL k)) d (.fW false e es (l++l2))) ρ' v:=by
 have hdd:∃(v:Value)(xs:List Value),a.eval od=v/\(vV w e es v l.length xs\/(v=.slice none 0 0/\l.length=0/\xs=[]/\0<l2.length))/\A.bR w (dD M0 m ρ) m ρ l.flatten xs/\(∀u∈xs,u.oneCell'=true)/\(∀b,jK v=some b->∃i r,k=some i/\m i=some r/\r.live=true/\jK (ρ i)=some b)/\(∀i,k=some i->∃r,m i=some r/\r.live=true):=by
  have hev:=cU h od;cases hod:dN T od with
  |h i'=>
   rw[hod]at aXY hev;simp only[iP]at aXY;split at aXY
   ·rename_i t' es' l' zI;simp only[aA,aD]at aXY;obtain⟨rfl,rfl⟩:=aXY;simp only[A.Den]at hev;have hv:=eH hev zI sM;obtain⟨l3,h1⟩:=a0A i' rfl;rw[zI]at h1;simp at h1;obtain⟨rfl,rfl,rfl⟩:=h1;obtain⟨xs,g1,g2,g3,g4,g5⟩:=h.res i' _ zI;exact⟨ρ i',xs,hv,.inl g1,g2,g5,λb hb=>⟨i',_,rfl,zI,rfl,hb⟩,λi e=>by cases e;exact⟨_,zI,rfl⟩⟩
   ·cases aXY
  |d c=>
   rw[hod]at aXY hev;cases c with
   |nl es'=>
    simp only[iP,aA,aD]at aXY;obtain⟨rfl,rfl⟩:=aXY;simp only[A.Den,C.Den]at hev;exact⟨.slice none 0 0,[],hev,.inr ⟨rfl,rfl,rfl,gH.2 (hkn rfl)⟩,by simp[A.bR],sM,by simp[jK],sM⟩
   |_=>simp[iP]at aXY
  |_=>rw[hod]at aXY;simp[iP]at aXY
 obtain⟨v,xs,hv,aWZ,v8,R2,hvb,hvk⟩:=hdd;exact LI h cX aY8 he hz hzl aXV aYZ hby aZK hle hl2 a0A hd aYA hv aWZ v8 R2 hvb hvk
end
theorem B1{z:List C}{zero:Array Value}(hz:C.bR w M z zero.toList)(h0:0<z.length)(n k:Nat)(hk:k<=n):
 C.bR w M (List.replicate k z).flatten (((Array.range (n*z.length)).map (zero[· %zero.size]!)).toList.take (k*z.length)):=by
 have hzl:z.length=zero.size:=by simpa using(C.c9.1 hz).1
 have aXU:∀e∈List.replicate k z,e.length=z.length:=λe he=>by rw[o7 he]
 have hfl:(List.replicate k z).flatten.length=k*z.length:=by rw[fI aXU];simp
 rw[C.c9];refine⟨?_,λj c y hc hy=>?_⟩
 ·have vZ:((Array.range (n*z.length)).map (zero[· %zero.size]!)).toList.length=n*z.length:=by rw[c7 (xs:=(Array.range (n*z.length)).map (zero[· %zero.size]!)),Array.size_map,Array.size_range]
  rw[hfl,cW,vZ];exact(Nat.min_eq_left (fE _ hk)).symm
 ·have hj:j<k*z.length:=by rw[<-hfl];exact(bA.1 hc).1
  rw[cM,aUF hj]at hy;have hjn:j<n*z.length:=cG hj (fE _ hk);have hy':y=zero[j %zero.size]! :=by
   rw[jH,Array.getElem?_map,Array.getElem?_range,aUF hjn]at hy;simpa using hy.symm
  subst hy';have aZS:j %z.length<z.length:=u5 _ h0;have hdiv:j/z.length<k:=by rw[nA h0];exact hj
  have aY7:=kY z.length (List.replicate k z) (j/z.length) z (j %z.length) aXU (by simp[hdiv]) aZS;rw[show j/z.length*z.length+j %z.length=j by rw[Nat.mul_comm];exact Nat.div_add_mod _ _]at aY7;rw[aY7]at hc;rw[<-hzl];have cX:j %z.length<zero.toList.length:=zM;have:=(C.c9.1 hz).2 _ c _ hc (aC cX);simp at cX;simpa [cX]using this
theorem B2{zero:Array Value}(h0:∀u∈zero.toList,u.oneCell'=true)(hz:0<zero.size)(n:Nat):∀u∈((Array.range n).map (zero[· %zero.size]!)).toList,u.oneCell'=true:=by
 intro u hu;simp at hu;obtain⟨j,_,rfl⟩:=hu;have cX:j %zero.size<zero.size:=u5 _ hz;have:zero[j %zero.size]! =zero[j %zero.size]:=by simp[cX]
 rw[this];exact h0 _ sM
def NO(es:Nat):List (List A)->List (Nat×List A)->Option (List (List A))
 |rs,[]=>some rs
 |rs,(i,row)::rest=>if i<rs.length/\row.length=es then NO es (rs.set i row) rest else none
theorem Z6{m:Mem}{ρ:Nat->Value}{es:Nat}{ps:List (Nat×List A)}{vs:List (Nat×Value)}(hps:I0 w M m ρ ps vs):
 ∀{rs out:List (List A)}{cs:Array Value},A.bR w M m ρ rs.flatten cs.toList->(∀u∈cs.toList,u.oneCell'=true)->(∀e∈rs,e.length=es)->NO es rs ps=some out->
  ∃cs',Instr.fill (λi=>some (i*es,es)) cs vs=some cs'/\A.bR w M m ρ out.flatten cs'.toList/\(∀u∈cs'.toList,u.oneCell'=true)/\(∀e∈out,e.length=es)/\out.length=rs.length:=by
 induction hps with
 |nil=>
  intro rs out cs hd TW hr hf;simp only[NO,aA]at hf;subst hf;exact⟨cs,rfl,hd,TW,hr,rfl⟩
 |cons h h0 t ih=>
  rename_i i l y r s;intro rs out cs hd TW hr hf;simp only[NO]at hf;split at hf
  ·rename_i hc;obtain⟨hc1,wF⟩:=hc;have hlen:=(A.c9.1 h).1;have aXK:=(A.c9.1 hd).1;rw[fI hr]at aXK;have hb:i*es+es<=rs.length*es:=by
    calc i*es+es=(i+1)*es:=by rw[gY]
     _<=rs.length*es:=fE _ hc1
   have aYW:=NP y.cells.toList 0 (i*es) cs (by simp at hlen aXK⊢;omega);have hz:y.cells.zipIdx.foldl (λcs(x:Value×Nat)=>cs.setIfInBounds (i*es+x.2) x.1) cs=(y.cells.toList.zipIdx 0).foldl (λcs(x:Value×Nat)=>cs.setIfInBounds (i*es+x.2) x.1) cs:=by
    rw[<-Array.foldl_toList];simp
   obtain⟨cs',h1,h2,h3,h4,h5⟩:=ih (cs:=y.cells.zipIdx.foldl (λcs(x:Value×Nat)=>cs.setIfInBounds (i*es+x.2) x.1) cs) (by
    rw[hz,aYW,z8 rs i l hr hc1 wF];exact A.C5 _ hd h) (by
    rw[hz,aYW];intro u hu;simp only[mM,bN]at hu;rcases hu with hu|hu|hu
    · exact TW u (dJ hu)
    · exact h0 u hu
    · exact TW u (dI hu)) (by
    intro e he;rcases oI he with he|he
    · exact hr e he
    · rw[he];exact wF) hf
   refine⟨cs',?_,h2,h3,h4,by rw[h5];simp⟩;simp only[Instr.fill];rw[aT7]
   ·exact h1
   ·simp at hlen aXK;simp;omega
  ·cases hf
def oX(m:Mem):List (Nat×A)->Option (List (Nat×List A))
 |[]=>some []
 |(i,x)::r=>match x.cells m,oX m r with
  |some l,some t=>some ((i,l)::t)
  |_,_=>none
section
variable{M0 S0:Nat->Prop}{w0:World}{N:Fr}{T:Nat->A}{m:Mem}{ρ:Nat->Value}{a:Act}{w:World}{P:Program}
theorem zC(n:Nat)(z:List C):(List.replicate n (z.map A.d)).flatten=(List.replicate n z).flatten.map A.d:=by
 rw[<-BY,List.map_replicate]
theorem yP(h:bC M0 S0 w0 N T m ρ a w):∀{ps:List (Nat×Operand)}{rs:List (Nat×List A)},oX m (ps.map λp=>(p.1,dN T p.2))=some rs->I0 w (dD M0 m ρ) m ρ rs (ps.map λp=>(p.1,a.eval p.2))
 |[],rs,hc=>by simp only[bM,oX,aA]at hc;subst hc;exact .nil
 |(i,o)::r,rs,hc=>by
  simp only[aG,oX]at hc;split at hc
  ·rename_i l t h1 h2;simp only[aA]at hc;subst hc;obtain⟨g1,g2⟩:=wQ h (cU h o) h1;exact .cons g1 g2 (yP h h2)
  ·cases hc
theorem MU(h:bC M0 S0 w0 N T m ρ a w)(cX:∀b,M0 b->b<w0.heap.size){t e:TypeId}{len es:Nat}{ps:List (Nat×Operand)}{out:List (List A)}{rp:List (Nat×List A)}{z:List C}{d:Nat}
 (he:j8 P t=some e)(hz:o5 P e=some z)(hzl:z.length=es)(aXV:0<es)(aYZ:P.cellsOf e=es)(aYA:len*es<=16777216)(hc:oX m (ps.map λp=>(p.1,dN T p.2))=some rp)(hf:NO es (List.replicate len (z.map A.d)) rp=some out)(hd:m d=none):
 ∃ρ' v w',(Instr.buildSlice t len (ps.map λp=>(p.1,a.eval p.2)).toArray).run P w=.ok v w'/\bC M0 S0 w0 N T (aX m d (.fW false e es out)) ρ' a w'/\gL m (aX m d (.fW false e es out)) ρ ρ'/\
  (A.h d).Den w' (dD M0 (aX m d (.fW false e es out)) ρ') (aX m d (.fW false e es out)) ρ' v:=by
 have ht:=nU he;obtain⟨zv,XN,XO,⟨i,hi,hzi⟩,hz0⟩:=qA hz w;have hp:=yP h hc;have hzs:zv.cells.size=es:=by have:=(C.c9.1 (XO w (λ_=>False))).1;rw[hzl]at this;simpa using this.symm
 have T9:=B1 (XO w (dD M0 m ρ)) (by rw[hzl];exact aXV) len len (bT _);rw[hzl]at T9;have htk:(((Array.range (len*es)).map (zv.cells[· %zv.cells.size]!)).toList.take (len*es))=((Array.range (len*es)).map (zv.cells[· %zv.cells.size]!)).toList:=by
  rw[aI];simp
 rw[htk]at T9;have a1K:=(A.iO (m:=m) (ρ:=ρ)).2 T9;rw[<-zC]at a1K;obtain⟨cs',g1,g2,g3,g4,g5⟩:=Z6 hp a1K (B2 hz0 oM _) (λe' he'=>by rw[o7 he',aB,hzl]) hf;have hlen:out.length=len:=by rw[g5];simp
 have TW:cs'.size=len*es:=by have:=(A.c9.1 g2).1;rw[fI g4,hlen]at this;simpa using this.symm
 refine⟨dW ρ d (.slice (some ⟨w.heap.size,0,none⟩) len len),.slice (some ⟨w.heap.size,0,none⟩) len len,w.alloc (.cells cs' e),?_,?_,gL.new _ _ hd,?_⟩
 ·have hzr:(zeroValue e).run P w=.ok zv w:=XN;have hng:¬(2^24<len*es):=oM;by_cases h0:len*es=0
  ·have hl0:len=0:=by rcases Nat.mul_eq_zero.1 h0 with q|q<;>omega
   subst hl0;have e0:(Array.range (0*es)).map (λx=>zv.cells[x %zv.cells.size]!)= #[]:=sM;rw[e0]at g1;have e1:(Array.map (λx=>(default:Value)) (Array.range 0))= #[]:=sM;simp[Instr.buildSlice,run_underlying ht,run_sizeOf hi,aYZ,newRow,Array.range_zero',e1,g1]
  ·simp only[Instr.buildSlice,aV,run_underlying ht,aN,run_sizeOf hi,aYZ,gt_iff_lt,aT7 hng,h0,if_false,hzr,cB,Pure.pure,jY];simp only[Sem.run_pure',aN,g1,newRow,run_newObj,aV,kN];rfl
 ·refine h.rG cX (jF w _) hd rfl (by simp[jK]) ?_;intro hO eB hm;refine⟨cs'.toList,?_,A.dK eB hm hO _ _ g2,g4,sM,g3⟩;by_cases h0:len=0
  ·subst h0;exact .inl ⟨bL (by simp[TW]),hlen,_,rfl⟩
  ·refine .inr ⟨by rw[hlen];simpa using TW,w.heap.size,0,len,cs',by rw[hlen],oM,heap_alloc_new w _,by rw[hlen];exact bT _,?_,by rw[fF,TW];exact bT _,?_⟩
   ·have:len*1<=len*es:=sX _ aXV;unfold maxLen;omega
   ·rw[n6,hlen,aI];simp[TW]
 ·simp only[A.Den];exact⟨by simp[aX],λ_=>by simp[dW]⟩
theorem QX(h:bC M0 S0 w0 N T m ρ a w)(cX:∀b,M0 b->b<w0.heap.size){t e:TypeId}{es by_:Nat}{z:List C}{d:Nat}{kl kc:IntKind}{l c:Int}
 (he:j8 P t=some e)(hz:o5 P e=some z)(hzl:z.length=es)(aXV:0<es)(aYZ:P.cellsOf e=es)(hby:P.bytesOf e=by_)(h0:0<=l)(hlc:l<=c)(a0S:(by_:Int)*c<=281474976710656)(h63:c<=9223372036854775807)(hd:m d=none):
 ∃ρ' v w',(Instr.makeSlice t (.int kl l) (.int kc c)).run P w=.ok v w'/\bC M0 S0 w0 N T (aX m d (.fW false e es (List.replicate l.toNat (z.map A.d)))) ρ' a w'/\gL m (aX m d (.fW false e es (List.replicate l.toNat (z.map A.d)))) ρ ρ'/\
  (A.h d).Den w' (dD M0 (aX m d (.fW false e es (List.replicate l.toNat (z.map A.d)))) ρ') (aX m d (.fW false e es (List.replicate l.toNat (z.map A.d)))) ρ' v:=by
 have ht:=nU he;obtain⟨zv,XN,XO,⟨i,hi,hzi⟩,hz0⟩:=qA hz w;have hzs:zv.cells.size=es:=by have:=(C.c9.1 (XO w (λ_=>False))).1;rw[hzl]at this;simpa using this.symm
 have vZ:i.size=es:=by rw[<-aYZ];simp[Program.cellsOf,hi]
 have hbz:i.bytes=by_:=by rw[<-hby];simp[Program.bytesOf,hi]
 have aVL:=run_make (P:=P) w t e i zv ht hi hzi kl kc l c h0 hlc (by rw[hbz];exact a0S) h63;have hle:l.toNat<=c.toNat:=oM;refine⟨dW ρ d (.slice (some ⟨w.heap.size,0,none⟩) l.toNat c.toNat),_,_,aVL,?_,gL.new _ _ hd,?_⟩
 ·refine h.rG cX (jF w _) hd rfl (by simp[jK]) ?_;intro hO eB hm;have T9:=B1 (XO (w.alloc (.cells (madeCells zv.cells (c.toNat*i.size)) e)) (dD M0 (aX m d (.fW false e es (List.replicate l.toNat (z.map A.d)))) (dW ρ d (.slice (some ⟨w.heap.size,0,none⟩) l.toNat c.toNat)))) (by rw[hzl];exact aXV) c.toNat l.toNat hle;rw[hzl]at T9;have hml:(((Array.range (c.toNat*es)).map (zv.cells[· %zv.cells.size]!)).toList.take (l.toNat*es)).length=l.toNat*es:=by
   have:l.toNat*es<=c.toNat*es:=fE _ hle;have vZ:((Array.range (c.toNat*es)).map (zv.cells[· %zv.cells.size]!)).toList.length=c.toNat*es:=by rw[c7 (xs:=(Array.range (c.toNat*es)).map (zv.cells[· %zv.cells.size]!)),Array.size_map,Array.size_range]
   rw[cW,vZ];omega
  refine⟨((Array.range (c.toNat*es)).map (zv.cells[· %zv.cells.size]!)).toList.take (l.toNat*es),?_,by rw[zC];exact A.iO.2 T9,?_,sM,?_⟩
  ·by_cases hc0:c.toNat=0
   ·have hl0:l.toNat=0:=oM;exact .inl ⟨bL (by rw[hml,hl0];simp),by simp[hl0],⟨w.heap.size,0,none⟩,by rw[hl0,hc0]⟩
   ·exact .inr ⟨by rw[hml];simp,w.heap.size,0,c.toNat,_,sM,oM,heap_alloc_new w _,by simpa using hle,by unfold maxLen;omega,by simp[madeCells,vZ],by simp[madeCells,vZ]⟩
  ·intro e' he';rw[o7 he',aB,hzl]
  ·exact λu hu=>B2 hz0 oM _ u (dJ hu)
 ·simp only[A.Den];exact⟨by simp[aX],λ_=>by simp[dW]⟩
theorem WV(h:bC M0 S0 w0 N T m ρ a w)(cX:∀b,M0 b->b<w0.heap.size){t:TypeId}{d:Nat}(hd:m d=none):
 ∃ρ' v w',(Instr.makeMap t none).run P w=.ok v w'/\bC M0 S0 w0 N T (aX m d (.mp false [] [])) ρ' a w'/\gL m (aX m d (.mp false [] [])) ρ ρ'/\
  (A.h d).Den w' (dD M0 (aX m d (.mp false [] [])) ρ') (aX m d (.mp false [] [])) ρ' v:=by
 refine⟨dW ρ d (.map (some w.heap.size)),.map (some w.heap.size),w.alloc (.map #[] 0),by simp[Instr.makeMap],?_,gL.new _ _ hd,?_⟩
 ·refine h.rG cX (jF w _) hd rfl (by simp[jK]) ?_;intro hO eB hm;exact⟨w.heap.size,#[],0,[],rfl,heap_alloc_new w _,⟨sM,rfl,sM,sM,sM⟩,by simp[A.bR],sM,by simp[vW]⟩
 ·simp only[A.Den];exact⟨by simp[aX],λ_=>by simp[dW]⟩
end
def MN(k:IntKind)(n:Int):Prop:=k.min<=n/\n<=k.max
instance(k:IntKind)(n:Int):Decidable (MN k n):=by unfold MN;infer_instance
theorem xO{k:IntKind}{n:Int}(h:MN k n):k.wrap n=n:=by
 unfold MN at h;cases k<;>simp[IntKind.min,IntKind.max,IntKind.signed,IntKind.bits]at h<;>simp[IntKind.wrap,IntKind.signed,IntKind.bits]<;>(try split)<;>omega
theorem aHK{n:Int}(h:-9223372036854775808<=n)(h':n<=9223372036854775807):MN .i64 n:=by
 simp[MN,IntKind.min,IntKind.max,IntKind.signed,IntKind.bits];omega
def pO(op:BinOp)(k:IntKind)(x y:Int):Int:=
 let a:=BitVec.ofInt k.bits x;let b:=BitVec.ofInt k.bits y
 k.wrap (match op with
  |.and=>(a&&&b).toNat
  |.or=>(a|||b).toNat
  |.xor=>(a^^^b).toNat
  |_=>(a&&&~~~b).toNat:Nat)
def JM(op:BinOp)(k k':IntKind)(a b:Int):Option (Bool×C):=
 match op with
 |.add=>some (decide (k=k'/\MN k (a+b)),.v (.int k (a+b)))
 |.sub=>some (decide (k=k'/\MN k (a -b)),.v (.int k (a -b)))
 |.mul=>some (decide (k=k'/\MN k (a*b)),.v (.int k (a*b)))
 |.quo=>some (decide (k=k'/\b≠0/\MN k (a.tdiv b)),.v (.int k (a.tdiv b)))
 |.rem=>some (decide (k=k'/\b≠0),.v (.int k (a.tmod b)))
 |.and=>some (decide (k=k'),.v (.int k (pO .and k a b)))
 |.or=>some (decide (k=k'),.v (.int k (pO .or k a b)))
 |.xor=>some (decide (k=k'),.v (.int k (pO .xor k a b)))
 |.andNot=>some (decide (k=k'),.v (.int k (pO .andNot k a b)))
 |.shl=>some (decide (0<=b),.v (.int k (k.wrap (a*2^(min b.toNat k.bits)))))
 |.shr=>some (decide (0<=b),.v (.int k (a.fdiv (2^(min b.toNat k.bits)))))
 |.eql=>some (decide (k=k'),.v (.bool (decide (a=b))))
 |.neq=>some (decide (k=k'),.v (.bool (!decide (a=b))))
 |.lss=>some (decide (k=k'),.v (.bool (decide (a<b))))
 |.leq=>some (decide (k=k'),.v (.bool (decide (a<=b))))
 |.gtr=>some (decide (k=k'),.v (.bool (decide (b<a))))
 |.geq=>some (decide (k=k'),.v (.bool (decide (b<=a))))
def PZ:List C->List C->Option Bool
 |[],[]=>some true
 |.v (.int k a)::r,.v (.int k' b)::s=>if k=k' then(PZ r s).map λt=>decide (a=b)&&t else none
 |.v (.bool a)::r,.v (.bool b)::s=>(PZ r s).map λt=>decide (a=b)&&t
 |.v (.string a)::r,.v (.string b)::s=>(PZ r s).map λt=>decide (a=b)&&t
 |_,_=>none
def isNil(m:Mem):A->Option (Nat×Bool)
 |.d (.v (.pointer none))=>some (0,true)
 |.d (.v (.map none))=>some (1,true)
 |.d (.v .nilFunc)=>some (3,true)
 |.d (.nl _)=>some (2,true)
 |.d (.ip _)=>some (0,false)
 |.d (.im _ _)=>some (1,false)
 |.d (.fn _ _ _)=>some (3,false)
 |.lp i _=>if qF m i then some (0,false)else none
 |.ep i _ _ _=>if qF m i then some (0,false)else none
 |.h i=>match m i with
  |some (.mp _ _ _)=>some (1,false)
  |some (.fW _ _ _ _)=>some (2,false)
  |some (.lo _ _ _ _ _ _)=>some (3,false)
  |_=>none
 |.sv i _ _=>match m i with
  |some (.fW _ _ _ (_::_))=>some (2,false)
  |_=>none
 |.d (.sl _ (_::_))=>some (2,false)
 |.fn _ _ _=>some (3,false)
 |_=>none
def BR(P:Program)(t:TypeId):Option Nat:=
 match P.underlying t with
 |some (.pointer _)=>some 0
 |some (.map _ _)=>some 1
 |some (.slice _)=>some 2
 |some (.func _ _ _)=>some 3
 |_=>none
def IH(P:Program)(t:TypeId):Bool:=match P.underlying t with
 |some .bool=>true
 |_=>false
theorem uK{P:Program}(h:IH P t=true):P.underlying t=some .bool:=by
 unfold IH at h;split at h<;>simp_all
def yJ(P:Program)(t:TypeId):Bool:=match P.underlying t with
 |some .string=>true
 |_=>false
theorem oB{P:Program}(h:yJ P t=true):P.underlying t=some .string:=by
 unfold yJ at h;split at h<;>simp_all
def JL(P:Program)(m:Mem)(t:TypeId)(x y:A):Option (Bool×Bool):=
 match x,y with
 |.d (.v (.bool a)),.d (.v (.bool b))=>some (IH P t,decide (a=b))
 |.d (.v (.string a)),.d (.v (.string b))=>some (true,decide (a=b))
 |x,y=>match isNil m x,isNil m y with
  |some (k,true),some (k',b)=>some (decide (BR P t=some k/\k=k'),b)
  |some (k,b),some (k',true)=>some (decide (BR P t=some k/\k=k'),b)
  |_,_=>none
def xZ(P:Program)(m:Mem)(op:BinOp)(t:TypeId)(x y:A):Option E:=
 match x,y with
 |.d (.v (.int k a)),.d (.v (.int k' b))=>(JM op k k' a b).map λr=>(r.1,.d r.2,[])
 |x,y=>match op with
  |.eql=>(JL P m t x y).map λr=>(r.1,.d (.v (.bool r.2)),[])
  |.neq=>(JL P m t x y).map λr=>(r.1,.d (.v (.bool (!r.2))),[])
  |_=>none
section
variable{M0 S0:Nat->Prop}{w0:World}{N:Fr}{T:Nat->A}{m:Mem}{ρ:Nat->Value}{a:Act}{w:World}{P:Program}
theorem aK2{op:BinOp}{k k':IntKind}{x y:Int}{pre:Bool}{c:C}(he:JM op k k' x y=some (pre,c))(hp:pre=true):
 ∃z,(binOp op t (.int k x) (.int k' y)).run P w=.ok z w/\∀M,c.Den w M z:=by
 cases op<;>simp only[JM,aA,aD]at he<;>obtain⟨rfl,rfl⟩:=he<;>have hp:=aUL hp
 case add=>obtain⟨rfl,h⟩:=hp;exact⟨_,by simp[binOp_add,Op.intArith,xO h];rfl,λM=>by simp[C.Den]⟩
 case sub=>obtain⟨rfl,h⟩:=hp;exact⟨_,by simp[binOp_sub,Op.intArith,xO h];rfl,λM=>by simp[C.Den]⟩
 case mul=>obtain⟨rfl,h⟩:=hp;exact⟨_,by simp[binOp_mul,Op.intArith,xO h];rfl,λM=>by simp[C.Den]⟩
 case quo=>obtain⟨rfl,h0,h⟩:=hp;exact⟨_,by simp[binOp_quo,Op.intDiv,xO h,h0];rfl,λM=>by simp[C.Den]⟩
 case rem=>obtain⟨rfl,h0⟩:=hp;exact⟨_,by simp[binOp_rem,Op.intDiv,h0];rfl,λM=>by simp[C.Den]⟩
 case and=>subst hp;exact⟨_,by simp[binOp_and,Op.intBits];rfl,λM=>by simp[C.Den,pO]⟩
 case or=>subst hp;exact⟨_,by simp[binOp_or,Op.intBits];rfl,λM=>by simp[C.Den,pO]⟩
 case xor=>subst hp;exact⟨_,by simp[binOp_xor,Op.intBits];rfl,λM=>by simp[C.Den,pO]⟩
 case andNot=>subst hp;exact⟨_,by simp[binOp_andNot,Op.intBits];rfl,λM=>by simp[C.Den,pO]⟩
 case shl=>have:¬y<0:=by omega
           exact⟨_,by simp[binOp_shl,Op.shift,this];rfl,λM=>by simp[C.Den]⟩
 case shr=>have:¬y<0:=by omega
           exact⟨_,by simp[binOp_shr,Op.shift,this];rfl,λM=>by simp[C.Den]⟩
 case eql=>subst hp;exact⟨_,by simp[binOp_eql];rfl,λM=>by simp[C.Den];exact jT.2 sM⟩
 case neq=>subst hp;exact⟨_,by simp[binOp_neq];rfl,λM=>by simp[C.Den,bne];exact jT.2 sM⟩
 case lss=>subst hp;exact⟨_,by simp[binOp_lss];rfl,λM=>by simp[C.Den]⟩
 case leq=>subst hp;exact⟨_,by simp[binOp_leq];rfl,λM=>by simp[C.Den]⟩
 case gtr=>subst hp;exact⟨_,by simp[binOp_gtr];rfl,λM=>by simp[C.Den]⟩
 case geq=>subst hp;exact⟨_,by simp[binOp_geq];rfl,λM=>by simp[C.Den]⟩
def xE:Value->Option (Nat×Bool)
 |.pointer p=>some (0,p.isNone)
 |.map r=>some (1,r.isNone)
 |.slice a _ _=>some (2,a.isNone)
 |.nilFunc=>some (3,true)
 |.func _ _ _=>some (3,false)
 |_=>none
theorem FY(h:bC M0 S0 w0 N T m ρ a w){x:A}{y:Value}{b:Nat×Bool}(hx:x.Den w (dD M0 m ρ) m ρ y)(hn:isNil m x=some b):xE y=some b:=by
 cases x with
 |d c=>
  cases c with
  |v z=>
   simp only[A.Den,C.Den]at hx;subst hx;cases y<;>simp[isNil]at hn
   ·rename_i p;cases p<;>simp[isNil]at hn;subst hn;rfl
   ·rename_i p;cases p<;>simp[isNil]at hn;subst hn;rfl
   ·subst hn;rfl
  |nl es=>simp only[A.Den,C.Den]at hx;subst hx;simp[isNil]at hn;subst hn;rfl
  |ip l=>simp only[A.Den,C.Den]at hx;obtain⟨_,_,rfl,_⟩:=hx;simp[isNil]at hn;subst hn;rfl
  |im l=>simp only[A.Den,C.Den]at hx;obtain⟨_,_,_,_,rfl,_⟩:=hx;simp[isNil]at hn;subst hn;rfl
  |fn f u v=>simp only[A.Den,C.Den]at hx;obtain⟨_,_,rfl,_⟩:=hx;simp[isNil]at hn;subst hn;rfl
  |sl es l=>
   cases l with
   |nil=>simp[isNil]at hn
   |cons e r=>
    simp only[A.Den,C.Den]at hx;obtain⟨a',cap,rfl,_,h2⟩:=hx;simp[isNil]at hn;subst hn;rcases h2 with h2|⟨b,off,rfl,_⟩
    ·cases h2
    ·rfl
  |_=>simp[isNil]at hn
 |lp i off=>
  simp only[isNil]at hn;split at hn
  ·rename_i hi;simp at hn;subst hn;simp only[A.Den]at hx;obtain⟨b,_,rfl⟩:=pU hx hi;rfl
  ·cases hn
 |ep i es k off=>
  simp only[isNil]at hn;split at hn
  ·rename_i hi;simp at hn;subst hn;simp only[A.Den]at hx;obtain⟨b,_,_,_,_,rfl⟩:=pU hx hi;rfl
  ·cases hn
 |h i=>
  simp only[isNil]at hn;split at hn
  ·rename_i fz kv st hi;simp at hn;subst hn;simp only[A.Den]at hx;rw[eH hx hi sM];obtain⟨_,_,_,_,e,_⟩:=h.res i _ hi;rw[e];rfl
  ·rename_i fz t es r hi;simp at hn;subst hn;simp only[A.Den]at hx;rw[eH hx hi sM];obtain⟨xs,h1,_⟩:=h.res i _ hi;rcases h1 with⟨_,_,_,e⟩|⟨_,g,og,cap,cur,e,_⟩<;>(rw[e];rfl)
  ·rename_i hi;simp at hn;subst hn;simp only[A.Den]at hx;rw[eH hx hi sM];obtain⟨_,_,_,_,e,_⟩:=h.res i _ hi;rw[e];rfl
  ·cases hn
 |sv i lo n=>
  simp only[isNil]at hn;split at hn
  ·rename_i fz t es e r hi;simp at hn;subst hn;simp only[A.Den]at hx;obtain⟨a',cap,rfl,_,es,fz,t,l,hm,_,h3⟩:=eH hx hi sM;rw[hi]at hm;simp at hm;obtain⟨_,_,_,rfl⟩:=hm;rcases h3 with⟨_,_,h3⟩|⟨b,og,n',cap',_,rfl,_⟩
   ·cases a' with
    |none=>simp at h3
    |some _=>rfl
   ·rfl
  ·cases hn
 |fn f u v=>simp only[A.Den]at hx;obtain⟨_,_,rfl,_⟩:=hx;simp[isNil]at hn;subst hn;rfl
 |_=>simp[isNil]at hn
theorem JT{x y:Value}{k:Nat}{b c:Bool}(ht:BR P t=some k)(hx:xE x=some (k,b))(hy:xE y=some (k,c))(w:World)(hbc:b=true\/c=true):
 (Op.equal t x y).run P w=.ok (b&&c) w:=by
 suffices key:∀d,(Op.equalIn (d+1) t x y).run P w=.ok (b&&c) w from key 9999
 intro d;unfold BR at ht;split at ht
 ·rename_i e hu;simp at ht;subst ht;cases x<;>simp[xE]at hx
  cases y<;>simp[xE]at hy
  rename_i p q;subst hx;subst hy;cases p<;>cases q<;>simp at hbc<;>simp[Op.equalIn,run_underlying hu]
 ·rename_i e f hu;simp at ht;subst ht;cases x<;>simp[xE]at hx
  cases y<;>simp[xE]at hy
  rename_i p q;subst hx;subst hy;cases p<;>cases q<;>simp at hbc<;>simp[Op.equalIn,run_underlying hu]
 ·rename_i e hu;simp at ht;subst ht;cases x<;>simp[xE]at hx
  cases y<;>simp[xE]at hy
  rename_i p _ _ q _ _;subst hx;subst hy;cases p<;>cases q<;>simp at hbc<;>simp[Op.equalIn,run_underlying hu]
 ·rename_i e f g hu;simp at ht;subst ht;cases x<;>simp[xE]at hx<;>cases y<;>simp[xE]at hy<;>subst hx<;>subst hy<;>simp at hbc<;>simp[Op.equalIn,run_underlying hu]
 ·cases ht
theorem pF{op:BinOp}{x y:Operand}{u v:Value}(h:xE u≠none\/(∃b,u=.bool b)\/(∃s,u=.string s)\/∃k n,u=.int k n):eqGuard op t x y u v=pure ():=by
 cases u<;>first
  |(simp[xE]at h;done)
  |(cases op<;>rfl)
theorem aJC(h:bC M0 S0 w0 N T m ρ a w){op:BinOp}{t:TypeId}{x y:A}{u v:Value}{ox oy:Operand}{pre:Bool}{b:Bool}(hx:x.Den w (dD M0 m ρ) m ρ u)(hy:y.Den w (dD M0 m ρ) m ρ v)
 (he:JL P m t x y=some (pre,b))(hp:pre=true)(I5:op=.eql\/op=.neq):∃z,(do eqGuard op t ox oy u v;binOp op t u v).run P w=.ok z w/\z=.bool (if op=.eql then b else !b):=by
 unfold JL at he;split at he
 ·
  rename_i p q;simp only[aA,aD]at he;obtain⟨rfl,rfl⟩:=he;simp only[A.Den,C.Den]at hx hy;subst hx;subst hy;have hp:=uK hp;rcases I5 with rfl|rfl
  ·exact⟨.bool (p==q),by simp[pF,run_eql_bool w t p q hp],by cases p<;>cases q<;>rfl⟩
  ·exact⟨.bool (!(p==q)),by simp[pF,run_neq_bool w t p q hp],by cases p<;>cases q<;>rfl⟩
 ·rename_i p q;simp only[aA,aD]at he;obtain⟨rfl,rfl⟩:=he;simp only[A.Den,C.Den]at hx hy;subst hx;subst hy;have hs:(p.toList==q.toList)=decide (p=q):=by
   apply jT.2;simp only[beq_iff_eq,aUA]
   exact⟨λe=>by
    have e1:p.data.toList=q.data.toList:=by simpa [ByteArray.toList_eq]using e
    cases p;cases q;simp at e1;simp[e1],λe=>by rw[e]⟩
  rcases I5 with rfl|rfl
  ·exact⟨.bool (decide (p=q)),by simp[pF,binOp,Op.stringOp,hs],sM⟩
  ·exact⟨.bool (!decide (p=q)),by simp[pF,binOp,Op.stringOp,hs],sM⟩
 ·
  have key:∀{k:Nat}{b c:Bool},isNil m x=some (k,b)->isNil m y=some (k,c)->BR P t=some k->(b=true\/c=true)->∃z,(do eqGuard op t ox oy u v;binOp op t u v).run P w=.ok z w/\z=.bool (if op=.eql then b&&c else !(b&&c)):=by
   intro k b c h1 h2 h3 h4;have n1:=FY h hx h1;have n2:=FY h hy h2;have hr:=JT (P:=P) h3 n1 n2 w h4;have hg:eqGuard op t ox oy u v=pure ():=pF (.inl (by rw[n1];simp));have tO:binOp .eql t u v=(do pure (.bool (<-Op.equal t u v))):=by cases u<;>simp[xE]at n1<;>cases v<;>simp[xE]at n2<;>rfl
   have hb2:binOp .neq t u v=(do pure (.bool (!(<-Op.equal t u v)))):=by cases u<;>simp[xE]at n1<;>cases v<;>simp[xE]at n2<;>rfl
   rcases I5 with rfl|rfl
   ·exact⟨_,by rw[hg];simp[tO,hr];rfl,sM⟩
   ·exact⟨_,by rw[hg];simp[hb2,hr];rfl,sM⟩
  split at he
  ·rename_i k k' b' h1 h2;simp only[aA,aD]at he;obtain⟨rfl,rfl⟩:=he;obtain⟨h3,rfl⟩:=aUL hp;simpa using key h1 h2 h3 (.inl rfl)
  ·rename_i k b' k' _ h1 h2;simp only[aA,aD]at he;obtain⟨rfl,rfl⟩:=he;obtain⟨h3,rfl⟩:=aUL hp;simpa using key h1 h2 h3 (.inr rfl)
  ·cases he
theorem aK0(h:bC M0 S0 w0 N T m ρ a w){op:BinOp}{t:TypeId}{x y:A}{u v:Value}{ox oy:Operand}{pre:Bool}{r:A}{ups:List (Nat×R)}(hx:x.Den w (dD M0 m ρ) m ρ u)(hy:y.Den w (dD M0 m ρ) m ρ v)
 (he:xZ P m op t x y=some (pre,r,ups))(hp:pre=true):ups=[]/\∃z,(do eqGuard op t ox oy u v;binOp op t u v).run P w=.ok z w/\r.Den w (dD M0 m ρ) m ρ z:=by
 unfold xZ at he;split at he
 ·rename_i k p k' q;simp only[bU]at he;obtain⟨⟨pre',c⟩,h1,h2⟩:=he;simp only[aD]at h2;obtain⟨rfl,rfl,rfl⟩:=h2;simp only[A.Den,C.Den]at hx hy;subst hx;subst hy;obtain⟨z,h3,h4⟩:=aK2 (P:=P) (w:=w) (t:=t) h1 hp;exact⟨rfl,z,by rw[pF (.inr (.inr (.inr ⟨k,p,rfl⟩)))];simpa using h3,by simp only[A.Den];exact h4 _⟩
 ·split at he
  ·simp only[bU]at he;obtain⟨⟨pre',b⟩,h1,h2⟩:=he;simp only[aD]at h2;obtain⟨rfl,rfl,rfl⟩:=h2;obtain⟨z,h3,h4⟩:=aJC h (op:=.eql) (ox:=ox) (oy:=oy) hx hy h1 hp (.inl rfl);exact⟨rfl,z,h3,by simp only[A.Den,C.Den];simpa using h4⟩
  ·simp only[bU]at he;obtain⟨⟨pre',b⟩,h1,h2⟩:=he;simp only[aD]at h2;obtain⟨rfl,rfl,rfl⟩:=h2;obtain⟨z,h3,h4⟩:=aJC h (op:=.neq) (ox:=ox) (oy:=oy) hx hy h1 hp (.inr rfl);exact⟨rfl,z,h3,by simp only[A.Den,C.Den];simpa using h4⟩
  ·cases he
end
end Go.Pv
