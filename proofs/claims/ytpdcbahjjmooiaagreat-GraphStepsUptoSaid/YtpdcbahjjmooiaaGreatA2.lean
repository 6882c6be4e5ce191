import Derived.Test.YtpdcbahjjmooiaaGreatA1
/- A program logic over the model, contracts of the functions that the law reaches: part 2. (Names and blanks were shortened by program.) -/
set_option linter.unusedVariables false
set_option linter.unusedSimpArgs false
set_option linter.constructorNameAsVariable false
set_option linter.unusedSectionVars false
set_option linter.deprecated false
set_option maxRecDepth 100000
set_option maxHeartbeats 8000000
open Go
namespace Go.Pv
open Go.RowKit
variable{P:Program}{t:TypeId}{b es:Nat}{M:Nat->Prop}{w:World}
abbrev E:=Bool×A×List (Nat×R)
def aH(m:Mem):List (Nat×R)->Mem
 |[]=>m
 |(i,r)::t=>aH (aX m i r) t
def oP(P:Program)(t:TypeId):Option Bool:=
 match P.underlying t with
 |some (.struct _)|some (.array _ _)=>some true
 |some _=>some false
 |none=>none
theorem info_of_underlying{d:TypeDesc}(h:P.underlying t=some d):∃i,P.info? t=some i:=by
 unfold Program.underlying at h;cases hi:P.info? t with
 |none=>simp[hi]at h
 |some i=>exact⟨i,rfl⟩
theorem lV{b:Bool}(h:oP P t=some b)(w:World):(isAgg t).run P w=.ok b w:=by
 unfold oP at h;cases hu:P.underlying t with
 |none=>simp[hu]at h
 |some d=>
  simp only[isAgg,aV,run_underlying hu,aN];cases d<;>simp_all
theorem run_sizeOf{i:TypeInfo}(h:P.info? t=some i)(w:World):(sizeOf t).run P w=.ok (P.cellsOf t) w:=by
 simp[sizeOf,typeInfo,h,Program.cellsOf]
theorem mB{b:Bool}(h:oP P t=some b)(w:World):(sizeOf t).run P w=.ok (P.cellsOf t) w:=by
 unfold oP at h;cases hu:P.underlying t with
 |none=>simp[hu]at h
 |some d=>obtain⟨i,hi⟩:=info_of_underlying hu;exact run_sizeOf hi w
theorem sP(h:oP P t=some false){w:World}{a:Addr}{y:Value}(hc:w.cell? a=some y):(loadVar t a).run P w=.ok y w:=by
 simp[loadVar,lV h,hc]
theorem sO(h:oP P t=some true){w:World}{a:Addr}{cs:List Value}(hl:cs.length=P.cellsOf t)(hc:∀j v,cs[j]?=some v->w.cell? (a.add j)=some v):
 (loadVar t a).run P w=.ok (.agg cs.toArray) w:=by
 have:=run_loadCells_list (P:=P) w a cs hc;simp[loadVar,lV h,mB h,<-hl,this]
section
variable{M0 S0:Nat->Prop}{w0:World}{N:Fr}{T:Nat->A}{m:Mem}{ρ:Nat->Value}{a:Act}{w:World}{P:Program}
theorem eH{i:Nat}{r:R}{p:Prop}(h:Has m i p)(hi:m i=some r)(hr:r≠.dead):p:=h.2 (by rw[hi];simpa using hr)
theorem oR{j:Nat}{cs:Array Value}{fr:Nat×Nat}(h:w.heap[b]?=some (.cells cs t fr)):w.cell? ⟨b,j,none⟩=cs[j]?:=by
 simp[World.cell?,h]
def jM(P:Program)(m:Mem)(t:TypeId):A->Option E
 |.lp i off=>match m i with
  |some (.cells _ l)=>match oP P t with
   |some true=>some (decide (off+P.cellsOf t<=l.length),.agg ((l.drop off).take (P.cellsOf t)),[])
   |some false=>some (decide (off<l.length),l.getD off .x,[])
   |none=>none
  |_=>none
 |.ep i es k off=>match m i with
  |some (.fW _ _ es' l)=>match oP P t with
   |some true=>some (decide (es'=es/\k<l.length/\off+P.cellsOf t<=es),.agg (((l.getD k []).drop off).take (P.cellsOf t)),[])
   |some false=>some (decide (es'=es/\k<l.length/\off<es),(l.getD k []).getD off .x,[])
   |none=>none
  |_=>none
 |.d (.ip l)=>match oP P t with
  |some true=>some (decide (P.cellsOf t<=l.length),.d (.agg (l.take (P.cellsOf t))),[])
  |some false=>some (decide (0<l.length),.d (l.getD 0 default),[])
  |none=>none
 |_=>none
theorem kY{α:Type}(es:Nat):∀(l:List (List α))(k:Nat)(r:List α)(j:Nat),(∀e∈l,e.length=es)->l[k]?=some r->j<es->l.flatten[k*es+j]?=r[j]?
 |[],k,r,j,_,h,_=>by simp at h
 |e::l,0,r,j,hl,h,hj=>by
  simp at h;subst h;have:e.length=es:=hl e (by simp);simp only[dL,Nat.zero_mul,fF];rw[bX (by omega)]
 |e::l,k+1,r,j,hl,h,hj=>by
  have he:e.length=es:=hl e (by simp);simp only[dL];rw[bO (by rw[he,gY];omega)];rw[show(k+1)*es+j -e.length=k*es+j by rw[he,gY];omega];exact kY es l k r j (λe' h'=>hl e' (by simp[h'])) (by simpa using h) hj
theorem fI{α:Type}{l:List (List α)}(h:∀e∈l,e.length=es):l.flatten.length=l.length*es:=by
 induction l with
 |nil=>simp
 |cons e r ih=>
  simp only[dL,aU,aQ,ih (λe' h'=>h e' (by simp[h'])),h e (by simp),gY];omega
theorem vV.cells{h:Value}{n:Nat}{xs:List Value}(ho:vV w t es h n xs){b o n' cap:Nat}(hh:h=.slice (some ⟨b,o,none⟩) n' cap):∀(j:Nat)(u:Value),xs[j]?=some u->w.cell? ⟨b,o+j,none⟩=some u:=by
 intro j u hu;rcases ho with⟨rfl,_⟩|⟨hl,g,og,cap',cur,rfl,_,hg,_,_,_,htake⟩
 ·simp at hu
 ·simp at hh;obtain⟨⟨rfl,rfl⟩,rfl,rfl⟩:=hh;rw[oR hg];rw[<-htake,cM]at hu;split at hu
  ·rw[eA]at hu;simpa using hu
  ·cases hu
theorem TS(h:bC M0 S0 w0 N T m ρ a w){i es k:Nat}{fz:Bool}{t:TypeId}{l:List (List A)}(hi:m i=some (.fW fz t es l)){b o n cap:Nat}(hρ:ρ i=.slice (some ⟨b,o,none⟩) n cap)
 {r:List A}(hr:l[k]?=some r):∀(j:Nat)(c:A),r[j]?=some c->∃y,w.cell? ⟨b,o+(k*es+j),none⟩=some y/\y.oneCell'=true/\c.Den w (dD M0 m ρ) m ρ y:=by
 intro j c hc;obtain⟨xs,h1,h2,h3,h4,h5⟩:=h.res i _ hi;have hrl:r.length=es:=h3 r (c6 hr);have hj:j<es:=by rw[<-hrl];exact(bA.1 hc).1
 have hk:k<l.length:=(bA.1 hr).1;rw[hρ]at h1;have hf:=kY es l k r j h3 hr hj;rw[A.c9]at h2;have hlen:k*es+j<xs.length:=by rw[<-h2.1,fI h3];calc k*es+j<k*es+es:=by omega
  _=(k+1)*es:=by rw[gY]
  _<=l.length*es:=fE _ hk
 refine⟨xs[k*es+j],?_,h5 _ (aY hlen),h2.2 _ c _ (by rw[hf,hc]) (aC hlen)⟩;exact h1.cells rfl (k*es+j) _ (aC hlen)
theorem GC{b:Nat}{M:Nat->Prop}:∀(l:List C)(o:Nat),(∀(j:Nat)(c:C),l[j]?=some c->∃y,w.cell? ⟨b,o+j,none⟩=some y/\y.oneCell'=true/\c.Den w M y)->
 ∃cs:List Value,cs.length=l.length/\(∀u∈cs,u.oneCell'=true)/\(∀(j:Nat)(v:Value),cs[j]?=some v->w.cell? ((⟨b,o,none⟩:Addr).add j)=some v)/\C.bR w M l cs
 |[],o,_=>⟨[],rfl,by simp,by simp,by simp[C.bR]⟩
 |c::r,o,h=>by
  obtain⟨y,hy,hy1,hd⟩:=h 0 c rfl
  obtain⟨cs,h1,h0,h2,h3⟩:=GC r (o+1) (λj c' hc=>by
   obtain⟨y,h4,h5⟩:=h (j+1) c' (by simpa using hc)
   exact⟨y,by rw[show o+1+j=o+(j+1) by omega];exact h4,h5⟩)
  refine⟨y::cs,by simp[h1],by simpa using⟨hy1,h0⟩,λj v hv=>?_,by simp only[C.bR];exact⟨y,cs,rfl,hd,h3⟩⟩;rw[eP];cases j with
  |zero=>simp at hv;subst hv;exact hy
  |succ j=>
   have:=h2 j v (by simpa using hv);rw[eP]at this;rw[show o+(j+1)=o+1+j by omega];exact this
theorem KQ{b:Nat}{M:Nat->Prop}:∀(l:List A)(o:Nat),(∀(j:Nat)(c:A),l[j]?=some c->∃y,w.cell? ⟨b,o+j,none⟩=some y/\y.oneCell'=true/\c.Den w M m ρ y)->
 ∃cs:List Value,cs.length=l.length/\(∀u∈cs,u.oneCell'=true)/\(∀(j:Nat)(v:Value),cs[j]?=some v->w.cell? ((⟨b,o,none⟩:Addr).add j)=some v)/\A.bR w M m ρ l cs
 |[],o,_=>⟨[],rfl,by simp,by simp,by simp[A.bR]⟩
 |c::r,o,h=>by
  obtain⟨y,hy,hy1,hd⟩:=h 0 c rfl
  obtain⟨cs,h1,h0,h2,h3⟩:=KQ r (o+1) (λj c' hc=>by
   obtain⟨y,h4,h5⟩:=h (j+1) c' (by simpa using hc)
   exact⟨y,by rw[show o+1+j=o+(j+1) by omega];exact h4,h5⟩)
  refine⟨y::cs,by simp[h1],by simpa using⟨hy1,h0⟩,λj v hv=>?_,by simp only[A.bR];exact⟨y,cs,rfl,hd,h3⟩⟩;rw[eP];cases j with
  |zero=>simp at hv;subst hv;exact hy
  |succ j=>
   have:=h2 j v (by simpa using hv);rw[eP]at this;rw[show o+(j+1)=o+1+j by omega];exact this
theorem Y7(h:bC M0 S0 w0 N T m ρ a w){t:TypeId}{x:A}{y:Value}(hx:x.Den w (dD M0 m ρ) m ρ y){pre:Bool}{v:A}{ups:List (Nat×R)}
 (he:jM P m t x=some (pre,v,ups))(hp:pre=true):ups=[]/\∃z,(Instr.loadAt t y).run P w=.ok z w/\v.Den w (dD M0 m ρ) m ρ z:=by
 cases x with
 |lp i off=>
  simp only[jM]at he;cases hi:m i with
  |none=>simp[hi]at he
  |some r=>
   cases r with
   |cells fz l=>
    simp only[hi]at he;simp only[A.Den]at hx;obtain⟨b,hb,rfl⟩:=eH hx hi (by simp);obtain⟨b',cs,t',e1,h1,h2,h3,h5⟩:=h.res i _ hi;rw[hb]at e1;simp at e1;subst e1;rw[A.c9]at h2;cases hg:oP P t with
    |none=>simp[hg]at he
    |some g=>
     cases g with
     |false=>
      simp only[hg,aA,aD]at he;obtain⟨rfl,rfl,rfl⟩:=he;have hp:=of_decide_eq_true hp;have hlt:off<cs.toList.length:=by rw[<-h2.1];exact hp
      refine⟨rfl,cs.toList[off],?_,?_⟩
      ·have hc:w.cell? ⟨b,off,none⟩=some cs.toList[off]:=by rw[oR h1];simp at hlt;simp[hlt]
       simp[Instr.loadAt,Instr.sureAddr,sP hg hc]
      ·rw[bF,aC hp];exact h2.2 off _ _ (aC hp) (aC hlt)
     |true=>
      simp only[hg,aA,aD]at he;obtain⟨rfl,rfl,rfl⟩:=he;have hp:=of_decide_eq_true hp;refine⟨rfl,.agg ((cs.toList.drop off).take (P.cellsOf t)).toArray,?_,?_⟩
      ·have hl:((cs.toList.drop off).take (P.cellsOf t)).length=P.cellsOf t:=by
        have:=h2.1;simp at this⊢;omega
       have hc:∀j v,((cs.toList.drop off).take (P.cellsOf t))[j]?=some v->w.cell? ((⟨b,off,none⟩:Addr).add j)=some v:=by
        intro j v hv;rw[cM]at hv;split at hv
        ·rw[eP,oR h1];simpa using hv
        ·cases hv
       simp only[Instr.loadAt,Instr.sureAddr,aV,cB,aN,sO hg hl hc]
      ·simp only[A.Den];exact⟨_,rfl,λu hu=>h5 u (dI (dJ (by simpa only using hu))),by simpa using A.mT (P.cellsOf t) (A.lL off (A.c9.2 h2))⟩
   |_=>simp[hi]at he
 |ep i es k off=>
  simp only[jM]at he;cases hi:m i with
  |none=>simp[hi]at he
  |some r=>
   cases r with
   |fW fz t' es' l=>
    simp only[hi]at he;simp only[A.Den]at hx;obtain⟨b,og,n,cap,hb,rfl⟩:=eH hx hi (by simp);cases hg:oP P t with
    |none=>simp[hg]at he
    |some g=>
     cases g with
     |false=>
      simp only[hg,aA,aD]at he;obtain⟨rfl,rfl,rfl⟩:=he;have hp:=of_decide_eq_true hp;obtain⟨rfl,hk,ho⟩:=hp;have hr:l[k]?=some (l.getD k []):=by simp[bF,aC hk]
      have hrl:(l.getD k []).length=es':=by
       obtain⟨xs,h1,h2,h3,h4,_⟩:=h.res i _ hi;exact h3 _ (c6 hr)
      obtain⟨y,hy,_,hd⟩:=TS h hi hb hr off ((l.getD k []).getD off .x) (by rw[bF (l:=l.getD k []),aC (by omega)];rfl);refine⟨rfl,y,?_,hd⟩;simp[Instr.loadAt,Instr.sureAddr,sP hg hy]
     |true=>
      simp only[hg,aA,aD]at he;obtain⟨rfl,rfl,rfl⟩:=he;have hp:=of_decide_eq_true hp;obtain⟨rfl,hk,ho⟩:=hp;have hr:l[k]?=some (l.getD k []):=by simp[bF,aC hk]
      obtain⟨xs,h1,h2,h3,h4,_⟩:=h.res i _ hi;have hrl:(l.getD k []).length=es':=h3 _ (c6 hr);have hcell:=TS h hi hb hr
      obtain⟨cs,hl,h0,hc,hd⟩:=KQ (w:=w) (m:=m) (ρ:=ρ) (b:=b) (M:=dD M0 m ρ) (((l.getD k []).drop off).take (P.cellsOf t)) (og+(k*es'+off)) (λj c hc=>by
       rw[cM]at hc;split at hc
       · rw[eA]at hc
         rw[fP,fP];exact hcell (off+j) c hc
       · cases hc)
      have hl:cs.length=P.cellsOf t:=by rw[hl,cW,l4,hrl];omega
      refine⟨rfl,.agg cs.toArray,?_,?_⟩
      ·simp only[Instr.loadAt,Instr.sureAddr,aV,cB,aN,sO hg hl hc]
      ·simp only[A.Den,C.Den];exact⟨_,rfl,h0,by simpa using hd⟩
   |_=>simp[hi]at he
 |d c=>
  cases c with
  |ip l=>
   simp only[jM]at he;simp only[A.Den,C.Den]at hx;obtain⟨b,off,rfl,hm,hlt,hat⟩:=hx;rw[C.rA]at hat;cases hg:oP P t with
   |none=>simp[hg]at he
   |some g=>
    cases g with
    |false=>
     simp only[hg,aA,aD]at he;obtain⟨rfl,rfl,rfl⟩:=he;have hp:=of_decide_eq_true hp;obtain⟨y,hy,_,hd⟩:=hat 0 (l.getD 0 default) (by rw[bF,aC hp];rfl);refine⟨rfl,y,?_,by simpa only[A.Den]using hd⟩;simp only[iE]at hy;simp[Instr.loadAt,Instr.sureAddr,sP hg hy]
    |true=>
     simp only[hg,aA,aD]at he;obtain⟨rfl,rfl,rfl⟩:=he;have hp:=of_decide_eq_true hp
     obtain⟨cs,hl,h0,hc,hd⟩:=GC (w:=w) (b:=b) (M:=dD M0 m ρ) (l.take (P.cellsOf t)) off (λj c hc=>by
      rw[cM]at hc;split at hc
      · exact hat j c hc
      · cases hc)
     have hl:cs.length=P.cellsOf t:=by rw[hl,cW];omega
     refine⟨rfl,.agg cs.toArray,?_,?_⟩
     ·simp only[Instr.loadAt,Instr.sureAddr,aV,cB,aN,sO hg hl hc]
     ·simp only[A.Den,C.Den];exact⟨_,rfl,h0,by simpa using hd⟩
  |_=>simp[jM]at he
 |_=>simp[jM]at he
end
theorem DR{α:Type}{es:Nat}:∀(l:List (List α))(lo:Nat),(∀e∈l,e.length=es)->(l.drop lo).flatten=l.flatten.drop (lo*es)
 |[],lo,_=>by simp
 |e::l,0,_=>by simp
 |e::l,lo+1,h=>by
  have he:=h e (by simp);have ih:=DR l lo (λe' h'=>h e' (by simp[h']));subst he;rw[gY,Nat.add_comm (lo*e.length),dL,List.drop_length_add_append];exact ih
theorem DS{α:Type}{es:Nat}:∀(l:List (List α))(k:Nat),(∀e∈l,e.length=es)->(l.take k).flatten=l.flatten.take (k*es)
 |[],k,_=>by simp
 |e::l,0,_=>by simp
 |e::l,k+1,h=>by
  have he:=h e (by simp);have ih:=DS l k (λe' h'=>h e' (by simp[h']));subst he;rw[gY,Nat.add_comm (k*e.length),cC,dL,dL,List.take_length_add_append,ih]
section
variable{M0 S0:Nat->Prop}{w0:World}{N:Fr}{T:Nat->A}{m:Mem}{ρ:Nat->Value}{a:Act}{w:World}{P:Program}
theorem I7{es b:Nat}{M:Nat->Prop}:∀(l:List (List C))(o:Nat)(xs:List Value),(∀e∈l,e.length=es)->C.bR w M l.flatten xs->(∀u∈xs,u.oneCell'=true)->(∀(j:Nat)(v:Value),xs[j]?=some v->w.cell? ⟨b,o+j,none⟩=some v)->C.lD w M b es o l
 |[],o,xs,_,_,_,_=>by simp only[C.lD]
 |e::r,o,xs,hl,hd,h0,hc=>by
  have he:=hl e (by simp);have hlen:=(C.c9.1 hd).1;simp only[dL]at hd hlen;have h1:=C.mT es hd;have h2:=C.lL es hd;rw[<-he,List.take_left]at h1;rw[<-he,List.drop_left]at h2;simp only[C.lD];refine⟨he,?_,?_⟩
  ·rw[C.rA];intro j c hj;have hjlt:j<e.length:=(bA.1 hj).1;have hx:j<xs.length:=by rw[<-hlen,aU];omega
   have hy:(xs.take e.length)[j]?=some xs[j]:=by rw[cM,if_pos hjlt,aC hx]
   exact⟨xs[j],hc j _ (aC hx),h0 _ (aY hx),(C.c9.1 h1).2 j c _ hj hy⟩
  ·refine I7 r (o+es) (xs.drop e.length) (λe' h'=>hl e' (by simp[h'])) h2 (λu hu=>h0 u (dI hu)) ?_;intro j v hv;rw[he]at hv;have:=hc (es+j) v (by simpa using hv);rw[fP];exact this
theorem VF{o lo k:Nat}{l:List (List C)}(h:C.lD w M b es o l):C.lD w M b es (o+lo*es) ((l.drop lo).take k):=by
 rw[C.tX]at h⊢;intro j e he;rw[cM]at he;split at he
 ·rw[eA]at he;obtain⟨h1,h2⟩:=h (lo+j) e he;exact⟨h1,by rw[fP,<-fS];exact h2⟩
 ·cases he
end
section
variable{M0 S0:Nat->Prop}{w0:World}{N:Fr}{T:Nat->A}{m:Mem}{ρ:Nat->Value}{a:Act}{w:World}{P:Program}
theorem bC.rG(h:bC M0 S0 w0 N T m ρ a w)(hlt:∀b,M0 b->b<w0.heap.size){w':World}(hk:iF (λ_=>False) w w'){j:Nat}(hj:m j=none){r':R}{h':Value}(hl:r'.live=true)
 (hb:∀b,jK h'=some b->w.heap.size<=b/\b<w'.heap.size)
 (hok:cI m (aX m j r') ρ (dW ρ j h')->dV (dD M0 m ρ) w w'->(∀b,dD M0 (aX m j r') (dW ρ j h') b->b<w.heap.size->dD M0 m ρ b)->R.Ok w' (dD M0 (aX m j r') (dW ρ j h')) (aX m j r') (dW ρ j h') h' r'):
 bC M0 S0 w0 N T (aX m j r') (dW ρ j h') a w':=by
 have h1:=h.world hk (λb _ e=>e.elim);refine h1.aI5 hj (λb hb0=>⟨.inl hb0,λe=>?_⟩) (λb hbb=>⟨.inr (hb b hbb).1,.inl (cL h.keeps.size (hb b hbb).1),(hb b hbb).2⟩) hl ?_
 ·have:=(hb b e).1;have:=hlt b hb0;have:=h.keeps.size;omega
 ·refine hok (cI.set j r' h' λe=>absurd hj e) (hk.stays λb _ e=>e.elim) ?_;rintro b (e|⟨i,r,hi,hl',hbb⟩) hlt'
  ·exact .inl e
  ·by_cases e:i=j
   ·subst e;simp[dW]at hbb;have:=(hb b hbb).1;omega
   ·exact .inr ⟨i,r,by simpa [aX,e]using hi,hl',by simpa [dW,e]using hbb⟩
theorem jF(w:World)(o:Obj):iF (λ_=>False) w (w.alloc o):=
 ⟨rfl,rfl,rfl,by simp,λb hb _=>Below.heap_alloc w o b hb⟩
theorem pU{i:Nat}{p:Prop}(h:Has m i p)(hi:qF m i=true):p:=by
 refine h.2 λe=>?_;simp[qF,e]at hi
theorem SX{i:Nat}(h:HI m i=true):qF m i=true:=by
 unfold HI at h;unfold qF;split at h<;>simp_all
theorem WD(h:bC M0 S0 w0 N T m ρ a w){i:Nat}(hi:HI m i=true):(ρ i).oneCell'=true:=by
 unfold HI at hi;split at hi
 ·cases hi
 ·cases hi
 ·cases hi
 ·cases hi
 ·rename_i r hne hnf hns hr;have hok:=h.res i r hr;cases r with
  |dead=>exact absurd rfl hne
  |cells fz l=>obtain⟨_,_,_,e,_⟩:=hok;rw[e];rfl
  |fW fz t es l=>
   obtain⟨xs,h1,_⟩:=hok;rcases h1 with⟨_,_,_,e⟩|⟨_,_,_,_,_,e,_⟩<;>rw[e]<;>rfl
  |mp fz kv st=>obtain⟨_,_,_,_,e,_⟩:=hok;rw[e];rfl
  |wL=>exact absurd rfl hns
  |fr l=>exact absurd rfl (hnf l)
  |it i2 s2 si se=>obtain⟨_,_,_,_,e,_⟩:=hok;rw[e];rfl
  |it0=>obtain⟨_,e,_⟩:=hok;rw[e];rfl
  |si s p=>obtain⟨_,e,_⟩:=hok;rw[e];rfl
  |lo _ _ _ _ _ _=>obtain⟨_,_,_,_,e,_⟩:=hok;rw[e];rfl
  |df _=>obtain⟨_,e,_⟩:=hok;rw[e];rfl
  |cu _ _ _=>obtain⟨_,e,_⟩:=hok;rw[e];rfl
  |di _ _=>obtain⟨_,_,_,_,_,_,e,_⟩:=hok;rw[e];rfl
theorem wQ(h:bC M0 S0 w0 N T m ρ a w){x:A}{y:Value}{l:List A}(hx:x.Den w (dD M0 m ρ) m ρ y)(hl:x.cells m=some l):A.bR w (dD M0 m ρ) m ρ l y.cells.toList/\∀u∈y.cells.toList,u.oneCell'=true:=by
 have one:∀{z:A},z.Den w (dD M0 m ρ) m ρ y->y.oneCell'=true->A.bR w (dD M0 m ρ) m ρ [z] y.cells.toList/\∀u∈y.cells.toList,u.oneCell'=true:=by
  intro z hz h1;have:y.cells= #[y]:=by cases y<;>simp_all[Value.cells,Value.oneCell']
  rw[this];simp only[A.bR];exact⟨⟨y,[],rfl,hz,rfl⟩,by simpa using h1⟩
 cases x with
 |d c=>
  cases c with
  |v z=>
   have hz:y=z:=by simpa [A.Den,C.Den]using hx
   subst hz;cases y<;>simp[A.cells]at hl<;>(subst hl;exact one hx rfl)
  |agg l'=>
   simp only[A.cells,aA]at hl;subst hl;simp only[A.Den,C.Den]at hx;obtain⟨vs,rfl,h0,h1⟩:=hx;exact⟨A.iO.2 h1,h0⟩
  |sl es l'=>simp only[A.cells,aA]at hl;subst hl;refine one hx ?_;simp only[A.Den,C.Den]at hx;obtain⟨_,_,rfl,_⟩:=hx;rfl
  |nl es=>simp only[A.cells,aA]at hl;subst hl;refine one hx ?_;simp only[A.Den,C.Den]at hx;subst hx;rfl
  |ip l'=>simp only[A.cells,aA]at hl;subst hl;refine one hx ?_;simp only[A.Den,C.Den]at hx;obtain⟨_,_,rfl,_⟩:=hx;rfl
  |im ks vs=>simp only[A.cells,aA]at hl;subst hl;refine one hx ?_;simp only[A.Den,C.Den]at hx;obtain⟨_,_,_,_,rfl,_⟩:=hx;rfl
  |fn f u v=>simp only[A.cells,aA]at hl;subst hl;refine one hx ?_;simp only[A.Den,C.Den]at hx;obtain⟨_,_,rfl,_⟩:=hx;rfl
  |AE t c=>simp only[A.cells,aA]at hl;subst hl;refine one hx ?_;simp only[A.Den,C.Den]at hx;obtain⟨_,rfl,_⟩:=hx;rfl
 |agg l'=>
  simp only[A.cells,aA]at hl;subst hl;simp only[A.Den]at hx;obtain⟨vs,rfl,h0,h1⟩:=hx;exact⟨h1,h0⟩
 |lp i off=>
  simp only[A.cells]at hl;split at hl
  ·rename_i hi;simp only[aA]at hl;subst hl;refine one hx ?_;simp only[A.Den]at hx;obtain⟨b,_,rfl⟩:=pU hx hi;rfl
  ·cases hl
 |h i=>
  simp only[A.cells]at hl;split at hl
  ·rename_i hi;simp only[aA]at hl;subst hl;refine one hx ?_;simp only[A.Den]at hx;rw[pU hx (SX hi)];exact WD h hi
  ·cases hl
 |ep i es k off=>
  simp only[A.cells]at hl;split at hl
  ·rename_i hi;simp only[aA]at hl;subst hl;refine one hx ?_;simp only[A.Den]at hx;obtain⟨b,_,_,_,_,rfl⟩:=pU hx hi;rfl
  ·cases hl
 |sv i lo n=>
  simp only[A.cells]at hl;split at hl
  ·rename_i hi;simp only[aA]at hl;subst hl;refine one hx ?_;simp only[A.Den]at hx;obtain⟨_,_,rfl,_⟩:=pU hx hi;rfl
  ·cases hl
 |fn f u v=>
  simp only[A.cells,aA]at hl;subst hl;refine one hx ?_;simp only[A.Den]at hx;obtain⟨_,_,rfl,_⟩:=hx;rfl
 |AE t a'=>
  simp only[A.cells,aA]at hl;subst hl;refine one hx ?_;simp only[A.Den]at hx;obtain⟨_,rfl,_⟩:=hx;rfl
 |eL l'=>simp[A.cells]at hl
 |x=>simp[A.cells]at hl
theorem aK1(h:bC M0 S0 w0 N T m ρ a w)(hlt:∀b,M0 b->b<w0.heap.size){t:TypeId}{x:A}{y:Value}{l:List A}{d:Nat}(hx:x.Den w (dD M0 m ρ) m ρ y)(hl:x.cells m=some l)(hd:m d=none):
 ∃ρ' w',(Instr.box t y).run P w=.ok (.pointer (some ⟨w.heap.size,0,none⟩)) w'/\bC M0 S0 w0 N T (aX m d (.cells false l)) ρ' a w'/\cI m (aX m d (.cells false l)) ρ ρ'/\
  (A.lp d 0).Den w' (dD M0 (aX m d (.cells false l)) ρ') (aX m d (.cells false l)) ρ' (.pointer (some ⟨w.heap.size,0,none⟩)):=by
 refine⟨dW ρ d (.pointer (some ⟨w.heap.size,0,none⟩)),w.alloc (.cells y.cells t),by simp[Instr.box,newVar,newRow],?_,cI.new _ _ hd,?_⟩
 ·refine h.rG hlt (jF w _) hd rfl (by simp[jK]) ?_;intro hO hst hm;exact⟨w.heap.size,y.cells,t,rfl,heap_alloc_new w _,A.dK hst hm hO _ _ (wQ h hx hl).1,by simp,(wQ h hx hl).2⟩
 ·simp only[A.Den];exact⟨by simp[aX],λ_=>⟨w.heap.size,by simp[dW],rfl⟩⟩
def zc(P:Program):Nat->TypeId->List C
 |0,_=>[]
 |n+1,t=>match P.underlying t with
  |some .bool=>[.v (.bool false)]
  |some (.int k)=>[.v (.int k 0)]
  |some .string=>[.v (.string ByteArray.empty)]
  |some (.pointer _)=>[.v (.pointer none)]
  |some (.slice e)=>[.nl (P.cellsOf e)]
  |some (.array k e)=>(List.replicate k (zc P n e)).flatten
  |some (.map _ _)=>[.v (.map none)]
  |some (.struct fs)=>fs.toList.flatMap λf=>zc P n f.type
  |some (.func _ _ _)=>[.v .nilFunc]
  |some (.interface _)=>[.v .nilIface]
  |_=>[]
def RE:C->Value->Bool
 |.nl _,.slice none 0 0=>true
 |.v (.int k a),.int k' b=>k==k'&&a==b
 |.v (.bool a),.bool b=>a==b
 |.v (.string a),.string b=>decide (a=b)
 |.v (.pointer none),.pointer none=>true
 |.v (.map none),.map none=>true
 |.v .nilFunc,.nilFunc=>true
 |.v .nilIface,.nilIface=>true
 |_,_=>false
def B6:List C->List Value->Bool
 |[],[]=>true
 |c::r,v::s=>RE c v&&B6 r s
 |_,_=>false
def o5(P:Program)(t:TypeId):Option (List C):=
 match P.info? t with
 |some i=>match i.zero with
  |some z=>if B6 (zc P 8 t) z.cells.toList then some (zc P 8 t)else none
  |none=>none
 |none=>none
theorem W8{c:C}{v:Value}(h:RE c v=true):c.Den w M v:=by
 unfold RE at h;split at h<;>simp_all[C.Den]
theorem O7:∀{l:List C}{vs:List Value},B6 l vs=true->∀u∈vs,u.oneCell'=true
 |[],[],_=>by simp
 |c::r,v::s,h=>by
  simp only[B6,aE]at h;have h1:v.oneCell'=true:=by
   have:=h.1;unfold RE at this;split at this<;>first|rfl|cases this
  have h2:=O7 h.2;simpa using⟨h1,h2⟩
 |[],_::_,h=>by simp[B6]at h
 |_::_,[],h=>by simp[B6]at h
theorem O6{w:World}{M:Nat->Prop}:∀{l:List C}{vs:List Value},B6 l vs=true->C.bR w M l vs
 |[],[],_=>by simp[C.bR]
 |c::r,v::s,h=>by
  simp only[B6,aE]at h;simp only[C.bR];exact⟨v,s,rfl,W8 h.1,O6 h.2⟩
 |[],_::_,h=>by simp[B6]at h
 |_::_,[],h=>by simp[B6]at h
theorem qA{l:List C}(h:o5 P t=some l)(w:World):∃z,(zeroValue t).run P w=.ok z w/\(∀w M,C.bR w M l z.cells.toList)/\(∃i,P.info? t=some i/\i.zero=some z)/\∀u∈z.cells.toList,u.oneCell'=true:=by
 unfold o5 at h;split at h
 ·rename_i i hi;split at h
  ·rename_i z hz;split at h
   ·rename_i hk;simp only[aA]at h;subst h;exact⟨z,by simp[zeroValue,typeInfo,hi,hz],λ_ _=>O6 hk,⟨i,hi,hz⟩,O7 hk⟩
   ·cases h
  ·cases h
 ·cases h
theorem aE6(h:bC M0 S0 w0 N T m ρ a w)(hlt:∀b,M0 b->b<w0.heap.size){t:TypeId}{l:List C}{d:Nat}(hl:o5 P t=some l)(hd:m d=none):
 ∃ρ' w',(Instr.alloc t true (.tuple #[])).run P w=.ok (.pointer (some ⟨w.heap.size,0,none⟩)) w'/\bC M0 S0 w0 N T (aX m d (.cells false (l.map .d))) ρ' a w'/\cI m (aX m d (.cells false (l.map .d))) ρ ρ'/\
  (A.lp d 0).Den w' (dD M0 (aX m d (.cells false (l.map .d))) ρ') (aX m d (.cells false (l.map .d))) ρ' (.pointer (some ⟨w.heap.size,0,none⟩)):=by
 obtain⟨z,hz,hd',_,h0⟩:=qA hl w;refine⟨dW ρ d (.pointer (some ⟨w.heap.size,0,none⟩)),w.alloc (.cells z.cells t),by simp[Instr.alloc,hz,newVar,newRow],?_,cI.new _ _ hd,?_⟩
 ·refine h.rG hlt (jF w _) hd rfl (by simp[jK]) ?_;intro hO hst hm;exact⟨w.heap.size,z.cells,t,rfl,heap_alloc_new w _,A.iO.2 (hd' _ _),by simp,h0⟩
 ·simp only[A.Den];exact⟨by simp[aX],λ_=>⟨w.heap.size,by simp[dW],rfl⟩⟩
end
def mM{α:Type}(l:List α)(off:Nat)(vs:List α):List α:=l.take off++(vs++l.drop (off+vs.length))
theorem AI{α:Type}(l:List α)(off:Nat)(vs:List α)(h:off+vs.length<=l.length):(mM l off vs).length=l.length:=by
 simp[mM];omega
theorem NP(vs:List Value):∀(n off:Nat)(cells:Array Value),off+n+vs.length<=cells.size->
 ((vs.zipIdx n).foldl (λcs(x:Value×Nat)=>cs.setIfInBounds (off+x.2) x.1) cells).toList=mM cells.toList (off+n) vs:=by
 induction vs with
 |nil=>intro n off cells _;simp[mM]
 |cons v r ih=>
  intro n off cells h;simp only[List.zipIdx_cons,fX];simp only[aQ]at h;rw[ih (n+1) off _ (by simp;omega)];simp only[mM,Array.toList_setIfInBounds,aQ];have hlt:off+n<cells.toList.length:=by simp;omega
  apply iQ;intro j;rcases Nat.lt_trichotomy j (off+n)with hj|hj|hj
  ·rw[bX (by simp;omega),bX (by simp;omega)];rw[cM,cM,if_pos (by omega),if_pos hj,jH (by omega)]
  ·subst hj;rw[bX (by simp;omega),cM,if_pos (by omega),List.getElem?_set_self hlt];rw[bO (by simp;omega)];have hm:min (off+n) cells.toList.length=off+n:=by omega
   simp only[cW,hm,Nat.sub_self,bW,iK]
  ·rw[bO (by simp;omega)];rw[bO (l₁:=cells.toList.take (off+n)) (by simp;omega)];simp only[cW,cE];rw[show j -min (off+(n+1)) cells.toList.length=j -(off+n)-1 by simp at hlt⊢;omega,show j -min (off+n) cells.toList.length=(j -(off+n)-1)+1 by simp at hlt⊢;omega];rw[bW,jQ];by_cases hr:j -(off+n)-1<r.length
   ·rw[bX hr,bX hr]
   ·rw[bO (by omega),bO (by omega)];rw[eA,eA,jH (by omega)];congr 1;omega
section
variable{w:World}{M:Nat->Prop}{m:Mem}{ρ:Nat->Value}
theorem A.C5{l vs:List A}{ys zs:List Value}(off:Nat)(h1:A.bR w M m ρ l ys)(h2:A.bR w M m ρ vs zs):A.bR w M m ρ (mM l off vs) (mM ys off zs):=by
 have hl:=(A.c9.1 h2).1;unfold mM;rw[hl];exact A.iH (A.mT off h1) (A.iH h2 (A.lL _ h1))
end
def LQ(P:Program)(t:TypeId):Option (List (Nat×Nat)):=
 match P.underlying t with
 |some (.struct fs)=>if fs.toList.all λf=>(P.info? f.type).isSome then some (fs.toList.map λf=>(f.offset,P.cellsOf f.type))else none
 |some (.array k e)=>if(P.info? e).isSome then some ((List.range k).map λi=>(i*P.cellsOf e,P.cellsOf e))else none
 |_=>none
def NM(pl:List (Nat×Nat)):List A->List (Nat×List A)->Option (List A)
 |cells,[]=>some cells
 |cells,(i,vs)::rest=>match pl[i]? with
  |none=>none
  |some (off,size)=>if vs.length=size/\off+size<=cells.length then NM pl (mM cells off vs) rest else none
inductive I0(w:World)(M:Nat->Prop)(m:Mem)(ρ:Nat->Value):List (Nat×List A)->List (Nat×Value)->Prop
 |nil:I0 w M m ρ [] []
 |cons {i:Nat} {l:List A} {y:Value} {r:List (Nat×List A)} {s:List (Nat×Value)} (h:A.bR w M m ρ l y.cells.toList) (h0:∀u∈y.cells.toList,u.oneCell'=true) (t:I0 w M m ρ r s):I0 w M m ρ ((i,l)::r) ((i,y)::s)
theorem NN{m:Mem}{ρ:Nat->Value}{pl:List (Nat×Nat)}{place:Nat->Option (Nat×Nat)}(hp:∀i p,pl[i]?=some p->place i=some p){ps:List (Nat×List A)}{vs:List (Nat×Value)}(hps:I0 w M m ρ ps vs):
 ∀{cells out:List A}{cs:Array Value},A.bR w M m ρ cells cs.toList->(∀u∈cs.toList,u.oneCell'=true)->NM pl cells ps=some out->∃cs',Instr.fill place cs vs=some cs'/\A.bR w M m ρ out cs'.toList/\∀u∈cs'.toList,u.oneCell'=true:=by
 induction hps with
 |nil=>
  intro cells out cs hd hcs hf;simp only[NM,aA]at hf;subst hf;exact⟨cs,rfl,hd,hcs⟩
 |cons h h0 t ih=>
  rename_i i l y r s;intro cells out cs hd hcs hf;simp only[NM]at hf;split at hf
  ·cases hf
  ·rename_i off size hpl;split at hf
   ·rename_i hc;obtain⟨hc1,hc2⟩:=hc;have hlen:=(A.c9.1 h).1;have hlen2:=(A.c9.1 hd).1;have hfold:=NP y.cells.toList 0 off cs (by simp at hlen hlen2⊢;omega);have hz:y.cells.zipIdx.foldl (λcs(x:Value×Nat)=>cs.setIfInBounds (off+x.2) x.1) cs=(y.cells.toList.zipIdx 0).foldl (λcs(x:Value×Nat)=>cs.setIfInBounds (off+x.2) x.1) cs:=by
     rw[<-Array.foldl_toList];simp
    obtain⟨cs',h1,h2⟩:=ih (cs:=y.cells.zipIdx.foldl (λcs(x:Value×Nat)=>cs.setIfInBounds (off+x.2) x.1) cs) (by
     rw[hz,hfold];exact A.C5 off hd h) (by
     rw[hz,hfold];intro u hu;simp only[mM,bN]at hu;rcases hu with hu|hu|hu
     · exact hcs u (dJ hu)
     · exact h0 u hu
     · exact hcs u (dI hu)) hf
    refine⟨cs',?_,h2⟩;simp only[Instr.fill,hp i _ hpl];rw[if_neg]
    ·exact h1
    ·simp at hlen hlen2;simp;omega
   ·cases hf
theorem B4{P:Program}{w:World}:∀(l:List Field),(∀f∈l,(P.info? f.type).isSome=true)->
 (l.mapM λ(f:Field)=>(do pure (f.offset,<-sizeOf f.type):Sem (Nat×Nat))).run P w=.ok (l.map λf=>(f.offset,P.cellsOf f.type)) w
 |[],_=>by simp[List.mapM_nil]
 |f::r,h=>by
  obtain⟨i,hi⟩:=eS.1 (h f (by simp));have ih:=B4 (P:=P) (w:=w) r (λg hg=>h g (by simp[hg]));simp only[List.mapM_cons,aV,run_sizeOf hi,aN,cB,ih,aG]
section
variable{M0 S0:Nat->Prop}{w0:World}{N:Fr}{T:Nat->A}{m:Mem}{ρ:Nat->Value}{a:Act}{w:World}{P:Program}
theorem aE7{pl:List (Nat×Nat)}{z:List C}{ps:List (Nat×List A)}{vs:List (Nat×Value)}{out:List A}(hpl:LQ P t=some pl)(hz:o5 P t=some z)(hps:I0 w M m ρ ps vs)
 (hf:NM pl (z.map .d) ps=some out):∃y,(Instr.build t vs.toArray).run P w=.ok y w/\(A.agg out).Den w M m ρ y:=by
 obtain⟨zv,hz1,hz2,⟨i,hi,hzi⟩,hz0⟩:=qA hz w;have hzd:A.bR w M m ρ (z.map .d) zv.cells.toList:=A.iO.2 (hz2 w M);unfold LQ at hpl;split at hpl
 ·rename_i fs hu;split at hpl
  ·rename_i hall;simp only[aA]at hpl;subst hpl;obtain⟨cs,h1,h2,h3⟩:=NN (place:=λ(i:Nat)=>(fs.toList.map λf=>(f.offset,P.cellsOf f.type))[i]?) (λi p h=>h) hps hzd hz0 hf;refine⟨.agg cs,?_,by simp only[A.Den];exact⟨cs,rfl,h3,h2⟩⟩;have hm:=B4 (P:=P) (w:=w) fs.toList (by simpa only[cV]using hall);have hm':(fs.mapM λ(f:Field)=>(do pure (f.offset,<-sizeOf f.type):Sem (Nat×Nat))).run P w=.ok (fs.toList.map λf=>(f.offset,P.cellsOf f.type)).toArray w:=by
    rw[<-sJ (xs:=fs),List.mapM_toArray];simp only[Sem.run_map,hm,aN,jY]
   have hplace:(λ(x:Nat)=>(fs.toList.map λf=>(f.offset,P.cellsOf f.type)).toArray[x]?)=λ(i:Nat)=>(fs.toList.map λf=>(f.offset,P.cellsOf f.type))[i]?:=by
    funext x;simp
   simp only[Instr.build,aV,hz1,aN,run_underlying hu,hm',jY,hplace,h1,cB]
  ·cases hpl
 ·rename_i k e hu;split at hpl
  ·rename_i he;simp only[aA]at hpl;subst hpl;obtain⟨ie,hie⟩:=eS.1 he
   obtain⟨cs,h1,h2,h3⟩:=NN (place:=λi=>some (i*P.cellsOf e,P.cellsOf e)) (λi p h=>by
    simp only[cK,bU]at h;obtain⟨j,h1,h2⟩:=h;have hj:j=i:=by
     have:=(bA.1 h1).2;simpa using this.symm
    rw[<-h2,hj]) hps hzd hz0 hf
   refine⟨.agg cs,?_,by simp only[A.Den];exact⟨cs,rfl,h3,h2⟩⟩;simp only[Instr.build,aV,hz1,aN,run_underlying hu,run_sizeOf hie,jY,h1,cB]
  ·cases hpl
 ·cases hpl
end
mutual
def A.hs:A->List Nat
 |.lp i _=>[i]
 |.h i=>[i]
 |.ep i _ _ _=>[i]
 |.sv i _ _=>[i]
 |.fn _ f c=>A.lQ f++A.lQ c
 |.agg l=>A.lQ l
 |.eL l=>A.lQ l
 |.AE _ a=>A.hs a
 |.d _=>[]
 |.x=>[]
def A.lQ:List A->List Nat
 |[]=>[]
 |c::r=>A.hs c++A.lQ r
end
theorem vX(m:Mem):∀(u v:List (Nat×R)),aH m (u++v)=aH (aH m u) v
 |[],v=>rfl
 |(i,r)::t,v=>by simp only[bW,aH];exact vX _ t v
section
variable{M0 S0:Nat->Prop}{w0:World}{N:Fr}{T:Nat->A}{m:Mem}{ρ:Nat->Value}{a:Act}{w:World}{P:Program}
theorem UJ(h:bC M0 S0 w0 N T m ρ a w){t:TypeId}{i off:Nat}{l vs:List A}{p:Value}{o:Operand}(hp:(A.lp i off).Den w (dD M0 m ρ) m ρ p)(hi:m i=some (.cells false l))
 (hv:(dN T o).cells m=some vs)(hn:vs.length=P.cellsOf t)(hfit:off+vs.length<=l.length)(hi':(P.info? t).isSome=true):
 ∃w',(Instr.storeAt t p (a.eval o)).run P w=.ok () w'/\bC M0 S0 w0 N T (aX m i (.cells false (mM l off vs))) ρ a w'/\cI m (aX m i (.cells false (mM l off vs))) ρ ρ:=by
 simp only[A.Den]at hp;obtain⟨b,hb,rfl⟩:=eH hp hi (by simp);obtain⟨b',cs,t',e1,h1,h2,h3,h5⟩:=h.res i _ hi;rw[hb]at e1;simp at e1;subst e1;obtain⟨hd,hone⟩:=wQ h (cU h o) hv;have hlen:=(A.c9.1 hd).1;have hlen2:=(A.c9.1 h2).1;obtain⟨ti,hti⟩:=eS.1 hi';have hrun:=run_storeCells_at P b off t' (a.eval o).cells.toList 0 cs w h1 (by simp at hlen hlen2⊢;omega) hone;simp only[iE]at hrun;refine⟨w.setRow b (cs.toList.take off++(a.eval o).cells.toList++cs.toList.drop (off+(a.eval o).cells.toList.length)).toArray,?_,?_,?_⟩
 rotate_left 2
 ·have:=cI.set (m:=m) (ρ:=ρ) i (.cells false (mM l off vs)) (ρ i) (λ_ _=>⟨by rw[hi];simp,rfl,λfz t es l' e=>by rw[hi]at e;simp at e⟩)
  rwa [jP]at this
 ·have hs:(a.eval o).cells.size=P.cellsOf t:=by rw[<-hn,hlen];simp
  simp only[Instr.storeAt,Instr.sureAddr,storeVar,aV,cB,aN,run_sizeOf hti,hs,ne_eq,not_true_eq_false,if_false];exact hrun
 ·have hk:iF (λk=>k=b) w (w.setRow b (cs.toList.take off++(a.eval o).cells.toList++cs.toList.drop (off+(a.eval o).cells.toList.length)).toArray):=
   ⟨rfl,rfl,rfl,by simp[World.setRow],λk _ hk=>setRow_other w b k _ hk⟩
  refine h.write hi rfl rfl (by simp) hk (λk _ e=>by rw[hb,e];rfl) ?_;intro hO hst hm;refine⟨b,_,t',hb,setRow_heap w b _ _ t' _ h1,?_,by simp,?_⟩
  ·have:=A.C5 off (A.dK hst hm hO _ _ h2) (A.dK hst hm hO _ _ hd);simpa [mM,bG]using this
  ·intro u hu;simp only[bN]at hu;rcases hu with(hu|hu)|hu
   ·exact h5 u (dJ hu)
   ·exact hone u hu
   ·exact h5 u (dI hu)
theorem z8{α:Type}{es:Nat}:∀(l:List (List α))(k:Nat)(r:List α),(∀e∈l,e.length=es)->k<l.length->r.length=es->(l.set k r).flatten=mM l.flatten (k*es) r
 |[],k,r,_,hk,_=>by simp at hk
 |e::l,0,r,hl,_,hr=>by
  have he:=hl e (by simp);simp only[List.set_cons_zero,dL,mM,Nat.zero_mul,fF,fD,bZ];rw[hr,<-he,List.drop_left]
 |e::l,k+1,r,hl,hk,hr=>by
  have he:=hl e (by simp);have ih:=z8 l k r (λe' h'=>hl e' (by simp[h'])) (by simpa using hk) hr;simp only[List.set_cons_succ,dL,ih,mM];rw[gY,Nat.add_comm (k*es) es,<-he,List.take_length_add_append,bG,fP,List.drop_length_add_append]
theorem aBU{α:Type}(F row vs:List α)(ke es off:Nat)(hF:ke+es<=F.length)(hrow:row.length=es)(hr:∀j,j<es->F[ke+j]?=row[j]?)(hv:off+vs.length<=es):
 mM F ke (mM row off vs)=mM F (ke+off) vs:=by
 have hsl:(mM row off vs).length=es:=by rw[AI _ _ _ (by omega),hrow]
 apply iQ;intro j;conv=>lhs;rw[mM]
 conv=>rhs;rw[mM]
 rw[hsl];rcases eQ j ke with q|q
 ·rw[bX (by simp;omega),bX (by simp;omega),cM,cM,if_pos q,if_pos (by omega)]
 ·rw[bO (by simp;omega)];have e1:j -(F.take ke).length=j -ke:=by simp;omega
  rw[e1];rcases eQ (j -ke) es with q2|q2
  ·rw[bX (by omega),mM];rcases eQ (j -ke) off with q3|q3
   ·rw[bX (by simp;omega),cM,if_pos q3,bX (by simp;omega),cM,if_pos (by omega)];rw[<-hr _ q2];congr 1;omega
   ·rw[bO (by simp;omega),bO (l₁:=F.take (ke+off)) (by simp;omega)];have e2:j -ke -(row.take off).length=j -(ke+off):=by simp;omega
    have e3:j -(F.take (ke+off)).length=j -(ke+off):=by simp;omega
    rw[e2,e3];rcases eQ (j -(ke+off)) vs.length with q4|q4
    ·rw[bX q4,bX q4]
    ·rw[bO q4,bO q4,eA,eA];rw[<-hr _ (by omega)];congr 1;omega
  ·rw[bO (by omega),bO (l₁:=F.take (ke+off)) (by simp;omega)];have e3:j -(F.take (ke+off)).length=j -(ke+off):=by simp;omega
   rw[e3,bO (by omega),eA,eA];congr 1;omega
theorem GG{e:TypeId}{size n:Nat}{g p cap:Nat}{xs vs:List Value}(h:vV w e size (.slice (some ⟨g,p,none⟩) n cap) n xs)(o:Nat)(hvs:vs≠[])(hfit:o+vs.length<=xs.length)(hone:∀u∈vs,u.oneCell'=true):
 ∃w',(storeCells ⟨g,p+o,none⟩ vs).run P w=.ok () w'/\vV w' e size (.slice (some ⟨g,p,none⟩) n cap) n (mM xs o vs)/\iF (λk=>k=g) w w':=by
 rcases h with⟨h',_⟩|⟨hxn,g',og,cap',cur,h',hb,hg,hnc,hcm,hcs,htake⟩
 ·subst h';exfalso;apply hvs;exact bL (by simp only[cS]at hfit;omega)
 ·simp only[Value.slice.injEq,aA,rX,and_true,true_and]at h';obtain⟨⟨rfl,rfl⟩,rfl⟩:=h';have hxl:p+xs.length<=cur.toList.length:=by
   have:xs.length<=(cur.toList.drop p).length:=by rw[<-htake];simp;omega
   have h2:p<=cur.size:=by omega
   simp at this⊢;omega
  have hrun:=run_storeCells_at P g (p+o) e vs 0 cur w hg (by simp at hxl⊢;omega) hone;simp only[iE]at hrun;refine⟨_,hrun,.inr ⟨by rw[AI _ _ _ hfit,hxn],g,p,cap,_,rfl,hb,setRow_heap w g cur _ e _ hg,hnc,hcm,?_,?_⟩,⟨rfl,rfl,rfl,by simp[World.setRow],λk _ hk=>setRow_other w g k _ hk⟩⟩
  ·simp at hxl;simp;omega
  ·have hn:n*size=xs.length:=hxn.symm;rw[hn];have hxj:∀j,j<xs.length->xs[j]?=cur.toList[p+j]?:=by
    intro j hj;have:=congrArg (λl=>l[j]?) htake;simp only[cM,eA]at this;rw[if_pos (by omega)]at this;exact this.symm
   simp only[c7]at hxl;apply iQ;intro j;simp only[cM,mM];split
   ·rename_i hj;rw[eA];rcases eQ j o with h1|h1
    ·rw[bG,bX (by simp;omega),bX (by simp;omega),cM,if_pos (by omega),cM,if_pos h1];exact(hxj j (by omega)).symm
    ·rw[bG,bO (by simp;omega),bO (l₁:=xs.take o) (by simp;omega)];have e1:p+j -(cur.toList.take (p+o)).length=j -o:=by simp;omega
     have e2:j -(xs.take o).length=j -o:=by simp;omega
     rw[e1,e2];rcases eQ (j -o) vs.length with h2|h2
     ·rw[bX h2,bX h2]
     ·rw[bO h2,bO h2,eA,eA,hxj _ (by omega)];congr 1;omega
   ·rename_i hj;rw[c8];simp;omega
theorem EJ{e:TypeId}{size n:Nat}{v:Value}{xs:List Value}(h:vV w e size v n xs)(hn:0<n):∃g o cap,v=.slice (some ⟨g,o,none⟩) n cap/\0<cap:=by
 rcases h with⟨_,h0,_⟩|⟨_,g,og,cap,cur,hv,hp,_⟩
 ·omega
 ·exact⟨g,og,cap,hv,hp⟩
theorem UI(h:bC M0 S0 w0 N T m ρ a w){t te:TypeId}{i es k off:Nat}{l:List (List A)}{vs:List A}{p:Value}{o:Operand}(hp:(A.ep i es k off).Den w (dD M0 m ρ) m ρ p)(hi:m i=some (.fW false te es l))
 (hv:(dN T o).cells m=some vs)(hk:k<l.length)(hn:vs.length=P.cellsOf t)(hvs:vs≠[])(hfit:off+vs.length<=es)(hi':(P.info? t).isSome=true):
 ∃w',(Instr.storeAt t p (a.eval o)).run P w=.ok () w'/\bC M0 S0 w0 N T (aX m i (.fW false te es (l.set k (mM (l.getD k []) off vs)))) ρ a w'/\cI m (aX m i (.fW false te es (l.set k (mM (l.getD k []) off vs)))) ρ ρ:=by
 simp only[A.Den]at hp;obtain⟨b,og,n,cap,hb,rfl⟩:=eH hp hi (by simp);obtain⟨hd,hone⟩:=wQ h (cU h o) hv;obtain⟨xs,g1,g2,g3,g4,g5⟩:=h.res i _ hi;have hlen:=(A.c9.1 hd).1;have hlen2:=(A.c9.1 g2).1;obtain⟨ti,hti⟩:=eS.1 hi';have hn':n=l.length/\0<cap:=by
  obtain⟨g,o',cap',hv,hp⟩:=EJ g1 (by omega);rw[hb]at hv;simp at hv;obtain⟨_,e1,e2⟩:=hv;exact⟨e1,by rw[e2];exact hp⟩
 obtain⟨rfl,hcap⟩:=hn';rw[hb]at g1;have hbound:k*es+off+(a.eval o).cells.toList.length<=xs.length:=by
  rw[<-hlen2,fI g3,<-hlen]
  calc k*es+off+vs.length<=k*es+es:=by omega
   _=(k+1)*es:=by rw[gY]
   _<=l.length*es:=fE _ hk
 obtain⟨w',hrun,hown,hkeep⟩:=GG (P:=P) g1 (k*es+off) (λe=>hvs (bL (by rw[hlen,e];rfl))) hbound hone;refine⟨w',?_,?_,?_⟩
 rotate_left 2
 ·have h2:=cI.set (m:=m) (ρ:=ρ) i (.fW false te es (l.set k (mM (l.getD k []) off vs))) (ρ i) (λ_ _=>⟨by rw[hi];simp,rfl,λfz t es' l' e=>⟨false,te,_,by rw[hi]at e;simp at e;obtain⟨_,_,e1,_⟩:=e;rw[e1],by rw[hi]at e;simp at e;obtain⟨_,_,_,e2⟩:=e;simp[<-e2]⟩⟩)
  rwa [jP]at h2
 ·have hs:(a.eval o).cells.size=P.cellsOf t:=by rw[<-hn,hlen];simp
  simp only[Instr.storeAt,Instr.sureAddr,storeVar,aV,cB,aN,run_sizeOf hti,hs,ne_eq,not_true_eq_false,if_false];exact hrun
 ·have hrow:(l.getD k []).length=es:=by
   rw[bF,aC hk];exact g3 _ (aY hk)
  have hsl:(mM (l.getD k []) off vs).length=es:=by rw[AI _ _ _ (by omega),hrow]
  refine h.write hi rfl rfl (λfz t es' l' e=>⟨false,te,_,by simp at e;obtain⟨_,_,e1,_⟩:=e;rw[e1],by simp at e;obtain⟨_,_,_,e2⟩:=e;simp[<-e2]⟩) hkeep (λc _ e=>by rw[hb,e];simp[jK];omega) ?_;intro hO hst hm;refine⟨mM xs (k*es+off) (a.eval o).cells.toList,by rw[hb];simpa using hown,?_,?_,by simp,?_⟩
  ·have hf:(l.set k (mM (l.getD k []) off vs)).flatten=mM l.flatten (k*es+off) vs:=by
    rw[z8 l k _ g3 hk hsl];have hlf:=fI g3;refine aBU _ _ _ _ es _ ?_ hrow (λj hj=>kY es l k _ j g3 (by simp[bF,aC hk]) hj) hfit;rw[hlf];calc k*es+es=(k+1)*es:=by rw[gY]
     _<=l.length*es:=fE _ hk
   rw[hf];exact A.C5 _ (A.dK hst hm hO _ _ g2) (A.dK hst hm hO _ _ hd)
  ·intro e he;rcases oI he with he|he
   ·exact g3 e he
   ·rw[he];exact hsl
  ·intro u hu;simp only[mM,bN]at hu;rcases hu with hu|hu|hu
   ·exact g5 u (dJ hu)
   ·exact hone u hu
   ·exact g5 u (dI hu)
end
end Go.Pv
