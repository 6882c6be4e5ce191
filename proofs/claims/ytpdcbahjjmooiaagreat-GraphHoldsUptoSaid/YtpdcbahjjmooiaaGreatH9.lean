import Derived.Test.YtpdcbahjjmooiaaGreatH8
import Derived.RowKit3
/- A program logic over the model, contracts of the functions that the law reaches: part 9. (Names and blanks were shortened by program.) -/
set_option linter.unusedVariables false
set_option linter.unusedSimpArgs false
set_option linter.constructorNameAsVariable false
set_option linter.unusedSectionVars false
set_option linter.deprecated false
set_option maxRecDepth 100000
set_option maxHeartbeats 8000000
open Go
namespace Go.Pv
open Go.RowKit
variable{u:List (Nat×R)}{T:Nat->A}{n:Nat}{c:Code}{g:R->R}{st:St}{r:Rt}
theorem PI{m:Tr R}:∀(f:Nat)(w:List Nat)(m1:Tr R)(l:List Nat)(m2:Tr R)(l2:List Nat),VC m f w m1 l=some (m2,l2)->(∀i r,m1.get i=some r->m.get i=some r)->(∀i r,m1.get i=some r->∀j∈r.hs,m1.get j≠none\/j∈w)->(∀i,m1.get i≠none->i∈l)->
 (∀i r,m2.get i=some r->m.get i=some r)/\(∀i r,m2.get i=some r->∀j∈r.hs,m2.get j≠none)/\(∀i,m2.get i≠none->i∈l2)/\(∀i,m1.get i≠none\/i∈w->m2.get i≠none)
 |0,w,m1,l,m2,l2,h,_,_,_=>by simp[VC]at h
 |f+1,[],m1,l,m2,l2,h,h1,h2,h3=>by
  simp only[VC,aA,aD]at h;obtain⟨rfl,rfl⟩:=h;exact⟨h1,λi r e j hj=>(h2 i r e j hj).resolve_right sM,h3,λi e=>e.resolve_right sM⟩
 |f+1,i::w,m1,l,m2,l2,h,h1,h2,h3=>by
  simp only[VC]at h;split at h
  ·rename_i q hq
   obtain⟨g1,g2,g3,g4⟩:=PI f w m1 l m2 l2 h h1 (λj r e k hk=>by
    rcases h2 j r e k hk with x|x
    · exact .inl x
    · simp only[aO]at x
      rcases x with rfl|x
      · exact .inl (by rw[hq];simp)
      · exact .inr x) h3
   refine⟨g1,g2,g3,λj e=>g4 j ?_⟩;rcases e with e|e
   ·exact .inl e
   ·simp only[aO]at e;rcases e with rfl|e
    ·exact .inl (by rw[hq];simp)
    ·exact .inr e
  ·rename_i hq;split at h
   ·rename_i r hr
    obtain⟨g1,g2,g3,g4⟩:=PI f (r.hs++w) (Tr.set fM m1 i r) (i::l) m2 l2 h (λj s e=>by
     rw[Tr.rV]at e;split at e
     · rename_i e2;subst e2;simp only[aA]at e;subst e;exact hr
     · exact h1 j s e) (λj s e k hk=>by
     rw[Tr.rV]at e⊢;split at e
     · simp only[aA]at e;subst e
       exact .inr (by simp[hk])
     · rcases h2 j s e k hk with x|x
       · split
         · exact .inl sM
         · exact .inl x
       · simp only[aO]at x
         rcases x with rfl|x
         · exact .inl sM
         · exact .inr (by simp[x])) (λj e=>by
     rw[Tr.rV]at e;split at e
     · rename_i e2;subst e2;simp
     · simp[h3 j e])
    refine⟨g1,g2,g3,λj e=>g4 j ?_⟩;rcases e with e|e
    ·exact .inl (by rw[Tr.rV];split<;>simp[e])
    ·simp only[aO]at e;rcases e with rfl|e
     ·exact .inl (by rw[Tr.rV];simp)
     ·exact .inr (by simp[e])
   ·cases h
theorem ON(T:Nat->A):∀(l:List Nat)(t:Tb)(n:Nat),(l.foldl (λt n=>Tb.set t n (T n)) t).fn n=if n∈l then T n else t.fn n
 |[],t,n=>sM
 |k::l,t,n=>by
  simp only[fX];rw[ON T l,Tb.FU];simp only[lI,aO];by_cases h:n∈l
  ·simp[h]
  ·by_cases e:k=n
   ·subst e;simp
   ·simp[h,e,Ne.symm e]
theorem HF{m1 m:Tr R}:∀{u:List (Nat×R)},P5 m1 m u=true->∀p∈u,m1.get p.1=none->m.get p.1=none
 |[],_,p,hp=>by simp at hp
 |(i,r)::u,h,p,hp=>by
  simp only[P5,aE]at h;simp only[aO]at hp;rcases hp with rfl|hp
  ·intro e;simp only at e;rw[e]at h;exact hG h.1
  ·exact HF h.2 p hp
theorem aIA{α:Type}(acc:List α){k i:Nat}(hk:acc.length=k)(hi:i<k):acc[k -1 -i]?=acc.reverse[i]?:=by
 subst hk;rw[List.getElem?_reverse hi]
theorem zU{acc:List qC}{k:Nat}(hk:acc.length=k):∀{es:List Edge}{s:Nat},kX acc k es=some s->
 (∀e∈es,Region.binds .any e=true->e.on<k)/\∀j,s.testBit j=true↔∃e∈es,Region.binds .any e=true/\(e.on=j\/∃D,acc.reverse[e.on]?=some D/\D.anc.testBit j=true)
 |[],s,h=>by
  simp only[kX,aA]at h;subst h;exact⟨λe he=>by simp at he,λj=>sM⟩
 |e::r,s,h=>by
  simp only[kX]at h;split at h
  ·cases h
  ·rename_i s' hs;obtain⟨h1,h2⟩:=zU hk hs;split at h
   ·rename_i hb;split at h
    ·rename_i cX;split at h
     ·rename_i D hD;simp only[aA]at h;subst h;rw[aIA acc hk cX]at hD;refine⟨λq hq hqb=>?_,λj=>?_⟩
      ·simp only[aO]at hq;rcases hq with rfl|hq
       ·exact cX
       ·exact h1 q hq hqb
      ·rw[Nat.testBit_or,Nat.testBit_or,Nat.testBit_two_pow,gP,gP,h2 j,aUA];constructor
       ·rintro((⟨q,hq,x⟩|x)|x)
        ·exact⟨q,by simp[hq],x⟩
        ·exact⟨e,sM,hb,.inl x⟩
        ·exact⟨e,sM,hb,.inr ⟨D,hD,x⟩⟩
       ·rintro⟨q,hq,hqb,x⟩;simp only[aO]at hq;rcases hq with rfl|hq
        ·rcases x with x|⟨D',hD',x⟩
         ·exact .inl (.inr x)
         ·rw[hD]at hD';simp only[aA]at hD';subst hD';exact .inr x
        ·exact .inl (.inl ⟨q,hq,hqb,x⟩)
     ·cases h
    ·cases h
   ·rename_i hb;simp only[aA]at h;subst h;refine⟨λq hq hqb=>?_,λj=>?_⟩
    ·simp only[aO]at hq;rcases hq with rfl|hq
     ·exact absurd hqb hb
     ·exact h1 q hq hqb
    ·rw[h2 j];constructor
     ·rintro⟨q,hq,x⟩;exact⟨q,by simp[hq],x⟩
     ·rintro⟨q,hq,hqb,x⟩;simp only[aO]at hq;rcases hq with rfl|hq
      ·exact absurd hqb hb
      ·exact⟨q,hq,hqb,x⟩
theorem tJ{F:List Nat}(h:VH u F=true):∀p∈u,p.1∉F:=by
 induction u with
 |nil=>intro p hp;simp at hp
 |cons q u ih=>
  obtain⟨i,r⟩:=q;intro p hp;simp only[VH]at h;cases hm:s9 i F with
  |true=>rw[hm]at h;cases h
  |false=>
   rw[hm]at h;simp only[aO]at hp;rcases hp with rfl|hp
   ·exact λe=>by rw[AP.2 e]at hm;cases hm
   ·exact ih h p hp
theorem rU{p q:qC}(h:qH p q=true):∀d,p.r.dst=some d->d∉q.looks/\q.r.dst≠some d:=by
 intro d e;simp only[qH,e]at h;cases hm:s9 d q.looks with
 |true=>rw[hm]at h;cases h
 |false=>
  rw[hm]at h;refine⟨λe=>(by rw[AP.2 e]at hm;exact Bool.noConfusion hm),λe2=>?_⟩;rw[e2]at h;simp at h
def QP(p q:qC):Prop:=qH p q=true/\qH q p=true/\VH p.r.u q.F=true/\VH q.r.u p.F=true
theorem G3{p:qC}:∀{l:List qC},B9 p l=true->∀i q,l.reverse[i]?=some q->p.anc.testBit i=false->QP p q
 |[],_,i,q,hq,_=>by simp at hq
 |q0::r,h,i,q,hq,hb=>by
  simp only[B9,aE]at h;rw[fC,iJ]at hq;split at hq
  ·exact G3 h.2 i q hq hb
  ·rename_i cX;have hi:i=r.length:=by
    rcases eQ (i -r.reverse.length) 1 with x|x
    ·simp at cX x;omega
    ·rw[c8 (by simpa using x)]at hq;cases hq
   subst hi;simp at hq;subst hq;have h1:=h.1;rw[hb]at h1;simp only[cond_false,aE]at h1;exact⟨h1.1,h1.2.1,h1.2.2.1,h1.2.2.2⟩
theorem oQ:∀{acc:List qC},nO acc=true->∀i j q p,i<j->acc.reverse[i]?=some q->acc.reverse[j]?=some p->p.anc.testBit i=false->QP p q
 |[],_,i,j,q,p,_,hq,_,_=>by simp at hq
 |p0::r,h,i,j,q,p,hij,hq,hp,hb=>by
  simp only[nO,aE]at h;rw[fC,iJ]at hp hq;split at hp
  ·rename_i hj;rw[aUF oM]at hq;exact oQ h.2 i j q p hij hq hp hb
  ·rename_i cX;have hi:j=r.length:=by
    rcases eQ (j -r.reverse.length) 1 with x|x
    ·simp at cX x;omega
    ·rw[c8 (by simpa using x)]at hp;cases hp
   subst hi;simp at hp;subst hp;rw[aUF zM]at hq;exact G3 h.1 i q hq hb
theorem HX{ops:Array Oper}{T':Nat->A}{o:Oper}(h:∀x∈o.looksAt ops,T x=T' x):kO ops T o=kO ops T' o:=by
 unfold kO;cases hg:o.guard with
 |none=>rfl
 |some p=>
  obtain⟨j,want⟩:=p;simp only;cases hd:(ops[j]?).bind (·.dst)with
  |none=>rfl
  |some d=>
   simp only;rw[h d (by unfold Oper.looksAt;rw[hg];simp[hd])]
theorem y7{T':Nat->A}{x:Operand}(h:∀n,x=.tmp n->T n=T' n):dN T x=dN T' x:=by
 cases x<;>simp only[dN]
 rename_i t;exact h t rfl
theorem VQ{x:Operand}{i:Nat}(h:i∈(dN T x).hs):∃n,x=.tmp n/\i∈(T n).hs:=by
 cases x with
 |tmp t=>exact⟨t,rfl,h⟩
 |_=>simp[dN,A.hs,A.lQ]at h
theorem mX{ops:Array Oper}{o:Oper}{x:Operand}(hx:x∈o.op.operands.toList)(e:x=.tmp n):n∈o.looksAt ops:=by
 unfold Oper.looksAt;rw[bN];left;rw[List.mem_filterMap];exact⟨x,hx,by rw[e]⟩
structure Good(P:Program)(n:Nat)(ops:Array Oper)(T:Nat->A)(m:Mem)(o:Oper)(D:qC):Prop where
 dst:D.r.dst=o.dst
 lt:∀d,o.dst=some d->d<n
 looks:D.looks=o.looksAt ops
 inF:∀p∈D.r.u,p.1∈D.F
 gA:(kO ops T o=some false/\D.r.v=.eL []/\D.r.u=[])\/(kO ops T o=some true/\∀(T':Nat->A)(m':Mem),(∀x∈o.looksAt ops,T' x=T x)->(∀i∈D.F,m' i=m i)->(∀p∈D.r.u,m p.1=none->m' p.1=none)->qT P o T' m' D.r.v (aH m' D.r.u))
theorem GM(m:Mem):∀(l:List Rec)(r:Rec),kZ m (l++[r])=aH (kZ m l) r.u
 |[],r=>rfl
 |q::l,r=>by simp only[bW,kZ];exact GM _ l r
theorem GN(T:Nat->A):∀(l:List Rec)(r:Rec),mK T (l++[r])=lI (mK T l) r.dst r.v
 |[],r=>rfl
 |q::l,r=>by simp only[bW,mK];exact GN _ l r
section
variable{P:Program}{H:Hd}{n:Nat}{ops:Array Oper}{T0:Nat->A}{m0:Mem}
end
structure sQ(P:Program)(n:Nat)(ops:Array Oper)(T0:Nat->A)(m0:Mem)(acc:List qC)(T:Nat->A)(m:Mem):Prop where
 T:T=mK T0 (acc.reverse.map (·.r))
 m:m=kZ m0 (acc.reverse.map (·.r))
 gA:∀i o D,ops[i]?=some o->acc.reverse[i]?=some D->Good P n ops (mK T0 ((acc.reverse.map (·.r)).take i)) (kZ m0 ((acc.reverse.map (·.r)).take i)) o D
 down:∀i o D,ops[i]?=some o->acc.reverse[i]?=some D->(∀e∈o.after,Region.binds .any e=true->e.on<i)/\∀j,D.anc.testBit j=true↔∃e∈o.after,Region.binds .any e=true/\(e.on=j\/∃D',acc.reverse[e.on]?=some D'/\D'.anc.testBit j=true)
section
variable{P:Program}{n:Nat}{ops:Array Oper}{T0:Nat->A}{m0:Mem}
theorem sQ.push{acc:List qC}{T':Nat->A}{m m':Mem}(h:sQ P n ops T0 m0 acc T m){o:Oper}{D:qC}(ho:ops[acc.length]?=some o)(hT:T'=lI T D.r.dst D.r.v)(hm:m'=aH m D.r.u)
 (hg:Good P n ops T m o D){an:Nat}(han:kX acc acc.length o.after.toList=some an)(hD:D.anc=an):sQ P n ops T0 m0 (D::acc) T' m':=by
 have e1:((D::acc).reverse.map (·.r))=acc.reverse.map (·.r)++[D.r]:=sM;have hlen:(acc.reverse.map (·.r)).length=acc.length:=sM;obtain⟨q1,q2⟩:=zU rfl han;have aXT:∀i,(D::acc).reverse[i]?=if i<acc.length then acc.reverse[i]? else if i=acc.length then some D else none:=by
  intro i;rw[fC,iJ];by_cases hi:i<acc.length
  ·simp[hi]
  ·simp only[List.length_reverse,hi,if_false];by_cases e:i=acc.length
   ·subst e;simp
   ·have:1<=i -acc.length:=oM;rw[c8 (by simpa using this)];simp[e]
 refine⟨by rw[hT,e1,GN,h.T],by rw[hm,e1,GM,h.m],?_,?_⟩
 ·intro i o' D' VV hD';rw[aXT]at hD';rw[e1];by_cases hi:i<acc.length
  ·rw[aUF hi]at hD';rw[jJ oM];exact h.gA i o' D' VV hD'
  ·rw[aT7 hi]at hD';by_cases e:i=acc.length
   ·subst e;simp only[if_true,aA]at hD';subst hD';rw[ho]at VV;simp only[aA]at VV;subst VV;rw[jJ oM,aI oM,<-h.T,<-h.m];exact hg
   ·rw[aT7 e]at hD';cases hD'
 ·intro i o' D' VV hD';rw[aXT]at hD';have hup:∀{k:Nat}{D2:qC},acc.reverse[k]?=some D2->(D::acc).reverse[k]?=some D2:=by
   intro k D2 hk;have:=(bA.1 hk).1;rw[aXT,aUF (by simpa using this)];exact hk
  by_cases hi:i<acc.length
  ·rw[aUF hi]at hD';obtain⟨g1,g2⟩:=h.down i o' D' VV hD';refine⟨g1,λj=>?_⟩;rw[g2 j];constructor
   ·rintro⟨e,he,hb,x⟩;exact⟨e,he,hb,x.imp id λ⟨D2,k1,k2⟩=>⟨D2,hup k1,k2⟩⟩
   ·rintro⟨e,he,hb,x⟩;refine⟨e,he,hb,x.imp id λ⟨D2,k1,k2⟩=>⟨D2,?_,k2⟩⟩;have:=g1 e he hb;rw[aXT,aUF oM]at k1;exact k1
  ·rw[aT7 hi]at hD';by_cases e:i=acc.length
   ·subst e;simp only[if_true,aA]at hD';subst hD';rw[ho]at VV;simp only[aA]at VV;subst VV;refine⟨λe he hb=>q1 e (by simpa using he) hb,λj=>?_⟩;rw[hD,q2 j];constructor
    ·rintro⟨e,he,hb,x⟩;exact⟨e,by simpa using he,hb,x.imp id λ⟨D2,k1,k2⟩=>⟨D2,hup k1,k2⟩⟩
    ·rintro⟨e,he,hb,x⟩;refine⟨e,by simpa using he,hb,x.imp id λ⟨D2,k1,k2⟩=>⟨D2,?_,k2⟩⟩;have:=q1 e (by simpa using he) hb;rw[aXT,aUF this]at k1;exact k1
   ·rw[aT7 e]at hD';cases hD'
theorem NC(hm:P.follows .mixedOrders=true){rd:Bool}{id:Nat}{ds:List DA}{acc:List qC}{T:Nat->A}{m:Mem}(g1:sQ P n ops T0 m0 acc T m)(hlen:acc.length=ops.size)(hap:nO acc=true){Post:qU}(aYH:Post .nm T m ds):
 eU P rd n (.region id ops true) T0 m0 ds Post:=by
 let recs:=acc.reverse.map (·.r);let anc:Nat->Nat->Bool:=λi j=>match acc.reverse[i]? with
  |some D=>D.anc.testBit j
  |none=>false
 let F:Nat->Nat->Prop:=λk i=>∃D,acc.reverse[k]?=some D/\i∈D.F;have aXZ:∀{i:Nat}{r:Rec},recs[i]?=some r->∃D,acc.reverse[i]?=some D/\D.r=r:=by
  intro i r hr;simp only[recs,cK,bU]at hr;exact hr
 have aXQ:∀{i:Nat}{D:qC},acc.reverse[i]?=some D->∀j,anc i j=D.anc.testBit j:=by
  intro i D hD j;simp only[anc,hD]
 have aYL:∀{i:Nat}{o:Oper}{D:qC},ops[i]?=some o->acc.reverse[i]?=some D->∀j,D.anc.testBit j=true->j<i:=by
  intro i;induction i using Nat.strongRecOn with
  |_ i ih=>
   intro o D ho hD j hj;obtain⟨k1,k2⟩:=g1.down i o D ho hD;obtain⟨e,he,hb,x⟩:=(k2 j).1 hj;have cX:=k1 e he hb;rcases x with rfl|⟨D',hD',x⟩
   ·exact cX
   ·have hio:i<ops.size:=(aL.1 ho).1;exact Nat.lt_trans (ih e.on cX (cF oM) hD' j x) cX
 have aYV:∀(i j:Nat)(Di Dj:qC),i≠j->acc.reverse[i]?=some Di->acc.reverse[j]?=some Dj->anc i j=false->anc j i=false->QP Di Dj:=by
  intro i j Di Dj hZ hi hj h1 h2;rw[aXQ hi]at h1;rw[aXQ hj]at h2;rcases u4 hZ with cX|cX
  ·obtain⟨a,b,c,d⟩:=oQ hap i j Di Dj cX hi hj h2;exact⟨b,a,d,c⟩
  ·exact oQ hap j i Dj Di cX hj hi h1
 let Rq:Nat->Mem->Prop:=λ_ _=>True;have mS:RL P ops recs anc F Rq n T0 m0:=by
  have aYB:∀k,nM (λi=>decide (i<k)) 0 recs=recs.take k:=by
   have:∀(l:List Rec)(s k:Nat),nM (λi=>decide (i<s+k)) s l=l.take k:=by
    intro l;induction l with
    |nil=>intro s k;simp[nM]
    |cons r l ih=>
     intro s k;cases k with
     |zero=>
      simp only[nM,iE,Nat.lt_irrefl,decide_false,bY,if_false,fD];exact sel_none' l (s+1) (λi=>decide (i<s)) (λi hi=>zM)
     |succ k=>
      simp only[nM,cC];rw[aUF sM];rw[show s+(k+1)=s+1+k by omega,ih (s+1) k]
   intro k;have:=this recs 0 k;simpa using this
  have hTk:∀k o D,ops[k]?=some o->acc.reverse[k]?=some D->(∀x∈o.looksAt ops,mK T0 (recs.take k) x=mK T0 (nM (anc k) 0 recs) x)/\∀i∈D.F,kZ m0 (recs.take k) i=kZ m0 (nM (anc k) 0 recs) i:=by
   intro k o D ho hD;have hg:=g1.gA k o D ho hD;have aYD:∀i q,recs[i]?=some q->(decide (0+i<k))≠anc k (0+i)->∃Di,acc.reverse[i]?=some Di/\Di.r=q/\QP Di D:=by
    intro i q hq hZ;obtain⟨Di,hDi,rfl⟩:=aXZ hq;rw[fF]at hZ;have cX:i<k/\anc k i=false:=by
     cases h2:anc k i with
     |true=>
      rw[h2]at hZ;have:=aYL ho hD i (by rw[<-aXQ hD];exact h2);simp[this]at hZ
     |false=>
      rw[h2]at hZ;simp at hZ;exact⟨hZ,rfl⟩
    refine⟨Di,hDi,rfl,aYV i k Di D oM hDi hD ?_ cX.2⟩;cases h3:anc i k with
    |false=>rfl
    |true=>
     have hio:i<ops.size:=by have:=(bA.1 hDi).1;simp at this;omega
     have:=aYL (cF hio) hDi k (by rw[<-aXQ hDi];exact h3);omega
   refine⟨λx hx=>?_,λi hi=>?_⟩
   ·rw[<-aYB k];refine pI recs 0 _ _ (λi q hq hZ e=>?_) rfl;obtain⟨Di,_,rfl,hA⟩:=aYD i q hq hZ;have:=(rU hA.1 x e).1;rw[hg.looks]at this;exact this hx
   ·rw[<-aYB k];refine nZ recs 0 _ _ (λj q hq hZ p hp e=>?_) rfl;obtain⟨Dj,_,rfl,hA⟩:=aYD j q hq hZ;exact tJ hA.2.2.1 p hp (e▸hi)
  refine⟨by simp[recs,hlen],?_,?_,?_,?_,?_,?_,?_,?_⟩
  ·intro k o r ho hr;obtain⟨D,hD,rfl⟩:=aXZ hr;have hg:=g1.gA k o D ho hD;exact⟨hg.dst,hg.lt⟩
  ·intro k o r ho hr;obtain⟨D,hD,rfl⟩:=aXZ hr;have hg:=g1.gA k o D ho hD;obtain⟨q1,q2⟩:=hTk k o D ho hD;have hwc:kO ops (mK T0 ((acc.reverse.map (·.r)).take k)) o=kO ops (mK T0 (nM (anc k) 0 recs)) o:=HX q1;rcases hg.gA with⟨x,y,z⟩|⟨x,y⟩
   ·exact .inl ⟨hwc▸x,y,z⟩
   ·refine .inr ⟨hwc▸x,λT' m' hT' zI hrq hfr=>y T' m' (λt ht=>(hT' t ht).trans (q1 t ht).symm) (λi hi=>(zI i ⟨D,hD,hi⟩).trans (q2 i hi).symm) (λp hp e=>hfr p hp ((q2 p.1 (hg.inF p hp))▸e))⟩
  ·intro k o X ho hXk aYD;trivial
  ·intro k o j b ho hg d hd;unfold Oper.looksAt;rw[hg];simp[hd]
  ·intro k r hr p hp _;obtain⟨D,hD,rfl⟩:=aXZ hr;have hio:k<ops.size:=by have:=(bA.1 hD).1;simp at this;omega
   exact⟨D,hD,(g1.gA k _ D (cF hio) hD).inF p hp⟩
  ·intro i j p q o hZ hp hq ho h1 h2;obtain⟨Di,hDi,rfl⟩:=aXZ hp;obtain⟨Dj,hDj,rfl⟩:=aXZ hq;have hA:=aYV i j Di Dj hZ hDi hDj h1 h2;have hg:=g1.gA j o Dj ho hDj;refine⟨λd e=>?_,λx hx=>⟨?_,λy hy e=>?_⟩⟩
   ·have:=rU hA.1 d e;rw[hg.looks]at this;exact this
   ·rintro⟨D,hD,hin⟩;rw[hDj]at hD;simp only[aA]at hD;subst hD;exact tJ hA.2.2.1 x hx hin
   ·exact tJ hA.2.2.1 x hx (e▸hg.inF y hy)
  ·intro k o ho e he hb;have hk:k<acc.reverse.length:=by
    have:=(aL.1 ho).1;simp;omega
   exact(g1.down k o _ ho (aC hk)).1 e he hb
  ·intro k o j ho hj;have hk:k<acc.reverse.length:=by
    have:=(aL.1 ho).1;simp;omega
   have hD:=aC hk;rw[aXQ hD]at hj;obtain⟨e,he,hb,x⟩:=((g1.down k o _ ho hD).2 j).1 hj;refine⟨e,he,hb,x.imp (λq=>q) λ⟨D',hD',y⟩=>?_⟩;rw[aXQ hD'];exact y
 refine eU.draw hm mS ?_;rw[<-g1.T,<-g1.m];exact aYH
where sel_none':∀(l:List Rec)(s:Nat)(X:Nat->Bool),(∀i,s<=i+1->i+1<=i+1->s<=i->X i=false)->nM X s l=[]
 |[],_,_,_=>rfl
 |r::l,s,X,h=>by
  simp only[nM];rw[h s oM (bT _) (bT _)];simp only[bY,if_false];exact sel_none' l (s+1) X λi a b c=>h i oM b oM
end
section
variable{P:Program}{H:Hd}{n:Nat}{ops:Array Oper}{T0:Nat->A}{m0:Mem}
theorem X2(hH:FB P H):∀(l:List Oper)(acc:List qC)(st:St)(nx:Nat)(acc':List qC)(st':St)(nx':Nat),ops.toList.drop acc.length=l->ML P H n ops l acc.length acc st nx=some (acc',st',nx')->sQ P n ops T0 m0 acc st.T.fn st.m.get->Inv st->
 sQ P n ops T0 m0 acc' st'.T.fn st'.m.get/\acc'.length=acc.length+l.length/\Inv st'/\st'.b=st.b
 |[],acc,st,nx,acc',st',nx',hk,h,hi,hI=>by
  simp only[ML,aA,aD]at h;obtain⟨rfl,rfl,_⟩:=h;exact⟨hi,sM,hI,rfl⟩
 |o::r,acc,st,nx,acc',st',nx',hk,h,hi,hI=>by
  have QS:ops[acc.length]?=some o:=by
   have:ops.toList[acc.length]?=some o:=by
    have:=congrArg List.head? hk;simpa [pA]using this
   simpa using this
  have hkr:ops.toList.drop (acc.length+1)=r:=by
   have:(ops.toList.drop acc.length).drop 1=r:=by rw[hk];rfl
   simpa [lY]using this
  have step:∀(D:qC)(an nx1:Nat),kX acc acc.length o.after.toList=some an->D.anc=an->D.r.dst=o.dst->Good P n ops st.T.fn st.m.get o D->ML P H n ops r (acc.length+1) (D::acc) (st.O0 o.dst D.r.v D.r.u) nx1=some (acc',st',nx')->
   sQ P n ops T0 m0 acc' st'.T.fn st'.m.get/\acc'.length=acc.length+(o::r).length/\Inv st'/\st'.b=st.b:=by
   intro D an nx1 han hD aXY hg hev;have hp:=hi.push (T':=(st.O0 o.dst D.r.v D.r.u).T.fn) (m':=(st.O0 o.dst D.r.v D.r.u).m.get) (D:=D) QS (by simp only[St.BM,Tb.VU,aXY]) (by simp only[St.BM,Tr.nV]) hg han hD;obtain⟨g1,g2,g3,g4⟩:=X2 hH r (D::acc) _ nx1 acc' st' nx' hkr hev hp (hI.O0 _ _ _);exact⟨g1,by rw[g2];simp;omega,g3,g4.trans (St.aJD _ _ _ _)⟩
  simp only[ML,St.go_eq]at h;split at h
  ·rename_i hd;have cX:=nS hd;split at h
   ·cases h
   ·rename_i an han;split at h
    ·rename_i hw;exact step _ an _ han rfl rfl ⟨rfl,cX,rfl,sM,.inl ⟨hw,rfl,rfl⟩⟩ h
    ·rename_i hw;split at h
     ·rename_i v hpu;refine step ⟨⟨o.dst,v,[]⟩,o.looksAt ops,[],an⟩ an _ han rfl rfl ⟨rfl,cX,rfl,sM,.inr ⟨hw,λT' m' hT' _ _=>?_⟩⟩ h;have a2J:aEN P T' o=some v:=by
       rw[<-hpu];have ev:∀x∈o.op.operands.toList,dN T' x=dN st.T.fn x:=λx hx=>y7 λn e=>hT' n (mX hx e);unfold aEN;cases ho:o.op with
       |move x=>simp only[ev x (by simp[ho,Op.operands])]
       |assign x=>simp only[ev x (by simp[ho,Op.operands])]
       |pick c a b=>simp only[ev c (by simp[ho,Op.operands]),ev a (by simp[ho,Op.operands]),ev b (by simp[ho,Op.operands])]
       |binOp op t x y yt=>simp only[ev x (by simp[ho,Op.operands]),ev y (by simp[ho,Op.operands])]
       |unOp op t x=>simp only[ev x (by simp[ho,Op.operands])]
       |extract x i=>simp only[ev x (by simp[ho,Op.operands])]
       |field t x f=>simp only[ev x (by simp[ho,Op.operands])]
       |_=>rfl
      exact qT.aKI (d:=0) (aEO a2J m') rfl
     ·cases rQ:shallow o with
      |true=>
       rw[rQ]at h;simp only[cond_true]at h;split at h
       ·rename_i v u he;refine step ⟨⟨o.dst,v,u⟩,o.looksAt ops,nx::(u.map (·.1)++(o.looksAt ops).flatMap λt=>(st.T.fn t).hs),an⟩ an _ han rfl rfl ⟨rfl,cX,rfl,λp hp=>by simp;exact .inr (.inl ⟨p.2,hp⟩),.inr ⟨hw,λT' m' hT' zI _=>?_⟩⟩ h;have hag:MB o st.T.fn T' st.m.get m':=by
         refine⟨λx hx=>y7 λn e=>(hT' n (mX hx e)).symm,λx hx i hi=>?_⟩;obtain⟨t,e,CL⟩:=VQ hi;refine(zI i ?_).symm;simp only[aO,bN,rP];exact .inr (.inr ⟨t,mX hx e,CL⟩)
        have aYX:=FO (P:=P) (d:=nx) hag (zI nx sM).symm rQ;rw[he]at aYX;exact qT.sD aYX.symm rfl
       ·cases h
      |false=>
       rw[rQ]at h;simp only[cond_false]at h;split at h
       ·rename_i m1 l n0;obtain⟨c1,c2,c3,c4⟩:=PI _ _ _ _ _ _ n0 (by intro i r e;simp[Tr.get_nil]at e) (by intro i r e;simp[Tr.get_nil]at e) (by intro i e;simp[Tr.get_nil]at e);split at h
        ·rename_i v u nx1 he;split at h
         ·rename_i hfr;refine step ⟨⟨o.dst,v,u⟩,o.looksAt ops,u.map (·.1)++l,an⟩ an _ han rfl rfl ⟨rfl,cX,rfl,λp hp=>by simp;exact .inl ⟨p.2,hp⟩,.inr ⟨hw,λT' m' hT' zI aXW=>?_⟩⟩ h;have I5:=X3 hH he;have hOT:qT P o (WN st.T.fn (o.looksAt ops)).fn m1.get v (aH m1.get u):=by
           intro ro N M0 S0 w0 ρ a w h cX next Q hn
           refine I5 ro N M0 S0 w0 ρ a w h cX next Q ?_
           intro u' y w' ρ' hu' h1 h2;have hu':u'=(.ok v,u):=by simpa using hu'
           subst hu';exact⟨λv' e h3=>by simp only[Rt.ok.injEq]at e;subst e;exact hn y w' ρ' h1 h2 h3,λv' e=>by cases e⟩
          have hr:=ON st.T.fn (o.looksAt ops) Tb.nil;refine hOT.frame (λk=>?_) (λi r e=>?_) c2 (λp hp e=>?_)
          ·unfold WN;rw[hr k];by_cases hk:k∈o.looksAt ops
           ·rw[aUF hk];refine .inr ⟨(hT' k hk).symm,λi hi=>c4 i (.inr ?_)⟩;rw[hT' k hk]at hi;exact rP.2 ⟨k,hk,hi⟩
           ·rw[aT7 hk];exact .inl (Tb.aCX _)
          ·rw[zI i (by simp only[bN];exact .inr (c3 i (by rw[e];simp)))];exact c1 i r e
          ·exact aXW p hp (HF hfr p hp e)
         ·cases h
        ·cases h
       ·cases h
    ·cases h
  ·cases h
theorem Z2(hm:P.follows .mixedOrders=true)(hH:FB P H){rd:Bool}{id:Nat}{ds:List DA}{st:St}{nx:Nat}{outs:List Oc}(h:aJG P H n ops ds st nx=some outs)(hI:Inv st):
 eU P rd n (.region id ops true) st.T.fn st.m.get ds (HL outs)/\∀o∈outs,Inv o.2.1/\o.2.1.b=st.b:=by
 unfold aJG at h;split at h
 ·rename_i acc st' nx' he;split at h
  ·rename_i hap;simp only[aA]at h;subst h;have he':ML P H n ops ops.toList ([]:List qC).length [] st nx=some (acc,st',nx'):=he;obtain⟨g1,g2,g3,g4⟩:=X2 (T0:=st.T.fn) (m0:=st.m.get) hH ops.toList [] st nx acc st' nx' sM he' ⟨rfl,rfl,λi o D _ hD=>by simp at hD,λi o D _ hD=>by simp at hD⟩ hI;exact⟨NC hm g1 (by simpa using g2) hap ⟨_,aR.2 rfl,rfl,rfl,rfl,rfl⟩,λo ho=>by simp only[aR]at ho;subst ho;exact⟨g3,g4⟩⟩
  ·cases h
 ·cases h
end
theorem jE{P:Program}{b:Frame}{a:Act}{k:List Item}{cs:List Frame}{w:World}:step P (lone (b.atR a (.code (.scope c)::k)) cs w)=.next (lone (b.atR a (.code c::.inScope c::k)) cs w):=
 step_lone_go (by simp[stepG,stepG.exec,Frame.atR])
theorem AY{P:Program}{b:Frame}{a:Act}{k:List Item}{cs:List Frame}{w:World}:step P (lone (b.atR a (.inScope c::k)) cs w)=.next (lone (b.atR a k) cs w):=
 step_lone_go (by simp[stepG,stepG.exec,Frame.atR])
theorem eU.scope{P:Program}{rd:Bool}{n:Nat}{T:Nat->A}{m:Mem}{ds:List DA}{Post:qU}{c:Code}(h:eU P rd n c T m ds Post):eU P rd n (.scope c) T m ds Post:=by
 intro ro M0 S0 w0 ρ a w wB hs cX Q hQ;have h1:=h ro M0 S0 w0 ρ a w wB hs cX (λe a' w'=>(∀l,e≠.goto l)/\e≠.outgrown/\Q e a' w') (λex e T' m' ds' ρ' a' w' hp hs' hO hd=>⟨λl=>by cases ex<;>first|(simp only[Ex.Den]at hd;rw[hd];simp)|(obtain⟨y,hd,_⟩:=hd;rw[hd];simp),by cases ex<;>first|(simp only[Ex.Den]at hd;rw[hd];simp)|(obtain⟨y,hd,_⟩:=hd;rw[hd];simp),hQ ex e T' m' ds' ρ' a' w' hp hs' hO hd⟩);intro b k cs hrb hb hr;have h0:(lone (b.atR a (.code (.scope c)::k)) cs w).fenced P (FW ro):=fenced_calm hb hr rfl;obtain⟨e,a₁,w₁,⟨hg,ho,hq⟩,aWS⟩:=h1 b (.inScope c::k) cs hrb hb hr;have hx:∀id,exitTo id (.inScope c::k)=exitTo id k:=λid=>by simp[exitTo]
 cases e with
 |normal=>exact⟨.normal,a₁,w₁,hq,.head h0 jE (StepsIn.trans aWS (.one (fenced_calm hb hr rfl) AY))⟩
 |exit id=>exact⟨_,a₁,w₁,hq,λk' hk=>.head h0 jE (aWS.1 k' (by rw[hx];exact hk)),λhr' hk=>let⟨k₁,h1,h2⟩:=aWS.2 hr' (by rw[hx];exact hk);⟨k₁,h1,.head h0 jE h2⟩⟩
 |goto l=>exact absurd rfl (hg l)
 |ret=>exact⟨_,a₁,w₁,hq,.of_steps (.one h0 jE) aWS⟩
 |panic ch=>exact⟨_,a₁,w₁,hq,.of_steps (.one h0 jE) aWS⟩
 |outgrown=>exact absurd rfl ho
section
variable{P:Program}{H:Hd}
theorem aAB{a:A}{gf:FuncId}{us vs:List A}(h:aJ2 a=some (gf,us,vs)):a=.fn (.func gf) us vs\/∃cu cv,a=.d (.fn (.func gf) cu cv)/\us=cu.map A.d/\vs=cv.map A.d:=by
 unfold aJ2 at h;split at h
 ·simp only[aA,aD]at h;obtain⟨rfl,rfl,rfl⟩:=h;exact .inl rfl
 ·simp only[aA,aD]at h;obtain⟨rfl,rfl,rfl⟩:=h;exact .inr ⟨_,_,rfl,rfl,rfl⟩
 ·cases h
theorem oU(f:Nat)(t:Tr R)(i:Nat)(r:R):(Tr.set f t i r).get=aX t.get i r:=by
 funext k;rw[Tr.rV];rfl
theorem aG4(hH:FB P H){n:Nat}{g:Operand}{ps:Array Tmp}{asg bod:Code}{st:St}{ds:List DA}{nx:Nat}{outs:List Oc}(h:aG3 H n g ps asg bod st ds nx=some outs)(hI:Inv st):
 eU P false n (.rangeFunc g ps asg bod) st.T.fn st.m.get ds (HL outs)/\∀o∈outs,Inv o.2.1/\o.2.1.b=st.b:=by
 unfold aG3 at h;split at h
 ·rename_i gf us vs hf;split at h
  ·rename_i hfr;simp only[aE]at hfr;have hfi:=hG hfr.1;have hfj:=hG hfr.2;split at h
   ·rename_i v u nx' he;simp only at h;split at h
    ·rename_i ls pe ts' ps' asg' bod' hlo;split at h
     ·cases h
     ·rename_i hb;obtain⟨r,u',e1,aVN⟩:=hH.fn _ _ _ _ _ _ he;simp only[iX,aD,and_true]at e1;obtain⟨rfl,rfl⟩:=e1;have hInv:∀i q,st.b.get i=some q->i∉KF st.b u st.log->(Tr.set fM (Tr.MW fM (Tr.set fM (Tr.set fM st.m nx (.df false)) (nx+1) (.lo .ready none (mY n st.T.fn) ps asg bod)) u) (nx+1) (.lo .exhausted pe ts' ps' asg' bod')).get i=some q:=by
       intro i q hbi hl;have hm:=hI i q hbi λe=>hl (A8 _ _ _ _ e);have h1:i≠nx:=by rintro rfl;rw[hfi]at hm;cases hm
       have h2:i≠nx+1:=by rintro rfl;rw[hfj]at hm;cases hm
       have h3:∀p∈u,p.1≠i:=by rintro p hp rfl;exact hl (KG _ _ _ p hp (by rw[hbi];simp))
       rw[oU,aX,aT7 h2,Tr.nV,n9 u _ h3,oU,aX,aT7 h2,oU,aX,aT7 h1];exact hm
      have a1O:∀(o:Oc),o∈outs->Inv o.2.1/\o.2.1.b=st.b:=by
       intro o ho;cases pe with
       |none=>simp only[yL,aA]at h;subst h;simp only[aR]at ho;subst ho;exact⟨hInv,rfl⟩
       |some c=>cases c with
        |ret=>simp only[yL,aA]at h;subst h;simp only[aR]at ho;subst ho;exact⟨hInv,rfl⟩
        |exit id=>simp only[yL,aA]at h;subst h;simp only[aR]at ho;subst ho;exact⟨hInv,rfl⟩
        |_=>simp[yL]at h
      refine⟨?_,a1O⟩;refine eU.rangeFunc (i:=nx) (j:=nx+1) (r:=.ok v) (m2:=(Tr.MW fM (Tr.set fM (Tr.set fM st.m nx (.df false)) (nx+1) (.lo .ready none (mY n st.T.fn) ps asg bod)) u).get) (aAB hf) hfi hfj oM ?_ ?_ (λv e=>by cases e)
      ·rw[oU,oU]at aVN;rw[Tr.nV,oU,oU];exact aVN
      ·intro v' _;refine⟨ls,pe,ts',ps',asg',bod',hlo,λe=>by subst e;exact hb rfl,?_⟩;cases pe with
       |none=>
        simp only[yL,aA]at h;subst h;exact⟨_,aR.2 rfl,rfl,rfl,by simp only[oU],rfl⟩
       |some c=>cases c with
        |ret=>
         simp only[yL,aA]at h;subst h;exact⟨_,aR.2 rfl,rfl,rfl,by simp only[oU],rfl⟩
        |exit id=>
         simp only[yL,aA]at h;subst h;exact⟨_,aR.2 rfl,rfl,rfl,by simp only[oU],rfl⟩
        |_=>simp[yL]at h
    ·cases h
   ·cases h
  ·cases h
 ·cases h
theorem HL.sub{outs outs':List Oc}(h:∀o∈outs,o∈outs'):∀ex T m ds,HL outs ex T m ds->HL outs' ex T m ds:=λex T m ds⟨o,ho,z⟩=>⟨o,h o ho,z⟩
theorem BT.mono{rd:Bool}{n:Nat}{c:Code}{Post1 Post:qU}(hp:∀ex T m ds,Post1 ex T m ds->Post ex T m ds):∀(j:Nat)(T:Nat->A)(m:Mem)(ds:List DA),BT P rd n c Post1 j T m ds->BT P rd n c Post j T m ds
 |0,_,_,_,h=>h
 |j+1,T,m,ds,⟨Q1,g1,g2,g3⟩=>⟨Q1,g1,λT' m' ds' q=>BT.mono hp j T' m' ds' (g2 T' m' ds' q),λex T' m' ds' hZ q=>hp _ _ _ _ (g3 ex T' m' ds' hZ q)⟩
theorem FT(aXX:P.follows .mixedOrders=true)(hH:FB P H){rd:Bool}{n:Nat}:∀(k:Nat)(c:Code)(st:St)(ds:List DA)(nx:Nat)(outs:List Oc),uH P H rd n k c st ds nx=some outs->Inv st->
 (eU P rd n c st.T.fn st.m.get ds (HL outs)/\∀o∈outs,Inv o.2.1/\o.2.1.b=st.b)/\∀c',c=.loop c'->BT P rd n c' (HL outs) k st.T.fn st.m.get ds:=by
 intro k;induction k with
 |zero=>intro c st ds nx outs h;cases h
 |succ k ih=>
  intro c st ds nx outs h hI;have one:∀{ex:Ex},some [(ex,st,ds,nx)]=some outs->HL outs ex st.T.fn st.m.get ds/\∀o∈outs,Inv o.2.1/\o.2.1.b=st.b:=by
   intro ex h;simp only[aA]at h;subst h;exact⟨⟨_,aR.2 rfl,rfl,rfl,rfl,rfl⟩,λo ho=>by simp only[aR]at ho;subst ho;exact⟨hI,rfl⟩⟩
  cases c with
  |skip=>
   have h:some [(Ex.nm,st,ds,nx)]=some outs:=h;exact⟨⟨eU.skip (one h).1,(one h).2⟩,λc' e=>by cases e⟩
  |label l=>
   have h:some [(Ex.nm,st,ds,nx)]=some outs:=h;exact⟨⟨eU.label (one h).1,(one h).2⟩,λc' e=>by cases e⟩
  |exit id=>
   have h:some [(Ex.ext id,st,ds,nx)]=some outs:=h;exact⟨⟨eU.exit (one h).1,(one h).2⟩,λc' e=>by cases e⟩
  |ret=>
   have h:some [(Ex.ret,st,ds,nx)]=some outs:=h;exact⟨⟨eU.ret (one h).1,(one h).2⟩,λc' e=>by cases e⟩
  |seq x y=>
   refine⟨?_,λc' e=>by cases e⟩
   have h:(match uH P H rd n k x st ds nx with
    |some outs=>vC (λ(o:Oc)=>match o.1 with
     |.nm=>uH P H rd n k y o.2.1 o.2.2.1 o.2.2.2
     |_=>some [o]) outs
    |none=>none)=some outs:=h
   split at h
   ·rename_i os ho;obtain⟨⟨g1,g2⟩,_⟩:=ih x st ds nx os ho hI;refine⟨eU.seq g1 ?_ ?_,?_⟩
    ·rintro T' m' ds' ⟨o,hm,he,rfl,rfl,rfl⟩;obtain⟨a,h1,h2⟩:=tI h o hm;rw[he]at h1;exact((ih y _ _ _ a h1 (g2 o hm).1).1.1).mono (HL.sub h2)
    ·rintro ex T' m' ds' hZ ⟨o,hm,he,rfl,rfl,rfl⟩;obtain⟨a,h1,h2⟩:=tI h o hm;rw[he]at h1;cases ex with
     |nm=>cases hZ
     |_=>simp only[aA]at h1;subst h1;exact⟨o,h2 _ sM,he,rfl,rfl,rfl⟩
    ·intro y' hy';obtain⟨o,hm,a,h1,h2⟩:=A4 h y' hy';cases he:o.1 with
     |nm=>
      rw[he]at h1;have:=(ih y _ _ _ a h1 (g2 o hm).1).1.2 y' h2;exact⟨this.1,this.2.trans (g2 o hm).2⟩
     |_=>
      rw[he]at h1;simp only[aA]at h1;subst h1;simp only[aR]at h2;subst h2;exact g2 _ hm
   ·cases h
  |cond cc x y=>
   refine⟨?_,λc' e=>by cases e⟩
   have h:(match dN st.T.fn cc with
    |.d (.v (.bool b))=>uH P H rd n k (cond b x y) st ds nx
    |_=>none)=some outs:=h
   split at h
   ·rename_i b hb;have:=(ih _ st ds nx outs h hI).1;refine⟨eU.cond hb ?_,this.2⟩;cases b<;>exact this.1
   ·cases h
  |block id x=>
   refine⟨?_,λc' e=>by cases e⟩
   have h:(match uH P H rd n k x st ds nx with
    |some outs=>some (outs.map λ(o:Oc)=>(u6 id o.1,o.2))
    |none=>none)=some outs:=h
   split at h
   ·rename_i os ho;simp only[aA]at h;subst h;obtain⟨⟨g1,g2⟩,_⟩:=ih x st ds nx os ho hI;refine⟨eU.block g1 ?_,?_⟩
    ·rintro ex T' m' ds' ⟨o,hm,rfl,rfl,rfl,rfl⟩;exact⟨_,aA4.2 ⟨o,hm,rfl⟩,rfl,rfl,rfl,rfl⟩
    ·intro o' VV;obtain⟨o,hm,rfl⟩:=aA4.1 VV;exact g2 o hm
   ·cases h
  |loop x=>
   have h:(match uH P H rd n k x st ds nx with
    |some outs=>vC (λ(o:Oc)=>match o.1 with
     |.nm=>uH P H rd n k (.loop x) o.2.1 o.2.2.1 o.2.2.2
     |_=>some [o]) outs
    |none=>none)=some outs:=h
   have hL:BT P rd n x (HL outs) (k+1) st.T.fn st.m.get ds/\∀o∈outs,Inv o.2.1/\o.2.1.b=st.b:=by
    split at h
    ·rename_i os ho;obtain⟨⟨g1,g2⟩,_⟩:=ih x st ds nx os ho hI;refine⟨⟨HL os,g1,?_,?_⟩,?_⟩
     ·rintro T' m' ds' ⟨o,hm,he,rfl,rfl,rfl⟩;obtain⟨a,h1,h2⟩:=tI h o hm;rw[he]at h1;exact BT.mono (HL.sub h2) k _ _ _ ((ih (.loop x) _ _ _ a h1 (g2 o hm).1).2 x rfl)
     ·rintro ex T' m' ds' hZ ⟨o,hm,he,rfl,rfl,rfl⟩;obtain⟨a,h1,h2⟩:=tI h o hm;rw[he]at h1;cases ex with
      |nm=>cases hZ
      |_=>simp only[aA]at h1;subst h1;exact⟨o,h2 _ sM,he,rfl,rfl,rfl⟩
     ·intro y' hy';obtain⟨o,hm,a,h1,h2⟩:=A4 h y' hy';cases he:o.1 with
      |nm=>
       rw[he]at h1;have:=(ih (.loop x) _ _ _ a h1 (g2 o hm).1).1.2 y' h2;exact⟨this.1,this.2.trans (g2 o hm).2⟩
      |_=>
       rw[he]at h1;simp only[aA]at h1;subst h1;simp only[aR]at h2;subst h2;exact g2 _ hm
    ·cases h
   exact⟨⟨eU.loop hL.1,hL.2⟩,λc' e=>by cases e;exact hL.1⟩
  |scope x=>
   refine⟨?_,λc' e=>by cases e⟩;have h:uH P H rd n k x st ds nx=some outs:=h;have:=(ih x st ds nx outs h hI).1;exact⟨eU.scope this.1,this.2⟩
  |region id ops draw=>
   refine⟨?_,λc' e=>by cases e⟩;have h:cond draw (aJG P H n ops ds st nx) (vI P H rd n ops ops.toList ds st nx)=some outs:=h;cases draw with
   |true=>exact Z2 aXX hH h hI
   |false=>
    have:=DP (rd:=rd) hH ops.toList 0 ds st nx outs sM h hI;refine⟨eU.region ?_,this.2⟩;rw[List.range_eq_range'];simpa using this.1
  |rangeFunc g ps asg bod=>
   refine⟨?_,λc' e=>by cases e⟩;have h:cond rd none (aG3 H n g ps asg bod st ds nx)=some outs:=h;cases rd with
   |true=>cases h
   |false=>exact aG4 hH h hI
  |goto l=>cases h
  |refuse s=>cases h
end
section
variable{P:Program}{H:Hd}
theorem M7:∀(as:List A)(k:Nat)(t:Tb)(n:Nat),(CB as k t).fn n=if k<=n/\n -k<as.length then(as[n -k]?).getD .x else t.fn n
 |[],k,t,n=>by simp[CB]
 |a::r,k,t,n=>by
  simp only[CB];rw[M7 r (k+1),Tb.FU];by_cases h1:k=n
  ·subst h1;rw[aT7 oM,aUF sM];simp[lI]
  ·by_cases h2:k+1<=n/\n -(k+1)<r.length
   ·rw[aUF h2,aUF zM];have:n -k=(n -(k+1))+1:=oM;rw[this];simp
   ·rw[aT7 h2,aT7 zM];simp[lI,h1]
theorem M6(as:List A):(CB as 0 Tb.nil).fn=uA as:=by
 funext n;rw[M7];unfold uA;by_cases h:n<as.length
 ·rw[aUF (by simpa using h)];simp
 ·rw[aT7 zM,c8 oM,Tb.aCX];rfl
theorem LN:∀(ps:List (Tmp×A))(t:Tb),(IQ ps t).fn=AX ps t.fn
 |[],t=>rfl
 |p::r,t=>by simp only[IQ,AX];rw[LN r,Tb.FU]
theorem mU:∀{u:List (Nat×R)}{m:Mem}{i:Nat}{r:R},aH m u i=some r->(i,r)∈u\/(m i=some r/\∀p∈u,p.1≠i)
 |[],m,i,r,h=>.inr ⟨h,sM⟩
 |(j,q)::t,m,i,r,h=>by
  simp only[aH]at h;rcases mU h with h|⟨h,h2⟩
  ·exact .inl (by simp[h])
  ·unfold aX at h;split at h
   ·rename_i e;simp at h;subst h;subst e;exact .inl sM
   ·rename_i e;refine .inr ⟨h,λp hp=>?_⟩;simp only[aO]at hp;rcases hp with rfl|hp
    ·exact Ne.symm e
    ·exact h2 p hp
theorem CA:∀{u:List (Nat×R)}{m:Mem}{p:Nat×R},p∈u->aH m u p.1≠none
 |[],m,p,h=>by simp at h
 |(j,q)::t,m,p,h=>by
  simp only[aH];simp only[aO]at h;rcases h with rfl|h
  ·exact tH (by simp[aX])
  ·exact CA h
theorem QM{g:R->R}{m:Tr R}:∀{l:List Nat}{u:List (Nat×R)},aEC g m l=some u->(∀p∈u,∃r,m.get p.1=some r/\p.2=g r)/\∀i∈l,∃p∈u,p.1=i
 |[],u,h=>by simp only[aEC,aA]at h;subst h;simp
 |i::l,u,h=>by
  simp only[aEC]at h;split at h
  ·rename_i r u' h1 h2;simp only[aA]at h;subst h;obtain⟨g1,g2⟩:=QM h2;refine⟨λp hp=>?_,λj hj=>?_⟩
   ·simp only[aO]at hp;rcases hp with rfl|hp
    ·exact⟨r,h1,rfl⟩
    ·exact g1 p hp
   ·simp only[aO]at hj;rcases hj with rfl|hj
    ·exact⟨(j,g r),sM,rfl⟩
    ·obtain⟨p,hp,e⟩:=g2 j hj;exact⟨p,by simp[hp],e⟩
  ·cases h
theorem YE{p:Nat×R}(hp:p∈u):∀j∈p.2.hs,j∈hsU u:=by
 induction u with
 |nil=>simp at hp
 |cons q u ih=>
  obtain⟨i,r⟩:=q;intro j hj;simp only[hsU,bN];simp only[aO]at hp;rcases hp with rfl|hp
  ·exact .inl hj
  ·exact .inr (ih hp j hj)
theorem AR{g:R->R}{b m:Tr R}:∀(f:Nat)(w:List Nat)(vis:Tr Unit)(acc acc2:List (Nat×R)),reach g b m f w vis acc=some acc2->(∀p∈acc,∃r,m.get p.1=some r/\p.2=g r)->(∀p∈acc,∀j∈p.2.hs,b.get j≠none\/(∃q∈acc,q.1=j)\/j∈w)->(∀i,vis.get i≠none->∃q∈acc,q.1=i)->
 (∀p∈acc2,∃r,m.get p.1=some r/\p.2=g r)/\(∀p∈acc,p∈acc2)/\(∀p∈acc2,∀j∈p.2.hs,b.get j≠none\/∃q∈acc2,q.1=j)/\∀j∈w,b.get j≠none\/∃q∈acc2,q.1=j
 |0,w,vis,acc,acc2,h,_,_,_=>by simp[reach]at h
 |f+1,[],vis,acc,acc2,h,h1,h2,h3=>by
  simp only[reach,aA]at h;subst h;exact⟨h1,λp hp=>hp,λp hp j hj=>(h2 p hp j hj).imp id λx=>x.resolve_right sM,sM⟩
 |f+1,i::w,vis,acc,acc2,h,h1,h2,h3=>by
  simp only[reach]at h;split at h
  ·rename_i q hq
   obtain⟨g1,g2,g3,g4⟩:=AR f w vis acc acc2 h h1 (λp hp j hj=>by
    rcases h2 p hp j hj with x|x|x
    · exact .inl x
    · exact .inr (.inl x)
    · simp only[aO]at x
      rcases x with rfl|x
      · exact .inl (by rw[hq];simp)
      · exact .inr (.inr x)) h3
   refine⟨g1,g2,g3,λj hj=>?_⟩;simp only[aO]at hj;rcases hj with rfl|hj
   ·exact .inl (by rw[hq];simp)
   ·exact g4 j hj
  ·split at h
   ·rename_i q hq;have hi:=h3 i (by rw[hq];simp)
    obtain⟨g1,g2,g3,g4⟩:=AR f w vis acc acc2 h h1 (λp hp j hj=>by
     rcases h2 p hp j hj with x|x|x
     · exact .inl x
     · exact .inr (.inl x)
     · simp only[aO]at x
       rcases x with rfl|x
       · exact .inr (.inl hi)
       · exact .inr (.inr x)) h3
    refine⟨g1,g2,g3,λj hj=>?_⟩;simp only[aO]at hj;rcases hj with rfl|hj
    ·obtain⟨q,hq,e⟩:=hi;exact .inr ⟨q,g2 q hq,e⟩
    ·exact g4 j hj
   ·split at h
    ·rename_i r hr
     obtain⟨g1,g2,g3,g4⟩:=AR f ((g r).hs++w) (Tr.set fM vis i ()) ((i,g r)::acc) acc2 h (λp hp=>by
      simp only[aO]at hp;rcases hp with rfl|hp
      · exact⟨r,hr,rfl⟩
      · exact h1 p hp) (λp hp j hj=>by
      simp only[aO]at hp;rcases hp with rfl|hp
      · exact .inr (.inr (by simp[hj]))
      · rcases h2 p hp j hj with x|⟨q,hq,e⟩|x
        · exact .inl x
        · exact .inr (.inl ⟨q,by simp[hq],e⟩)
        · simp only[aO]at x
          rcases x with rfl|x
          · exact .inr (.inl ⟨(j,g r),sM,rfl⟩)
          · exact .inr (.inr (by simp[x]))) (λj e=>by
      rw[Tr.rV]at e;split at e
      · rename_i e2;subst e2;exact⟨(j,g r),sM,rfl⟩
      · obtain⟨q,hq,e⟩:=h3 j e
        exact⟨q,by simp[hq],e⟩)
     refine⟨g1,λp hp=>g2 p (by simp[hp]),g3,λj hj=>?_⟩;simp only[aO]at hj;rcases hj with rfl|hj
     ·exact .inr ⟨(j,g r),g2 _ sM,rfl⟩
     ·exact g4 j (by simp[hj])
    ·cases h
theorem RZ(h:RY g st r=some u)(hI:Inv st):(∀i q,aH st.b.get u i=some q->(∃r,st.m.get i=some r/\q=g r/\∃p∈u,p.1=i)\/(st.m.get i=some q/\∀p∈u,p.1≠i))/\(∀i∈r.hs,aH st.b.get u i≠none)/\∀p∈u,∀j∈p.2.hs,aH st.b.get u j≠none:=by
 unfold RY at h;split at h
 ·rename_i u0 hu0;obtain⟨k1,k2⟩:=QM hu0;obtain⟨g1,g2,g3,g4⟩:=AR _ _ _ _ _ h k1 (λp hp j hj=>.inr (.inr (by simp only[bN];exact .inr (YE hp j hj)))) (λi e=>by simp[Tr.get_nil]at e);have key:∀j,(st.b.get j≠none\/∃q∈u,q.1=j)->aH st.b.get u j≠none:=by
   rintro j (x|⟨q,hq,rfl⟩)
   ·exact tH x
   ·exact CA hq
  refine⟨λi q hq=>?_,λi hi=>key i (g4 i (by simp[hi])),λp hp j hj=>key j (g3 p hp j hj)⟩;rcases mU hq with x|⟨x,y⟩
  ·obtain⟨r,e1,e2⟩:=g1 (i,q) x;exact .inl ⟨r,e1,e2,(i,q),x,rfl⟩
  ·refine .inr ⟨hI i q x λe=>?_,y⟩;obtain⟨p,hp,e⟩:=k2 i e;exact y p (g2 p hp) e
 ·cases h
theorem XS(h:RY id st r=some u)(hI:Inv st):(∀i q,aH st.b.get u i=some q->st.m.get i=some q)/\(∀i∈r.hs,aH st.b.get u i≠none)/\∀p∈u,∀j∈p.2.hs,aH st.b.get u j≠none:=by
 obtain⟨g1,g2,g3⟩:=RZ h hI;refine⟨λi q hq=>?_,g2,g3⟩;rcases g1 i q hq with⟨r,e,rfl,_⟩|⟨e,_⟩
 ·exact e
 ·exact e
theorem aCJ(h:RY g st r=some u):∀p∈u,∃q,st.m.get p.1=some q/\p.2=g q:=by
 unfold RY at h;split at h
 ·rename_i u0 hu0;obtain⟨k1,k2⟩:=QM hu0;exact(AR _ _ _ _ _ h k1 (λp hp j hj=>.inr (.inr (by simp only[bN];exact .inr (YE hp j hj)))) (λi e=>by simp[Tr.get_nil]at e)).1
 ·cases h
structure aJJ(b:Tr R)(c:Nat)(t:Tr Nat)(ps:List (Nat×Nat)):Prop where
 get:∀i k,t.get i=some k↔(i,k)∈ps
 fst:(ps.map (·.1)).Nodup
 snd:(ps.map (·.2)).Nodup
 free:∀p∈ps,b.get p.1=none/\b.get p.2=none/\p.2<c
theorem FK{b:Tr R}:∀{u:List (Nat×R)}{c:Nat}{t t':Tr Nat}{ps:List (Nat×Nat)},FJ b u c t=some t'->aJJ b c t ps->
 ∃c' ps',aJJ b c' t' ps'/\(∀p∈ps,p∈ps')/\∀p∈u,p.2.aKG=true/\(b.get p.1≠none\/∃k,(p.1,k)∈ps')
 |[],c,t,t',ps,h,hr=>by
  simp only[FJ,aA]at h;subst h;exact⟨c,ps,hr,λ_ h=>h,sM⟩
 |(i,r)::u,c,t,t',ps,h,hr=>by
  simp only[FJ]at h;rw[Bool.cond_eq_ite]at h;split at h
  ·rename_i hn;split at h
   ·rename_i q hq;obtain⟨c',ps',h1,h2,h3⟩:=FK h hr;refine⟨c',ps',h1,h2,λp hp=>?_⟩;simp only[aO]at hp;rcases hp with rfl|hp
    ·exact⟨hn,.inl (by rw[hq];simp)⟩
    ·exact h3 p hp
   ·rename_i hbi;split at h
    ·cases h
    ·rename_i J3;split at h
     ·cases h
     ·rename_i hbc;have hr':aJJ b (c+1) (Tr.set fM t i c) ((i,c)::ps):=by
       refine⟨λj k=>?_,?_,?_,?_⟩
       ·rw[Tr.rV];by_cases e:j=i
        ·subst e;simp only[if_true,aA,aO,aD,true_and];constructor
         ·intro e;exact .inl e.symm
         ·rintro(e|e)
          ·exact e.symm
          ·have:=(hr.get j k).2 e;rw[J3]at this;cases this
        ·simp only[aT7 e,aO,aD,e,false_and,false_or];exact hr.get j k
       ·simp only[aG,gR];refine⟨λe=>?_,hr.fst⟩;obtain⟨p,hp,e⟩:=aA4.1 e;have:=(hr.get p.1 p.2).2 hp;rw[e,J3]at this;cases this
       ·simp only[aG,gR];refine⟨λe=>?_,hr.snd⟩;obtain⟨p,hp,e⟩:=aA4.1 e;have:=(hr.free p hp).2.2;omega
       ·intro p hp;simp only[aO]at hp;rcases hp with rfl|hp
        ·exact⟨hbi,hbc,oM⟩
        ·have:=hr.free p hp;exact⟨this.1,this.2.1,oM⟩
      obtain⟨c',ps',h1,h2,h3⟩:=FK h hr';refine⟨c',ps',h1,λp hp=>h2 p (by simp[hp]),λp hp=>?_⟩;simp only[aO]at hp;rcases hp with rfl|hp
      ·exact⟨hn,.inr ⟨c,h2 _ sM⟩⟩
      ·exact h3 p hp
  ·cases h
theorem NH{cb:Option Nat}{r0:Rt}(h:PX cb st r0=some (r,u))(hI:Inv st):
 RM st.b.get st.m.get r0 (aH st.b.get u) r/\(∀i∈r.hs,aH st.b.get u i≠none)/\∀p∈u,∀j∈p.2.hs,aH st.b.get u j≠none:=by
 unfold PX at h;split at h
 ·cases h
 ·rename_i u1 hu1;obtain⟨k1,k2,k3⟩:=XS hu1 hI;split at h
  ·simp only[aA,aD]at h;obtain⟨rfl,rfl⟩:=h;exact⟨RM.refl k1,k2,k3⟩
  ·rename_i base;unfold canon at h;split at h
   ·rename_i t ht;simp only[aA,aD]at h;obtain⟨rfl,rfl⟩:=h;obtain⟨c',ps,hps,_,a0V⟩:=FK ht (ps:=[]) ⟨λi k=>by simp[Tr.get_nil],sM,sM,sM⟩;obtain⟨g,gi,g1,g2,g3,g4⟩:=HB ps hps.fst hps.snd;have aWV:=aCJ hu1;have a2B:=(RZ hu1 hI).1;have fix:∀i,st.b.get i≠none->g i=i/\H7 t i=i:=by
     intro i hi;have n1:i∉ps.map (·.1):=λe=>by
      obtain⟨p,hp,rfl⟩:=aA4.1 e;exact hi (hps.free p hp).1
     have n2:i∉ps.map (·.2):=λe=>by
      obtain⟨p,hp,rfl⟩:=aA4.1 e;exact hi (hps.free p hp).2.1
     refine⟨g4 i n1 n2,?_⟩;unfold H7;cases e:t.get i with
     |none=>rfl
     |some k=>exact absurd (aA4.2 ⟨_,(hps.get i k).1 e,rfl⟩) n1
    have agree:∀i,(st.b.get i≠none\/∃k,(i,k)∈ps)->H7 t i=g i:=by
     rintro i (hi|⟨k,hk⟩)
     ·rw[(fix i hi).1,(fix i hi).2]
     ·have e:=(hps.get i k).2 hk;unfold H7;rw[e];exact(g3 _ hk).symm
    have dom:∀i,aH st.b.get u1 i≠none->st.b.get i≠none\/∃k,(i,k)∈ps:=by
     intro i hi;cases hq:aH st.b.get u1 i with
     |none=>exact absurd hq hi
     |some q=>
      rcases mU hq with e|⟨e,_⟩
      ·exact(a0V _ e).2
      ·exact .inl (by rw[e];simp)
    have into:∀i,aH st.b.get u1 i≠none->aH st.b.get (u1.map λp=>(H7 t p.1,p.2.eZ (H7 t))) (H7 t i)≠none:=by
     intro i hi;cases hq:aH st.b.get u1 i with
     |none=>exact absurd hq hi
     |some q=>
      rcases mU hq with e|⟨e,_⟩
      ·exact CA (p:=(H7 t i,q.eZ (H7 t))) (aA4.2 ⟨_,e,rfl⟩)
      ·have:st.b.get i≠none:=by rw[e];simp
       rw[(fix i this).2];exact tH this
    refine⟨⟨g,gi,g1,g2,λi hi=>(fix i hi).1,Rt.lU r0 λi hi=>agree i (dom i (k2 i hi)),?_⟩,?_,?_⟩
    ·intro i q hq;rcases mU hq with e|⟨e,hZ⟩
     ·obtain⟨p,hp,e2⟩:=aA4.1 e;simp only[aD]at e2;obtain⟨rfl,rfl⟩:=e2;obtain⟨q0,m1,m2⟩:=aWV p hp;left;refine⟨p.2,?_,R.lU _ (a0V p hp).1 λj hj=>agree j (dom j (k3 p hp j hj))⟩;rw[agree p.1 (a0V p hp).2,g1];rw[m1,m2];rfl
     ·right;refine⟨e,?_⟩;have hbi:st.b.get i≠none:=by rw[e];simp
      have pG:∀p∈u1,p.1≠i:=by
       rintro p hp rfl;exact hZ _ (aA4.2 ⟨p,hp,rfl⟩) (fix p.1 hbi).2
      have hq1:aH st.b.get u1 i=some q:=by
       cases WI:aH st.b.get u1 i with
       |none=>exact absurd WI (tH hbi)
       |some q'=>
        rcases mU WI with e'|⟨e',_⟩
        ·exact absurd rfl (pG _ e')
        ·rw[e]at e';exact e'.symm
      rcases a2B i q hq1 with⟨_,_,_,p,hp,e2⟩|⟨e2,_⟩
      ·exact absurd e2 (pG p hp)
      ·exact e2
    ·intro i hi;rw[Rt.AD]at hi;obtain⟨j,hj,rfl⟩:=aA4.1 hi;exact into j (k2 j hj)
    ·intro p hp j hj;obtain⟨p0,hp0,rfl⟩:=aA4.1 hp;simp only[R.AD]at hj;obtain⟨j0,hj0,rfl⟩:=aA4.1 hj;exact into j0 (k3 p0 hp0 j0 hj0)
   ·cases h
theorem UA{a b:Rt}(h:Y6 a b=true):a=b:=by
 cases a<;>cases b<;>simp only[Y6]at h
 ·rw[A.aD7 _ _ h]
 ·cases h
 ·cases h
 ·rw[A.aD7 _ _ h]
theorem ZI:∀{a b:List (Nat×R)},aIR a b=true->a=b
 |[],[],_=>rfl
 |[],_::_,h=>by cases h
 |(i,r)::u,[],h=>by cases h
 |(i,r)::u,(j,s)::v,h=>by
  simp only[aIR,aE]at h;rw[bB h.1,R.aD7 _ _ h.2.1,ZI h.2.2]
theorem NY(T:Tb)(t:Tr R):Inv ⟨T,t,t,[]⟩:=λi q h _=>h
theorem CG(aXX:P.follows .mixedOrders=true)(hH:FB P H){fn:Func}:∀(ds:List DA)(md:Md)(st st':St)(nx nx':Nat)(r:Rt),yE P H fn.results.toList ds md st nx=some (r,st',nx')->Inv st->pB P fn st.T.fn st.m.get ds md r st'.m.get/\Inv st'/\st'.b=st.b
 |[],.ret,st,st',nx,nx',r,h,hI=>by
  simp only[yE]at h;split at h
  ·rename_i v hv;simp only[aA,aD]at h;obtain⟨rfl,rfl,_⟩:=h;exact⟨pB.ret hv,hI,rfl⟩
  ·cases h
 |[],.sE v,st,st',nx,nx',r,h,hI=>by
  simp only[yE,aA,aD]at h;obtain⟨rfl,rfl,_⟩:=h;exact⟨pB.sE,hI,rfl⟩
 |.SK d::ds,md,st,st',nx,nx',r,h,hI=>by cases md<;>cases h
 |.s4 i::ds,md,st,st',nx,nx',r,h,hI=>by
  have h:(match st.m.get i with
   |some (.df false)=>yE P H fn.results.toList ds md (st.u9 [(i,.df true)]) nx
   |_=>none)=some (r,st',nx'):=by cases md<;>exact h
  split at h
  ·rename_i hi;obtain⟨g1,g2,g3⟩:=CG aXX hH ds md _ st' nx nx' r h (hI.u9 _);refine⟨pB.s4 hi ?_,g2,g3⟩;have:(st.u9 [(i,.df true)]).m.get=aX st.m.get i (.df true):=by simp only[St.u9,Tr.nV,aH]
   rw[this]at g1;exact g1
  ·cases h
 |.call g as cs::ds,md,st,st',nx,nx',r,h,hI=>by cases md<;>cases h
 |.bi b tys ty bs as::ds,md,st,st',nx,nx',r,h,hI=>by cases md<;>cases h
theorem NG{rs:List ResultVar}{cb:Option Nat}:∀{outs:List Oc}{r:Rt}{u:List (Nat×R)}{nx:Nat},PW P H rs cb outs=some (r,u,nx)->
 ∀o∈outs,∃md st' nx1 r0,SI o.1=some md/\yE P H rs o.2.2.1 md o.2.1 o.2.2.2=some (r0,st',nx1)/\PX cb st' r0=some (r,u)
 |[],r,u,nx,h=>by cases h
 |(ex,st,ds,nx0)::os,r,u,nx,h=>by
  simp only[PW]at h;split at h
  ·cases h
  ·rename_i md T9;split at h
   ·cases h
   ·rename_i rt st' nx1 hl;split at h
    ·cases h
    ·rename_i rt1 u1 hu1;intro o ho;split at h
     ·rename_i os';simp only[aA,aD]at h;obtain⟨rfl,rfl,_⟩:=h;simp only[aR]at ho;subst ho;exact⟨md,st',nx1,rt,T9,hl,hu1⟩
     ·split at h
      ·rename_i rt2 u2 nx2 he;split at h
       ·rename_i hq;simp only[aE]at hq;simp only[aA,aD]at h;obtain⟨rfl,rfl,_⟩:=h;simp only[aO]at ho;rcases ho with rfl|ho
        ·exact⟨md,st',nx1,rt,T9,hl,hu1⟩
        ·have:=NG he o ho;rw[UA hq.1,ZI hq.2];exact this
       ·cases h
      ·cases h
theorem aG2(aXX:P.follows .mixedOrders=true)(hH:FB P H){f:FuncId}{as:List A}{t:Tr R}{nx nx':Nat}{outs:List Ot}(h:aG1 P H f as t nx=some (outs,nx')):∃r u,outs=[(r,u)]/\aJ P f as t.get r (aH t.get u):=by
 unfold aG1 at h;split at h
 ·rename_i fn hf;split at h
  ·rename_i c hb;split at h
   ·rename_i hcn;simp only[aE]at hcn;split at h
    ·rename_i os hos;split at h
     ·rename_i rt u nx1 he;simp only[aA,aD]at h;obtain⟨rfl,_⟩:=h;obtain⟨⟨g1,g2⟩,_⟩:=FT aXX hH fK c _ [] nx os hos (NY _ t);rw[M6]at g1;have aZ7:=NG he;have hZ:∃o,o∈os:=by
       cases os with
       |nil=>cases he
       |cons o r=>exact⟨o,sM⟩
      obtain⟨o0,ho0⟩:=hZ;obtain⟨md0,st0,_,r00,_,hl0,hc0⟩:=aZ7 o0 ho0;have hI0:=CG aXX hH _ _ _ _ _ _ _ hl0 (g2 o0 ho0).1;have hb0:st0.b=t:=hI0.2.2.trans (g2 o0 ho0).2;have k0:=NH hc0 hI0.2.1;rw[hb0]at k0;refine⟨rt,u,rfl,MF hf hb hcn.1 (by simpa using bD hcn.2) g1 ?_ k0.2.1 k0.2.2⟩;rintro ex T' m' ds' ⟨o,ho,rfl,rfl,rfl,rfl⟩;obtain⟨md,st',_,r0,hm,hl,hc⟩:=aZ7 o ho;have hI':=CG aXX hH _ _ _ _ _ _ _ hl (g2 o ho).1;have k:=NH hc hI'.2.1;rw[hI'.2.2.trans (g2 o ho).2]at k;exact⟨md,st'.m.get,r0,hm,hI'.1,k.1⟩
     ·cases h
    ·cases h
   ·cases h
  ·cases h
 ·cases h
theorem KI{n:Nat}:∀{l:List Tmp},YK n l=true->∀p∈l,p<n
 |[],_,p,hp=>by simp at hp
 |q::r,h,p,hp=>by
  simp only[YK,aE]at h;simp only[aO]at hp;rcases hp with rfl|hp
  ·simpa [rR]using h.1
  ·exact KI h.2 p hp
theorem SF{i:Nat}:∀{outs:List Oc}{os:List Ot}{nx:Nat},XZ i outs=some (os,nx)->∀o∈outs,∃b ls pe oK pe2 ts ps asg bod u,Z3 o.1=some (b,ls,pe)/\o.2.1.m.get i=some (.lo oK pe2 ts ps asg bod)/\RY id (o.2.1.u9 [(i,.lo ls pe ts ps asg bod)]) (.ok (.d (.v (.bool b))))=some u/\(.ok (.d (.v (.bool b))),u)∈os
 |[],os,nx,_,o,ho=>by simp at ho
 |(ex,st,ds,nx0)::r,os,nx,h,o,ho=>by
  simp only[XZ]at h;split at h
  ·rename_i b ls pe oK pe2 ts ps asg bod os' nx2 h1 h2 h3;split at h
   ·rename_i u hu;simp only[aA,aD]at h;obtain⟨rfl,_⟩:=h;simp only[aO]at ho;rcases ho with rfl|ho
    ·exact⟨b,ls,pe,oK,pe2,ts,ps,asg,bod,u,h1,h2,hu,sM⟩
    ·obtain⟨b',ls',pe',st2',pe2',ts',ps',asg',bod',u',k1,k2,k3,k4⟩:=SF h3 o ho;exact⟨b',ls',pe',st2',pe2',ts',ps',asg',bod',u',k1,k2,k3,by simp[k4]⟩
   ·cases h
  ·cases h
theorem aG6(aXX:P.follows .mixedOrders=true)(hH:FB P H){i:Nat}{as:List A}{t:Tr R}{nx nx':Nat}{outs:List Ot}(h:aG5 P H i as t nx=some (outs,nx')):
 ∀(o:Oper)(T:Nat->A)(c:Call)(fo:Operand),o.op=.call c->c.callee=.value fo->dN T fo=.h i->c.args.toList.map (dN T)=as->o8 P o T t.get outs:=by
 intro o T c fo ho hc hfo has;unfold aG5 at h;split at h
 ·rename_i ts ps asg bod hi;split at h
  ·rename_i hlp;simp only[aE]at hlp;have hlen:as.length=ps.size:=bB hlp.1;split at h
   ·rename_i pV nx1 h1;split at h
    ·rename_i pe1 ts1 ps1 asg1 bod1 hi1;split at h
     ·rename_i os hos;obtain⟨⟨g1,g2⟩,_⟩:=FT (rd:=true) aXX hH fK asg _ [] nx _ h1 (NY _ t);have aY9:=g2 _ (aR.2 rfl);simp only at aY9;obtain⟨⟨g3,g4⟩,_⟩:=FT (rd:=true) aXX hH fK bod _ [] nx1 os hos (aY9.1.u9 _);rw[LN,M6]at g1;refine o8.yield ho hc hfo hi (by rw[<-hlen,<-has];simp) (KI hlp.2) (by rw[has];exact g1) ?_ ?_ (PostB:=HL os)
      ·rintro ex T1 m1 ds1 ⟨q,hq,rfl,rfl,rfl,rfl⟩;simp only[aR]at hq;subst hq;refine⟨rfl,rfl,pe1,ts1,ps1,asg1,bod1,hi1,?_⟩;have e:(pV.u9 [(i,.lo .busy pe1 ts1 ps1 asg1 bod1)]).m.get=aX pV.m.get i (.lo .busy pe1 ts1 ps1 asg1 bod1):=by simp only[St.u9,Tr.nV,aH]
       rw[e]at g3;exact g3
      ·rintro ex T2 m2 ds2 ⟨q,hq,rfl,rfl,rfl,rfl⟩;obtain⟨b,ls,pe,oK,pe2,ts2,ps2,asg2,bod2,u,k1,k2,k3,k4⟩:=SF h q hq;have hIq:=g4 q hq;have kc:=XS k3 (hIq.1.u9 _);have hb:(q.2.1.u9 [(i,.lo ls pe ts2 ps2 asg2 bod2)]).b=t:=by
        have:(pV.u9 [(i,.lo .busy pe1 ts1 ps1 asg1 bod1)]).b=pV.b:=rfl;exact(show q.2.1.b=t from(hIq.2.trans this).trans aY9.2)
       rw[hb]at kc;have e:(q.2.1.u9 [(i,.lo ls pe ts2 ps2 asg2 bod2)]).m.get=aX q.2.1.m.get i (.lo ls pe ts2 ps2 asg2 bod2):=by simp only[St.u9,Tr.nV,aH]
       rw[e]at kc;exact⟨b,ls,pe,k1,oK,pe2,ts2,ps2,asg2,bod2,k2,_,k4,rfl,kc.1,kc.2.2⟩
     ·cases h
    ·cases h
   ·cases h
  ·cases h
 ·cases h
theorem aJ0(aXX:P.follows .mixedOrders=true){ct:Hd}(hct:FB P ct):∀d,FB P (yI P ct d):=by
 intro d;induction d with
 |zero=>exact⟨λ_ _ _ _ _ _ h=>(by cases h),λ_ _ _ _ _ _ h=>(by cases h)⟩
 |succ d ih=>
  refine⟨λf as t nx outs nx' h=>?_,λi as t nx outs nx' h=>?_⟩
  ·have h:(match ct (.fn f) as t nx with
    |some r=>some r
    |none=>aG1 P (yI P ct d) f as t nx)=some (outs,nx'):=h
   split at h
   ·rename_i r hr;simp only[aA]at h;subst h;exact hct.fn _ _ _ _ _ _ hr
   ·exact aG2 aXX ih h
  ·have h:(match ct (.yl i) as t nx with
    |some r=>some r
    |none=>aG5 P (yI P ct d) i as t nx)=some (outs,nx'):=h
   split at h
   ·rename_i r hr;simp only[aA]at h;subst h;exact hct.yl _ _ _ _ _ _ hr
   ·exact aG6 aXX ih h
def aA0:Hd:=λ_ _ _ _=>none
theorem aHX:FB P aA0:=⟨λ_ _ _ _ _ _ h=>(by cases h),λ_ _ _ _ _ _ h=>(by cases h)⟩
end
open Go.RowKit Go.ChangeShapes Go.WideShapes
def Kept(W w':World):Prop:=W.keptBut w' (λ_=>False)/\(∀a,a.block<W.heap.size->w'.frozen? a=W.frozen? a)/\W.heap.size<=w'.heap.size
theorem iF.kept{w w':World}(h:iF (λ_=>False) w w'):Kept w w':=by
 refine⟨⟨h.os,h.output,λi hi=>?_⟩,λa ha=>?_,h.size⟩
 ·rw[h.block i hi (λe=>e)];cases w.heap[i]? with
  |none=>rfl
  |some o=>cases o<;>simp
 ·unfold World.frozen?;rw[h.block _ ha (λe=>e)]
theorem Kept.frame{W w':World}(h:Kept W w')(may:MemPlace->Prop):W.keptBut w' may:=World.keptBut_mono (λ_ f=>f.elim) h.1
section
variable{H:Type}{enc:TypeId×Value->H}{P:Program}
theorem QQ{f:Func}{s:ChangeSpec}{apart fresh handsOn again:Bool}{W W':World}{args:Array Value}{v:Value}{ds gs:List (DataW H)}{before pa pv:List MemPlace}
 (hW:DataW.Whole enc P f.params.toList s.vars apart W args.toList ds gs before)
 (aX0:∀(b:Nat)(sp:Nat->Bool)(hd:Bool),DataW.TrodAll enc P W' b sp hd f.resultTypes.toList (v.resultList f.resultTypes.size) (s.fn H (ds++gs)).results [])
 (aYM:∀sp:Nat->Bool,(∀p∈before,sp p.block=true)->DataW.TrodAll enc P W' 0 sp true f.params.toList args.toList (s.fn H (ds++gs)).args pa)
 (a0Q:∀sp:Nat->Bool,(∀p∈before,sp p.block=true)->DataW.TrodVars enc P W' sp s.vars (s.fn H (ds++gs)).vars pv)
 (hps:before=pa++pv)(hk:W.keptBut W' (· ∈before))(hfz:∀a,a.block<W.heap.size->W'.frozen? a=W.frozen? a)
 (mS:∀(j:Nat)(t:TypeId)(r:Value),f.resultTypes[j]?=some t->(v.resultList f.resultTypes.size)[j]?=some r->Value.okWide P W' .any 0 t r):
 s.post enc P f apart fresh handsOn again W args v W':=by
 have cX:∀p∈before,p.block<W.heap.size:=λp hp=>hW.lt p hp;have hold:∀p∈before,(λb=>decide (b<W.heap.size)) p.block=true:=λp hp=>by simpa using hW.lt p hp
 refine⟨ds,gs,before,[],pa,pv,hW,aX0 _ _ _,aYM _ hold,a0Q _ hold,World.keptBut_mono (λp hp=>⟨hp,?_⟩) hk,λ_=>?_⟩
 ·rw[hps,bN]at hp;exact eV hp
 ·obtain⟨_,_,_,_,_,hz,hn⟩:=hW;refine⟨mS,_,_,([]++pa)++pv,⟨[]++pa,pv,trodAll_append (aYM _ (λ_ _=>rfl)) (aX0 _ _ _),a0Q _ (λ_ _=>rfl),rfl,?_,?_⟩,?_⟩
  ·intro b off hp;have hp':MemPlace.cell b off∈before:=by rw[hps];simpa using hp
   rw[hfz _ (cX _ hp')];exact hz b off hp'
  ·intro ha;have:=hn ha;rw[hps]at this;simpa using this
  ·intro p hp _;rw[hps];simpa using hp
end
end Go.Pv
