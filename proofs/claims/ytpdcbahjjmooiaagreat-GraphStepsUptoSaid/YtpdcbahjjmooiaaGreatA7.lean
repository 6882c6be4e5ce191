import Derived.Test.YtpdcbahjjmooiaaGreatA6
/- A program logic over the model, contracts of the functions that the law reaches: part 7. (Names and blanks were shortened by program.) -/
set_option linter.unusedVariables false
set_option linter.unusedSimpArgs false
set_option linter.constructorNameAsVariable false
set_option linter.unusedSectionVars false
set_option linter.deprecated false
set_option maxRecDepth 100000
set_option maxHeartbeats 8000000
open Go
namespace Go.Pv
open Go.RowKit
variable{M:Nat->Prop}
def pQ(P:Program)(m:Mem)(d:Nat)(t:TypeId)(x ix:A):Option E:=
 match CR P t,keyOf ix,x with
 |some (kt,et),some k,.h i=>match m i,U2 P et with
  |some (.mp false kv st),some z=>match fL k kv with
   |some a=>some (kH P kt k kv&&jN m d&&decide (k≠.agg []),.eL [a,.h d],[(d,.wL),(i,.mp false kv ((k,d)::st))])
   |none=>some (kH P kt k kv&&jN m d&&decide (k≠.agg []),.eL [z,.h d],[(d,.wL),(i,.mp false (kv++[(k,z)]) ((k,d)::st.filter λp=>p.1 !=k&&p.1 !=.agg []))])
  |_,_=>none
 |_,_,_=>none
def mV(m:Mem)(x s a:A):Option E:=
 match x,s with
 |.h i,.h sid=>match m i,m sid with
  |some (.mp false kv st),some .wL=>match st.find? λp=>p.2==sid with
   |some (k,_)=>match fL k kv with
    |some _=>some (true,.x,[(i,.mp false (kv.map λp=>if p.1=k then(k,a)else p) st)])
    |none=>none
   |none=>none
  |_,_=>none
 |_,_=>none
section
variable{M0 S0:Nat->Prop}{w0:World}{N:Fr}{T:Nat->A}{m:Mem}{ρ:Nat->Value}{a:Act}{w:World}{P:Program}
theorem MZ.mono{w':World}{M':Nat->Prop}{m':Mem}{ρ':Nat->Value}(hs:dV M w w')(hM:∀b,M' b->b<w.heap.size->M b)(hO:cI m m' ρ ρ'){es:Array MapEntry}{cl:Nat}{kv:List (Ky×A)}{z:List ((Ky×A)×MapEntry)}(h:MZ w M m ρ es cl kv z):MZ w' M' m' ρ' es cl kv z:=
 ⟨h.toList,h.perm,h.key,λp hp=>A.dC hs hM hO _ _ (h.den p hp),h.nodup,h.born,h.old⟩
theorem bC.aFS(h:bC M0 S0 w0 N T m ρ a w)(hlt:∀b,M0 b->b<w0.heap.size){d:Nat}(hd:m d=none)(n:Nat):
 bC M0 S0 w0 N T (aX m d .wL) (dW ρ d (.int .i64 n)) a w/\cI m (aX m d .wL) ρ (dW ρ d (.int .i64 n))/\∀b,dD M0 (aX m d .wL) (dW ρ d (.int .i64 n)) b->dD M0 m ρ b:=by
 refine⟨h.rG hlt (iF.refl _ w) hd rfl (by simp[jK]) (λ_ _ _=>⟨n,rfl⟩),cI.new _ _ hd,?_⟩;rintro b (e|⟨i,r,h1,h2,h3⟩)
 ·exact .inl e
 ·by_cases e:i=d
  ·subst e;simp[dW,jK]at h3
  ·exact .inr ⟨i,r,by simpa [aX,e]using h1,h2,by simpa [dW,e]using h3⟩
theorem modify_id{es:Array MapEntry}{i:Nat}{f:MapEntry->MapEntry}(h:∀e,es[i]?=some e->f e=e):es.modify i f=es:=by
 apply Array.ext';rw[lJ];apply iQ;intro j;rw[lC];by_cases e:i=j
 ·subst e;cases hh:es.toList[i]? with
  |none=>simp
  |some x=>simp;exact h x (by simpa using hh)
 ·simp[e]
theorem UG(h:bC M0 S0 w0 N T m ρ a w)(hlt:∀b,M0 b->b<w0.heap.size){d:Nat}{t:TypeId}{x ix u:A}{y iy:Value}{pre:Bool}{ups:List (Nat×R)}(hx:x.Den w (dD M0 m ρ) m ρ y)(hix:ix.Den w (dD M0 m ρ) m ρ iy)
 (he:pQ P m d t x ix=some (pre,u,ups))(hp:pre=true):∃v w' ρ',(Instr.mapEntry t y iy).run P w=.ok v w'/\bC M0 S0 w0 N T (aH m ups) ρ' a w'/\cI m (aH m ups) ρ ρ'/\u.Den w' (dD M0 (aH m ups) ρ') (aH m ups) ρ' v:=by
 unfold pQ at he;split at he
 ·rename_i kt et k i hm hk;have hu:=vO hm;have hkv:=rF hk hix;subst hkv;split at he
  ·rename_i kv st zA hi hzA;obtain⟨zv,hz1,hz2⟩:=O5 hzA w;obtain⟨b,es,cl,z,h1,h2,h3,h4⟩:=HO h hi;simp only[A.Den]at hx;have hy:=(eH hx hi (by simp)).trans h1;subst hy;have hpre:pre=(kH P kt k kv&&jN m d&&decide (k≠.agg [])):=by
    split at he<;>(simp only[aA,aD]at he;exact he.1.symm)
   rw[hpre,aE,aE]at hp;obtain⟨hp,hkne⟩:=hp;have hkne:=of_decide_eq_true hkne;have hd:=hG hp.2;have hid:i≠d:=by rintro rfl;rw[hi]at hd;cases hd
   obtain⟨hf,hfind⟩:=DQ (w:=w) hp.1 h3;have key:∀(n:Nat){kv':List (Ky×A)}{es':Array MapEntry}{cl':Nat}{z':List ((Ky×A)×MapEntry)}{st':List (Ky×Nat)},MZ w (dD M0 m ρ) m ρ es' cl' kv' z'->vW m ρ st' es'.toList cl'->(∀e∈es'.toList,e.key=k.val->e.born=n)->n<=cl'->
    bC M0 S0 w0 N T (aX (aX m d .wL) i (.mp false kv' ((k,d)::st'))) (dW ρ d (.int .i64 n)) a (w.gW b (.map es' cl'))/\cI m (aX (aX m d .wL) i (.mp false kv' ((k,d)::st'))) ρ (dW ρ d (.int .i64 n)):=by
    intro n kv' es' cl' z' st' hz' hst' hn hnc;obtain⟨g1,g2,g3⟩:=h.aFS hlt hd n;have hi':aX m d .wL i=some (.mp false kv st):=by simp[aX,hid,hi]
    have hst2:vW (aX m d .wL) (dW ρ d (.int .i64 n)) ((k,d)::st') es'.toList cl':=by
     intro p hp;simp only[aO]at hp;rcases hp with rfl|hp
     ·exact⟨by simp[aX],λ_=>⟨λe he hk=>by rw[hn e he hk];simp[dX,dW],by simpa [dX,dW]using hnc,λe=>absurd e hkne⟩⟩
     ·exact vW.mono g2 hst' p hp
    obtain⟨k1,k2⟩:=tQ g1 hi' (by simp[dW,hid,h1]) h2 (hz'.mono (dV.refl _ w) (λb hb _=>g3 b hb) g2) hst2;exact⟨k1,g2.trans k2⟩
   rcases h3.find k with⟨e1,e2⟩|⟨j,p,e1,e2,e3,e4⟩
   ·rw[e2]at he;simp only[aA,aD]at he;obtain⟨_,rfl,rfl⟩:=he;rw[e1]at hfind;have hno:∀p∈z,k≠p.1.1:=uI e1;have hz':=h3.push hno (hz2 w (dD M0 m ρ) m ρ)
    obtain⟨k1,k2⟩:=key cl hz' (OT h4) (λe he hek=>by
     rw[hz'.toList]at he;obtain⟨q,hq,rfl⟩:=aM.1 he;simp at hq;rcases hq with hq|rfl
     · exact absurd (Ky.val_inj (by rw[<-hek];exact(h3.key q hq))) (λe=>hno q hq e)
     · rfl) (by omega)
    refine⟨.tuple #[zv,goInt cl],_,_,?_,k1,k2,?_⟩
    ·simp only[Instr.mapEntry,aV,run_underlying hu,aN,jS h2,mA _ 9995 hf,hfind,hz1,pJ h2,cB]
    ·simp only[aH,A.Den];exact⟨_,rfl,by simp only[A.bR];exact⟨_,_,rfl,hz2 _ _ _ _,_,_,rfl,by simp only[A.Den];exact⟨by simp[aX];split<;>simp,λ_=>by simp[dW,goInt]⟩,rfl⟩⟩
   ·rw[e4]at he;simp only[aA,aD]at he;obtain⟨_,rfl,rfl⟩:=he;rw[e1]at hfind;have hpm:=c6 e2;have hej:es[j]?=some p.2:=by
     have:es.toList[j]?=some p.2:=by rw[h3.toList];simp[e2]
     simpa using this
    have hpk:p.2.key=k.val:=by rw[<-e3];exact h3.key p hpm
    obtain⟨k1,k2⟩:=key p.2.born h3 h4 (λe he hek=>by
     rw[h3.toList]at he;obtain⟨q,hq,rfl⟩:=aM.1 he;have:q.1.1=p.1.1:=Ky.val_inj (by rw[<-h3.key q hq,hek,e3]);obtain⟨jq,hjq⟩:=dY.1 hq;have:=rH h3.nodup hjq e2 this;subst this
     rw[e2]at hjq;cases hjq;rfl) (Nat.le_of_lt (h3.old p hpm))
    refine⟨.tuple #[p.2.val,goInt p.2.born],_,_,?_,k1,k2,?_⟩
    ·have hmod:es.modify j (λe=>{e with key:=k.val})=es:=modify_id λe he=>by rw[hej]at he;cases he;rw[<-hpk]
     simp only[Instr.mapEntry,aV,run_underlying hu,aN,jS h2,mA _ 9995 hf,hfind,hej,dF,gZ,hpk,Instr.keyThatStays,HT 9998,if_true,cB,hmod,pJ h2]
    ·simp only[aH,A.Den];have hden:A.Den (w.gW b (.map es cl)) (dD M0 (aX (aX m d .wL) i (.mp false kv ((k,d)::st))) (dW ρ d (.int .i64 p.2.born))) (aX (aX m d .wL) i (.mp false kv ((k,d)::st))) (dW ρ d (.int .i64 p.2.born)) p.1.2 p.2.val:=by
      have hmu:∀c,dD M0 (aX (aX m d .wL) i (.mp false kv ((k,d)::st))) (dW ρ d (.int .i64 p.2.born)) c->c<w.heap.size->dD M0 m ρ c:=by
       rintro c (e|⟨i',r,q1,q2,q3⟩) _
       ·exact .inl e
       ·by_cases ei:i'=i
        ·subst ei;exact .inr ⟨i',_,hi,rfl,by simpa [dW,hid]using q3⟩
        ·by_cases ed:i'=d
         ·subst ed;simp[dW,jK]at q3
         ·exact .inr ⟨i',r,by simpa [aX,ei,ed]using q1,q2,by simpa [dW,ed]using q3⟩
      refine A.dC ?_ hmu k2 _ _ (h3.den p hpm);exact(mJ w b _).stays λc _ e=>.inr ⟨i,_,hi,rfl,by rw[h1,e];rfl⟩
     exact⟨_,rfl,by simp only[A.bR];exact⟨_,_,rfl,hden,_,_,rfl,by simp only[A.Den];exact⟨by simp[aX];split<;>simp,λ_=>by simp[dW,goInt]⟩,rfl⟩⟩
  ·cases he
 ·cases he
theorem MV(h:bC M0 S0 w0 N T m ρ a w){t:TypeId}{x s v u:A}{y sy vv:Value}{pre:Bool}{ups:List (Nat×R)}(hx:x.Den w (dD M0 m ρ) m ρ y)(hs:s.Den w (dD M0 m ρ) m ρ sy)(hv:v.Den w (dD M0 m ρ) m ρ vv)
 (he:mV m x s v=some (pre,u,ups)):∃w',(Instr.entryStore t y sy vv).run P w=.ok () w'/\bC M0 S0 w0 N T (aH m ups) ρ a w'/\cI m (aH m ups) ρ ρ/\u=.x:=by
 unfold mV at he;split at he
 ·rename_i i sid;split at he
  ·rename_i kv st hi hsi;split at he
   ·rename_i k sid' hfi;split at he
    ·rename_i a0 hg;simp only[aA,aD]at he;obtain⟨rfl,rfl,rfl⟩:=he;obtain⟨b,es,cl,z,h1,h2,h3,h4⟩:=HO h hi;simp only[A.Den]at hx hs;have hy:=(eH hx hi (by simp)).trans h1;subst hy;have hsy:=eH hs hsi (by simp);obtain⟨n,hn⟩:=h.res sid _ hsi;rw[hn]at hsy;subst hsy;have hmem:=cT hfi;have hsid:sid'=sid:=by have:=iD hfi;simpa using this
     subst hsid;have hst:=eH (h4 _ hmem) hsi (by simp);rcases h3.find k with⟨_,e2⟩|⟨j,p,e1,e2,e3,e4⟩
     ·rw[e2]at hg;cases hg
     have hpm:=c6 e2;have hpk:p.2.key=k.val:=by rw[<-e3];exact h3.key p hpm
     have hej:es.toList[j]?=some p.2:=by rw[h3.toList];simp[e2]
     have hbn:p.2.born=n:=by
      have:=hst.1 p.2 (c6 hej) hpk;rw[this];simp[dX,hn]
     have hidx:es.findIdx? (λe=>(e.born:Int)==(n:Int))=some j:=by
      have htl:es.findIdx? (λe=>(e.born:Int)==(n:Int))=es.toList.findIdx? (λe=>(e.born:Int)==(n:Int)):=by
       conv=>lhs;rw[<-sJ (xs:=es)]
       exact List.findIdx?_toArray _ _
      rw[htl,kP];have hjl:=(bA.1 hej).1;have hjv:=(bA.1 hej).2;refine⟨hjl,by rw[hjv];simp[hbn],λj' hj'=>?_⟩;have hj'l:j'<es.toList.length:=by omega
      have hz':j'<z.length:=by have:=congrArg List.length h3.toList;simp at this hj'l;omega
      have e5:es.toList[j']=(z[j']).2:=by
       have:es.toList[j']?=some (z[j']).2:=by rw[h3.toList];simp[hz']
       exact(bA.1 this).2
      rw[e5];simp only[beq_iff_eq];intro e6
      have:=rH h3.born (aC hz') e2 (by have:(z[j']).2.born=n:=by exact_mod_cast e6
                                       rw[this,hbn])
      omega
     have hmod:es.modify j (λe=>{e with val:=vv})=es.modify j (λe=>{e with key:=k.val,val:=vv}):=by
      apply Array.ext';rw[lJ,lJ];apply iQ;intro j';rw[lC,lC];by_cases e:j=j'
      ·subst e;rw[hej];simp[hpk]
      ·simp[e]
     obtain⟨g1,g2⟩:=tQ h hi h1 h2 (h3.set e2 e3 hv) (UQ h3 e2 e3 h4);refine⟨_,?_,g1,g2,rfl⟩;simp only[Instr.entryStore,aV,cB,aN,jS h2,asInt,asIntOf,hidx,hmod,pJ h2]
    ·cases he
   ·cases he
  ·cases he
 ·cases he
end
def jC(d:Nat):Nat->List Nat
 |0=>[]
 |n+1=>d::jC (d+1) n
def stU:List Nat->List (Nat×R)
 |[]=>[]
 |i::r=>(i,.wL)::stU r
def vK(m:Mem):List Nat->Bool
 |[]=>true
 |i::r=>jN m i&&vK m r
def JP(P:Program)(m:Mem)(d:Nat)(t:TypeId)(x:A):Option E:=
 match x with
 |.h i=>match m i,CR P t with
  |some (.mp false kv st),some _=>some (jN m d&&(jN m (d+1)&&(vK m (jC (d+2) kv.length)&&(fL (.agg []) kv).isNone)),.h d,
    (d+1,.wL)::stU (jC (d+2) kv.length)++[(i,.mp false kv ((.agg [],d+1)::(kv.zip (jC (d+2) kv.length)).map λp=>(p.1.1,p.2))),(d,.it i (d+1) (jC (d+2) kv.length) [])])
  |_,_=>none
 |.d (.v (.map none))=>match CR P t with
  |some _=>some (jN m d,.h d,[(d,.it0)])
  |none=>none
 |.d (.v (.string s))=>some (yJ P t&&jN m d,.h d,[(d,.si s 0)])
 |_=>none
theorem wY{n d i:Nat}:i∈jC d n↔d<=i/\i<d+n:=by
 induction n generalizing d with
 |zero=>simp only[jC,List.not_mem_nil,false_iff];omega
 |succ n ih=>simp[jC,ih];omega
theorem aDQ(d n:Nat):(jC d n).length=n:=by
 induction n generalizing d with
 |zero=>rfl
 |succ n ih=>simp[jC,ih]
theorem TB{d n j:Nat}(h:j<n):(jC d n)[j]?=some (d+j):=by
 induction n generalizing d j with
 |zero=>omega
 |succ n ih=>
  cases j with
  |zero=>simp[jC]
  |succ j=>simp only[jC,jQ];rw[ih (by omega)];congr 1;omega
theorem VY(d n:Nat):(jC d n).Nodup:=by
 induction n generalizing d with
 |zero=>simp[jC]
 |succ n ih=>simp only[jC,gR];exact⟨λh=>by have:=wY.1 h;omega,ih _⟩
section
variable{M0 S0:Nat->Prop}{w0:World}{N:Fr}{T:Nat->A}{m:Mem}{ρ:Nat->Value}{a:Act}{w:World}{P:Program}
theorem bC.stamps(hlt:∀b,M0 b->b<w0.heap.size):∀(ns:List Nat)(d:Nat){m:Mem}{ρ:Nat->Value},bC M0 S0 w0 N T m ρ a w->vK m (jC d ns.length)=true->
 ∃ρ',bC M0 S0 w0 N T (aH m (stU (jC d ns.length))) ρ' a w/\cI m (aH m (stU (jC d ns.length))) ρ ρ'/\(∀b,dD M0 (aH m (stU (jC d ns.length))) ρ' b->dD M0 m ρ b)/\
  (∀(j n:Nat),ns[j]?=some n->ρ' (d+j)=.int .i64 (n:Int)/\aH m (stU (jC d ns.length)) (d+j)=some .wL)/\∀i,(i<d\/d+ns.length<=i)->aH m (stU (jC d ns.length)) i=m i/\ρ' i=ρ i
 |[],d,m,ρ,h,_=>⟨ρ,h,cI.refl m ρ,λ_ e=>e,by simp,λi _=>⟨rfl,rfl⟩⟩
 |n::ns,d,m,ρ,h,hf=>by
  simp only[aQ,jC,vK,aE]at hf;obtain⟨g1,g2,g3⟩:=h.aFS hlt (hG hf.1) n;have hf':vK (aX m d .wL) (jC (d+1) ns.length)=true:=by
   have:∀(l:List Nat),(∀i∈l,i≠d)->vK m l=true->vK (aX m d .wL) l=true:=by
    intro l;induction l with
    |nil=>intro _ h;exact h
    |cons i r ih=>
     intro hi h;simp only[vK,aE]at h⊢;refine⟨?_,ih (λj hj=>hi j (by simp[hj])) h.2⟩;have hid:=hi i (by simp);unfold jN at*;simp only[aX,hid,if_false];exact h.1
   exact this _ (λi hi=>by have:=wY.1 hi;omega) hf.2
  obtain⟨ρ',k1,k2,k3,k4,k5⟩:=bC.stamps hlt ns (d+1) g1 hf';refine⟨ρ',k1,g2.trans k2,λb hb=>g3 b (k3 b hb),λj n' hj=>?_,λi hi=>?_⟩
  ·cases j with
   |zero=>
    simp at hj;subst hj;obtain⟨q1,q2⟩:=k5 d (by omega);simp only[iE];exact⟨by rw[q2];simp[dW],by show aH (aX m d .wL) (stU (jC (d+1) ns.length)) d=_;rw[q1];simp[aX]⟩
   |succ j=>
    have:=k4 j n' (by simpa using hj);rw[show d+(j+1)=d+1+j by omega];exact this
  ·simp only[aQ]at hi;obtain⟨q1,q2⟩:=k5 i (by omega);have hid:i≠d:=by omega
   exact⟨by show aH (aX m d .wL) (stU (jC (d+1) ns.length)) i=_;rw[q1];simp[aX,hid],by rw[q2];simp[dW,hid]⟩
theorem aFD(h:bC M0 S0 w0 N T m ρ a w)(hlt:∀b,M0 b->b<w0.heap.size){d:Nat}{t:TypeId}{x u:A}{y:Value}{pre:Bool}{ups:List (Nat×R)}(hx:x.Den w (dD M0 m ρ) m ρ y)
 (he:JP P m d t x=some (pre,u,ups))(hp:pre=true):∃v w' ρ',(Instr.range t y).run P w=.ok v w'/\bC M0 S0 w0 N T (aH m ups) ρ' a w'/\cI m (aH m ups) ρ ρ'/\u.Den w' (dD M0 (aH m ups) ρ') (aH m ups) ρ' v:=by
 unfold JP at he;split at he
 ·rename_i i;split at he
  ·rename_i kv st kt hi hm;obtain⟨kt,et⟩:=kt;have hu:=vO hm;simp only[aA,aD]at he;obtain⟨rfl,rfl,rfl⟩:=he;simp only[aE]at hp;obtain⟨hp0,hp1,hp2,hp3⟩:=hp;obtain⟨b,es,cl,z,h1,h2,h3,h4⟩:=HO h hi;simp only[A.Den]at hx;have hy:=(eH hx hi (by simp)).trans h1;subst hy;have hd:=hG hp0;have hd1:=hG hp1;have hid:i≠d:=by rintro rfl;rw[hi]at hd;cases hd
   have hid1:i≠d+1:=by rintro rfl;rw[hi]at hd1;cases hd1
   obtain⟨f1,f2,f3⟩:=h.aFS hlt hd1 cl;have hfl:vK (aX m (d+1) .wL) (jC (d+2) kv.length)=true:=by
    have:∀(l:List Nat),(∀i∈l,i≠d+1)->vK m l=true->vK (aX m (d+1) .wL) l=true:=by
     intro l;induction l with
     |nil=>intro _ h;exact h
     |cons i r ih=>
      intro hi h;simp only[vK,aE]at h⊢;refine⟨?_,ih (λj hj=>hi j (by simp[hj])) h.2⟩;have hid:=hi i (by simp);unfold jN at*;simp only[aX,hid,if_false];exact h.1
    exact this _ (λi hi=>by have:=wY.1 hi;omega) hp2
   obtain⟨z',hz1,hz2⟩:=yR (f:=λp:(Ky×A)×MapEntry=>p.1) h3.perm.symm rfl;have hlen:kv.length=z'.length:=by rw[hz2];simp
   have hns:(z'.map (·.2.born)).length=kv.length:=by simp[hlen]
   obtain⟨ρ1,k1,k2,k3,k4,k5⟩:=bC.stamps hlt (z'.map (·.2.born)) (d+2) f1 (by rw[hns];exact hfl);rw[hns]at k1 k2 k3 k4 k5;have hfree:∀j,d+2<=j->j<d+2+kv.length->m j=none:=by
    intro j hj1 hj2;have:∀(l:List Nat),vK m l=true->j∈l->m j=none:=by
     intro l;induction l with
     |nil=>simp
     |cons q r ih=>
      intro hf hj;simp only[vK,aE]at hf;simp only[aO]at hj;rcases hj with rfl|hj
      ·exact hG hf.1
      ·exact ih hf.2 hj
    exact this _ hp2 (wY.2 ⟨hj1,hj2⟩)
   have hio:i<d+2\/d+2+kv.length<=i:=by
    rcases eQ i (d+2)with q|q
    ·exact .inl q
    ·rcases eQ i (d+2+kv.length)with q2|q2
     ·have:=hfree i q q2;rw[hi]at this;cases this
     ·exact .inr q2
   generalize hmu:aH (aX m (d+1) .wL) (stU (jC (d+2) kv.length))=mu at k1 k2 k3 k4 k5;obtain⟨q1,q2⟩:=k5 i hio;rw[show aX m (d+1) .wL i=m i by simp[aX,hid1]]at q1;rw[show dW ρ (d+1) (.int .i64 (cl:Int)) i=ρ i by simp[dW,hid1]]at q2;obtain⟨q3,_⟩:=k5 d (by omega);rw[show aX m (d+1) .wL d=m d by simp[aX]]at q3;obtain⟨q5,q6⟩:=k5 (d+1) (by omega);rw[show aX m (d+1) .wL (d+1)=some .wL by simp[aX]]at q5;rw[show dW ρ (d+1) (.int .i64 (cl:Int)) (d+1)=.int .i64 (cl:Int) by simp[dW]]at q6;have hO2:cI m mu ρ ρ1:=f2.trans k2;have hst:vW mu ρ1 ((.agg [],d+1)::(kv.zip (jC (d+2) kv.length)).map λp=>(p.1.1,p.2)) es.toList cl:=by
    intro p hp;simp only[aO]at hp;rcases hp with rfl|hp
    ·refine⟨by rw[q5];simp,λ_=>⟨λe he hek=>?_,by simp[dX,q6],λ_=>by simp[dX,q6]⟩⟩;exfalso;rw[h3.toList]at he;obtain⟨qz,hqz,rfl⟩:=aM.1 he;have e1:qz.1.1=.agg []:=Ky.val_inj (by rw[<-h3.key qz hqz,hek]);have hm':qz.1∈kv:=h3.perm.mem_iff.1 (aM.2 ⟨qz,hqz,rfl⟩);cases hg:fL (.agg []) kv with
     |none=>exact uM hg qz.1 hm' e1.symm
     |some _=>rw[hg]at hp3;cases hp3
    ·obtain⟨pq,hpq,rfl⟩:=aM.1 hp;obtain⟨j,hj⟩:=dY.1 hpq;rw[oH]at hj;have hjl:j<kv.length:=(bA.1 hj.1).1;have hj2:=hj.2;rw[TB hjl]at hj2;simp at hj2;have hj1:=hj.1;rw[hz2]at hj1;simp only[cK,bU]at hj1;obtain⟨pz,hpz,hpz2⟩:=hj1;obtain⟨r1,r2⟩:=k4 j pz.2.born (by simp[hpz]);have hpzm:=hz1.mem_iff.1 (c6 hpz);rw[<-hj2]
     refine⟨by rw[r2];simp,λ_=>⟨λe he hek=>?_,by simp only[dX,r1,lB];exact Nat.le_of_lt (h3.old pz hpzm),λe=>by
      exfalso;have hm':pz.1∈kv:=h3.perm.mem_iff.1 (aM.2 ⟨pz,hpzm,rfl⟩);cases hg:fL (.agg []) kv with
      |none=>exact uM hg pz.1 hm' (by rw[hpz2];exact e.symm)
      |some _=>rw[hg]at hp3;cases hp3⟩⟩
     simp only[dX,r1,lB];rw[h3.toList]at he;obtain⟨qz,hqz,rfl⟩:=aM.1 he;have e1:qz.1.1=pz.1.1:=Ky.val_inj (by rw[<-h3.key qz hqz,hek,hpz2]);obtain⟨j1,hj1⟩:=dY.1 hqz;obtain⟨j2,hj2⟩:=dY.1 hpzm;have:=rH h3.nodup hj1 hj2 e1;subst this;rw[hj1]at hj2;cases hj2;rfl
   obtain⟨g1,g2⟩:=tQ k1 (q1.trans hi) (q2.trans h1) h2 (h3.mono (dV.refl _ w) (λb hb _=>f3 b (k3 b hb)) hO2) hst;have hpo:w.gW b (.map es cl)=w:=by
    have hlt':=(aL.1 h2).1;have:w.heap.setIfInBounds b (.map es cl)=w.heap:=by
     apply Array.ext_getElem?;intro j;by_cases e:b=j
     ·subst e;have:=(aL.1 h2).2;simp[hlt',this]
     ·rw[eD e]
    simp only[World.gW,this]
   rw[hpo]at g1;generalize hmw:R.mp false kv ((.agg [],d+1)::(kv.zip (jC (d+2) kv.length)).map λp=>(p.1.1,p.2))=rm at g1 g2;have hd':aX mu i rm d=none:=by simp[aX,tG hid,q3,hd]
   have hmemU:∀j,d+2<=j->j<d+2+kv.length->aX mu i rm j=some .wL/\∃pz:(Ky×A)×MapEntry,z'[j -(d+2)]?=some pz/\ρ1 j=.int .i64 pz.2.born:=by
    intro j hj1 hj2;have hji:j≠i:=by rintro rfl;have:=hfree j hj1 hj2;rw[hi]at this;cases this
    have hjz:j -(d+2)<z'.length:=by omega
    obtain⟨r1,r2⟩:=k4 (j -(d+2)) z'[j -(d+2)].2.born (by simp[hjz]);rw[show d+2+(j -(d+2))=j by omega]at r1 r2;exact⟨by simp[aX,hji,r2],_,aC hjz,r1⟩
   have h5:bC M0 S0 w0 N T (aX (aX mu i rm) d (.it i (d+1) (jC (d+2) kv.length) [])) (dW ρ1 d (.pointer (some ⟨w.heap.size,0,none⟩))) a (w.alloc (.mapIter (some b) cl #[] cl)):=by
    refine g1.rG hlt (jF w _) hd' rfl (by simp[jK]) ?_;intro hO hst hm;refine⟨w.heap.size,b,cl,#[],rfl,heap_alloc_new w _,⟨by simp[aX,hid],λ_=>by simp[dW,hid,q2,h1]⟩,⟨by simp[aX,tG hid1,q5],λ_=>by simp[dX,dW,q6]⟩,?_⟩;refine⟨by simp,λj hj=>?_,λ_=>⟨VY _ _,?_,λj hj=>?_,by simp,by simp⟩⟩
    ·have hj':=wY.1 hj;have:=(hmemU j hj'.1 hj'.2).1;have hjd:j≠d:=by omega
     rw[show aX (aX mu i rm) d (R.it i (d+1) (jC (d+2) kv.length) []) j=some .wL by rw[<-this];simp[aX,hjd]];simp
    ·have e1:(jC (d+2) kv.length).map (dX (dW ρ1 d (.pointer (some ⟨w.heap.size,0,none⟩))))=z'.map (·.2.born):=by
      apply iQ;intro j;rcases eQ j kv.length with hj|hj
      ·obtain⟨_,pz,r1,r2⟩:=hmemU (d+2+j) (by omega) (by omega);rw[show d+2+j -(d+2)=j by omega]at r1;have hne:d+2+j≠d:=by omega
       simp[cK,TB hj,r1,dX,dW,hne,r2]
      ·rw[c8 (by simp[aDQ];omega),c8 (by simp;omega)]
     rw[e1];exact((hz1.map (·.2.born)).nodup_iff).2 h3.born
    ·have hj':=wY.1 hj;obtain⟨_,pz,r1,r2⟩:=hmemU j hj'.1 hj'.2;have hne:j≠d:=by omega
     refine⟨?_,by simp⟩;simp only[dX,dW,hne,if_false,r2,lB];exact h3.old pz (hz1.mem_iff.1 (c6 r1))
   have hap:aH m ((d+1,.wL)::stU (jC (d+2) kv.length)++[(i,rm),(d,.it i (d+1) (jC (d+2) kv.length) [])])=aX (aX mu i rm) d (.it i (d+1) (jC (d+2) kv.length) []):=by
    rw[vX];simp only[aH,hmu]
   rw[hap];refine⟨.pointer (some ⟨w.heap.size,0,none⟩),_,_,?_,h5,(hO2.trans g2).trans (cI.new _ _ hd'),?_⟩
   ·simp only[Instr.range,aV,run_underlying hu,aN,jS h2,cB,run_newObj,kN]
   ·simp only[A.Den];exact⟨by simp[aX],λ_=>by simp[dW]⟩
  ·cases he
 ·split at he
  ·rename_i kt hm;obtain⟨kt,et⟩:=kt;have hu:=vO hm;simp only[aA,aD]at he;obtain⟨rfl,rfl,rfl⟩:=he;simp only[A.Den,C.Den]at hx;subst hx;refine⟨.pointer (some ⟨w.heap.size,0,none⟩),w.alloc (.mapIter none 0 #[] 0),dW ρ d (.pointer (some ⟨w.heap.size,0,none⟩)),?_,?_,cI.new _ _ (hG hp),?_⟩
   ·simp only[Instr.range,aV,run_underlying hu,aN,cB,run_newObj,kN]
   ·exact h.rG hlt (jF w _) (hG hp) rfl (by simp[jK]) λ_ _ _=>⟨w.heap.size,rfl,heap_alloc_new w _⟩
   ·simp only[aH,A.Den];exact⟨by simp[aX],λ_=>by simp[dW]⟩
  ·cases he
 ·rename_i s;simp only[aA,aD]at he;obtain⟨rfl,rfl,rfl⟩:=he;rw[aE]at hp;simp only[A.Den,C.Den]at hx;subst hx;refine⟨.pointer (some ⟨w.heap.size,0,none⟩),w.alloc (.stringIter s 0),dW ρ d (.pointer (some ⟨w.heap.size,0,none⟩)),?_,?_,cI.new _ _ (hG hp.2),?_⟩
  ·simp only[Instr.range,aV,run_underlying (oB hp.1),aN,cB,run_newObj,kN]
  ·exact h.rG hlt (jF w _) (hG hp.2) rfl (by simp[jK]) λ_ _ _=>⟨w.heap.size,rfl,heap_alloc_new w _⟩
  ·simp only[aH,A.Den];exact⟨by simp[aX],λ_=>by simp[dW]⟩
 ·cases he
end
abbrev Out:=A×List (Nat×R)
def aI8(c:KC):C:=.v c.val
def kyA:Ky->A
 |.one c=>.d (.v c.val)
 |.agg l=>.d (.agg (l.map aI8))
def UP(k:Ky):List (Ky×Nat)->Option Nat
 |[]=>none
 |p::r=>if k=p.1 then some p.2 else UP k r
def leftOf(st:List (Ky×Nat))(start seen:List Nat):List (Ky×A)->Option (List (Ky×A×Nat))
 |[]=>some []
 |p::r=>match UP p.1 st,leftOf st start seen r with
  |some s,some l=>if s∈start then(if s∈seen then some l else some ((p.1,p.2,s)::l))else none
  |_,_=>none
def uW(m:Mem):List Nat->Bool
 |[]=>true
 |i::r=>(match m i with|some .wL=>true|_=>false)&&uW m r
def IE(m:Mem)(x:A)(isS:Bool):Option (Bool×List Out):=
 match x with
 |.h d=>match m d,isS with
  |some (.it i sc start seen),false=>match m i with
   |some (.mp _ kv st)=>match leftOf st start seen kv with
    |some []=>some (uW m (sc::start)&&decide ((Ky.agg [],sc)∈st),[(.eL [.d (.v (.bool false))],[])])
    |some l=>some (uW m (sc::start)&&decide ((Ky.agg [],sc)∈st),l.map λq=>(.eL [.d (.v (.bool true)),kyA q.1,q.2.1],[(d,.it i sc start (q.2.2::seen))]))
    |none=>none
   |_=>none
  |some .it0,false=>some (true,[(.eL [.d (.v (.bool false))],[])])
  |some (.si s pos),true=>if pos<s.size then some (true,[(.eL [.d (.v (.bool true)),.d (.v (.int .i64 pos)),.d (.v (.int .i32 (Utf8.decode s pos).1))],[(d,.si s (pos+(Utf8.decode s pos).2))])])
   else some (true,[(.eL [.d (.v (.bool false))],[])])
  |_,_=>none
 |_=>none
theorem BI{k:Ky}{s:Nat}:∀{st:List (Ky×Nat)},UP k st=some s->(k,s)∈st
 |[],h=>by simp[UP]at h
 |p::r,h=>by
  simp only[UP]at h;split at h
  ·rename_i e;simp at h;subst h;subst e;simp
  ·simp[BI h]
theorem HM{st:List (Ky×Nat)}{start seen:List Nat}:∀{kv:List (Ky×A)}{l:List (Ky×A×Nat)},leftOf st start seen kv=some l->
 ∀p∈kv,∃s,(p.1,s)∈st/\s∈start/\((s∈seen)\/(s∉seen/\(p.1,p.2,s)∈l))
 |[],l,h,p,hp=>by simp at hp
 |q::r,l,h,p,hp=>by
  simp only[leftOf]at h;split at h
  ·rename_i s l' h1 h2;split at h
   ·rename_i h3;simp only[aO]at hp;have key:∀p∈r,∃s,(p.1,s)∈st/\s∈start/\((s∈seen)\/(s∉seen/\(p.1,p.2,s)∈l')):=HM h2;split at h
    ·rename_i h4;simp only[aA]at h;subst h;rcases hp with rfl|hp
     ·exact⟨s,BI h1,h3,.inl h4⟩
     ·exact key p hp
    ·rename_i h4;simp only[aA]at h;subst h;rcases hp with rfl|hp
     ·exact⟨s,BI h1,h3,.inr ⟨h4,by simp⟩⟩
     ·obtain⟨s',g1,g2,g3⟩:=key p hp;exact⟨s',g1,g2,g3.imp id λ⟨a,b⟩=>⟨a,by simp[b]⟩⟩
   ·cases h
  ·cases h
theorem AH{st:List (Ky×Nat)}{start seen:List Nat}:∀{kv:List (Ky×A)}{l:List (Ky×A×Nat)},leftOf st start seen kv=some l->∀q∈l,(q.1,q.2.1)∈kv/\(q.1,q.2.2)∈st/\q.2.2∈start/\q.2.2∉seen
 |[],l,h,q,hq=>by simp[leftOf]at h;subst h;simp at hq
 |p::r,l,h,q,hq=>by
  simp only[leftOf]at h;split at h
  ·rename_i s l' h1 h2;split at h
   ·rename_i h3;split at h
    ·simp only[aA]at h;subst h;obtain⟨a,b⟩:=AH h2 q hq;exact⟨by simp[a],b⟩
    ·rename_i h4;simp only[aA]at h;subst h;simp only[aO]at hq;rcases hq with rfl|hq
     ·exact⟨by simp,BI h1,h3,h4⟩
     ·obtain⟨a,b⟩:=AH h2 q hq;exact⟨by simp[a],b⟩
   ·cases h
  ·cases h
section
variable{M0 S0:Nat->Prop}{w0:World}{N:Fr}{T:Nat->A}{m:Mem}{ρ:Nat->Value}{a:Act}{w:World}{P:Program}
theorem yU:∀{l:List Nat},uW m l=true->∀i∈l,m i=some .wL
 |[],_,i,hi=>by simp at hi
 |j::r,h,i,hi=>by
  simp only[uW,aE]at h;simp only[aO]at hi;rcases hi with rfl|hi
  ·have h1:=h.1;split at h1
   ·assumption
   ·cases h1
  ·exact yU h.2 i hi
theorem IJ(k:Ky)(M:Nat->Prop):(kyA k).Den w M m ρ k.val:=by
 cases k with
 |one c=>simp[kyA,A.Den,C.Den,Ky.val]
 |agg l=>
  simp only[kyA,A.Den,C.Den,Ky.val];refine⟨_,rfl,?_,?_⟩
  ·intro u hu;simp at hu;obtain⟨c,_,rfl⟩:=hu;cases c<;>rfl
  ·simp only[List.toArray];induction l with
   |nil=>simp[C.bR]
   |cons c r ih=>simp only[aG,C.bR];exact⟨_,_,rfl,by simp[aI8,C.Den],by simpa using ih⟩
theorem uN{b:Nat}{o o':Obj}(h:w.heap[b]?=some o')(hc:∀c e f,o'≠.cells c e f):(setObj b o).run P w=.ok () (w.gW b o):=by
 cases o'<;>first
  |(exact absurd rfl (hc _ _ _))
  |simp[setObj,Sem.run,h,World.gW]
theorem aIF(h:bC M0 S0 w0 N T m ρ a w){x:A}{isS:Bool}{y:Value}{ty:TypeId}{pre:Bool}{outs:List Out}(hx:x.Den w (dD M0 m ρ) m ρ y)(he:IE m x isS=some (pre,outs))(hp:pre=true):
 ∃o∈outs,∃v w',(Instr.next y isS ty).run P w=.ok v w'/\bC M0 S0 w0 N T (aH m o.2) ρ a w'/\cI m (aH m o.2) ρ ρ/\o.1.Den w' (dD M0 (aH m o.2) ρ) (aH m o.2) ρ v:=by
 have hfalse:∀{w':World}{m':Mem}{M:Nat->Prop},(A.eL [.d (.v (.bool false))]).Den w' M m' ρ (.tuple #[.bool false]):=by
  intro w' m' M;simp only[A.Den,A.bR,C.Den];exact⟨_,rfl,_,_,rfl,rfl,rfl⟩
 unfold IE at he;split at he
 ·rename_i d;simp only[A.Den]at hx;split at he
  ·rename_i i sc start seen hd;have hy:=eH hx hd (by simp);split at he
   ·rename_i fz kv st hi;obtain⟨b,mb,si,sa,e1,e2,e3,e5,e6⟩:=h.res d _ hd;obtain⟨b',es,cl,z,g1,g2,g3,g4⟩:=HO h hi;have e3':=eH e3 hi (by simp);rw[g1]at e3';simp at e3';subst e3';rw[e1]at hy;subst hy;have hpre:pre=(uW m (sc::start)&&decide ((Ky.agg [],sc)∈st)):=by
     split at he<;>first
      |(simp only[aA,aD]at he;exact he.1.symm)
      |cases he
    rw[hpre,aE]at hp;have hsta:=yU hp.1;have hsc:=of_decide_eq_true hp.2;have hscv:dX ρ sc=si:=eH e5 (hsta sc (by simp)) (by simp);have hsicl:si=cl:=by
     have:=(eH (g4 _ hsc) (hsta sc (by simp)) (by simp)).2.2 rfl;rw[hscv]at this;exact this
    obtain⟨hnd,hndS,hall,hsub,hback⟩:=e6.2.2 (λj hj e=>by rw[hsta j (by simp[hj])]at e;cases e);have hborn:∀p∈z,∀s,(p.1.1,s)∈st->s∈start->p.2.born=dX ρ s:=by
     intro p hp s hs hss;have:=(eH (g4 _ hs) (hsta s (by simp[hss])) (by simp)).1 p.2 (by rw[g3.toList];exact aM.2 ⟨p,hp,rfl⟩) (g3.key p hp);exact this
    have hleft:∀{l},leftOf st start seen kv=some l->∀p∈z,∃s,s∈start/\p.2.born=dX ρ s/\(s∈seen\/(s∉seen/\(p.1.1,p.1.2,s)∈l)):=by
     intro l hl p hp;obtain⟨s,q1,q2,q3⟩:=HM hl p.1 (g3.perm.mem_iff.1 (aM.2 ⟨p,hp,rfl⟩));exact⟨s,q2,hborn p hp s q1 q2,q3⟩
    have hfil:∀{l},leftOf st start seen kv=some l->∀e,e∈es.filter (λe=> !sa.contains e.born)↔∃p∈z,e=p.2/\∃s,s∈start/\p.2.born=dX ρ s/\s∉seen/\(p.1.1,p.1.2,s)∈l:=by
     intro l hl e;rw[rN];constructor
     ·rintro⟨h1,h2⟩;have h1':e∈es.toList:=by simpa using h1
      rw[g3.toList]at h1';obtain⟨p,hp,rfl⟩:=aM.1 h1';obtain⟨s,q1,q2,q3⟩:=hleft hl p hp;have:=(hall s q1).2;rw[<-q2]at this;rw[this]at h2;have hns:s∉seen:=by simpa using h2
      exact⟨p,hp,rfl,s,q1,q2,hns,(q3.resolve_left hns).2⟩
     ·rintro⟨p,hp,rfl,s,q1,q2,q3,_⟩;refine⟨?_,?_⟩
      ·have:p.2∈es.toList:=by rw[g3.toList];exact aM.2 ⟨p,hp,rfl⟩
       simpa using this
      ·have:=(hall s q1).2;rw[q2,this];simpa using q3
    have holdB:∀{l},leftOf st start seen kv=some l->∀e∈es,e.born<si:=by
     intro l hl e he;have he':e∈es.toList:=by simpa using he
     rw[g3.toList]at he';obtain⟨p,hp,rfl⟩:=aM.1 he';obtain⟨s,q1,q2,_⟩:=hleft hl p hp;rw[q2];exact(hall s q1).1
    have hcheck:∀{l},leftOf st start seen kv=some l->(!sa.isEmpty&& !es.isEmpty&&es.all (λe=>decide (e.born≥si)))=false:=by
     intro l hl;cases hE:es.isEmpty with
     |true=>simp
     |false=>
      have:∃e,e∈es:=by
       have:0<es.size:=by
        rcases pM es.size with q|q
        ·simp[Array.isEmpty,q]at hE
        ·exact q
       exact⟨es[0],by simp⟩
      obtain⟨e,he⟩:=this;have h1:=holdB hl e he;have:es.all (λe=>decide (e.born≥si))=false:=by
       rw[Array.all_eq_false'];exact⟨e,he,by simp;omega⟩
      simp[this]
    have hold:∀{l},leftOf st start seen kv=some l->(es.filter (λe=> !sa.contains e.born)).filter (λe=>decide (e.born<si))=es.filter (λe=> !sa.contains e.born)/\(es.filter (λe=> !sa.contains e.born)).filter (λe=>decide (e.born≥si))= #[]:=by
     intro l hl;constructor
     ·rw[Array.filter_eq_self];intro e he;have:=holdB hl e (rN.1 he).1;simpa using this
     ·rw[Array.filter_eq_empty_iff];intro e he;have:=holdB hl e (rN.1 he).1;simp;omega
    have CL:m d=some (.it i sc start seen):=hd;have hdraw:∀(n:Nat),0<n->∃k w1,(choose (.mapNext n)).run P w=.ok k w1/\k<n/\bC M0 S0 w0 N T m ρ a w1/\w1.heap=w.heap:=by
     intro n hn;by_cases h1:n<=1
     ·exact⟨0,w,by simp[choose,Sem.run,Question.forced,h1],hn,h,rfl⟩
     ·refine⟨(Question.mapNext n).cut (w.tape w.drawn (.mapNext n)),{w with drawn:=w.drawn+1},?_,by simp only[Question.cut];exact u5 _ hn,h.drew _,rfl⟩;simp only[choose,Sem.run,Question.forced,h1,decide_false,bY,if_false]
    cases hl:leftOf st start seen kv with
    |none=>rw[hl]at he;cases he
    |some l=>
     rw[hl]at he;obtain⟨o1,o2⟩:=hold hl;have hc:=hcheck hl;have hf:=hfil hl;cases l with
     |nil=>
      simp only[aA,aD]at he;obtain⟨_,rfl⟩:=he;have hemp:es.filter (λe=> !sa.contains e.born)= #[]:=by
       apply jA;rcases pM (es.filter (λe=> !sa.contains e.born)).size with q|q
       ·exact q
       ·have hmem:(es.filter (λe=> !sa.contains e.born))[0]'q∈es.filter (λe=> !sa.contains e.born):=Array.getElem_mem q;obtain⟨p,_,_,s,_,_,_,hm⟩:=(hf _).1 hmem;simp at hm
      refine⟨_,aR.2 rfl,.tuple #[.bool false],w,?_,h,cI.refl m ρ,hfalse⟩;simp only[Instr.next,aV];rw[show(getObj b).run P w=.ok (.mapIter (some b') si sa si) w by simp[getObj,Sem.run,e2]];simp only[aN,aV];rw[jS g2];simp only[aN,aV,hc,bY,if_false,cB,hemp];simp[choose,Sem.run,Question.forced]
     |cons q l'=>
      simp only[aA,aD]at he;obtain⟨_,rfl⟩:=he;generalize hF:es.filter (λe=> !sa.contains e.born)=F at o1 o2 hf;have hpos:0<F.size:=by
       obtain⟨q1,q2,q3,q4⟩:=AH hl q (by simp);obtain⟨p,hp,hp2⟩:=aM.1 (g3.perm.mem_iff.2 q1);have:p.2∈F:=(hf p.2).2 ⟨p,hp,rfl,q.2.2,q3,hborn p hp q.2.2 (by rw[hp2];exact q2) q3,q4,by rw[hp2];simp⟩;rcases pM F.size with z0|z0
       ·have:=jA z0;subst this;simp at*
       ·exact z0
      obtain⟨k,w1,hk1,hk2,hk3,hk4⟩:=hdraw F.size hpos;obtain⟨p,hpz,hpe,s,hs1,hs2,hs3,hs4⟩:=(hf F[k]).1 (by simp);have hw1b:w1.heap[b]?=some (.mapIter (some b') si sa si):=by rw[hk4];exact e2
      have hO:cI m (aX m d (.it i sc start (s::seen))) ρ ρ:=by
       have:=cI.set (m:=m) (ρ:=ρ) d (.it i sc start (s::seen)) (ρ d) (λ_ _=>⟨by rw[CL];simp,rfl,λfz t es l e=>by rw[CL]at e;simp at e⟩)
       rwa [jP]at this
      refine⟨_,aM.2 ⟨_,hs4,rfl⟩,.tuple #[.bool true,F[k].key,F[k].val],w1.gW b (.mapIter (some b') si (sa.push F[k].born) cl),?_,?_,hO,?_⟩
      ·simp only[Instr.next,aV];rw[show(getObj b).run P w=.ok (.mapIter (some b') si sa si) w by simp[getObj,Sem.run,e2]];simp only[aN,aV];rw[jS g2];have hne:F.isEmpty=false:=by unfold Array.isEmpty;exact decide_eq_false (by omega)
       simp only[aN,aV,hc,bY,if_false,cB,hF,o1,o2,hne,Array.empty_append,Array.append_empty,Array.size_map,hk1,Array.getElem?_map,cF hk2,dF];rw[uN hw1b (by simp)];simp
      ·refine hk3.write CL rfl rfl (by simp) (mJ w1 b _) (λc _ e=>by rw[e1,e];rfl) λhO' hst' hm'=>?_;refine⟨b,b',si,_,e1,by rw[tS hw1b,hsicl],e3.mono hO' λe _ q=>e.trans q,e5.mono hO' λe _ q=>q,?_⟩
       refine⟨λj hj=>by
        simp only[aO]at hj;rcases hj with rfl|hj
        · exact hs1
        · exact hsub j hj,λj hj=>by
        have hjd:j≠d:=by rintro rfl;have:=hsta j (by simp[hj]);rw[CL]at this;cases this
        simp[aX,hjd,hsta j (by simp[hj])],λ_=>⟨hnd,hndS,λj hj=>⟨(hall j hj).1,?_⟩,λj hj=>by
         simp only[aO]at hj;rcases hj with rfl|hj
         · exact hs1
         · exact hsub j hj,by simp[hpe,hs2]⟩⟩
       have hcj:=(hall j hj).2;have hbk:F[k].born=dX ρ s:=by rw[hpe];exact hs2
       rw[Array.contains_push,hcj,hbk];by_cases hjs:j=s
       ·subst hjs;simp
       ·have hne:dX ρ j≠dX ρ s:=λe=>hjs (by
         obtain⟨j1,hj1⟩:=dY.1 hj;obtain⟨j2,hj2⟩:=dY.1 hs1;have:=rH hndS hj1 hj2 e
         subst this;rw[hj1]at hj2;cases hj2;rfl)
        simp[hjs,hne]
      ·have hkey:F[k].key=p.1.1.val:=by rw[hpe];exact g3.key p hpz
       have hval:A.Den (w1.gW b (.mapIter (some b') si (sa.push F[k].born) cl)) (dD M0 (aX m d (.it i sc start (s::seen))) ρ) (aX m d (.it i sc start (s::seen))) ρ p.1.2 F[k].val:=by
        rw[hpe];have hst1:dV (dD M0 m ρ) w (w1.gW b (.mapIter (some b') si (sa.push p.2.born) cl)):=by
         refine⟨by simp[World.gW,hk4],λc hc1 hc2=>?_⟩;have hcb:c≠b:=by rintro rfl;exact hc2 (.inr ⟨d,_,CL,rfl,by rw[e1];rfl⟩)
         show(w1.heap.setIfInBounds b _)[c]?=_;rw[eD (tG hcb),hk4]
        refine A.dC hst1 ?_ hO _ _ (g3.den p hpz);rintro c (e|⟨i',r,q1,q2,q3⟩) _
        ·exact .inl e
        ·by_cases ei:i'=d
         ·subst ei;exact .inr ⟨i',_,CL,rfl,q3⟩
         ·exact .inr ⟨i',r,by simpa [aX,ei]using q1,q2,q3⟩
       simp only[aH,A.Den];refine⟨_,rfl,?_⟩;simp only[A.bR];exact⟨_,_,rfl,by simp[A.Den,C.Den],_,_,rfl,by rw[hkey];exact IJ _ _,_,_,rfl,hval,rfl⟩
   ·cases he
  ·rename_i hd;simp only[aA,aD]at he;obtain⟨_,rfl⟩:=he;obtain⟨b,e1,e2⟩:=h.res d _ hd;have hy:=eH hx hd (by simp);rw[e1]at hy;subst hy;refine⟨_,aR.2 rfl,.tuple #[.bool false],w,?_,h,cI.refl m ρ,hfalse⟩;simp[Instr.next,getObj,Sem.run,e2]
  ·rename_i s pos hd;obtain⟨b,e1,e2⟩:=h.res d _ hd;have hy:=eH hx hd (by simp);rw[e1]at hy;subst hy;split at he
   ·rename_i hlt;simp only[aA,aD]at he;obtain⟨_,rfl⟩:=he;have hO:cI m (aX m d (.si s (pos+(Utf8.decode s pos).2))) ρ ρ:=by
     have:=cI.set (m:=m) (ρ:=ρ) d (.si s (pos+(Utf8.decode s pos).2)) (ρ d) (λ_ _=>⟨by rw[hd];simp,rfl,λfz t es l e=>by rw[hd]at e;simp at e⟩)
     rwa [jP]at this
    refine⟨_,aR.2 rfl,.tuple #[.bool true,goInt pos,.int .i32 (Utf8.decode s pos).1],w.gW b (.stringIter s (pos+(Utf8.decode s pos).2)),?_,?_,hO,?_⟩
    ·simp only[Instr.next,aV];rw[show(getObj b).run P w=.ok (.stringIter s pos) w by simp[getObj,Sem.run,e2]];simp only[aN,hlt,if_true,aV];rw[uN e2 (by simp)];simp
    ·exact h.write hd rfl rfl (by simp) (mJ w b _) (λk _ e=>by rw[e1,e];rfl) λ_ _ _=>⟨b,e1,tS e2⟩
    ·simp only[A.Den,A.bR,C.Den];exact⟨_,rfl,_,_,rfl,rfl,_,_,rfl,rfl,_,_,rfl,rfl,rfl⟩
   ·rename_i hlt;simp only[aA,aD]at he;obtain⟨_,rfl⟩:=he;refine⟨_,aR.2 rfl,.tuple #[.bool false],w,?_,h,cI.refl m ρ,hfalse⟩;simp only[Instr.next,aV];rw[show(getObj b).run P w=.ok (.stringIter s pos) w by simp[getObj,Sem.run,e2]];simp[hlt]
  ·cases he
 ·cases he
end
def JK(m:Mem)(x:A):Option E:=
 match x with
 |.h d=>match m d with
  |some (.it i sc start (s::_))=>match m i with
   |some (.mp _ kv st)=>match st.find? λp=>p.2==s&&p.1 !=.agg []with
    |some (k,_)=>match fL k kv with
     |some a=>some (uW m (sc::start)&&decide ((Ky.agg [],sc)∈st),.eL [kyA k,a],[])
     |none=>none
    |none=>none
   |_=>none
  |_=>none
 |_=>none
theorem vJ{α:Type}{p:α->Bool}:∀{l:List α}{x:α},x∈l->p x=true->(∀y∈l,p y=true->y=x)->l.find? p=some x
 |[],x,h,_,_=>by simp at h
 |y::l,x,h,hp,hu=>by
  simp only[eN];cases hy:p y with
  |true=>rw[hu y (by simp) hy]
  |false=>
   simp only;simp only[aO]at h;rcases h with rfl|h
   ·rw[hp]at hy;cases hy
   ·exact vJ h hp λz hz=>hu z (by simp[hz])
section
variable{M0 S0:Nat->Prop}{w0:World}{N:Fr}{T:Nat->A}{m:Mem}{ρ:Nat->Value}{a:Act}{w:World}{P:Program}
theorem aE8(h:bC M0 S0 w0 N T m ρ a w){x v:A}{y:Value}{pre:Bool}{ups:List (Nat×R)}(hx:x.Den w (dD M0 m ρ) m ρ y)(he:JK m x=some (pre,v,ups))(hp:pre=true):
 ups=[]/\∃z,(Instr.entry y).run P w=.ok z w/\v.Den w (dD M0 m ρ) m ρ z:=by
 unfold JK at he;split at he
 ·rename_i d;simp only[A.Den]at hx;split at he
  ·rename_i i sc start s seen hd;have hy:=eH hx hd (by simp);split at he
   ·rename_i fz kv st hi;split at he
    ·rename_i k s' hfi;split at he
     ·rename_i a0 hg;simp only[aA,aD]at he;obtain⟨rfl,rfl,rfl⟩:=he;obtain⟨b,mb,si,sa,e1,e2,e3,e5,e6⟩:=h.res d _ hd;obtain⟨b',es,cl,z,g1,g2,g3,g4⟩:=HO h hi;have e3':=eH e3 hi (by simp);rw[g1]at e3';simp at e3';subst e3';rw[e1]at hy;subst hy;rw[aE]at hp;have hsta:=yU hp.1;have hsc:=of_decide_eq_true hp.2;have hscv:dX ρ sc=si:=eH e5 (hsta sc (by simp)) (by simp);have hsicl:si=cl:=by
       have:=(eH (g4 _ hsc) (hsta sc (by simp)) (by simp)).2.2 rfl;rw[hscv]at this;exact this
      obtain⟨hnd,hndS,hall,hsub,hback⟩:=e6.2.2 (λj hj e=>by rw[hsta j (by simp[hj])]at e;cases e);have hmem:=cT hfi;have hs':s'=s:=by have:=iD hfi;simp at this;exact this.1
      subst hs';rcases g3.find k with⟨_,q2⟩|⟨j,p,q1,q2,q3,q4⟩
      ·rw[q2]at hg;cases hg
      rw[q4]at hg;simp only[aA]at hg;subst hg;have hpz:=c6 q2;have hpe:p.2∈es.toList:=by rw[g3.toList];exact aM.2 ⟨p,hpz,rfl⟩
      have hpk:p.2.key=k.val:=by rw[<-q3];exact g3.key p hpz
      have hbn:=(eH (g4 _ hmem) (hsta s' (by simp[hsub s' (by simp)])) (by simp)).1 p.2 hpe hpk;have hfind:es.find? (λe=>e.born==dX ρ s')=some p.2:=by
       have:es.find? (λe=>e.born==dX ρ s')=es.toList.find? (λe=>e.born==dX ρ s'):=by
        conv=>lhs;rw[<-sJ (xs:=es)]
        exact List.find?_toArray _ _
       rw[this];refine vJ hpe (by simp[hbn]) λe he hb=>?_;rw[g3.toList]at he;obtain⟨q,hq,rfl⟩:=aM.1 he;obtain⟨jq,hjq⟩:=dY.1 hq;have:=rH g3.born hjq q2 (by rw[hbn];simpa using hb);subst this;rw[q2]at hjq;cases hjq;rfl
      refine⟨rfl,.tuple #[p.2.key,p.2.val],?_,?_⟩
      ·simp only[Instr.entry,aV];rw[show(getObj b).run P w=.ok (.mapIter (some b') si sa si) w by simp[getObj,Sem.run,e2]];simp only[aN,hback,List.head?_cons,dF,aV];rw[jS g2];simp only[aN,hsicl,bne_self_eq_false,bY,if_false,aV,cB,hfind]
      ·simp only[A.Den,A.bR];exact⟨_,rfl,_,_,rfl,by rw[hpk];exact IJ _ _,_,_,rfl,g3.den p hpz,rfl⟩
     ·cases he
    ·cases he
   ·cases he
  ·cases he
 ·cases he
def PU(P:Program)(t:TypeId)(x y:A):Option (Bool×Bool):=
 match keyOf x,keyOf y with
 |some (.agg a),some (.agg b)=>some ((Ky.agg a).fits P t&&(Ky.agg a).same (.agg b)&& !P.eqGuardType P.depth t,decide (a=b))
 |_,_=>none
theorem aE9{op:BinOp}{t:TypeId}{x y:A}{u v:Value}{ox oy:Operand}{pre b:Bool}(hx:x.Den w M m ρ u)(hy:y.Den w M m ρ v)(he:PU P t x y=some (pre,b))(hp:pre=true)(hop:op=.eql\/op=.neq):
 (do eqGuard op t ox oy u v;binOp op t u v).run P w=.ok (.bool (if op=.eql then b else !b)) w:=by
 unfold PU at he;split at he
 ·rename_i k l h1 h2;simp only[aA,aD]at he;obtain⟨rfl,rfl⟩:=he;have e1:=rF h1 hx;have e2:=rF h2 hy;subst e1;subst e2;simp only[aE,k9]at hp;have hq:=UC (w:=w) 9995 hp.1.1 hp.1.2;simp only[Ky.val]at hq⊢;simp only[aV,run_eqGuard_agg w op t ox oy _ _ hp.2,aN];rcases hop with rfl|rfl
  ·rw[run_eql_struct w];simp only[hq,aN];simp
  ·rw[run_neq_struct w];simp only[hq,aN];simp
 ·cases he
def zY(P:Program)(t:TypeId)(x ix:A):Option E:=
 match x,ix with
 |.d (.v (.string s)),.d (.v (.int _ n))=>match s[n.toNat]? with
  |some b=>some (yJ P t&&decide (0<=n),.d (.v (.int .u8 b.toNat)),[])
  |none=>none
 |.agg l,.d (.v (.int _ n))=>match P.underlying t with
  |some (.array len e)=>match oP P e with
   |some true=>some (decide (0<=n/\n<len/\n.toNat*P.cellsOf e+P.cellsOf e<=l.length),.agg ((l.drop (n.toNat*P.cellsOf e)).take (P.cellsOf e)),[])
   |some false=>some (decide (0<=n/\n<len/\n.toNat*P.cellsOf e<l.length),l.getD (n.toNat*P.cellsOf e) .x,[])
   |none=>none
  |_=>none
 |.d (.agg l),.d (.v (.int _ n))=>match P.underlying t with
  |some (.array len e)=>match oP P e with
   |some true=>some (decide (0<=n/\n<len/\n.toNat*P.cellsOf e+P.cellsOf e<=l.length),.d (.agg ((l.drop (n.toNat*P.cellsOf e)).take (P.cellsOf e))),[])
   |some false=>some (decide (0<=n/\n<len/\n.toNat*P.cellsOf e<l.length),.d (l.getD (n.toNat*P.cellsOf e) default),[])
   |none=>none
  |_=>none
 |_,_=>none
theorem EU{t:TypeId}{vs:Array Value}{o:Nat}{l:List A}(h0:∀u∈vs.toList,u.oneCell'=true)(hd:A.bR w M m ρ l vs.toList):
 (oP P t=some true->o+P.cellsOf t<=l.length->∃y,(part t vs o).run P w=.ok y w/\(A.agg ((l.drop o).take (P.cellsOf t))).Den w M m ρ y)/\
 (oP P t=some false->o<l.length->∃y,(part t vs o).run P w=.ok y w/\(l.getD o .x).Den w M m ρ y):=by
 have hlen:=(A.c9.1 hd).1;constructor
 ·intro hg hle;refine⟨.agg (vs.extract o (o+P.cellsOf t)),by simp[part,lV hg,mB hg],?_⟩;simp only[A.Den];have e1:(vs.extract o (o+P.cellsOf t)).toList=(vs.toList.drop o).take (P.cellsOf t):=by
   rw[sK];simp[oG]
  exact⟨_,rfl,by rw[e1];exact λu hu=>h0 u (dI (dJ hu)),by rw[e1];exact A.mT _ (A.lL _ hd)⟩
 ·intro hg hlt;have hlt':o<vs.toList.length:=by omega
  refine⟨vs.toList[o],?_,?_⟩
  ·have:vs[o]?=some vs.toList[o]:=by simp at hlt';simp[hlt']
   simp[part,lV hg,this]
  ·rw[bF,aC hlt];exact(A.c9.1 hd).2 _ _ _ (aC hlt) (aC hlt')
theorem aFB{t:TypeId}{x ix v:A}{y iy:Value}{pre:Bool}{ups:List (Nat×R)}(hx:x.Den w M m ρ y)(hix:ix.Den w M m ρ iy)(he:zY P t x ix=some (pre,v,ups))(hp:pre=true):
 ups=[]/\∃z,(Instr.index t y iy).run P w=.ok z w/\v.Den w M m ρ z:=by
 unfold zY at he;split at he
 ·rename_i s k n;simp only[A.Den,C.Den]at hx hix;subst hx;subst hix;split at he
  ·rename_i b hb;simp only[aA,aD]at he;obtain⟨rfl,rfl,rfl⟩:=he;rw[aE]at hp;have h0:=of_decide_eq_true hp.2;exact⟨rfl,.int .u8 b.toNat,by simp[Instr.index,asIntOf,run_underlying (oB hp.1),h0,hb],by simp[A.Den,C.Den]⟩
  ·cases he
 ·rename_i l k n;simp only[A.Den,C.Den]at hix;subst hix;simp only[A.Den]at hx;obtain⟨vs,rfl,h0,hd⟩:=hx;split at he
  ·rename_i len e hu;split at he
   ·rename_i hg;simp only[aA,aD]at he;obtain⟨rfl,rfl,rfl⟩:=he;obtain⟨p1,p2,p3⟩:=of_decide_eq_true hp;obtain⟨z,r1,r2⟩:=(EU (P:=P) (t:=e) (o:=n.toNat*P.cellsOf e) h0 hd).1 hg p3;exact⟨rfl,z,by simp[Instr.index,asIntOf,run_underlying hu,p1,p2,mB hg,r1],r2⟩
   ·rename_i hg;simp only[aA,aD]at he;obtain⟨rfl,rfl,rfl⟩:=he;obtain⟨p1,p2,p3⟩:=of_decide_eq_true hp;obtain⟨z,r1,r2⟩:=(EU (P:=P) (t:=e) (o:=n.toNat*P.cellsOf e) h0 hd).2 hg p3;exact⟨rfl,z,by simp[Instr.index,asIntOf,run_underlying hu,p1,p2,mB hg,r1],r2⟩
   ·cases he
  ·cases he
 ·rename_i l k n;simp only[A.Den,C.Den]at hix;subst hix;simp only[A.Den,C.Den]at hx;obtain⟨vs,rfl,h0,hd⟩:=hx;have hd':A.bR w M m ρ (l.map A.d) vs.toList:=A.iO.2 hd;split at he
  ·rename_i len e hu;split at he
   ·rename_i hg;simp only[aA,aD]at he;obtain⟨rfl,rfl,rfl⟩:=he;obtain⟨p1,p2,p3⟩:=of_decide_eq_true hp;obtain⟨z,r1,r2⟩:=(EU (P:=P) (t:=e) (o:=n.toNat*P.cellsOf e) h0 hd').1 hg (by simpa using p3);refine⟨rfl,z,by simp[Instr.index,asIntOf,run_underlying hu,p1,p2,mB hg,r1],?_⟩;rw[<-List.map_drop,<-List.map_take]at r2;simp only[A.Den,C.Den]at r2⊢;obtain⟨us,q1,q2,q3⟩:=r2;exact⟨us,q1,q2,A.iO.1 q3⟩
   ·rename_i hg;simp only[aA,aD]at he;obtain⟨rfl,rfl,rfl⟩:=he;obtain⟨p1,p2,p3⟩:=of_decide_eq_true hp;obtain⟨z,r1,r2⟩:=(EU (P:=P) (t:=e) (o:=n.toNat*P.cellsOf e) h0 hd').2 hg (by simpa using p3);refine⟨rfl,z,by simp[Instr.index,asIntOf,run_underlying hu,p1,p2,mB hg,r1],?_⟩;rw[bF,cK,aC p3]at r2;rw[bF,aC p3];exact r2
   ·cases he
  ·cases he
 ·cases he
end
end Go.Pv
