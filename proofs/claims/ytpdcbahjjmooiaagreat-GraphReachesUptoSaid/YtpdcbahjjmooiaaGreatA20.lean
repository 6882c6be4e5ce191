import Derived.Test.YtpdcbahjjmooiaaGreatA19
import Derived.Test.YtpdcbahjjmooiaaGreatRows
import Derived.Deep.Slices
import Derived.ChangeArms
import Derived.ChangeMaps5
/- A program logic over the model, contracts of the functions that the law reaches: part 20. (Names and blanks were shortened by program.) -/
set_option linter.unusedVariables false
set_option linter.unusedSimpArgs false
set_option linter.constructorNameAsVariable false
set_option linter.unusedSectionVars false
set_option linter.deprecated false
set_option maxRecDepth 100000
set_option maxHeartbeats 8000000
open Go Go.Proofs
namespace Go.Pv
open Go.RowKit
variable{w:D4}{r:Int}{x:X4}{n:Nat}{t:TypeId}{cs:List Value}
def D4.pK(w:D4)(r:Int):Bool:=decide (1<=r)&&(w.mI r||decide (r<=w.last))
def D4.zE(w:D4)(u:U4):Bool:=w.HU u.side&&(aI6 u.code&&(BA u.names&&((u.seen.all w.pK&&decide u.seen.Nodup)&&(jL u.names).all λr=>w.mI r&&decide (r∈u.seen))))
def D4.I9(w:D4)(u:U4):Int:=if w.zE u=true then 0 else 190
theorem aIG(h:r<1):w.pK r=false:=by unfold D4.pK;rw[decide_eq_false oM];rfl
theorem aIH(h1:w.mI r=false)(h2:w.tell.last<r):w.pK r=false:=by
 have h2:w.last<r:=h2;unfold D4.pK;rw[h1,decide_eq_false (by omega:¬r<=w.last)];simp
theorem aII(h:1<=r)(h1:w.mI r=true):w.pK r=true:=by unfold D4.pK;rw[h1,decide_eq_true h];rfl
theorem aIJ(h:1<=r)(h2:r<=w.tell.last):w.pK r=true:=by
 have h2:r<=w.last:=h2;unfold D4.pK;rw[decide_eq_true h,decide_eq_true h2];simp
structure U4.gA(u:U4):Prop where
 side:-9223372036854775808<=u.side/\u.side<=9223372036854775807
 code:S4.dB u.code<=2^38
 jR:S4.RF u.code
 names:V.dB (u.names.map (·.value))<=2^34
 nlen:u.names.length<=2^34
 seen:u.seen.length<=2^35
structure D4.qV(w:D4):Prop extends w.gA where
 EP:w.EP
 pl:w.parents.length<=2^38
 ml:w.made.length<=2^38
 cl:w.cut.length<=2^36
 pos:∀t∈w.things,0<t.ref
theorem aA9(w:D4)(hw:w.qV)(u:U4)(hu:u.gA):Pu 104 [.d (.ip w.cells),.d (.agg u.cells)] (.d (ci (w.I9 u))):=by
 have hno:∀m,w.zE u=false->A1 m (.d (ci 190)) (.d (ci (w.I9 u))):=λm h=>by unfold D4.I9;rw[h];exact oF rfl
 have hm:=hw.ml;refine iC mix Tryz.func104 ?_
 repeat'(first|refine bl ?_|refine bS (λh=>?_) (λh=>?_)|refine aF (aEY w hw.sides) (bw ?_)|refine aF (aE2 w u.side hu.side.1 hu.side.2) (bw ?_)|refine aF (aGU u.code hu.code hu.jR) (bw ?_)|refine aF (TM u.names (by have:=hu.names;omega) (by have:=hu.nlen;omega)) (bw ?_))
 ·exact hno _ (by unfold D4.zE;simp_all)
 ·exact hno _ (by unfold D4.zE;simp_all)
 ·exact hno _ (by unfold D4.zE;simp_all)
 have hck:w.zE u=((u.seen.all w.pK&&decide u.seen.Nodup)&&(jL u.names).all λr=>w.mI r&&decide (r∈u.seen)):=by unfold D4.zE;simp_all
 have hsl:=hu.seen;refine cY mix (λs:Nat×List (Int×Int)=>s.1<=u.seen.length/\s.2.map (·.1)=u.seen.take s.1/\(∀f∈s.2,f.2=1)/\(u.seen.take s.1).Nodup/\(u.seen.take s.1).all w.pK=true) (I:=λs=>[(0,.d (.ip w.cells)),(3,.lp 1 0),(5,.h 169),(33,.d (.sl 1 (iR u.seen))),(34,.d (ci u.seen.length)),(35,.d (ci s.1))])
  (J:=λs=>[(1,.cells false (u.cells.map A.d)),(169,.mp false (iZ s.2) [])]) (μ:=λs=>u.seen.length -s.1) 1000 (0,[]) 0
  (λF:List (Int×Int)=>F.map (·.1)=u.seen/\(∀f∈F,f.2=1)/\(u.seen.all w.pK&&decide u.seen.Nodup)=true) (λF=>[(0,.d (.ip w.cells)),(3,.lp 1 0),(5,.h 169)]) (λF=>[(1,.cells false (u.cells.map A.d)),(169,.mp false (iZ F) [])]) 2000 ⟨sM,sM,sM,sM,sM⟩ (by exact mZ) ?_ ?_
 ·rintro⟨i,F⟩ ⟨g1,g2,g3,g4,g5⟩;dsimp only at g1 g2 g3 g4 g5⊢;have hcb:∀r,0<=cR F r/\cR F r<=1:=λr=>by
   cases hh:kJ F r with
   |true=>obtain⟨f,k1,k2,k3⟩:=rT F r hh;have:=g3 f k1;omega
   |false=>rw[uC F r hh];omega
  repeat'(first|refine bl ?_|refine bS (λh=>?_) (λh=>?_)|refine cD rfl eD aM (bw ?_))
  ·have hlt:i<u.seen.length:=aM;have hcs:=hcb u.seen[i];have hti:=aT hlt;have hbad:w.pK u.seen[i]=false->w.zE u=false:=λe=>by
    rw[hck];have:u.seen.all w.pK=false:=by rw[iA];exact⟨_,aY hlt,by simp[e]⟩
    rw[this];simp
   have hme:u.seen[i]∈u.seen.take i->w.zE u=false:=λhm=>by
    have hn:¬u.seen.Nodup:=λhn=>by
     obtain⟨j,hj,e⟩:=dH.1 hm;rw[cW]at hj;rw[List.getElem_take]at e;have:=(jB hn).1 e;omega
    rw[hck,decide_eq_false hn];simp
   generalize u.seen[i]=r at hcs hti hbad hme⊢;refine lkC eD (λh=>h) ?_;conv=>whnf
   refine bl ?_;refine aBP eD (λhh=>?_) (λhh=>?_)
   ·conv=>whnf
    have hr:r∈u.seen.take i:=by rw[<-g2];exact mP.1 hh
    repeat'(first|refine bl ?_|refine bS (λh=>?_) (λh=>?_)|refine aF (sB w _) (bw ?_)|refine aF (ZC w hw.togA hw.EP hw.pl hw.ml hw.cl) (bw ?_)|refine lkE (EE F r (cR F r+1)) eD (λh=>h) (bw ?_))
    all_goals first
     |exact hno _ (hme hr)
     |(exfalso
       rw[PQ F r _ r hh,if_pos rfl]at h;obtain⟨f,hf,_,k3⟩:=rT F r hh
       have:=g3 f hf;omega)
   ·conv=>whnf
    have hr:r∉u.seen.take i:=λe=>by rw[<-g2]at e;rw[mP.2 e]at hh;cases hh
    repeat'(first|refine bl ?_|refine bS (λh=>?_) (λh=>?_)|refine aF (sB w _) (bw ?_)|refine aF (ZC w hw.togA hw.EP hw.pl hw.ml hw.cl) (bw ?_)|refine lkE (vP F r (cR F r+1)) eD (λh=>h) (bw ?_))
    all_goals first
     |exact hno _ (hbad (aIG aM))
     |exact hno _ (hbad (aIH aM aM))
     |(exfalso
       rw[PN F r _ r hh,if_pos rfl,uC F r hh]at h
       omega)
     |(have hso:w.pK r=true:=by first|exact aII aM aM|exact aIJ aM aM
       refine⟨(i+1,F++[(r,cR F r+1)]),dM,⟨dM,by dsimp only;rw[bP,g2,hti];rfl,?_,?_,?_⟩,?_⟩
       · dsimp only
         intro f hf;rcases bN.1 hf with hf|hf
         · exact g3 f hf
         · rw[aR.1 hf,uC F r hh];rfl
       · dsimp only
         rw[hti];refine iS.2 ⟨g4,sM,λx hx y hy e=>?_⟩;rw[aR.1 hy]at e;exact hr (e▸hx)
       · dsimp only
         rw[hti,gQ,g5];simp[hso]
       · have hadd:=vP F r (cR F r+1)
         (refine cN.swap 5000 5001 ?_ ?_ ?_ ?_ ?_<;>repeat'(first|exact aW|exact rfl|exact sn|exact aZ|exact wW|exact IK rfl|exact cO rfl rfl|exact aD4 rfl|exact KS rfl rfl|exact aEP|(refine qD ?_;simp only[aB,bE];done)|(refine aDO ?_;(try dsimp only);omega)|refine bI ?_ ?_))
         all_goals first|exact aEP|exact KS rfl hadd)
  ·rw[aI oM]at g2 g4 g5;exact⟨F,⟨g2,g3,by rw[g5,decide_eq_true g4];rfl⟩,by exact mZ⟩
 rintro F ⟨f1,f2,f3⟩;refine bl ?_;rw[f3,cA]at hck;have hnb:∀i(h:i<u.names.length),u.names[i].value.cR<=2^35:=λi h=>by
  have:=V.dG (u.names.map (·.value)) i (by simpa using h);rw[fO]at this;have:=hu.names;omega
 have hnl:=hu.nlen;have hmem:∀r,0<cR F r↔r∈u.seen:=λr=>by
  rw[<-f1];constructor
  ·intro hc;cases hh:kJ F r with
   |true=>exact mP.1 hh
   |false=>rw[uC F r hh]at hc;omega
  ·intro hm;obtain⟨f,k1,k2,k3⟩:=rT F r (mP.2 hm);have:=f2 f k1;omega
 have hcb:∀r,0<=cR F r/\cR F r<=1:=λr=>by
  cases hh:kJ F r with
  |true=>obtain⟨f,k1,k2,k3⟩:=rT F r hh;have:=f2 f k1;omega
  |false=>rw[uC F r hh];omega
 refine cY mix (λi:Nat=>i<=u.names.length/\(jL (u.names.take i)).all (λr=>w.mI r&&decide (r∈u.seen))=true) (I:=λi=>[(0,.d (.ip w.cells)),(5,.h 169),(66,.d (.sl 6 (u.names.map N4.cells))),(67,.d (ci u.names.length)),(68,.d (ci i))])
  (J:=λi=>[(169,.mp false (iZ F) [])]) (μ:=λi=>u.names.length -i) 3000 0 2
  (λ_:Unit=>(jL u.names).all (λr=>w.mI r&&decide (r∈u.seen))=true) (λF=>[]) (λF=>[]) 6000 ⟨oM,by simp[jL]⟩ (by exact mZ) ?_ ?_
 ·rintro i ⟨hi,h0⟩
  repeat'(first|refine bl ?_|refine bS (λh=>?_) (λh=>?_)|refine cD rfl eD aM (bw ?_)|refine dR (jG u.names[i].value (by have:=hnb i aM;omega)) (.cons (.agg u.names[i].value.cells) .nil) (bw ?_))
  ·have hlt:i<u.names.length:=aM;have hst:jL (u.names.take (i+1))=jL (u.names.take i)++u.names[i].value.eI:=by
    unfold jL;rw[aT hlt,bP,fJ];simp
   have hsub:∀r∈u.names[i].value.eI,r∈jL u.names:=λr hr=>by
    unfold jL;exact rQ.2 ⟨_,aA4.2 ⟨_,aY hlt,rfl⟩,hr⟩
   have hbad:∀r∈u.names[i].value.eI,(w.mI r&&decide (r∈u.seen))=false->w.zE u=false:=λr hr e=>by
    rw[hck,iA];exact⟨r,hsub r hr,by rw[e];simp⟩
   have hrl:=u.names[i].value.iY;have hrl2:=hnb i hlt;generalize u.names[i].value.eI=R at hst hbad hrl;refine cY mix (λj:Nat=>j<=R.length/\(R.take j).all (λr=>w.mI r&&decide (r∈u.seen))=true) (I:=λj=>[(0,.d (.ip w.cells)),(5,.h 169),(66,.d (.sl 6 (u.names.map N4.cells))),(67,.d (ci u.names.length)),(68,.d (ci i)),(74,.d (.sl 1 (iR R))),(75,.d (ci R.length)),(76,.d (ci j))])
    (J:=λj=>[(169,.mp false (iZ F) [])]) (μ:=λj=>R.length -j) 4000 0 4
    (λ_:Unit=>R.all (λr=>w.mI r&&decide (r∈u.seen))=true) (λ_=>[(0,.d (.ip w.cells)),(5,.h 169),(66,.d (.sl 6 (u.names.map N4.cells))),(67,.d (ci u.names.length)),(68,.d (ci i))]) (λ_=>[(169,.mp false (iZ F) [])]) 5000 ⟨oM,sM⟩ (by exact mZ) ?_ ?_
   ·rintro j ⟨hj,hj0⟩
    repeat'(first|refine bl ?_|refine bS (λh=>?_) (λh=>?_)|refine cD rfl eD aM (bw ?_)|refine aF (sB w _) (bw ?_)|refine lkC eD (λh=>h) (bw ?_))
    ·have hl2:j<R.length:=aM;exact hno _ (hbad _ (aY hl2) (by rw[show w.mI R[j]=false by assumption];rfl))
    ·have hl2:j<R.length:=aM;have hz:cR F R[j]=0:=aM;refine hno _ (hbad _ (aY hl2) ?_);rw[decide_eq_false (λhm=>by have:=(hmem _).2 hm;omega)];simp
    ·have hl2:j<R.length:=aM;have hz:¬cR F R[j]=0:=aM;have hc2:=hcb R[j];refine⟨j+1,oM,⟨oM,?_⟩,by exact mZ⟩;rw[aT hl2,gQ,hj0,cA];simp only[o9,List.all_nil,o6];rw[show w.mI R[j]=true by assumption,decide_eq_true ((hmem _).1 oM)];rfl
    ·rw[aI oM]at hj0;exact⟨(),hj0,by exact mZ⟩
   rintro _ hR;refine bl ?_;refine⟨i+1,oM,⟨oM,by rw[hst,gQ,h0,hR];rfl⟩,by exact mZ⟩
  ·rw[aI oM]at h0;exact⟨(),h0,by exact mZ⟩
 rintro _ hall;refine bl ?_;unfold D4.I9;rw[hck,hall];exact oF rfl
def pG(l:List U4):List Int:=(l.map λu=>jL u.names).flatten
theorem aCC{u:U4}(h:¬w.I9 u=0):w.zE u=false/\w.I9 u=190:=by
 unfold D4.I9 at*;cases hc:w.zE u<;>simp[hc]at h⊢
theorem XP{u:U4}(h:w.I9 u=0):w.zE u=true:=by
 unfold D4.I9 at*;cases hc:w.zE u<;>simp[hc]at h⊢
def D4.s8(w:D4)(l:List U4):Int:=if l.all w.zE=true then 0 else 190
theorem yG(w:D4)(hw:w.qV)(l:List U4)(hl:l.length<=2^30)(hu:∀i(h:i<l.length),l[i].gA):Pu 45 [.d (.ip w.cells),.d (.sl 4 (l.map U4.cells))] (.d (ci (w.s8 l))):=by
 have hsd:=hw.sides;refine iC mix Tryz.func45 ?_
 repeat'(first|refine bl ?_|refine bS (λh=>?_) (λh=>?_)|refine aF (o4 w) (bw ?_))
 ·exfalso;simp_all
 refine bV mix (λi:Nat=>i<=l.length/\(l.take i).all w.zE=true) (I:=λi=>[(0,.d (.ip w.cells)),(15,.d (.sl 4 (l.map U4.cells))),(16,.d (ci l.length)),(17,.d (ci i))])
  (J:=λi=>[]) (μ:=λi=>l.length -i) 1000 0 ⟨oM,sM⟩ (by exact mZ) ?_
 rintro i ⟨hi,h0⟩
 repeat'(first|refine bl ?_|refine bS (λh=>?_) (λh=>?_)|refine cD rfl eD aM (bw ?_)|refine dR (aA9 w hw l[i] (hu i aM)) (.cons (.same _) (.cons (.agg l[i].cells) .nil)) (bw ?_))
 ·have hlt:i<l.length:=aM;obtain⟨c1,c2⟩:=aCC (show ¬w.I9 l[i]=0 by assumption);have e:w.s8 l=190:=by
   unfold D4.s8;rw[if_neg];intro h;rw[cV.1 h _ (aY hlt)]at c1;cases c1
  rw[e,c2];exact oF rfl
 ·have hlt:i<l.length:=aM;refine⟨i+1,oM,⟨oM,?_⟩,by exact mZ⟩;rw[aT hlt,gQ,h0];simp[XP (show w.I9 l[i]=0 by assumption)]
 ·rw[aI oM]at h0;unfold D4.s8;rw[if_pos h0];exact oF rfl
theorem IG(u:U4):(jL u.names).length<=V.dB (u.names.map (·.value)):=by
 have h1:=qN (u.names.map (·.value));rw[bH]at h1;exact h1
def D4.gN(w:D4)(l:List U4):List Int:=if l.all w.zE=true then w.v8 (pG l)else []
def D4.wF(w:D4)(l:List U4):Int:=if l.all w.zE=true then w.v7 (pG l)else 190
def over(A:List Int)(i:Nat):List Int:=List.replicate i 77++A.drop i
theorem aEI(A:List Int)(i:Nat)(h:i<=A.length):(over A i).length=A.length:=by unfold over;simp;omega
theorem aEH(A:List Int)(i:Nat)(h:i<A.length):(over A i)[i]?=some A[i]:=by
 unfold over;rw[bO sM];simp[h]
theorem aEJ(A:List Int)(i:Nat)(h:i<A.length):(over A i).set i 77=over A (i+1):=by
 unfold over;rw[List.set_append_right _ _ sM,List.replicate_succ',bG,aS,Nat.sub_self,dE h];rfl
theorem aNS(A:List Int)(i:Nat)(h:i<A.length):(bE (iR (over A i)))[i]?=some [.d (ci A[i])]:=by
 refine gB _ _ [ci A[i]] ?_;rw[cK,aEH A i h];rfl
theorem aBJ(A:List Int)(i:Nat)(h:i<A.length):(bE (iR (over A i))).set i [.d (ci 77)]=bE (iR (over A (i+1))):=by
 rw[<-aEJ A i h];simp only[bE,qS];rfl
theorem aE3:Pu 13 [.d (.nl 1),.d (.sl 1 [])] (.d (cb true)):=by
 refine iC mix Tryz.func13 ?_;refine bl ?_;refine bV mix (λi:Unit=>True) (I:=λi=>[(0,.d (.nl 1)),(1,.d (.sl 1 [])),(5,.d (cb true)),(6,.d (ci 0))]) (J:=λi=>[]) (μ:=λi=>0) 1000 () trivial (by exact mZ) ?_;intro i hi;refine bl ?_;exact dP rfl
theorem aIC(A:List Int)(hA:A.length<=2^38):aJ Tryz.prog 13 [.h 0,.d (.sl 1 (iR A))] (aK [(0,dU 25 1 (iR A))]) (.ok (.d (cb true))) (aH (aK [(0,dU 25 1 (iR A))]) [(0,dU 25 1 (iR (over A A.length)))]):=by
 refine wE mix 1000 Tryz.func13 trivial ⟨aZ,trivial⟩ ?_
 repeat'(first|refine bl ?_|refine bS (λh=>?_) (λh=>?_))
 ·exact absurd (by simp[bE]) h
 refine bV mix (λi:Nat=>i<=A.length) (I:=λi=>[(0,.h 0),(1,.d (.sl 1 (iR A))),(5,.d (cb true)),(6,.d (ci i))]) (J:=λi=>[(0,dU 25 1 (iR (over A i)))]) (μ:=λi=>A.length -i) 1000 0 oM (by exact mZ) ?_;intro i hi;have hol:=aEI A i hi;have hlt0:i<(bE (iR (over A i))).length->i<A.length:=λh=>by simp only[bE,aB]at h;omega
 repeat'(first|refine bl ?_|refine bS (λh=>?_) (λh=>?_))
 ·have hlt:=hlt0 aM
  repeat'(first|refine bl ?_|refine lG.mk i rfl (by simp only[bE,aB];omega) (bw ?_)|(refine fZ.mk _ (aNS A i hlt) ?_;(conv=>whnf))|refine cD rfl eD hlt (bw ?_))
  refine⟨i+1,oM,oM,?_⟩;rw[decide_eq_true (rfl:A[i]=A[i])];refine mq 5000 5001 ?_
  all_goals exact cO rfl (aBJ A i hlt)
 ·obtain rfl:i=A.length:=by simp only[bE,aB]at h;omega
  exact em
theorem Q9(w:D4)(xl:Int):∀(T:List T4)(q:Int),ZE w xl T q=true->(∀t∈T,w.AA t.bQ=true)/\(T.map (·.ref)).Pairwise (· <·)
 |[],q,h=>sM
 |t::r,q,h=>by
  simp only[ZE,aE,decide_eq_true_eq]at h;obtain⟨h1,h2⟩:=Q9 w xl r t.ref h.2;obtain⟨h3,_⟩:=xN w xl r t.ref h.2;refine⟨λu hu=>?_,?_⟩
  ·rcases aO.1 hu with rfl|hu
   ·exact h.1.2
   ·exact h1 u hu
  ·rw[aG,wP];refine⟨λa ha=>?_,h2⟩;obtain⟨u,hu,rfl⟩:=aA4.1 ha;exact h3 u hu
structure RI(x:X4):Prop where
 b:y9 x=true
 made:x.made.length=x.parents.length+1
 th:ZE (oD x.parents (DU x) []) x.last x.things 0=true
 snd:(oD x.parents (DU x) x.things).sH=true
theorem aL0(h:y9 x=true):RI x:=by
 have h0:=h;unfold y9 at h0;simp only[aE,decide_eq_true_eq]at h0;obtain⟨_,_,h3,_,h5,h6⟩:=h0;refine⟨h,h3,h5,?_⟩;unfold YB at h6;simp only[aE]at h6;exact h6.2.2.2.1
theorem vM:w.mI r=true↔r∈w.aP:=by
 unfold D4.mI D4.find D4.aP;rw[List.find?_isSome];constructor
 ·rintro⟨t,h1,h2⟩;exact aA4.2 ⟨t,h1,by simpa using h2⟩
 ·intro h;obtain⟨t,h1,rfl⟩:=aA4.1 h;exact⟨t,h1,sM⟩
theorem J1(h:RI x)(hcnt:∀t∈x.things,t.bQ.cR<=2^20)(hlen:x.things.length<=60)(hpl:x.parents.length<=40):(bJ x).qV where
 cR:=λt ht=>cL (hcnt t ht) (bD rfl)
 len:=by show x.things.length<=2^30;omega
 nodup:=(xN _ _ _ _ h.th).2
 may:=λt ht=>by
  obtain⟨a,b,c,_⟩:=NS ((Q9 _ _ _ _ h.th).1 t ht);exact⟨a,b,c⟩
 sides:=by show 0<x.made.length;rw[h.made];omega
 EP:=(Q9 _ _ _ _ h.th).2
 pl:=by show x.parents.length<=2^38;omega
 ml:=by show x.made.length<=2^38;rw[h.made];omega
 cl:=by
  show(xY (oW x.parents) x.cuts).length<=2^36;rw[RX];unfold oW;rw[aS];omega
 pos:=(xN _ _ _ _ h.th).1
theorem HG(h:RI x)(r q:Int)(hq:q∈(bJ x).cX r):(bJ x).mI q=true:=by
 have hs:=h.snd;unfold D4.sH at hs;simp only[aE]at hs;have ho:=hs.1;rw[cV]at ho;have hisB:∀r,(oD x.parents (DU x) x.things).mI r=(bJ x).mI r:=λr=>rfl;cases hf:(bJ x).find r with
 |none=>
  rw[E0 _ _ (λhm=>by
   have:=vM.2 hm;unfold D4.mI at this
   rw[hf]at this;simp at this)]at hq
  simp at hq
 |some t=>
  have ht:t∈x.things:=cT hf;have h1:=ho t ht;simp only[aE]at h1;have h1:=h1.1;unfold D4.GL at h1;simp only[aE]at h1;obtain⟨n1,n2,n3,_⟩:=h1;have hw:(bJ x).iI r=t.bQ:=by unfold D4.iI;rw[hf];rfl
  have hE:(bJ x).aDH r=0:=by unfold D4.aDH D4.mI;rw[hf];rfl
  unfold D4.cX at hq;rcases bN.1 hq with hq|hq
  ·rw[vN hE,o3,hw]at hq;unfold D4.V9 at n1;have hm:q∈t.bQ.held:=by
    unfold W4.xB jL at hq;unfold W4.held;simp only[bN]at hq⊢;rcases hq with(hq|hq)|hq
    ·exact .inl hq
    ·exact .inr (.inr hq)
    ·exact .inr (.inl hq)
   cases hb:(bJ x).mI q with
   |true=>rfl
   |false=>
    have:(t.bQ.held.any λr=> !(oD x.parents (DU x) x.things).mI r)=true:=dQ.2 ⟨q,hm,by rw[hisB,hb];rfl⟩;rw[this]at n1;cases n1
  ·unfold D4.nW at hq;rw[if_neg (by simp[hE]),hw]at hq;rw[hisB]at n2 n3;split at hq
   ·rename_i hk;have hq:=aR.1 hq;subst hq;have:xT t.bQ.kind=true:=by unfold xT uY;rcases hk with hk|hk<;>rw[hk]<;>rfl
    rw[this]at n2;simpa using n2
   ·split at hq
    ·rename_i hk;have a1:xT t.bQ.kind=true:=by unfold xT uY;rcases hk with hk|hk<;>rw[hk]<;>rfl
     have a2:DB t.bQ.kind=true:=by unfold DB;rcases hk with hk|hk<;>rw[hk]<;>rfl
     rw[a1]at n2;rw[a2]at n3;simp only[aO,List.not_mem_nil,or_false]at hq;rcases hq with rfl|rfl
     ·simpa using n2
     ·simpa using n3
    ·simp at hq
theorem QS(h:RI x){L:List Int}(hL:∀r∈L,(bJ x).mI r=true){q:Int}(hq:FD (bJ x).cX L q):(bJ x).mI q=true:=by
 cases hq with
 |base hb=>exact hL _ hb
 |step _ hq=>exact HG h _ _ hq
theorem aLT{u:U4}(h:w.zE u=true):∀r∈jL u.names,w.mI r=true:=by
 unfold D4.zE at h;simp only[aE]at h;have h5:=h.2.2.2.2;rw[cV]at h5;intro r hr;have:=h5 r hr;simp only[aE]at this;exact this.1
variable{x:X4}{l:List U4}
theorem KR{l:List U4}:r∈pG l↔∃i,∃h:i<l.length,r∈jL l[i].names:=by
 unfold pG;rw[rQ];constructor
 ·rintro⟨L,h1,h2⟩;obtain⟨u,h3,rfl⟩:=aA4.1 h1;obtain⟨i,hi,rfl⟩:=dH.1 h3;exact⟨i,hi,h2⟩
 ·rintro⟨i,hi,h⟩;exact⟨_,aA4.2 ⟨l[i],aY hi,rfl⟩,h⟩
theorem aFY(st:Int->List Int)(B:Nat)(hB:∀r,(st r).length<=B):∀(T out:List Int),BO st T out<=T.length*B
 |[],out=>by simp[BO]
 |t::T,out=>by
  have ih:=aFY st B hB T out;have:=hB t;unfold BO at ih⊢;rw[aQ,fS,Nat.one_mul];by_cases q:t∈out
  ·rw[gL (by simp[q])];omega
  ·rw[gM (by simp[q])];simp only[aG,gU];omega
theorem KB{L:List (List Int)}{B:Nat}(h:∀e∈L,e.length<=B):L.flatten.length<=L.length*B:=by
 induction L with
 |nil=>simp
 |cons a L ih=>
  have:=h a sM;have:=ih λe he=>h e (by simp[he]);rw[dL,aU,aQ,fS,Nat.one_mul];omega
theorem SU{L:List Int}(h:∀r∈L,w.mI r=true):w.v8 L=oZ (w.uJ L)/\w.v7 L=0:=by
 have hall:L.all w.mI=true:=cV.2 h;unfold D4.v8 D4.v7;rw[if_pos hall,if_pos hall];exact⟨rfl,rfl⟩
theorem aDN(u:U4):pG [u]=jL u.names:=by simp[pG]
open Classical in
theorem VV(w:D4)(hw:w.qV)(u:U4)(hu:u.gA)(hck:w.zE u=true)(hN:w.qK (pG [u])<=2^36):aJ Tryz.prog 21 [.d (.ip w.cells),.h 3072] (aK [(3072,dU 33 4 [u.cells])]) (.ok (.eL [.d (.sl 1 (iR (w.gN [u]))),.d (ci (w.wF [u]))])) (aH (aK [(3072,dU 33 4 [u.cells])]) []):=by
 have hun:=hu.names;have hnl:=hu.nlen;have hil0:=IG u;have hil:(jL u.names).length<=2^36:=oM;have hsum:∀i,((([u].take i).map λu=>jL u.names).flatten).length<=2^36:=λi=>by
  cases i with
  |zero=>simp
  |succ i=>simpa using hil
 have hone:∀i(h:i<[u].length),[u][i].gA:=λi h=>match i,h with
  |0,_=>hu
 have hm:=yG w hw [u] sM hone;have hme:w.s8 [u]=0:=by unfold D4.s8;simp[hck]
 rw[hme]at hm;refine wE mix 5000 Tryz.func21 trivial trivial ?_
 repeat'(first|refine bl ?_|(refine fU (cs:=[.ip w.cells,.sl 4 [u.cells]]) hm (.v _) (.cons (.d _) (.cons (.os rfl (D6.data _ [u.cells])) .nil)) ?_;(conv=>whnf)))
 refine cY mix (λa:Nat×List Int=>a.1<=1/\a.2=(([u].take a.1).map λu=>jL u.names).flatten) (I:=λa=>[(0,.d (.ip w.cells)),(16,.h 3072),(17,.d (ci 1)),(7,lv 1 900 (iR a.2)),(18,.d (ci a.1))])
  (J:=λa=>lm 900 25 1 (iR a.2) [(3072,dU 33 4 [u.cells])]) (μ:=λa=>1 -a.1) 2000 (0,[]) 0
  (λQ:List Int=>Q=pG [u]) (λQ=>[(7,dl Q),(0,.d (.ip w.cells))]) (λQ=>[(3072,dU 33 4 [u.cells])]) 4000 ⟨sM,sM⟩ (by exact mZ) ?_ ?_
 ·rintro⟨i,Q⟩ ⟨hi,hQ⟩;dsimp only at hi hQ⊢;have hlen:Q.length<=2^36:=by
   have h1:=hsum i;rw[hQ];omega
  cases Q with
  |nil=>
   show vc _ _ _ _ _ [(3072,dU 33 4 [u.cells])] _ _
   repeat'(first|refine bl ?_|refine bS (λh=>?_) (λh=>?_))
   ·have hi0:i=0:=oM;have hst:(([u].take (i+1)).map λu=>jL u.names).flatten=(([u].take i).map λu=>jL u.names).flatten++jL u.names:=by rw[hi0];simp
    repeat'(first|refine bl ?_|refine lG.mk 0 oM (by simp[bE]) (bw ?_)|refine dR (D0 u.names oM) (.cons (.same _) .nil) (bw ?_))
    have hq:=hil;refine n8 (by simp only[aB];omega) kK ?_;conv=>whnf
    refine E9.mk (λh1=>?_) (λh1=>?_)
    ·have h1:jL u.names=[]:=by simpa using h1
     conv=>whnf
     refine bl ?_;refine⟨(i+1,[]),dM,⟨dM,by dsimp only;rw[hst,h1,dS,<-hQ]⟩,?_⟩;exact mZ
    ·have h1:jL u.names≠[]:=by simpa using h1
     conv=>whnf
     refine bl ?_;refine⟨(i+1,jL u.names),dM,⟨dM,by dsimp only;rw[hst,<-hQ,bZ]⟩,?_⟩;cases hrr:jL u.names with
     |nil=>exact absurd hrr h1
     |cons r Q=>
      dsimp only[iR,List.map_cons,lv,lm];exact mv 2072 900
      all_goals first|exact cO rfl rfl|exact cO rfl (by rw[hrr];rfl)
   ·rw[aI zM]at hQ;exact⟨[],hQ,by exact mZ⟩
  |cons r Q=>
   show vc _ _ _ _ _ [(900,dU 25 1 (iR (r::Q))),(3072,dU 33 4 [u.cells])] _ _
   repeat'(first|refine bl ?_|refine bS (λh=>?_) (λh=>?_))
   ·have hi0:i=0:=oM;have hst:(([u].take (i+1)).map λu=>jL u.names).flatten=(([u].take i).map λu=>jL u.names).flatten++jL u.names:=by rw[hi0];simp
    repeat'(first|refine bl ?_|refine lG.mk 0 oM (by simp[bE]) (bw ?_)|refine dR (D0 u.names oM) (.cons (.same _) .nil) (bw ?_))
    have hq:=hil;refine n8 (by simp only[aB,bE];omega) kK ?_;conv=>whnf
    refine bl ?_;refine⟨(i+1,r::(Q++jL u.names)),dM,⟨dM,by dsimp only;rw[hst,<-hQ];rfl⟩,?_⟩;refine mq 2072 900 ?_
    all_goals exact cO rfl (gG (r::Q) (jL u.names))
   ·rw[aI zM]at hQ;exact⟨r::Q,hQ,cN.freeze [900] ⟨sn,trivial⟩ ⟨.rd (.dU (eX rfl rfl)),.same _,trivial⟩ ⟨⟨rfl,_,rfl,.fW (.same _)⟩,trivial⟩ ⟨trivial,trivial,trivial⟩ ⟨aZ,trivial⟩⟩
 rintro Q hQ;subst hQ;have hall:[u].all w.zE=true:=by simp[hck]
 have e1:w.gN [u]=w.v8 (pG [u]):=by unfold D4.gN;rw[if_pos hall]
 have e2:w.wF [u]=w.v7 (pG [u]):=by unfold D4.wF;rw[if_pos hall]
 have hgf:=J3 w hw.togA (pG [u]) oM;rw[e1,e2];generalize w.v8 (pG [u])=R1 at hgf⊢;generalize w.v7 (pG [u])=R2 at hgf⊢;generalize pG [u]=L at hgf⊢;cases L with
 |nil=>
  repeat'(first|refine bl ?_|refine dR hgf (.cons (.same _) (.cons (.nl _ _) .nil)) (bw ?_))
  exact em
 |cons l0 L=>
  repeat'(first|refine bl ?_|refine aF hgf (bw ?_))
  exact em
theorem aAU:RK (yI Tryz.prog aA0 60 (.fn 9) [] .nil 1) (.d (cb true))=true:=kK
theorem D9:Pu 9 [] (.d (cb true)):=zO mix aAU rfl
open Go.Proofs.YtpdcbahjjmooiaaGreat (Rows.uptoBulk Rows.uptoBulkAll)
abbrev rI{H:Type}(d:DataW H):Nat:=Rows.uptoBulk d
abbrev rZ{H:Type}(l:List (DataW H)):Nat:=Rows.uptoBulkAll l
section
variable{H:Type}(enc:TypeId×Value->H)(P:Program)(w:World)
def sL(l:List C)(cs:List Value):Prop:=C.bR w (λ_=>False) l cs/\∀y∈cs,y.oneCell'=true
def xF(n:Nat)(t:TypeId)(cs:List Value)(d:DataW H):Prop:=∃ps,DataW.trod enc P w 0 (λ_=>true) true n t cs=some (d,ps)
def TrF(n:Nat):List TypeId->List Value->List (DataW H)->Prop
 |[],cs,ds=>cs=[]/\ds=[]
 |t::ts,cs,ds=>∃a b d r,cs=a++b/\ds=d::r/\xF enc P w n t a d/\TrF n ts b r
end
section
variable{H:Type}{enc:TypeId×Value->H}{P:Program}{w:World}
theorem sL.app{l m:List C}{a b:List Value}(h:sL w l a)(h':sL w m b):sL w (l++m) (a++b):=by
 refine⟨C.iH h.1 h'.1,λy hy=>?_⟩;rcases bN.1 hy with e|e
 ·exact h.2 y e
 ·exact h'.2 y e
theorem sL.nil:sL w [] []:=⟨by simp[C.bR],sM⟩
theorem sL.one{x:Value}(h:x.oneCell'=true):sL w [.v x] [x]:=by
 refine⟨?_,by simpa using h⟩;simp[C.bR,C.Den]
theorem sL.len{l:List C}{a:List Value}(h:sL w l a):l.length=a.length:=(C.c9.1 h.1).1
theorem kQ{k:IntKind}{d:DataW H}(ht:P.underlying t=some (.int k))(h:xF enc P w n t cs d):∃i,sL w [.v (.int k i)] cs/\1<=rI d/\k.min<=i/\i<=k.max:=by
 obtain⟨ps,h⟩:=h;obtain⟨i,rfl,hx,hw⟩:=DataW.trod_int ht h;simp only[aD]at hx;simp only[Lit.wf,aE,decide_eq_true_eq]at hw;exact⟨i,sL.one rfl,by rw[hx.1];simp[rI,Rows.uptoBulk],hw.1,hw.2⟩
theorem aIP{d:DataW H}(ht:P.underlying t=some .bool)(h:xF enc P w n t cs d):∃b,sL w [.v (.bool b)] cs/\1<=rI d:=by
 obtain⟨ps,h⟩:=h;obtain⟨i,rfl,hx⟩:=DataW.trod_bool ht h;simp only[aD]at hx;exact⟨i,sL.one rfl,by rw[hx.1];simp[rI,Rows.uptoBulk]⟩
theorem GX{d:DataW H}(ht:P.underlying t=some .string)(h:xF enc P w n t cs d):∃s,sL w [.v (.string s)] cs/\1<=rI d:=by
 obtain⟨ps,h⟩:=h;cases n with
 |zero=>simp[DataW.trod]at h
 |succ n=>
  unfold DataW.trod at h;rw[ht]at h;split at h<;>try(simp at h;done)
  all_goals(rename_i hu;try(cases hu;done))
  rename_i s;split at h
  ·simp only[aA,aD]at h;exact⟨_,sL.one rfl,by rw[<-h.1];simp[rI,Rows.uptoBulk]⟩
  ·cases h
theorem aP0{b:Nat}:∀{l:List C}{cs:List Value}{off:Nat},sL w l cs->(∀i,i<cs.length->w.cell? ⟨b,off+i,none⟩=cs[i]?)->C.sS w (λ_=>False) b off l
 |[],cs,off,_,_=>by simp[C.sS]
 |c::l,cs,off,h,hc=>by
  obtain⟨h1,h2⟩:=h;simp only[C.bR]at h1;obtain⟨y,yr,rfl,hy,hr⟩:=h1;simp only[C.sS];refine⟨⟨y,by simpa using hc 0 sM,h2 y sM,hy⟩,?_⟩;refine aP0 (l:=l) (cs:=yr) ⟨hr,λz hz=>h2 z (by simp[hz])⟩ λi hi=>?_;have:=hc (i+1) zM;rw[show off+1+i=off+(i+1) by omega,this];simp
theorem mE(d:DataW H)(r:List (DataW H)):rZ (d::r)=rI d+rZ r:=by simp[rZ,rI,Rows.uptoBulkAll]
theorem RO{a:Addr}(h:a.spot=none)(i:Nat):a.add i=⟨a.block,a.off+i,none⟩:=by
 unfold Addr.add;cases a;simp only at h;subst h;split<;>simp_all
theorem ZH{α:Type}{row:α->List C}{m:α->Nat}{p:α->Prop}{n:Nat}{e:TypeId}{es:Nat}{a:Addr}(hpos:0<es)(ha:a.spot=none)
 (ih:∀cs(d:DataW H),xF enc P w n e cs d->∃x,sL w (row x) cs/\m x<=rI d/\p x):∀(els:List (DataW H×List MemPlace))(k:Nat),
 (∀i,i<els.length->(w.cells? 0 (a.add ((k+i)*es)) es).bind (DataW.trod enc P w 0 (λ_=>true) true n e)=els[i]?)->
 ∃l:List α,l.length=els.length/\C.lD w (λ_=>False) a.block es (a.off+k*es) (l.map row)/\(l.map m).sum<=rZ (els.map (·.1))/\∀x∈l,p x
 |[],k,h=>⟨[],rfl,by simp[C.lD],sM,sM⟩
 |x::els,k,h=>by
  have h0:=h 0 sM;simp only[iE,iK,Option.bind_eq_some_iff]at h0;obtain⟨cs,hcs,htr⟩:=h0;obtain⟨y,hy,hm,hp⟩:=ih cs x.1 ⟨x.2,htr⟩
  obtain⟨l,hl,hd,hs,hq⟩:=ZH hpos ha ih els (k+1) (λi hi=>by
   have:=h (i+1) zM;rw[show k+(i+1)=k+1+i by omega]at this
   rw[this];simp)
  obtain⟨_,hlen,hcell⟩:=World.cells?_some hcs;refine⟨y::l,by simp[hl],?_,?_,?_⟩
  ·simp only[aG,C.lD];refine⟨by rw[hy.len,hlen],aP0 hy λi hi=>?_,?_⟩
   ·rw[<-hcell i oM,RO ha,RO (by rfl)]
   ·rw[show a.off+k*es+es=a.off+(k+1)*es by rw[gY];omega];exact hd
  ·simp only[aG,gU,mE];omega
  ·intro z hz;rcases aO.1 hz with e|e
   ·exact e▸hp
   ·exact hq z e
theorem oV{α:Type}(row:α->List C)(m:α->Nat)(p:α->Prop){n:Nat}{t e:TypeId}(es:Nat){cs:List Value}{d:DataW H}(ht:P.underlying t=some (.slice e))(hes:P.cellsOf e=es)(hpos:0<es)
 (ih:∀k,k<n->∀cs(d:DataW H),xF enc P w k e cs d->∃x,sL w (row x) cs/\m x<=rI d/\p x)(h:xF enc P w n t cs d):
 ∃l:List α,sL w [.sl es (l.map row)] cs/\(l.map m).sum+1<=rI d/\∀x∈l,p x:=by
 obtain⟨ps,h⟩:=h;rcases DataW.trod_slice ht h with⟨rfl,hx⟩|⟨a,len,cap,elems,rest,k,rfl,rfl,hx,_,hl,_,hlen,hel,_,_⟩
 ·simp only[aD]at hx;refine⟨[],⟨?_,by simp[Value.oneCell']⟩,by rw[hx.1];simp[rI,Rows.uptoBulk],sM⟩;simp[C.bR,C.Den]
 ·simp only[aD]at hx;rw[hes]at hel;have hb:rI d=rZ (elems.map (·.1))+rZ (rest.map (·.1))+1:=by rw[hx.1];simp[rI,rZ,Rows.uptoBulk]
  cases elems with
  |nil=>
   simp only[cS]at hlen;subst hlen;refine⟨[],⟨?_,by simp[Value.oneCell']⟩,zM,sM⟩;simp[C.bR,C.Den]
  |cons x elems=>
   have h0:=hel 0 (by rw[<-hlen];simp);simp only[Nat.zero_mul,iK,Option.bind_eq_some_iff]at h0;obtain⟨cs,hcs,_⟩:=h0;obtain⟨_,_,hcell⟩:=World.cells?_some hcs;have hc0:=hcell 0 hpos;rw[show(a.add 0).add 0=a by simp[Addr.add]]at hc0;have hcl:cs.length=es:=(World.cells?_some hcs).2.1;rw[aC oM]at hc0;unfold World.cell? at hc0;have ha:a.spot=none/\a.block<w.heap.size:=by
    split at hc0
    ·rename_i heq;split at hc0
     ·cases hc0
     ·rename_i hs;exact⟨by simpa using hs,(aL.1 heq).1⟩
    ·cases hc0
   obtain⟨l,hll,hd,hs,hq⟩:=ZH (row:=row) (m:=m) (p:=p) hpos ha.1 (ih k oM) (x::elems) 0 (λi hi=>by rw[fF];exact hel i (by rw[<-hlen];exact hi));refine⟨l,⟨?_,by simp[Value.oneCell']⟩,oM,hq⟩;simp only[C.bR,C.Den];refine⟨_,[],rfl,⟨some a,cap,?_,?_,eV ⟨a.block,a.off,?_,λe=>e,ha.2,?_⟩⟩,rfl⟩
   ·rw[aB,hll,hlen]
   ·rw[aB,hll,hlen];exact hl
   ·cases a;simp_all
   ·simpa using hd
def u7(P:Program)(t:TypeId):Option (List TypeId):=match P.underlying t with
 |some (.struct fs)=>if go fs.toList 0 (P.cellsOf t)then some (fs.toList.map (·.type))else none
 |_=>none
where go:List Field->Nat->Nat->Bool
 |[],k,n=>k==n
 |f::r,k,n=>f.offset==k&&go r (k+P.cellsOf f.type) n
theorem ZG{n:Nat}{N:Nat}{cs:List Value}:∀(fs:List Field)(k:Nat)(xs:List (DataW H×List MemPlace)),u7.go P fs k N=true->cs.length=N->xs.length=fs.length->
 (∀(i:Nat)(f:Field),fs[i]?=some f->DataW.trod enc P w 0 (λ_=>true) true n f.type ((cs.drop f.offset).take (P.cellsOf f.type))=xs[i]?)->
 TrF enc P w n (fs.map (·.type)) (cs.drop k) (xs.map (·.1))
 |[],k,xs,hg,hl,hx,h=>by
  simp only[u7.go,beq_iff_eq]at hg;cases xs with
  |nil=>exact⟨zM,rfl⟩
  |cons=>simp at hx
 |f::fs,k,xs,hg,hl,hx,h=>by
  simp only[u7.go,aE,beq_iff_eq]at hg;cases xs with
  |nil=>simp at hx
  |cons x xs=>
   have h0:=h 0 f sM;rw[hg.1]at h0;refine⟨(cs.drop k).take (P.cellsOf f.type),cs.drop (k+P.cellsOf f.type),x.1,xs.map (·.1),?_,rfl,⟨x.2,by rw[h0];simp⟩,?_⟩
   ·rw[<-List.drop_drop,gJ]
   ·exact ZG fs _ xs hg.2 hl (by simpa using hx) λi f' hf=>by
     have:=h (i+1) f' (by simpa using hf);simpa using this
theorem p9{ts:List TypeId}{d:DataW H}(ht:u7 P t=some ts)(h:xF enc P w n t cs d):∃k ds,n=k+1/\rI d=rZ ds+1/\TrF enc P w k ts cs ds:=by
 obtain⟨ps,h⟩:=h;unfold u7 at ht;split at ht
 ·rename_i fs hfs;obtain⟨xs,k,hk,hx,hl,hxl,hf⟩:=DataW.trod_struct hfs h;split at ht
  ·rename_i hg;cases ht;simp only[aD]at hx;exact⟨k,xs.map (·.1),hk,by rw[hx.1];simp[rI,rZ,Rows.uptoBulk],by simpa using ZG (enc:=enc) (w:=w) (n:=k) (cs:=cs) fs.toList 0 xs hg hl (by simpa using hxl) (λi f h=>hf i f (by simpa using h))⟩
  ·cases ht
 ·cases ht
end
structure R4 where
 parents:List Int
 cuts:List Bool
 things:List T4
 last:Int
 made:List Int
def R4.cells(w:R4):List C:=[.sl 1 (iR w.parents),.sl 1 (w.cuts.map λb=>[cb b]),.sl 17 (w.things.map T4.cells),ci w.last,.sl 1 (iR w.made)]
def R4.find(w:R4)(r:Int):Option T4:=w.things.find? λt=>decide (t.ref=r)
def R4.mI(w:R4)(r:Int):Bool:=(w.find r).isSome
def R4.iI(w:R4)(r:Int):W4:=((w.find r).map (·.bQ)).getD W4.zero
theorem aSH{α:Type}(p:α->Bool)(L:List α)(i:Nat)(h:i<L.length)(h0:(L.take i).find? p=none)(hp:p L[i]=false):(L.take (i+1)).find? p=none:=by
 rw[aT h,y3,h0];simp[hp]
theorem aTS{α:Type}(p:α->Bool)(L:List α)(i:Nat)(h:i<L.length)(h0:(L.take i).find? p=none)(hp:p L[i]=true):L.find? p=some L[i]:=by
 have e:L=L.take i++L.drop i:=(gJ i L).symm;conv=>lhs;rw[e]
 rw[y3,h0,dE h,eN,hp];rfl
abbrev wH:List A:=[.d (.v (.int .u8 0)),.d (ci 0),.d (.v (.int .u8 0)),.d (ci 0),.d (.v (.string ByteArray.empty)),.d (.nl 5),.d (ci 0),.d (.nl 5),.d (ci 0),.d (ci 0),.d (ci 0),.d (ci 0),.d (.v (.int .u8 0)),.d (cb false),.d (.nl 17),.d (.nl 6)]
theorem zP(w:R4)(r:Int)(hl:w.things.length<=2^30):Pu 52 [.d (.ip w.cells),.d (ci r)] (.eL [.d (.agg (w.iI r).cells),.d (cb (w.mI r))]):=by
 refine iC mix Tryz.func52 ?_;refine bl ?_;refine bV mix (λi:Nat=>i<=w.things.length/\(w.things.take i).find? (λt=>decide (t.ref=r))=none) (I:=λi=>[(0,.d (.ip w.cells)),(1,.d (ci r)),(4,.lp 1 0),(5,.d (cb false)),(6,.d (ci i))])
  (J:=λi=>[(1,.cells false wH)]) (μ:=λi=>w.things.length -i) 100 0 ⟨oM,rfl⟩ (by exact mZ) ?_
 rintro i ⟨hi,h0⟩
 repeat'(first|refine bl ?_|refine bS (λh=>?_) (λh=>?_)|refine cD rfl eD aM (bw ?_))
 ·have hlt:i<w.things.length:=aM;have hf:w.find r=some w.things[i]:=aTS _ _ i hlt h0 (by simpa using‹w.things[i].ref=r›);have e1:w.iI r=w.things[i].bQ:=by unfold R4.iI;rw[hf];rfl
  have e2:w.mI r=true:=by unfold R4.mI;rw[hf];rfl
  rw[e1,e2];exact .eL (cs:=[.agg w.things[i].bQ.cells,cb true]) (.cons (.agg (wJ.data _ w.things[i].bQ.cells)) (.cons (.d _) .nil))
 ·have hlt:i<w.things.length:=aM;exact⟨i+1,oM,⟨oM,aSH _ _ i hlt h0 (by simpa using‹¬w.things[i].ref=r›)⟩,by exact mZ⟩
 ·rw[aI oM]at h0;have hf:w.find r=none:=h0;have e1:w.iI r=W4.zero:=by unfold R4.iI;rw[hf];rfl
  have e2:w.mI r=false:=by unfold R4.mI;rw[hf];rfl
  rw[e1,e2];exact .eL (cs:=[.agg W4.zero.cells,cb false]) (.cons (.agg aES) (.cons (.d _) .nil))
structure R4.wt(w:R4):Prop where
 len:w.things.length<=2^30
 cR:∀t∈w.things,t.bQ.cR<=2^35
 kind:∀t∈w.things,0<=t.bQ.kind/\t.bQ.kind<256
theorem R4.AF{w:R4}(h:w.wt)(r:Int):0<=(w.iI r).kind/\(w.iI r).kind<256:=by
 unfold R4.iI;cases hf:w.find r with
 |none=>exact⟨Int.le_refl _,(by decide:(0:Int)<256)⟩
 |some t=>exact h.kind t (cT hf)
def R4.zB(w:R4)(r:Int):Int:=(w.iI r).kind
theorem aQI(w:R4)(r:Int)(hw:w.wt):Pu 101 [.d (.ip w.cells),.d (ci r)] (.d (ci (w.zB r))):=by
 refine iC mix Tryz.func101 ?_;obtain⟨h0,h1⟩:=R4.AF hw r
 repeat'(first|refine bl ?_|refine aF (zP w r hw.len) (bw ?_))
 exact .one (.d _)
def y5(k:Int):Bool:=decide (k=14)||(decide (k=15)||decide (k=16))
theorem aH5(k:Int):Pu 100 [.d (ci k)] (.d (cb (y5 k))):=by
 refine iC mix Tryz.func100 ?_
 repeat'(first|refine bl ?_|refine bS (λh=>?_) (λh=>?_))
 all_goals(refine dP ?_;simp_all[y5])
def R4.pX(w:R4):Nat->Int->List Int
 |0,_=>[]
 |n+1,r=>match w.find r with
  |none=>[]
  |some t=>r::(if y5 t.bQ.kind=true then w.pX n t.bQ.of else [])
def R4.CT(w:R4)(r:Int):List Int:=w.pX (w.things.length+1) r
theorem R4.aQU(w:R4):∀(n:Nat)(r:Int),(w.pX n r).length<=n
 |0,_=>by simp[R4.pX]
 |n+1,r=>by
  rw[R4.pX];split
  ·simp
  ·rw[aQ];split
   ·have:=R4.aQU w n (by assumption:T4).bQ.of;omega
   ·simp
theorem Rd.UN{m:Mem}{i:Nat}{es:Nat}{rows:List (List A)}{L:List (List C)}(h:m i=some (.fW false t es rows))(hr:rows=bE L):Rd m (.h i) (.sl es L):=.dU (by rw[h,hr];rfl)
theorem aUT{w:R4}(h:w.mI r=false):w.pX (n+1) r=[]:=by
 unfold R4.mI at h;rw[R4.pX];cases hf:w.find r with
 |none=>rfl
 |some t=>rw[hf]at h;cases h
theorem aSA{w:R4}(h:w.mI r=true)(hk:y5 (w.iI r).kind=false):w.pX (n+1) r=[r]:=by
 unfold R4.mI at h;unfold R4.iI at hk;rw[R4.pX];cases hf:w.find r with
 |none=>rw[hf]at h;cases h
 |some t=>rw[hf]at hk;simp only[dF,gZ]at hk;simp[hk]
theorem aUS{w:R4}(h:w.mI r=true)(hk:y5 (w.iI r).kind=true):w.pX (n+1) r=r::w.pX n (w.iI r).of:=by
 unfold R4.mI at h;unfold R4.iI at hk⊢;rw[R4.pX];cases hf:w.find r with
 |none=>rw[hf]at h;cases h
 |some t=>rw[hf]at hk;simp only[dF,gZ]at hk⊢;simp[hk]
theorem aVD(w:R4)(r:Int)(hw:w.wt):Pu 99 [.d (.ip w.cells),.d (ci r)] (.d (.sl 1 (iR (w.CT r)))):=by
 have hlen:=hw.len;refine iC mix Tryz.func99 ?_;refine bl ?_;refine cY mix (λa:(Nat×Int)×List Int=>a.1.1<=w.things.length+1/\a.2.length<=a.1.1/\a.2++w.pX (w.things.length+1 -a.1.1) a.1.2=w.CT r) (I:=λa=>[(0,.d (.ip w.cells)),(1,.d (ci a.1.2)),(5,lv 1 900 (iR a.2)),(6,.d (ci a.1.1))])
  (J:=λa=>lm 900 25 1 (iR a.2) []) (μ:=λa=>w.things.length+1 -a.1.1) 2000 ((0,r),[]) 0
  (λQ:List Int=>Q=w.CT r) (λQ=>[(5,dl Q)]) (λQ=>[]) 4000 ⟨sM,sM,by simp[R4.CT]⟩ (by exact mZ) ?_ ?_
 ·rintro⟨⟨i,s⟩,Q⟩ ⟨hi,hQl,hQ⟩;dsimp only at hi hQl hQ⊢;obtain⟨hk0,hk1⟩:=R4.AF hw s;cases Q with
  |nil=>
   show vc _ _ _ _ _ [] _ _
   repeat'(first|refine bl ?_|refine bS (λh=>?_) (λh=>?_)|refine aF (zP w s hw.len) (bw ?_))
   ·have hwl:w.CT r=[]:=by
     rw[<-hQ,bZ];obtain⟨k,hk⟩:∃k,w.things.length+1 -i=k+1:=⟨w.things.length -i,oM⟩;rw[hk,aUT aM]
    rw[hwl];exact .one (.nz _ _)
   ·refine n8 (by simp only[cE,aS];omega) kK ?_;conv=>whnf
    refine E9.mk (λh1=>absurd h1 sM) (λh1=>?_);conv=>whnf
    repeat'(first|refine bl ?_|refine bS (λh=>?_) (λh=>?_)|refine aF (aH5 (w.iI s).kind) (bw ?_))
    ·have hwl:w.CT r=[s]:=by
      rw[<-hQ,bZ];obtain⟨k,hk⟩:∃k,w.things.length+1 -i=k+1:=⟨w.things.length -i,oM⟩;rw[hk,aSA aM aM]
     rw[hwl];exact .one (.dU (t:=25) rfl)
    ·refine⟨((i+1,(w.iI s).of),[s]),dM,⟨dM,sM,?_⟩,?_⟩
     ·dsimp only;rw[<-hQ];obtain⟨k,hk⟩:∃k,w.things.length+1 -i=k+1:=⟨w.things.length -i,oM⟩;rw[hk,aUS aM aM,show w.things.length+1 -(i+1)=k by omega];rfl
     ·dsimp only[iR,List.map_cons,List.map_nil,lv,lm];exact mv 2168 900
      all_goals exact cO rfl rfl
   ·refine⟨[],?_,by exact mZ⟩;rw[<-hQ,show w.things.length+1 -i=0 by omega];rfl
  |cons q0 Q=>
   show vc _ _ _ _ _ [(900,dU 25 1 (iR (q0::Q)))] _ _
   repeat'(first|refine bl ?_|refine bS (λh=>?_) (λh=>?_)|refine aF (zP w s hw.len) (bw ?_))
   ·have hwl:w.CT r=q0::Q:=by
     rw[<-hQ];obtain⟨k,hk⟩:∃k,w.things.length+1 -i=k+1:=⟨w.things.length -i,oM⟩;rw[hk,aUT aM,dS]
    rw[hwl];exact .one (.dU (t:=25) rfl)
   ·refine n8 (by simp only[cE,aS,aB,bE];omega) kK ?_;conv=>whnf
    repeat'(first|refine bl ?_|refine bS (λh=>?_) (λh=>?_)|refine aF (aH5 (w.iI s).kind) (bw ?_))
    ·have hwl:w.CT r=q0::(Q++[s]):=by
      rw[<-hQ];obtain⟨k,hk⟩:∃k,w.things.length+1 -i=k+1:=⟨w.things.length -i,oM⟩;rw[hk,aSA aM aM];rfl
     rw[hwl];exact .one (Rd.UN (t:=25) rfl (gG (q0::Q) [s]))
    ·refine⟨((i+1,(w.iI s).of),q0::(Q++[s])),dM,⟨dM,by simp at hQl⊢;omega,?_⟩,?_⟩
     ·dsimp only;rw[<-hQ];obtain⟨k,hk⟩:∃k,w.things.length+1 -i=k+1:=⟨w.things.length -i,oM⟩;rw[hk,aUS aM aM,show w.things.length+1 -(i+1)=k by omega];simp
     ·dsimp only[iR,List.map_cons,List.map_nil,lv,lm];refine mq 2168 900 ?_
      all_goals exact cO rfl (gG (q0::Q) [s])
   ·refine⟨q0::Q,?_,cN.freeze [900] trivial ⟨.rd (.dU (eX rfl rfl)),trivial⟩ trivial ⟨trivial,trivial⟩ trivial⟩;rw[<-hQ,show w.things.length+1 -i=0 by omega];simp[R4.pX]
 ·rintro Q hQ;cases Q with
  |nil=>
   refine bl ?_;rw[<-hQ];exact .one (.nz _ _)
  |cons q0 Q=>
   refine bl ?_;rw[<-hQ];exact .one (.d _)
def aD8(k set:Int):Int:=if k=1 then 3 else if k=2\/k=3 then 9 else if k=4 then 12 else if k=5\/k=6\/k=8\/k=12 then 16 else if k=9 then 13 else if k=10 then 1 else if k=11 then 8 else if k=13 then 33 else if k=14 then set else 0
def R4.MD(w:R4):Nat->Int->Option Int
 |0,_=>none
 |n+1,r=>match w.find r with
  |none=>some 0
  |some t=>if t.bQ.kind=15\/t.bQ.kind=16 then R4.MD w n t.bQ.of else some (aD8 t.bQ.kind t.bQ.set)
theorem R4.aTG{w:R4}{v:Int}(h:w.MD (n+1) r=some v)(hb:w.mI r=false):v=0:=by
 unfold R4.mI at hb;rw[R4.MD]at h;cases hf:w.find r with
 |none=>rw[hf]at h;exact(eY h).symm
 |some t=>rw[hf]at hb;cases hb
theorem R4.aPV{w:R4}{v:Int}(h:w.MD (n+1) r=some v)(hb:w.mI r=true)(h1:¬(w.iI r).kind=15)(h2:¬(w.iI r).kind=16):v=aD8 (w.iI r).kind (w.iI r).set:=by
 unfold R4.mI at hb;unfold R4.iI at h1 h2⊢;rw[R4.MD]at h;cases hf:w.find r with
 |none=>rw[hf]at hb;cases hb
 |some t=>
  rw[hf]at h h1 h2;simp only[dF,gZ]at h1 h2⊢;simpa [h1,h2]using h.symm
theorem R4.aVX{w:R4}{v:Int}(h:w.MD (n+1) r=some v)(hb:w.mI r=true)(h1:(w.iI r).kind=15\/(w.iI r).kind=16):w.MD n (w.iI r).of=some v:=by
 unfold R4.mI at hb;unfold R4.iI at h1⊢;rw[R4.MD]at h;cases hf:w.find r with
 |none=>rw[hf]at hb;cases hb
 |some t=>
  rw[hf]at h h1;simp only[dF,gZ]at h1⊢;simpa [h1]using h
theorem aOQ(w:R4)(hw:w.wt):∀(n:Nat)(r v:Int),w.MD n r=some v->Pu 155 [.d (.ip w.cells),.d (ci r)] (.d (.v (.int .u8 v)))
 |0,r,v,hv=>by cases hv
 |n+1,r,v,hv=>by
  obtain⟨hk0,hk1⟩:=R4.AF hw r;refine iC mix Tryz.func155 ?_
  repeat'(first|refine bl ?_|refine bS (λh=>?_) (λh=>?_)|refine aF (zP w r hw.len) (bw ?_)|(refine aF (aOQ w hw n (w.iI r).of v (R4.aVX hv aM (by first|exact .inl aM|exact .inr aM))) ?_;(conv=>whnf)))
  all_goals first
   |(refine CW (R4.aTG hv aM).symm;done)
   |(refine CW ?_
     have hb:=R4.aPV hv aM oM oM;rw[hb];simp_all[aD8]
     done)
   |(refine CW ?_
     have hb:=R4.aPV hv aM oM oM;rw[hb];simp_all[aD8]
     omega)
   |exact CW rfl
theorem aUI(L:List V):Pu 139 [.d (.sl 5 (L.map V.row))] (.d (.agg (V.mk 3 0 ByteArray.empty L 0).cells)):=by
 refine iC mix Tryz.func139 ?_;refine bl ?_
 all_goals exact .one (.agg (wJ.data _ (V.mk 3 0 ByteArray.empty L 0).cells))
def W4.refs(x:W4):List Int:=(x.vA.map V.refs).flatten
theorem aHQ(L:List V):((L.map V.refs).flatten).length<=V.dB L:=by
 induction L with
 |nil=>simp
 |cons v r ih=>
  have:=V.EO v;simp only[aG,dL,aU,V.dB];omega
theorem aOR(x:W4)(hx:x.cR<=2^35):Pu 73 [.d (.agg x.cells)] (.d (.sl 1 (iR x.refs))):=by
 have hvc:=x.aF6;have hvl:=V.eW x.vA;have hsum:∀i,(((x.vA.take i).map V.refs).flatten).length<=2^36:=λi=>by
  have h1:=aHQ (x.vA.take i);have h2:=V.kA x.vA i;omega
 refine iC mix Tryz.func73 ?_
 repeat'(first|refine bl ?_|refine fT (cs:=x.cells) (aBZ x oM) (bw ?_))
 refine cY mix (λa:Nat×List Int=>a.1<=x.vA.length/\a.2=((x.vA.take a.1).map V.refs).flatten) (I:=λa=>[(3,lv 1 900 (iR a.2)),(4,.d (aF5 x.vA)),(5,.d (ci a.1))])
  (J:=λa=>lm 900 25 1 (iR a.2) []) (μ:=λa=>x.vA.length -a.1) 2000 (0,[]) 0
  (λQ:List Int=>Q=x.refs) (λQ=>[(3,dl Q)]) (λQ=>[]) 4000 ⟨sM,sM⟩ (by exact mZ) ?_ ?_
 ·rintro⟨i,Q⟩ ⟨hi,hQ⟩;dsimp only at hi hQ⊢;have hlen:Q.length<=2^36:=by
   have h1:=hsum i;rw[hQ];omega
  cases Q with
  |nil=>
   show vc _ _ _ _ _ [] _ _
   repeat'(first|refine bl ?_|refine bS (λh=>?_) (λh=>?_))
   ·refine cD rfl eD h ?_;have hst:((x.vA.take (i+1)).map V.refs).flatten=((x.vA.take i).map V.refs).flatten++V.refs x.vA[i]:=iU V.refs x.vA i h;have hq:=V.EO x.vA[i];have hq2:=V.dG x.vA i h;conv=>whnf
    repeat' refine aF (aPR x.vA[i] oM) (bw ?_)
    refine n8 (by simp only[aB];omega) kK ?_;conv=>whnf
    refine E9.mk (λh1=>?_) (λh1=>?_)
    ·have h1:V.refs x.vA[i]=[]:=by simpa using h1
     conv=>whnf
     refine bl ?_;refine⟨(i+1,[]),dM,⟨dM,by dsimp only;rw[hst,h1,dS,<-hQ]⟩,?_⟩;exact mZ
    ·have h1:V.refs x.vA[i]≠[]:=by simpa using h1
     conv=>whnf
     refine bl ?_;refine⟨(i+1,V.refs x.vA[i]),dM,⟨dM,by dsimp only;rw[hst,<-hQ,bZ]⟩,?_⟩;cases hrr:V.refs x.vA[i]with
     |nil=>exact absurd hrr h1
     |cons r Q=>
      dsimp only[iR,List.map_cons,lv,lm];exact mv 2080 900
      all_goals first|exact cO rfl rfl|exact cO rfl (by rw[hrr];rfl)
   ·rw[aI oM]at hQ;exact⟨[],hQ,by exact mZ⟩
  |cons r Q=>
   show vc _ _ _ _ _ [(900,dU 25 1 (iR (r::Q)))] _ _
   repeat'(first|refine bl ?_|refine bS (λh=>?_) (λh=>?_))
   ·refine cD rfl eD h ?_;have hst:((x.vA.take (i+1)).map V.refs).flatten=((x.vA.take i).map V.refs).flatten++V.refs x.vA[i]:=iU V.refs x.vA i h;have hq:=V.EO x.vA[i];have hq2:=V.dG x.vA i h;conv=>whnf
    repeat' refine aF (aPR x.vA[i] oM) (bw ?_)
    refine n8 (by simp only[aB,bE];omega) kK ?_;conv=>whnf
    refine bl ?_;refine⟨(i+1,r::(Q++V.refs x.vA[i])),dM,⟨dM,by dsimp only;rw[hst,<-hQ];rfl⟩,?_⟩;refine mq 2080 900 ?_
    all_goals exact cO rfl (gG (r::Q) (V.refs x.vA[i]))
   ·rw[aI oM]at hQ;exact⟨r::Q,hQ,cN.freeze [900] trivial ⟨.rd (.dU (eX rfl rfl)),trivial⟩ trivial ⟨trivial,trivial⟩ trivial⟩
 ·rintro Q hQ;cases Q with
  |nil=>
   refine bl ?_;rw[<-hQ];exact .one (.nz _ _)
  |cons q0 Q=>
   refine bl ?_;rw[<-hQ];exact .one (.d _)
def aBY(r k of:Int)(b:Bool)(t:T4):Bool:=decide (t.ref≠r)&&(decide (t.bQ.kind=k)&&(if b=true then decide (t.bQ.by_=of)else decide (t.bQ.of=of)))
def R4.QN(w:R4)(r k of:Int)(b:Bool):Bool:=w.things.any (aBY r k of b)
theorem aLI(w:R4)(hw:w.wt)(r k of:Int)(b:Bool):Pu 154 [.d (.ip w.cells),.d (ci r),.d (ci k),.d (ci of),.d (cb b)] (.d (cb (w.QN r k of b))):=by
 have hlen:=hw.len;have hkd:∀i(h:i<w.things.length),0<=w.things[i].bQ.kind/\w.things[i].bQ.kind<256:=λi h=>hw.kind _ (aY h);refine iC mix Tryz.func154 ?_;refine bl ?_;refine bV mix (λi:Nat=>i<=w.things.length/\(w.things.take i).any (aBY r k of b)=false) (I:=λi=>[(0,.d (.ip w.cells)),(1,.d (ci r)),(2,.d (ci k)),(3,.d (ci of)),(4,.d (cb b)),(11,.d (ci i))])
  (J:=λi=>[]) (μ:=λi=>w.things.length -i) 1000 0 ⟨oM,rfl⟩ (by exact mZ) ?_
 rintro i ⟨hi,h0⟩
 repeat'(first|refine bl ?_|refine bS (λh=>?_) (λh=>?_))
 ·refine cD rfl eD aM ?_;have hlt:i<w.things.length:=aM;obtain⟨hk0,hk1⟩:=hkd i hlt;conv=>whnf
  repeat'(first|refine bl ?_|refine bS (λh=>?_) (λh=>?_)|refine cD rfl eD hlt (bw ?_))
  all_goals cases b
  all_goals try first
   |(exact dP (dQ.2 ⟨w.things[i],aY hlt,by simp_all[aBY]⟩).symm)
  all_goals try(refine⟨i+1,oM,⟨oM,A2 (aBY r k of true) w.things i hlt h0 ?_⟩,by exact mZ⟩)
  all_goals try(refine⟨i+1,oM,⟨oM,A2 (aBY r k of false) w.things i hlt h0 ?_⟩,by exact mZ⟩)
  all_goals try simp_all[aBY]
 ·rw[aI oM]at h0;exact dP h0.symm
abbrev vR(L:List V):List (List C):=L.map V.cells
def dlV(L:List V):A:=match L with
 |[]=>.d (.nl 5)
 |v::L=>.d (.sl 5 (vR (v::L)))
abbrev zVA:List A:=[.d (.v (.int .u8 0)),.d (ci 0),.d (.v (.string ByteArray.empty)),.d (.nl 5),.d (ci 0)]
theorem aPL(a:List V)(b:V):bE (vR a)++[b.cells.map A.d]=bE (vR (a++[b])):=by rw[vR,vR,bP,ER];rfl
theorem z7:∀(v:V),v.cR<=2^35->Pu 152 [.d (.agg v.cells)] (.d (.agg v.cells)):=by
 intro v hv;have hce:v.cR=1+V.dB v.l:=by cases v;rfl
 have hcl:V.dB v.l<=2^35:=oM;have hll:=V.eW v.l;refine iC mix Tryz.func152 ?_;refine bl ?_;refine cY mix (λa:Nat×List V=>a.1<=v.l.length/\a.2=v.l.take a.1) (I:=λa=>[(1,.lp 1 0),(2,.lp 9 0),(3,lv 5 900 (vR a.2)),(4,.d (ci a.1))])
  (J:=λa=>lm 900 88 5 (vR a.2) [(1,.cells false (v.cells.map A.d)),(9,.cells false zVA)]) (μ:=λa=>v.l.length -a.1) 2000 (0,[]) 0
  (λQ:List V=>Q=v.l) (λQ=>[(1,.lp 1 0),(2,.lp 9 0),(3,dlV Q)]) (λQ=>[(1,.cells false (v.cells.map A.d)),(9,.cells false zVA)]) 4000 ⟨sM,sM⟩ (by exact mZ) ?_ ?_
 ·rintro⟨i,Q⟩ ⟨hi,hQ⟩;dsimp only at hi hQ⊢;cases Q with
  |nil=>
   show vc _ _ _ _ _ [(1,.cells false (v.cells.map A.d)),(9,.cells false zVA)] _ _
   repeat'(first|refine bl ?_|refine bS (λh=>?_) (λh=>?_))
   ·refine eE V.cP rfl eD h ?_;have hlt:i<v.l.length:=h;have hq:=V.dG v.l i hlt;have hdec:V.cR v.l[i]<v.cR:=oM;conv=>whnf
    repeat' refine aF (z7 v.l[i] oM) (bw ?_)
    refine n8 (by simp only[cE,aS];omega) kK ?_;conv=>whnf
    refine E9.mk (λh1=>absurd h1 sM) (λh1=>?_);conv=>whnf
    refine bl ?_;refine⟨(i+1,[v.l[i]]),dM,⟨dM,by dsimp only;rw[aT hlt,<-hQ];rfl⟩,?_⟩;dsimp only[vR,List.map_cons,List.map_nil,lv,lm];exact mv 2104 900
    all_goals exact cO rfl rfl
   ·rw[aI oM]at hQ;exact⟨[],hQ,by exact mZ⟩
  |cons r Q=>
   show vc _ _ _ _ _ [(900,dU 88 5 (vR (r::Q))),(1,.cells false (v.cells.map A.d)),(9,.cells false zVA)] _ _
   repeat'(first|refine bl ?_|refine bS (λh=>?_) (λh=>?_))
   ·refine eE V.cP rfl eD h ?_;have hlt:i<v.l.length:=h;have hq:=V.dG v.l i hlt;have hdec:V.cR v.l[i]<v.cR:=oM;have hql:(r::Q).length<=i:=by rw[hQ,cW];omega
    conv=>whnf
    repeat' refine aF (z7 v.l[i] oM) (bw ?_)
    refine n8 (by simp only[cE,aS,aB,bE];omega) kK ?_;conv=>whnf
    refine bl ?_;refine⟨(i+1,r::(Q++[v.l[i]])),dM,⟨dM,by dsimp only;rw[aT hlt,<-hQ];rfl⟩,?_⟩;dsimp only[vR,List.map_cons,List.map_nil,lv,lm];refine mq 2104 900 ?_
    all_goals exact cO rfl (aPL (r::Q) v.l[i])
   ·rw[aI oM]at hQ;exact⟨r::Q,hQ,cN.freeze [900] trivial ⟨.same _,.same _,.rd (.dU (eX rfl rfl)),trivial⟩ ⟨⟨rfl,_,rfl,.cells (.same _)⟩,⟨rfl,_,rfl,.cells (.same _)⟩,trivial⟩ ⟨⟨nofun,trivial⟩,⟨nofun,trivial⟩,trivial,trivial⟩ ⟨trivial,trivial,trivial⟩⟩
 ·rintro Q rfl;have e:v.cells=[.v (.int .u8 v.kind),ci v.n,.v (.string v.s),.sl 5 (v.l.map V.row),ci v.r]:=rfl;have er:V.row=V.cells:=funext V.cP;rw[e,er];cases hl:v.l with
  |nil=>
   refine bl ?_;exact .one (.agg (.cons (.d _) (.cons (.d _) (.cons (.d _) (.cons (.nz _ _) (.cons (.d _) .nil))))))
  |cons q0 Q=>
   refine bl ?_;exact .one (.agg (wJ.data _ [.v (.int .u8 v.kind),ci v.n,.v (.string v.s),.sl 5 (vR (q0::Q)),ci v.r]))
 termination_by v=>v.cR
abbrev eR(L:List E4):List (List C):=L.map E4.cells
def dlE(L:List E4):A:=match L with
 |[]=>.d (.nl 4)
 |v::L=>.d (.sl 4 (eR (v::L)))
abbrev zEA:List A:=[.d (.v (.int .u8 0)),.d (ci 0),.d (.v (.string ByteArray.empty)),.d (.nl 4)]
theorem aS5(a:List E4)(b:E4):bE (eR a)++[b.cells.map A.d]=bE (eR (a++[b])):=by rw[eR,eR,bP,ER];rfl
theorem N3:∀(v:E4),v.cR<=2^35->Pu 185 [.d (.agg v.cells)] (.d (.agg v.cells)):=by
 intro v hv;have hce:v.cR=1+E4.dB v.l:=by cases v;rfl
 have hcl:E4.dB v.l<=2^35:=oM;have hll:=E4.eW v.l;refine iC mix Tryz.func185 ?_;refine bl ?_;refine cY mix (λa:Nat×List E4=>a.1<=v.l.length/\a.2=v.l.take a.1) (I:=λa=>[(1,.lp 1 0),(2,.lp 9 0),(3,lv 4 900 (eR a.2)),(4,.d (ci a.1))])
  (J:=λa=>lm 900 207 4 (eR a.2) [(1,.cells false (v.cells.map A.d)),(9,.cells false zEA)]) (μ:=λa=>v.l.length -a.1) 2000 (0,[]) 0
  (λQ:List E4=>Q=v.l) (λQ=>[(1,.lp 1 0),(2,.lp 9 0),(3,dlE Q)]) (λQ=>[(1,.cells false (v.cells.map A.d)),(9,.cells false zEA)]) 4000 ⟨sM,sM⟩ (by exact mZ) ?_ ?_
 ·rintro⟨i,Q⟩ ⟨hi,hQ⟩;dsimp only at hi hQ⊢;cases Q with
  |nil=>
   show vc _ _ _ _ _ [(1,.cells false (v.cells.map A.d)),(9,.cells false zEA)] _ _
   repeat'(first|refine bl ?_|refine bS (λh=>?_) (λh=>?_))
   ·refine eE E4.cP rfl eD h ?_;have hlt:i<v.l.length:=h;have hq:=E4.dG v.l i hlt;have hdec:E4.cR v.l[i]<v.cR:=oM;conv=>whnf
    repeat' refine aF (N3 v.l[i] oM) (bw ?_)
    refine n8 (by simp only[cE,aS];omega) kK ?_;conv=>whnf
    refine E9.mk (λh1=>absurd h1 sM) (λh1=>?_);conv=>whnf
    refine bl ?_;refine⟨(i+1,[v.l[i]]),dM,⟨dM,by dsimp only;rw[aT hlt,<-hQ];rfl⟩,?_⟩;dsimp only[eR,List.map_cons,List.map_nil,lv,lm];exact mv 2104 900
    all_goals exact cO rfl rfl
   ·rw[aI oM]at hQ;exact⟨[],hQ,by exact mZ⟩
  |cons r Q=>
   show vc _ _ _ _ _ [(900,dU 207 4 (eR (r::Q))),(1,.cells false (v.cells.map A.d)),(9,.cells false zEA)] _ _
   repeat'(first|refine bl ?_|refine bS (λh=>?_) (λh=>?_))
   ·refine eE E4.cP rfl eD h ?_;have hlt:i<v.l.length:=h;have hq:=E4.dG v.l i hlt;have hdec:E4.cR v.l[i]<v.cR:=oM;have hql:(r::Q).length<=i:=by rw[hQ,cW];omega
    conv=>whnf
    repeat' refine aF (N3 v.l[i] oM) (bw ?_)
    refine n8 (by simp only[cE,aS,aB,bE];omega) kK ?_;conv=>whnf
    refine bl ?_;refine⟨(i+1,r::(Q++[v.l[i]])),dM,⟨dM,by dsimp only;rw[aT hlt,<-hQ];rfl⟩,?_⟩;dsimp only[eR,List.map_cons,List.map_nil,lv,lm];refine mq 2104 900 ?_
    all_goals exact cO rfl (aS5 (r::Q) v.l[i])
   ·rw[aI oM]at hQ;exact⟨r::Q,hQ,cN.freeze [900] trivial ⟨.same _,.same _,.rd (.dU (eX rfl rfl)),trivial⟩ ⟨⟨rfl,_,rfl,.cells (.same _)⟩,⟨rfl,_,rfl,.cells (.same _)⟩,trivial⟩ ⟨⟨nofun,trivial⟩,⟨nofun,trivial⟩,trivial,trivial⟩ ⟨trivial,trivial,trivial⟩⟩
 ·rintro Q rfl;have e:v.cells=[.v (.int .u8 v.kind),ci v.n,.v (.string v.s),.sl 4 (v.l.map E4.row)]:=rfl;have er:E4.row=E4.cells:=funext E4.cP;rw[e,er];cases hl:v.l with
  |nil=>
   refine bl ?_;exact .one (.agg (.cons (.d _) (.cons (.d _) (.cons (.d _) (.cons (.nz _ _) .nil)))))
  |cons q0 Q=>
   refine bl ?_;exact .one (.agg (wJ.data _ [.v (.int .u8 v.kind),ci v.n,.v (.string v.s),.sl 4 (eR (q0::Q))]))
 termination_by v=>v.cR
abbrev PC(L:List S4):List (List C):=L.map S4.cells
def dlC(L:List S4):A:=match L with
 |[]=>.d (.nl 17)
 |v::L=>.d (.sl 17 (PC (v::L)))
theorem aS4(a:List S4)(b:S4):bE (PC a)++[b.cells.map A.d]=bE (PC (a++[b])):=by rw[PC,PC,bP,ER];rfl
theorem aV3{m:Mem}{k es:Nat}{α:Type}{L:List α}{f:α->List C}(h:L=[]):Cv m (.d (.nl k)) (.d (.sl es (L.map f))):=by subst h;exact .rd (.nz _ _)
theorem GP:∀(c:List S4),S4.dB c<=2^35->Pu 153 [.d (.sl 17 (c.map S4.row))] (.d (.sl 17 (c.map S4.row))):=by
 intro c hv;have hll:=S4.eW c;refine iC mix Tryz.func153 ?_;refine bl ?_;refine cY mix (λa:Nat×List S4=>a.1<=c.length/\a.2=c.take a.1) (I:=λa=>[(0,.d (.sl 17 (c.map S4.row))),(3,lv 17 900 (PC a.2)),(4,.d (ci a.1))])
  (J:=λa=>lm 900 210 17 (PC a.2) []) (μ:=λa=>c.length -a.1) 2000 (0,[]) 0
  (λQ:List S4=>Q=c) (λQ=>[(3,dlC Q)]) (λQ=>[]) 4000 ⟨sM,sM⟩ (by exact mZ) ?_ ?_
 ·rintro⟨i,Q⟩ ⟨hi,hQ⟩;dsimp only at hi hQ⊢;cases Q with
  |nil=>
   show vc _ _ _ _ _ [] _ _
   repeat'(first|refine bl ?_|refine bS (λh=>?_) (λh=>?_))
   ·refine eE S4.cP rfl eD h ?_;have hlt:i<c.length:=h;have hq:=S4.dG c i hlt;have hcd:=c[i].fA;have hdt:S4.dB c[i].t<S4.dB c:=oM;have hde:S4.dB c[i].e<S4.dB c:=oM;have hdc:S4.dB c[i].c<S4.dB c:=oM;conv=>whnf
    repeat'(with_reducible (first|refine w9 ?_|refine nN.mk ?_))
    refine w1 ?_
    repeat'(first|with_reducible refine w9 ?_|((with_reducible refine wu ?_);(conv=>whnf))|with_reducible refine aJH.mk kK ?_|((refine jV (N3 c[i].a oM) (.cons (.agg c[i].a.cells) .nil) ?_);(conv=>whnf))|((refine jV (N3 c[i].b oM) (.cons (.agg c[i].b.cells) .nil) ?_);(conv=>whnf)))
    refine w1 ?_
    repeat'(first|with_reducible refine w9 ?_|((with_reducible refine wu ?_);(conv=>whnf))|with_reducible refine aJH.mk kK ?_|((refine cH (GP c[i].t oM) ?_);(conv=>whnf))|((refine cH (GP c[i].e oM) ?_);(conv=>whnf))|((refine cH (GP c[i].c oM) ?_);(conv=>whnf)))
    refine w1 ?_
    repeat'(first|with_reducible (first|refine w9 ?_|refine nN.mk ?_)|((with_reducible refine wr ?_);(conv=>whnf)))
    refine BH (λ_:Unit=>True) (λ_=>[(0,.d (.sl 17 (c.map S4.row))),(3,lv 17 900 (PC ([]))),(4,.d (ci i)),(5,.lp 2064 0)]) (λ_=>(2064,.cells false (c[i].cells.map A.d))::lm 900 210 17 (PC ([])) []) 5000 ?_ ?_
    ·skip
     repeat'((with_reducible refine wr ?_);(conv=>whnf))
     refine n8 (by simp only[aB];omega) kK ?_;conv=>whnf
     refine E9.mk (λh1=>?_) (λh1=>?_)
     ·have h1:c[i].w=[]:=by simpa using h1
      conv=>whnf
      repeat'(with_reducible (first|refine w9 ?_|refine nN.mk ?_))
      refine⟨(),trivial,?_⟩;exact cN.freeze [] trivial ⟨.same _,.same _,.same _,.same _,trivial⟩ ⟨⟨rfl,_,rfl,.cells (.cons (.same _) (.cons (.same _) (.cons (.same _) (.cons (.same _) (.cons (.same _) (.cons (.same _) (.cons (.same _) (.cons (.same _) (.cons (.same _) (.cons (.same _) (.cons (.same _) (.cons (.same _) (.cons (.same _) (.cons (.same _) (.cons (.same _) (.cons (.same _) (.cons (aV3 h1) (.same []))))))))))))))))))⟩,trivial⟩ ⟨trivial,trivial,trivial,⟨nofun,trivial⟩,trivial⟩ ⟨trivial,trivial⟩
     ·have h1:c[i].w≠[]:=by simpa using h1
      conv=>whnf
      repeat'(with_reducible (first|refine w9 ?_|refine nN.mk ?_))
      refine⟨(),trivial,?_⟩;exact cN.freeze [2312] trivial ⟨.same _,.same _,.same _,.same _,trivial⟩ ⟨⟨rfl,_,rfl,.cells (.cons (.same _) (.cons (.same _) (.cons (.same _) (.cons (.same _) (.cons (.same _) (.cons (.same _) (.cons (.same _) (.cons (.same _) (.cons (.same _) (.cons (.same _) (.cons (.same _) (.cons (.same _) (.cons (.same _) (.cons (.same _) (.cons (.same _) (.cons (.same _) (.cons (.rd (.dU (eX rfl rfl))) (.same []))))))))))))))))))⟩,trivial⟩ ⟨trivial,trivial,trivial,⟨nofun,trivial⟩,trivial⟩ ⟨trivial,trivial⟩
    ·rintro _ _
     repeat'((with_reducible refine wr ?_);(conv=>whnf))
     refine n8 (by simp only[cE,aS];omega) kK ?_;conv=>whnf
     refine E9.mk (λh1=>absurd h1 sM) (λh1=>?_);conv=>whnf
     refine bl ?_;refine⟨(i+1,[c[i]]),dM,⟨dM,by dsimp only;rw[aT hlt,<-hQ];rfl⟩,?_⟩;dsimp only[PC,List.map_cons,List.map_nil,lv,lm];exact mv 5024 900
     all_goals exact cO rfl rfl
     all_goals skip
   ·rw[aI oM]at hQ;exact⟨[],hQ,by exact mZ⟩
  |cons r Q=>
   show vc _ _ _ _ _ [(900,dU 210 17 (PC (r::Q)))] _ _
   repeat'(first|refine bl ?_|refine bS (λh=>?_) (λh=>?_))
   ·refine eE S4.cP rfl eD h ?_;have hlt:i<c.length:=h;have hq:=S4.dG c i hlt;have hcd:=c[i].fA;have hdt:S4.dB c[i].t<S4.dB c:=oM;have hde:S4.dB c[i].e<S4.dB c:=oM;have hdc:S4.dB c[i].c<S4.dB c:=oM;have hql:(r::Q).length<=i:=by rw[hQ,cW];omega
    conv=>whnf
    repeat'(with_reducible (first|refine w9 ?_|refine nN.mk ?_))
    refine w1 ?_
    repeat'(first|with_reducible refine w9 ?_|((with_reducible refine wu ?_);(conv=>whnf))|with_reducible refine aJH.mk kK ?_|((refine jV (N3 c[i].a oM) (.cons (.agg c[i].a.cells) .nil) ?_);(conv=>whnf))|((refine jV (N3 c[i].b oM) (.cons (.agg c[i].b.cells) .nil) ?_);(conv=>whnf)))
    refine w1 ?_
    repeat'(first|with_reducible refine w9 ?_|((with_reducible refine wu ?_);(conv=>whnf))|with_reducible refine aJH.mk kK ?_|((refine cH (GP c[i].t oM) ?_);(conv=>whnf))|((refine cH (GP c[i].e oM) ?_);(conv=>whnf))|((refine cH (GP c[i].c oM) ?_);(conv=>whnf)))
    refine w1 ?_
    repeat'(first|with_reducible (first|refine w9 ?_|refine nN.mk ?_)|((with_reducible refine wr ?_);(conv=>whnf)))
    refine BH (λ_:Unit=>True) (λ_=>[(0,.d (.sl 17 (c.map S4.row))),(3,lv 17 900 (PC (r::Q))),(4,.d (ci i)),(5,.lp 2064 0)]) (λ_=>(2064,.cells false (c[i].cells.map A.d))::lm 900 210 17 (PC (r::Q)) []) 5000 ?_ ?_
    ·skip
     repeat'((with_reducible refine wr ?_);(conv=>whnf))
     refine n8 (by simp only[aB];omega) kK ?_;conv=>whnf
     refine E9.mk (λh1=>?_) (λh1=>?_)
     ·have h1:c[i].w=[]:=by simpa using h1
      conv=>whnf
      repeat'(with_reducible (first|refine w9 ?_|refine nN.mk ?_))
      refine⟨(),trivial,?_⟩;exact cN.freeze [] trivial ⟨.same _,.same _,.same _,.same _,trivial⟩ ⟨⟨rfl,_,rfl,.cells (.cons (.same _) (.cons (.same _) (.cons (.same _) (.cons (.same _) (.cons (.same _) (.cons (.same _) (.cons (.same _) (.cons (.same _) (.cons (.same _) (.cons (.same _) (.cons (.same _) (.cons (.same _) (.cons (.same _) (.cons (.same _) (.cons (.same _) (.cons (.same _) (.cons (aV3 h1) (.same []))))))))))))))))))⟩,⟨rfl,_,rfl,.fW (.same _)⟩,trivial⟩ ⟨trivial,⟨nofun,trivial⟩,trivial,⟨nofun,trivial⟩,trivial⟩ ⟨trivial,aZ,trivial⟩
     ·have h1:c[i].w≠[]:=by simpa using h1
      conv=>whnf
      repeat'(with_reducible (first|refine w9 ?_|refine nN.mk ?_))
      refine⟨(),trivial,?_⟩;exact cN.freeze [2312] trivial ⟨.same _,.same _,.same _,.same _,trivial⟩ ⟨⟨rfl,_,rfl,.cells (.cons (.same _) (.cons (.same _) (.cons (.same _) (.cons (.same _) (.cons (.same _) (.cons (.same _) (.cons (.same _) (.cons (.same _) (.cons (.same _) (.cons (.same _) (.cons (.same _) (.cons (.same _) (.cons (.same _) (.cons (.same _) (.cons (.same _) (.cons (.same _) (.cons (.rd (.dU (eX rfl rfl))) (.same []))))))))))))))))))⟩,⟨rfl,_,rfl,.fW (.same _)⟩,trivial⟩ ⟨trivial,⟨nofun,trivial⟩,trivial,⟨nofun,trivial⟩,trivial⟩ ⟨trivial,aZ,trivial⟩
    ·rintro _ _
     repeat'((with_reducible refine wr ?_);(conv=>whnf))
     refine n8 (by simp only[cE,aS,aB,aQ,bE];simp only[aQ]at hql;omega) kK ?_;conv=>whnf
     refine bl ?_;refine⟨(i+1,r::(Q++[c[i]])),dM,⟨dM,by dsimp only;rw[aT hlt,<-hQ];rfl⟩,?_⟩;dsimp only[PC,List.map_cons,List.map_nil,lv,lm];refine mq 5024 900 ?_
     all_goals exact cO rfl (aS4 (r::Q) c[i])
     all_goals skip
   ·rw[aI oM]at hQ;exact⟨r::Q,hQ,cN.freeze [900] trivial ⟨.rd (.dU (eX rfl rfl)),trivial⟩ trivial ⟨trivial,trivial⟩ trivial⟩
 ·rintro Q rfl;cases Q with
  |nil=>
   refine bl ?_;exact .one (.nz _ _)
  |cons q0 Q=>
   refine bl ?_;rw[show S4.row=S4.cells from funext S4.cP];exact .one (.d _)
 termination_by c=>S4.dB c
end Go.Pv
