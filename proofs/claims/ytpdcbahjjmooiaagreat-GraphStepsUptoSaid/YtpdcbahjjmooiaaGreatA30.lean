import Derived.Test.YtpdcbahjjmooiaaGreatA29
/- A program logic over the model, contracts of the functions that the law reaches: part 30. (Names and blanks were shortened by program.) -/
set_option linter.unusedVariables false
set_option linter.unusedSimpArgs false
set_option linter.constructorNameAsVariable false
set_option linter.unusedSectionVars false
set_option linter.deprecated false
set_option maxRecDepth 100000
set_option maxHeartbeats 8000000
open Go Go.Proofs
namespace Go.Pv
open Go.RowKit
variable{w:D4}{r:Int}
def D4.pK(w:D4)(r:Int):Bool:=decide (1<=r)&&(w.mI r||decide (r<=w.last))
def D4.zE(w:D4)(u:U4):Bool:=w.HU u.side&&(aI6 u.code&&(mnB u.names&&((u.seen.all w.pK&&decide u.seen.Nodup)&&(jL u.names).all λr=>w.mI r&&decide (r∈u.seen))))
def D4.I9(w:D4)(u:U4):Int:=if w.zE u=true then 0 else 190
theorem aIG(h:r<1):w.pK r=false:=by unfold D4.pK;rw[decide_eq_false (by omega)];rfl
theorem aIH(h1:w.mI r=false)(h2:w.tell.last<r):w.pK r=false:=by
 have h2:w.last<r:=h2;unfold D4.pK;rw[h1,decide_eq_false (by omega:¬r<=w.last)];simp
theorem aII(h:1<=r)(h1:w.mI r=true):w.pK r=true:=by unfold D4.pK;rw[h1,decide_eq_true h];rfl
theorem aIJ(h:1<=r)(h2:r<=w.tell.last):w.pK r=true:=by
 have h2:r<=w.last:=h2;unfold D4.pK;rw[decide_eq_true h,decide_eq_true h2];simp
structure U4.gA(u:U4):Prop where
 side:-9223372036854775808<=u.side/\u.side<=9223372036854775807
 code:S4.dB u.code<=2^38
 jR:S4.RF u.code
 names:V.dB (u.names.map (·.value))<=2^34
 nlen:u.names.length<=2^34
 seen:u.seen.length<=2^35
structure D4.qV(w:D4):Prop extends w.gA where
 EP:w.EP
 pl:w.parents.length<=2^38
 ml:w.made.length<=2^38
 cl:w.cut.length<=2^36
 pos:∀t∈w.things,0<t.ref
theorem aA9(w:D4)(hw:w.qV)(u:U4)(hu:u.gA):∀m,aJ Tryz.prog 104 [.d (.ip w.cells),.d (.agg u.cells)] m (.ok (.d (ci (w.I9 u)))) m:=by
 have hno:∀m,w.zE u=false->A1 m (.d (ci 190)) (.d (ci (w.I9 u))):=λm h=>by unfold D4.I9;rw[h];exact oF rfl
 have hm:=hw.ml;refine iC mix Tryz.func104 ?_
 repeat'(first|refine bl ?_|refine bS (λh=>?_) (λh=>?_)|refine aF (aEY w hw.sides) (bw ?_)|refine aF (aE2 w u.side hu.side.1 hu.side.2) (bw ?_)|refine aF (aGU u.code hu.code hu.jR) (bw ?_)|refine aF (TM u.names (by have:=hu.names;omega) (by have:=hu.nlen;omega)) (bw ?_))
 ·exact hno _ (by unfold D4.zE;simp_all)
 ·exact hno _ (by unfold D4.zE;simp_all)
 ·exact hno _ (by unfold D4.zE;simp_all)
 have hck:w.zE u=((u.seen.all w.pK&&decide u.seen.Nodup)&&(jL u.names).all λr=>w.mI r&&decide (r∈u.seen)):=by unfold D4.zE;simp_all
 have hsl:=hu.seen;refine cY mix (λs:Nat×List (Int×Int)=>s.1<=u.seen.length/\s.2.map (·.1)=u.seen.take s.1/\(∀f∈s.2,f.2=1)/\(u.seen.take s.1).Nodup/\(u.seen.take s.1).all w.pK=true) (I:=λs=>[(0,.d (.ip w.cells)),(3,.lp 1 0),(5,.h 169),(33,.d (.sl 1 (iR u.seen))),(34,.d (ci u.seen.length)),(35,.d (ci s.1))])
  (J:=λs=>[(1,.cells false (u.cells.map A.d)),(169,.mp false (iZ s.2) [])]) (μ:=λs=>u.seen.length -s.1) 1000 (0,[]) 0
  (λF:List (Int×Int)=>F.map (·.1)=u.seen/\(∀f∈F,f.2=1)/\(u.seen.all w.pK&&decide u.seen.Nodup)=true) (λF=>[(0,.d (.ip w.cells)),(3,.lp 1 0),(5,.h 169)]) (λF=>[(1,.cells false (u.cells.map A.d)),(169,.mp false (iZ F) [])]) 2000 ⟨by simp,by simp,by simp,by simp,by simp⟩ (by exact mv 5000 5001) ?_ ?_
 ·rintro⟨i,F⟩ ⟨g1,g2,g3,g4,g5⟩;dsimp only at g1 g2 g3 g4 g5⊢;have hcb:∀r,0<=cR F r/\cR F r<=1:=λr=>by
   cases hh:kJ F r with
   |true=>obtain⟨f,k1,k2,k3⟩:=rT F r hh;have:=g3 f k1;omega
   |false=>rw[uC F r hh];omega
  repeat'(first|refine bl ?_|refine bS (λh=>?_) (λh=>?_)|refine cD rfl (by decide) (by assumption) (bw ?_))
  ·have hlt:i<u.seen.length:=by assumption
   have hcs:=hcb u.seen[i];have hti:=aT hlt;have hbad:w.pK u.seen[i]=false->w.zE u=false:=λe=>by
    rw[hck];have:u.seen.all w.pK=false:=by rw[iA];exact⟨_,aY hlt,by simp[e]⟩
    rw[this];simp
   have hme:u.seen[i]∈u.seen.take i->w.zE u=false:=λhm=>by
    have hn:¬u.seen.Nodup:=λhn=>by
     obtain⟨j,hj,e⟩:=dH.1 hm;rw[cW]at hj;rw[nI]at e;have:=(jB hn).1 e;omega
    rw[hck,decide_eq_false hn];simp
   generalize u.seen[i]=r at hcs hti hbad hme⊢;refine lkC (by decide) (λh=>h) ?_;conv=>whnf
   refine bl ?_;refine aBP (by decide) (λhh=>?_) (λhh=>?_)
   ·conv=>whnf
    have hr:r∈u.seen.take i:=by rw[<-g2];exact mP.1 hh
    repeat'(first|refine bl ?_|refine bS (λh=>?_) (λh=>?_)|refine aF (sB w _) (bw ?_)|refine aF (ZC w hw.togA hw.EP hw.pl hw.ml hw.cl) (bw ?_)|refine lkE (EE F r (cR F r+1)) (by decide) (λh=>h) (bw ?_))
    all_goals first
     |exact hno _ (hme hr)
     |(exfalso
       rw[PQ F r _ r hh,if_pos rfl]at h;obtain⟨f,hf,_,k3⟩:=rT F r hh
       have:=g3 f hf;omega)
   ·conv=>whnf
    have hr:r∉u.seen.take i:=λe=>by rw[<-g2]at e;rw[mP.2 e]at hh;cases hh
    repeat'(first|refine bl ?_|refine bS (λh=>?_) (λh=>?_)|refine aF (sB w _) (bw ?_)|refine aF (ZC w hw.togA hw.EP hw.pl hw.ml hw.cl) (bw ?_)|refine lkE (vP F r (cR F r+1)) (by decide) (λh=>h) (bw ?_))
    all_goals first
     |exact hno _ (hbad (aIG (by assumption)))
     |exact hno _ (hbad (aIH (by assumption) (by assumption)))
     |(exfalso
       rw[PN F r _ r hh,if_pos rfl,uC F r hh]at h
       omega)
     |(have hso:w.pK r=true:=by first|exact aII (by assumption) (by assumption)|exact aIJ (by assumption) (by assumption)
       refine⟨(i+1,F++[(r,cR F r+1)]),by dsimp only;omega,⟨by dsimp only;omega,by dsimp only;rw[bP,g2,hti];rfl,?_,?_,?_⟩,?_⟩
       · dsimp only
         intro f hf;rcases bN.1 hf with hf|hf
         · exact g3 f hf
         · rw[aR.1 hf,uC F r hh];rfl
       · dsimp only
         rw[hti];refine iS.2 ⟨g4,by simp,λx hx y hy e=>?_⟩;rw[aR.1 hy]at e;exact hr (e▸hx)
       · dsimp only
         rw[hti,gQ,g5];simp[hso]
       · have hadd:=vP F r (cR F r+1)
         (refine cN.swap 5000 5001 ?_ ?_ ?_ ?_ ?_<;>repeat'(first|exact aW|exact rfl|exact sn|exact aZ|exact wW|exact IK rfl|exact cO rfl rfl|exact aD4 rfl|exact KS rfl rfl|exact dM|(refine qD ?_;simp only[aB,bE];done)|(refine aDO ?_;(try dsimp only);omega)|refine bI ?_ ?_))
         all_goals first|exact dM|exact KS rfl hadd)
  ·rw[aI (by omega)]at g2 g4 g5;exact⟨F,⟨g2,g3,by rw[g5,decide_eq_true g4];rfl⟩,by exact mv 5000 5001⟩
 rintro F ⟨f1,f2,f3⟩;refine bl ?_;rw[f3,cA]at hck;have hnb:∀i(h:i<u.names.length),u.names[i].value.cR<=2^35:=λi h=>by
  have:=V.dG (u.names.map (·.value)) i (by simpa using h);rw[fO]at this;have:=hu.names;omega
 have hnl:=hu.nlen;have hmem:∀r,0<cR F r↔r∈u.seen:=λr=>by
  rw[<-f1];constructor
  ·intro hc;cases hh:kJ F r with
   |true=>exact mP.1 hh
   |false=>rw[uC F r hh]at hc;omega
  ·intro hm;obtain⟨f,k1,k2,k3⟩:=rT F r (mP.2 hm);have:=f2 f k1;omega
 have hcb:∀r,0<=cR F r/\cR F r<=1:=λr=>by
  cases hh:kJ F r with
  |true=>obtain⟨f,k1,k2,k3⟩:=rT F r hh;have:=f2 f k1;omega
  |false=>rw[uC F r hh];omega
 refine cY mix (λi:Nat=>i<=u.names.length/\(jL (u.names.take i)).all (λr=>w.mI r&&decide (r∈u.seen))=true) (I:=λi=>[(0,.d (.ip w.cells)),(5,.h 169),(66,.d (.sl 6 (u.names.map N4.cells))),(67,.d (ci u.names.length)),(68,.d (ci i))])
  (J:=λi=>[(169,.mp false (iZ F) [])]) (μ:=λi=>u.names.length -i) 3000 0 2
  (λ_:Unit=>(jL u.names).all (λr=>w.mI r&&decide (r∈u.seen))=true) (λF=>[]) (λF=>[]) 6000 ⟨by omega,by simp[jL]⟩ (by exact mv 5000 5001) ?_ ?_
 ·rintro i ⟨hi,h0⟩
  repeat'(first|refine bl ?_|refine bS (λh=>?_) (λh=>?_)|refine cD rfl (by decide) (by assumption) (bw ?_)|refine dR (jG u.names[i].value (by have:=hnb i (by assumption);omega)) (.cons (.agg u.names[i].value.cells) .nil) (bw ?_))
  ·have hlt:i<u.names.length:=by assumption
   have hst:jL (u.names.take (i+1))=jL (u.names.take i)++u.names[i].value.eI:=by
    unfold jL;rw[aT hlt,bP,fJ];simp
   have hsub:∀r∈u.names[i].value.eI,r∈jL u.names:=λr hr=>by
    unfold jL;exact rQ.2 ⟨_,aM.2 ⟨_,aY hlt,rfl⟩,hr⟩
   have hbad:∀r∈u.names[i].value.eI,(w.mI r&&decide (r∈u.seen))=false->w.zE u=false:=λr hr e=>by
    rw[hck,iA];exact⟨r,hsub r hr,by rw[e];simp⟩
   have hrl:=u.names[i].value.iY;have hrl2:=hnb i hlt;generalize u.names[i].value.eI=R at hst hbad hrl;refine cY mix (λj:Nat=>j<=R.length/\(R.take j).all (λr=>w.mI r&&decide (r∈u.seen))=true) (I:=λj=>[(0,.d (.ip w.cells)),(5,.h 169),(66,.d (.sl 6 (u.names.map N4.cells))),(67,.d (ci u.names.length)),(68,.d (ci i)),(74,.d (.sl 1 (iR R))),(75,.d (ci R.length)),(76,.d (ci j))])
    (J:=λj=>[(169,.mp false (iZ F) [])]) (μ:=λj=>R.length -j) 4000 0 4
    (λ_:Unit=>R.all (λr=>w.mI r&&decide (r∈u.seen))=true) (λ_=>[(0,.d (.ip w.cells)),(5,.h 169),(66,.d (.sl 6 (u.names.map N4.cells))),(67,.d (ci u.names.length)),(68,.d (ci i))]) (λ_=>[(169,.mp false (iZ F) [])]) 5000 ⟨by omega,by simp⟩ (by exact mv 5000 5001) ?_ ?_
   ·rintro j ⟨hj,hj0⟩
    repeat'(first|refine bl ?_|refine bS (λh=>?_) (λh=>?_)|refine cD rfl (by decide) (by assumption) (bw ?_)|refine aF (sB w _) (bw ?_)|refine lkC (by decide) (λh=>h) (bw ?_))
    ·have hl2:j<R.length:=by assumption
     exact hno _ (hbad _ (aY hl2) (by rw[show w.mI R[j]=false by assumption];rfl))
    ·have hl2:j<R.length:=by assumption
     have hz:cR F R[j]=0:=by assumption
     refine hno _ (hbad _ (aY hl2) ?_);rw[decide_eq_false (λhm=>by have:=(hmem _).2 hm;omega)];simp
    ·have hl2:j<R.length:=by assumption
     have hz:¬cR F R[j]=0:=by assumption
     have hc2:=hcb R[j];refine⟨j+1,by omega,⟨by omega,?_⟩,by exact mv 5000 5001⟩;rw[aT hl2,gQ,hj0,cA];simp only[List.all_cons,List.all_nil,o6];rw[show w.mI R[j]=true by assumption,decide_eq_true ((hmem _).1 (by omega))];rfl
    ·rw[aI (by omega)]at hj0;exact⟨(),hj0,by exact mv 5000 5001⟩
   rintro _ hR;refine bl ?_;refine⟨i+1,by omega,⟨by omega,by rw[hst,gQ,h0,hR];rfl⟩,by exact mv 5000 5001⟩
  ·rw[aI (by omega)]at h0;exact⟨(),h0,by exact mv 5000 5001⟩
 rintro _ hall;refine bl ?_;unfold D4.I9;rw[hck,hall];exact oF rfl
def pG(l:List U4):List Int:=(l.map λu=>jL u.names).flatten
theorem aCC{u:U4}(h:¬w.I9 u=0):w.zE u=false/\w.I9 u=190:=by
 unfold D4.I9 at*;cases hc:w.zE u<;>simp[hc]at h⊢
theorem XP{u:U4}(h:w.I9 u=0):w.zE u=true:=by
 unfold D4.I9 at*;cases hc:w.zE u<;>simp[hc]at h⊢
def D4.s8(w:D4)(l:List U4):Int:=if l.all w.zE=true then 0 else 190
theorem yG(w:D4)(hw:w.qV)(l:List U4)(hl:l.length<=2^30)(hu:∀i(h:i<l.length),l[i].gA):∀m,aJ Tryz.prog 45 [.d (.ip w.cells),.d (.sl 4 (l.map U4.cells))] m (.ok (.d (ci (w.s8 l)))) m:=by
 have hsd:=hw.sides;refine iC mix Tryz.func45 ?_
 repeat'(first|refine bl ?_|refine bS (λh=>?_) (λh=>?_)|refine aF (o4 w) (bw ?_))
 ·exfalso;simp_all
 refine bV mix (λi:Nat=>i<=l.length/\(l.take i).all w.zE=true) (I:=λi=>[(0,.d (.ip w.cells)),(15,.d (.sl 4 (l.map U4.cells))),(16,.d (ci l.length)),(17,.d (ci i))])
  (J:=λi=>[]) (μ:=λi=>l.length -i) 1000 0 ⟨by omega,by simp⟩ (by exact mv 5000 5001) ?_
 rintro i ⟨hi,h0⟩
 repeat'(first|refine bl ?_|refine bS (λh=>?_) (λh=>?_)|refine cD rfl (by decide) (by assumption) (bw ?_)|refine dR (aA9 w hw l[i] (hu i (by assumption))) (.cons (.same _) (.cons (.agg l[i].cells) .nil)) (bw ?_))
 ·have hlt:i<l.length:=by assumption
  obtain⟨c1,c2⟩:=aCC (show ¬w.I9 l[i]=0 by assumption);have e:w.s8 l=190:=by
   unfold D4.s8;rw[if_neg];intro h;rw[cV.1 h _ (aY hlt)]at c1;cases c1
  rw[e,c2];exact oF rfl
 ·have hlt:i<l.length:=by assumption
  refine⟨i+1,by omega,⟨by omega,?_⟩,by exact mv 5000 5001⟩;rw[aT hlt,gQ,h0];simp[XP (show w.I9 l[i]=0 by assumption)]
 ·rw[aI (by omega)]at h0;unfold D4.s8;rw[if_pos h0];exact oF rfl
theorem IG(u:U4):(jL u.names).length<=V.dB (u.names.map (·.value)):=by
 have h1:=qN (u.names.map (·.value));rw[bH]at h1;exact h1
theorem aAI(w:D4)(hw:w.qV)(u:U4)(hu:u.gA):∀m,aJ Tryz.prog 28 [.d (.ip w.cells),.d (.agg u.cells)] m (.ok (.eL [.d (.sl 1 (iR (if w.zE u=true then oZ (jL u.names)else []))),.d (ci (w.I9 u))])) m:=by
 have hn:=hu.names;have hnl:=hu.nlen;refine iC mix Tryz.func28 ?_;have hone:∀i(h:i<[u].length),[u][i].gA:=λi h=>match i,h with
  |0,_=>hu
 have hm:=yG w hw [u] (by simp) hone;have hme:w.s8 [u]=w.I9 u:=by unfold D4.s8 D4.I9;simp
 rw[hme]at hm
 repeat'(first|refine bl ?_|refine bS (λh=>?_) (λh=>?_)|(refine fU (cs:=[.ip w.cells,.sl 4 [u.cells]]) hm (.v _) (.cons (.d _) (.cons (.os rfl (rC.data _ [u.cells])) .nil)) ?_;(conv=>whnf))|refine aF (D0 u.names (by omega)) (bw ?_)|refine aF (GP (jL u.names) (by have:=IG u;omega)) (bw ?_))
 ·have hz:=aCC (show ¬w.I9 u=0 by assumption);rw[hz.1,if_neg gO];exact .eL (cs:=[.sl 1 [],ci _]) (.cons (.nz _ _) (.cons (.d _) .nil))
 ·have hz:w.I9 u=0:=by assumption
  rw[XP hz,if_pos rfl,hz];exact .eL (cs:=[.sl 1 _,ci 0]) (.cons (.d _) (.cons (.d _) .nil))
def D4.gN(w:D4)(l:List U4):List Int:=if l.all w.zE=true then w.v8 (pG l)else []
def D4.wF(w:D4)(l:List U4):Int:=if l.all w.zE=true then w.v7 (pG l)else 190
theorem aAK(w:D4)(hw:w.qV)(l:List U4)(hl:l.length<=2^30)(hu:∀i(h:i<l.length),l[i].gA)(hN:w.qK (pG l)<=2^36):∀m,aJ Tryz.prog 21 [.d (.ip w.cells),.d (.sl 4 (l.map U4.cells))] m (.ok (.eL [.d (.sl 1 (iR (w.gN l))),.d (ci (w.wF l))])) m:=by
 have hsum:∀i,(((l.take i).map λu=>jL u.names).flatten).length<=(pG l).length:=λi=>by
  unfold pG;have h1:(l.map λu=>jL u.names).flatten=((l.take i).map λu=>jL u.names).flatten++((l.drop i).map λu=>jL u.names).flatten:=by rw[<-fJ,<-bP,gJ]
  rw[h1,aU];omega
 have hN0:(pG l).length<=2^36:=by unfold D4.qK at hN;omega
 have hsum:∀i,(((l.take i).map λu=>jL u.names).flatten).length<=2^36:=λi=>cL (hsum i) hN0;have hnl:∀i(h:i<l.length),V.dB (l[i].names.map (·.value))+l[i].names.length<=2^35:=λi h=>by have h1:=(hu i h).names;have h2:=(hu i h).nlen;omega
 have hil:∀i(h:i<l.length),(jL l[i].names).length<=2^36:=λi h=>by
  have h1:=hsum (i+1);rw[aT h,bP,fJ]at h1;simp at h1;omega
 refine iC mix Tryz.func21 ?_
 repeat'(first|refine bl ?_|refine bS (λh=>?_) (λh=>?_)|refine aF (yG w hw l hl hu) (bw ?_))
 ·have hne:¬l.all w.zE=true:=λh=>by
   have:w.s8 l=0:=by unfold D4.s8;rw[if_pos h]
   omega
  have e1:w.gN l=[]:=by unfold D4.gN;rw[if_neg hne]
  have e2:w.wF l=190:=by unfold D4.wF;rw[if_neg hne]
  have e3:w.s8 l=190:=by unfold D4.s8;rw[if_neg hne]
  rw[e1,e2,e3];exact .eL (cs:=[.sl 1 [],ci 190]) (.cons (.nz _ _) (.cons (.d _) .nil))
 have hall:l.all w.zE=true:=by
  by_cases h:l.all w.zE=true
  ·exact h
  ·have:w.s8 l=190:=by unfold D4.s8;rw[if_neg h]
   omega
 refine cY mix (λa:Nat×List Int=>a.1<=l.length/\a.2=((l.take a.1).map λu=>jL u.names).flatten) (I:=λa=>[(0,.d (.ip w.cells)),(16,.d (.sl 4 (l.map U4.cells))),(17,.d (ci l.length)),(7,lv 1 900 (iR a.2)),(18,.d (ci a.1))])
  (J:=λa=>lm 900 25 1 (iR a.2) []) (μ:=λa=>l.length -a.1) 2000 (0,[]) 0
  (λQ:List Int=>Q=pG l) (λQ=>[(7,dl Q),(0,.d (.ip w.cells))]) (λQ=>[]) 4000 ⟨by simp,by simp⟩ (by exact mv 5000 5001) ?_ ?_
 ·rintro⟨i,Q⟩ ⟨hi,hQ⟩;dsimp only at hi hQ⊢;have hlen:Q.length<=2^36:=by
   have h1:=hsum i;rw[hQ];omega
  cases Q with
  |nil=>
   show vc _ _ _ _ _ [] _ _
   repeat'(first|refine bl ?_|refine bS (λh=>?_) (λh=>?_))
   ·refine cD rfl (by decide) h ?_;have hst:((l.take (i+1)).map λu=>jL u.names).flatten=((l.take i).map λu=>jL u.names).flatten++jL l[i].names:=by rw[aT h,bP,fJ];simp
    conv=>whnf
    repeat'(first|refine bl ?_|refine aF (D0 l[i].names (hnl i h)) (bw ?_))
    have hq:=hil i h;conv=>whnf
    skip
    refine n8 (by simp only[aB];omega) (by kernel_rfl) ?_;conv=>whnf
    refine E9.mk (λh1=>?_) (λh1=>?_)
    ·have h1:jL l[i].names=[]:=by simpa using h1
     conv=>whnf
     refine bl ?_;refine⟨(i+1,[]),by dsimp only;omega,⟨by dsimp only;omega,by dsimp only;rw[hst,h1,dS,<-hQ]⟩,?_⟩;exact mv 5000 5001
    ·have h1:jL l[i].names≠[]:=by simpa using h1
     conv=>whnf
     refine bl ?_;refine⟨(i+1,jL l[i].names),by dsimp only;omega,⟨by dsimp only;omega,by dsimp only;rw[hst,<-hQ,bZ]⟩,?_⟩;cases hrr:jL l[i].names with
     |nil=>exact absurd hrr h1
     |cons r Q=>
      dsimp only[iR,List.map_cons,lv,lm];exact mv 2072 900
      all_goals first|exact cO rfl rfl|exact cO rfl (by rw[hrr];rfl)
   ·rw[aI (by omega)]at hQ;exact⟨[],hQ,by exact mv 5000 5001⟩
  |cons r Q=>
   show vc _ _ _ _ _ [(900,dU 25 1 (iR (r::Q))),] _ _
   repeat'(first|refine bl ?_|refine bS (λh=>?_) (λh=>?_))
   ·refine cD rfl (by decide) h ?_;have hst:((l.take (i+1)).map λu=>jL u.names).flatten=((l.take i).map λu=>jL u.names).flatten++jL l[i].names:=by rw[aT h,bP,fJ];simp
    conv=>whnf
    repeat'(first|refine bl ?_|refine aF (D0 l[i].names (hnl i h)) (bw ?_))
    have hq:=hil i h;conv=>whnf
    skip
    refine n8 (by simp only[aB,bE];omega) (by kernel_rfl) ?_;conv=>whnf
    refine bl ?_;refine⟨(i+1,r::(Q++jL l[i].names)),by dsimp only;omega,⟨by dsimp only;omega,by dsimp only;rw[hst,<-hQ];rfl⟩,?_⟩;refine mq 2072 900 ?_
    all_goals exact cO rfl (gG (r::Q) (jL l[i].names))
   ·rw[aI (by omega)]at hQ;exact⟨r::Q,hQ,cN.freeze [900] trivial ⟨.rd (.dU (eX rfl rfl)),.same _,trivial⟩ trivial ⟨trivial,trivial,trivial⟩ trivial⟩
 rintro Q hQ;subst hQ;have e1:w.gN l=w.v8 (pG l):=by unfold D4.gN;rw[if_pos hall]
 have e2:w.wF l=w.v7 (pG l):=by unfold D4.wF;rw[if_pos hall]
 have hgf:=J3 w hw.togA (pG l) (by omega);rw[e1,e2];generalize w.v8 (pG l)=R1 at hgf⊢;generalize w.v7 (pG l)=R2 at hgf⊢;generalize pG l=L at hgf⊢;cases L with
 |nil=>
  repeat'(first|refine bl ?_|refine dR hgf (.cons (.same _) (.cons (.nl _ _) .nil)) (bw ?_))
  exact .eL (cs:=[.sl 1 (iR R1),ci R2]) (.cons (.d _) (.cons (.d _) .nil))
 |cons l0 L=>
  repeat'(first|refine bl ?_|refine aF hgf (bw ?_))
  exact .eL (cs:=[.sl 1 (iR R1),ci R2]) (.cons (.d _) (.cons (.d _) .nil))
theorem LY(w:D4):∀(m:Mem)(d:Nat),m d=none->aJ Tryz.prog 46 [.d (.ip w.cells)] m (.ok (.fn (.func 105) [] [.lp d 0])) (aX m d (.cells false [.d (.ip w.cells)])):=by
 refine iW mix (F:=λd=>.fn (.func 105) [] [.lp d 0]) (r:=.cells false [.d (.ip w.cells)]) Tryz.func46 rfl (by kernel_rfl) (bD rfl) rfl rfl (λ_ _=>rfl) (λi j hj=>by simpa [A.hs,A.lQ]using hj) (λg=>rfl) ?_;refine bl ?_;exact⟨_,rfl,rfl⟩
theorem X7(hg:w.gA)(i:Nat)(h:i<w.things.length):w.find w.things[i].ref=some w.things[i]:=by
 unfold D4.find;cases hf:w.things.find? λt=>decide (t.ref=w.things[i].ref)with
 |none=>
  have:=mN.1 hf w.things[i] (aY h);simp at this
 |some t=>
  have e1:=iD hf;simp only[decide_eq_true_eq]at e1;obtain⟨j,hj,e2⟩:=dH.1 (cT hf);subst e2;have hn:=hg.nodup;have:j=i:=by
   refine(jB (h₀:=by simpa using hj) (h₁:=by simpa using h) hn).1 ?_;simpa using e1
  subst this;rfl
abbrev kR(L:List Int):List (List C):=L.map λk=>[ck k]
theorem aKZ(T:List Int)(k:Nat)(h:k<T.length):(bE (kR T))[k]?=some [.d (ck T[k])]:=by
 refine gB _ _ [ck T[k]] ?_;rw[cK,aC h];rfl
theorem aBY(w:D4)(hw:w.qV)(u:U4)(S:Nat->List (Int×Int)×Bool)(lo:R)
 (hlo:∀ml':List (Nat×R),aK ml' 1≠none->aK ml' 9≠none->aK ml' 161≠none->aK ml' 177≠none->aK ml' 7100≠none->rB ml' lo.hs)
 (hren1:lo.eZ (swp 12056 900)=lo)(hren2:lo.eZ (swp 12160 901)=lo)
 (hstep:∀k(h:k<w.things.length)(o:Oper)(c:Call)(fo:Operand)(l:List (Nat×A)),o.op=.call c->c.callee=.value fo->dN (lT l) fo=.h 7000->c.args.toList.map (dN (lT l))=[.d (ci w.things[k].ref),.d (ck w.things[k].bQ.kind)]->o8 Tryz.prog o (lT l) (aK ((900,dU 25 1 (iR w.aP))::(901,dU 84 1 (kR (w.things.map (·.bQ.kind))))::(7000,lo)::(7100,.cells false [.d (.ip w.cells)])::(1,.cells false [.d (.ip w.cells)])::(9,.cells false (u.cells.map A.d))::(161,.cells false [.h 129])::(177,.cells false [.d (cb (S k).2)])::(129,.mp false (iZ (S k).1) [])::[])) [(.ok (.d (.v (.bool true))),[(177,.cells false [.d (cb (S (k+1)).2)]),(129,.mp false (iZ (S (k+1)).1) [])])]):
 aJ Tryz.prog 105 [.h 7000,.lp 7100 0] (aK ((7000,lo)::(7100,.cells false [.d (.ip w.cells)])::(1,.cells false [.d (.ip w.cells)])::(9,.cells false (u.cells.map A.d))::(161,.cells false [.h 129])::(177,.cells false [.d (cb (S 0).2)])::(129,.mp false (iZ (S 0).1) [])::[])) (.ok (.eL [])) (aH (aK ((7000,lo)::(7100,.cells false [.d (.ip w.cells)])::(1,.cells false [.d (.ip w.cells)])::(9,.cells false (u.cells.map A.d))::(161,.cells false [.h 129])::(177,.cells false [.d (cb (S 0).2)])::(129,.mp false (iZ (S 0).1) [])::[])) [(177,.cells false [.d (cb (S w.things.length).2)]),(129,.mp false (iZ (S w.things.length).1) [])]):=by
 refine wE mix 12000 Tryz.func105 (by(repeat'(first|exact aW))) ⟨trivial,dM,trivial⟩ ?_;have hgl:=hw.len;have hg:=hw.togA;have hnl:w.aP.length=w.things.length:=by unfold D4.aP;rw[aB]
 repeat'(first|refine bl ?_|refine fU (cs:=[.ip w.cells]) (vQ w) (.v _) (.cons (.d _) .nil) (bw ?_)|refine fQ (K6 w hw.len hw.EP) 12900 rfl (bw ?_))
 have hst:∀i(h:i<w.things.length),w.aP[i]'(by omega)=w.things[i].ref/\w.find w.things[i].ref=some w.things[i]/\w.things.take (i+1)=w.things.take i++[w.things[i]]:=λi h=>by
  refine⟨by simp[D4.aP],X7 hg i h,aT h⟩
 refine cY mix (λi:Nat=>i<=w.things.length) (I:=λi=>[(0,.h 7000),(1,.lp 7100 0),(3,lv 1 900 (iR ((w.things.take i).map (·.ref)))),(4,lv 1 901 (kR ((w.things.take i).map (·.bQ.kind)))),(12,.h 12900),(13,.d (ci w.things.length)),(14,.d (ci i))])
  (J:=λi=>lm 900 25 1 (iR ((w.things.take i).map (·.ref))) (lm 901 84 1 (kR ((w.things.take i).map (·.bQ.kind))) ((12900,dU 25 1 (iR w.aP))::(7000,lo)::(7100,.cells false [.d (.ip w.cells)])::(1,.cells false [.d (.ip w.cells)])::(9,.cells false (u.cells.map A.d))::(161,.cells false [.h 129])::(177,.cells false [.d (cb (S 0).2)])::(129,.mp false (iZ (S 0).1) [])::[]))) (μ:=λi=>w.things.length -i) 12000 0 0
  (λ_:Unit=>True) (λ_=>[(0,.h 7000),(3,lv 1 900 (iR w.aP)),(4,lv 1 901 (kR (w.things.map (·.bQ.kind))))]) (λ_=>lm 900 25 1 (iR w.aP) (lm 901 84 1 (kR (w.things.map (·.bQ.kind))) ((7000,lo)::(7100,.cells false [.d (.ip w.cells)])::(1,.cells false [.d (.ip w.cells)])::(9,.cells false (u.cells.map A.d))::(161,.cells false [.h 129])::(177,.cells false [.d (cb (S 0).2)])::(129,.mp false (iZ (S 0).1) [])::[]))) 13000 (by omega) (by(refine cN.sub ?_ ?_ ?_ ?_ ?_<;>repeat'(first|exact aW|exact rfl|exact sn|exact eV rfl|exact aZ|exact dM|exact hlo _ sn sn sn sn sn|(refine qD ?_;simp only[aB,bE,D4.aP];done)|refine bI ?_ ?_))) ?_ ?_
 ·intro i hi;have hlt0:(w.things.take i).length<=w.things.length:=by simp;omega
  have hst:=hst i;generalize hQ:w.things.take i=Q at hst hlt0⊢;cases Q with
  |nil=>
   show vc _ _ _ _ _ ((12900,dU 25 1 (iR w.aP))::(7000,lo)::(7100,.cells false [.d (.ip w.cells)])::(1,.cells false [.d (.ip w.cells)])::(9,.cells false (u.cells.map A.d))::(161,.cells false [.h 129])::(177,.cells false [.d (cb (S 0).2)])::(129,.mp false (iZ (S 0).1) [])::[]) _ _
   repeat'(first|refine bl ?_|refine bS (λh=>?_) (λh=>?_)|refine lG.mk i rfl (by simp only[bE,aB];omega) (bw ?_)|(refine fZ.mk _ (T9 w.aP i (by omega)) ?_;(conv=>whnf)))
   ·have hlt:i<w.things.length:=by assumption
    obtain⟨s1,s2,s3⟩:=hst hlt;refine n8 (by simp only[aB,bE,cE,aS];omega) (by kernel_rfl) ?_;conv=>whnf
    refine E9.mk (λh=>by cases h) (λh=>?_);conv=>whnf
    refine bl ?_;refine EA (by decide) (λt ht=>?_) (λht=>?_)
    ·have e:t=w.things[i]:=eY ((show w.find w.aP[i]=some t from ht).symm.trans (by rw[s1];exact s2));subst e;conv=>whnf
     skip
     refine n8 (by simp only[aB,bE,cE,aS];omega) (by kernel_rfl) ?_;conv=>whnf
     refine E9.mk (λh=>by cases h) (λh=>?_);conv=>whnf
     refine bl ?_;rw[s1];refine⟨i+1,by omega,by omega,?_⟩;rw[s3];refine cN.trans (l':=[(0,.h 7000),(1,.lp 7100 0),(3,.h 900),(4,.h 12160),(12,.h 12900),(13,.d (ci w.things.length)),(14,.d (ci (i+1:Nat)))])
      (ml':=(900,dU 25 1 (iR [w.things[i].ref]))::(12160,dU 84 1 (kR [w.things[i].bQ.kind]))::(12900,dU 25 1 (iR w.aP))::(7000,lo)::(7100,.cells false [.d (.ip w.cells)])::(1,.cells false [.d (.ip w.cells)])::(9,.cells false (u.cells.map A.d))::(161,.cells false [.h 129])::(177,.cells false [.d (cb (S 0).2)])::(129,.mp false (iZ (S 0).1) [])::[]) ?_ ?_
     ·exact mv 12056 900
      all_goals first|exact cO rfl rfl|exact cO rfl rfl|exact cO rfl rfl
     ·dsimp only[List.nil_append,List.cons_append,List.map_cons,List.map_nil,lv,lm];exact mv 12160 901
      all_goals first|exact cO rfl rfl
    ·exfalso;have:w.find w.aP[i]=none:=ht;rw[s1,s2]at this;cases this
   ·rw[aI (by omega)]at hQ;refine⟨(),trivial,?_⟩;rw[show w.aP=[] by unfold D4.aP;rw[hQ];rfl,hQ]
    (refine cN.sub ?_ ?_ ?_ ?_ ?_<;>repeat'(first|exact aW|exact rfl|exact sn|exact eV rfl|exact aZ|exact dM|exact hlo _ sn sn sn sn sn|(refine qD ?_;simp only[aB,bE,D4.aP];done)|refine bI ?_ ?_))
  |cons q0 Q=>
   show vc _ _ _ _ _ ((900,dU 25 1 (iR ((q0::Q).map (·.ref))))::(901,dU 84 1 (kR ((q0::Q).map (·.bQ.kind))))::(12900,dU 25 1 (iR w.aP))::(7000,lo)::(7100,.cells false [.d (.ip w.cells)])::(1,.cells false [.d (.ip w.cells)])::(9,.cells false (u.cells.map A.d))::(161,.cells false [.h 129])::(177,.cells false [.d (cb (S 0).2)])::(129,.mp false (iZ (S 0).1) [])::[]) _ _
   repeat'(first|refine bl ?_|refine bS (λh=>?_) (λh=>?_)|refine lG.mk i rfl (by simp only[bE,aB];omega) (bw ?_)|(refine fZ.mk _ (T9 w.aP i (by omega)) ?_;(conv=>whnf)))
   ·have hlt:i<w.things.length:=by assumption
    obtain⟨s1,s2,s3⟩:=hst hlt;simp only[aQ]at hlt0;refine n8 (by simp only[aB,bE,cE,aS,aQ];omega) (by kernel_rfl) ?_;conv=>whnf
    refine bl ?_;refine EA (by decide) (λt ht=>?_) (λht=>?_)
    ·have e:t=w.things[i]:=eY ((show w.find w.aP[i]=some t from ht).symm.trans (by rw[s1];exact s2));subst e;conv=>whnf
     skip
     refine n8 (by simp only[aB,bE,cE,aS,aQ];omega) (by kernel_rfl) ?_;conv=>whnf
     refine bl ?_;rw[s1];refine⟨i+1,by omega,by omega,?_⟩;rw[s3];refine cN.trans (l':=[(0,.h 7000),(1,.lp 7100 0),(3,.h 900),(4,.h 12160),(12,.h 12900),(13,.d (ci w.things.length)),(14,.d (ci (i+1:Nat)))])
      (ml':=(900,dU 25 1 (iR (((q0::Q)++[w.things[i]]).map (·.ref))))::(12160,dU 84 1 (kR (((q0::Q)++[w.things[i]]).map (·.bQ.kind))))::(12900,dU 25 1 (iR w.aP))::(7000,lo)::(7100,.cells false [.d (.ip w.cells)])::(1,.cells false [.d (.ip w.cells)])::(9,.cells false (u.cells.map A.d))::(161,.cells false [.h 129])::(177,.cells false [.d (cb (S 0).2)])::(129,.mp false (iZ (S 0).1) [])::[]) ?_ ?_
     ·(refine cN.swap 12056 900 ?_ ?_ ?_ ?_ ?_<;>repeat'(first|exact aW|exact rfl|exact sn|exact aZ|exact IK rfl|exact cO rfl rfl|exact KS rfl rfl|exact dM|exact aAX rfl (by assumption)|exact hlo _ sn sn sn sn sn|refine bI ?_ ?_))
      all_goals first|exact cO rfl rfl|exact cO rfl (by simp[bE])|exact cO rfl (by simp[bE])
     ·dsimp only[List.nil_append,List.cons_append,List.map_cons,List.map_nil,lv,lm];exact mv 12160 901
      all_goals first|exact cO rfl rfl
    ·exfalso;have:w.find w.aP[i]=none:=ht;rw[s1,s2]at this;cases this
   ·rw[aI (by omega)]at hQ;refine⟨(),trivial,?_⟩;rw[show w.aP=(q0::Q).map (·.ref) by unfold D4.aP;rw[hQ],hQ]
    (refine cN.sub ?_ ?_ ?_ ?_ ?_<;>repeat'(first|exact aW|exact rfl|exact sn|exact eV rfl|exact aZ|exact dM|exact hlo _ sn sn sn sn sn|(refine qD ?_;simp only[aB,bE,D4.aP];done)|refine bI ?_ ?_))
 rintro _ _;have hkl:(w.things.map (·.bQ.kind)).length=w.things.length:=by rw[aB]
 by_cases hT:w.things=[]
 ·have hr0:w.aP=[]:=by unfold D4.aP;rw[hT];rfl
  have hk0:kR (w.things.map (·.bQ.kind))=[]:=by rw[hT];rfl
  have hn0:w.things.length=0:=by rw[hT];rfl
  rw[hr0,hk0,hn0];show vc _ _ _ _ [(0,.h 7000),(3,.d (.nl 1)),(4,.d (.nl 1))] ((7000,lo)::(7100,.cells false [.d (.ip w.cells)])::(1,.cells false [.d (.ip w.cells)])::(9,.cells false (u.cells.map A.d))::(161,.cells false [.h 129])::(177,.cells false [.d (cb (S 0).2)])::(129,.mp false (iZ (S 0).1) [])::[]) _ _;refine bl ?_;refine cY mix (λi:Unit=>True) (I:=λi=>[(36,.d (ci 0)),(37,.d (ci 0))]) (J:=λi=>(7000,lo)::(7100,.cells false [.d (.ip w.cells)])::(1,.cells false [.d (.ip w.cells)])::(9,.cells false (u.cells.map A.d))::(161,.cells false [.h 129])::(177,.cells false [.d (cb (S 0).2)])::(129,.mp false (iZ (S 0).1) [])::[]) (μ:=λi=>0) 14000 () 2
   (λ_:Unit=>True) (λ_=>[]) (λ_=>(7000,lo)::(7100,.cells false [.d (.ip w.cells)])::(1,.cells false [.d (.ip w.cells)])::(9,.cells false (u.cells.map A.d))::(161,.cells false [.h 129])::(177,.cells false [.d (cb (S 0).2)])::(129,.mp false (iZ (S 0).1) [])::[]) 15000 trivial (by(refine cN.sub ?_ ?_ ?_ ?_ ?_<;>repeat'(first|exact aW|exact rfl|exact sn|exact eV rfl|exact aZ|exact dM|exact hlo _ sn sn sn sn sn|(refine qD ?_;simp only[aB,bE,D4.aP];done)|refine bI ?_ ?_))) ?_ ?_
  ·intro i hi;refine bl ?_;exact⟨(),trivial,by(refine cN.sub ?_ ?_ ?_ ?_ ?_<;>repeat'(first|exact aW|exact rfl|exact sn|exact eV rfl|exact aZ|exact dM|exact hlo _ sn sn sn sn sn|(refine qD ?_;simp only[aB,bE,D4.aP];done)|refine bI ?_ ?_))⟩
  rintro _ _;refine bl ?_;exact em
 obtain⟨q0,Q0,hcons⟩:∃q Q,w.aP=q::Q:=by
  cases h:w.aP with
  |nil=>rw[h]at hnl;exact absurd (iL.1 hnl.symm) hT
  |cons q Q=>exact⟨q,Q,rfl⟩
 obtain⟨k0,K0,kcons⟩:∃q Q,w.things.map (·.bQ.kind)=q::Q:=by
  cases h:w.things.map (·.bQ.kind)with
  |nil=>rw[h]at hkl;exact absurd (iL.1 hkl.symm) hT
  |cons q Q=>exact⟨q,Q,rfl⟩
 rw[show lv 1 900 (iR w.aP)=.h 900 by rw[hcons];rfl,show lv 1 901 (kR (w.things.map (·.bQ.kind)))=.h 901 by rw[kcons];rfl,show lm 900 25 1 (iR w.aP) (lm 901 84 1 (kR (w.things.map (·.bQ.kind))) ((7000,lo)::(7100,.cells false [.d (.ip w.cells)])::(1,.cells false [.d (.ip w.cells)])::(9,.cells false (u.cells.map A.d))::(161,.cells false [.h 129])::(177,.cells false [.d (cb (S 0).2)])::(129,.mp false (iZ (S 0).1) [])::[]))=(900,dU 25 1 (iR w.aP))::(901,dU 84 1 (kR (w.things.map (·.bQ.kind))))::(7000,lo)::(7100,.cells false [.d (.ip w.cells)])::(1,.cells false [.d (.ip w.cells)])::(9,.cells false (u.cells.map A.d))::(161,.cells false [.h 129])::(177,.cells false [.d (cb (S 0).2)])::(129,.mp false (iZ (S 0).1) [])::[] by rw[hcons,kcons];rfl];refine bl ?_;refine cY mix (λi:Nat=>i<=w.things.length) (I:=λi=>[(0,.h 7000),(4,.h 901),(35,.h 900),(36,.d (ci w.things.length)),(37,.d (ci i))])
  (J:=λi=>(900,dU 25 1 (iR w.aP))::(901,dU 84 1 (kR (w.things.map (·.bQ.kind))))::(7000,lo)::(7100,.cells false [.d (.ip w.cells)])::(1,.cells false [.d (.ip w.cells)])::(9,.cells false (u.cells.map A.d))::(161,.cells false [.h 129])::(177,.cells false [.d (cb (S i).2)])::(129,.mp false (iZ (S i).1) [])::[]) (μ:=λi=>w.things.length -i) 16000 0 2
  (λ_:Unit=>True) (λ_=>[]) (λ_=>(7000,lo)::(7100,.cells false [.d (.ip w.cells)])::(1,.cells false [.d (.ip w.cells)])::(9,.cells false (u.cells.map A.d))::(161,.cells false [.h 129])::(177,.cells false [.d (cb (S w.things.length).2)])::(129,.mp false (iZ (S w.things.length).1) [])::[]) 17000 (by omega) (by(refine cN.sub ?_ ?_ ?_ ?_ ?_<;>repeat'(first|exact aW|exact rfl|exact sn|exact eV rfl|exact aZ|exact dM|exact hlo _ sn sn sn sn sn|(refine qD ?_;simp only[aB,bE,D4.aP];done)|refine bI ?_ ?_))) ?_ ?_
 ·intro i hi
  repeat'(first|refine bl ?_|refine bS (λh=>?_) (λh=>?_)|refine lG.mk i rfl (by simp only[bE,aB];omega) (bw ?_)|(refine fZ.mk _ (T9 w.aP i (by omega)) ?_;(conv=>whnf))|(refine fZ.mk _ (aKZ (w.things.map (·.bQ.kind)) i (by omega)) ?_;(conv=>whnf)))
  ·have hlt:i<w.things.length:=by assumption
   obtain⟨s1,s2,s3⟩:=hst i hlt;refine OpK.mk _ _ (hstep i hlt _ _ _ _ rfl rfl rfl ?_) ?_
   ·show([.d (ci (w.aP[i]'(by omega))),.d (ck ((w.things.map (·.bQ.kind))[i]'(by omega)))]:List A)=_;rw[s1,fO]
   conv=>whnf
   refine bl ?_;refine⟨i+1,by omega,by omega,?_⟩
   (refine cN.sub ?_ ?_ ?_ ?_ ?_<;>repeat'(first|exact aW|exact rfl|exact sn|exact eV rfl|exact aZ|exact dM|exact hlo _ sn sn sn sn sn|(refine qD ?_;simp only[aB,bE,D4.aP];done)|refine bI ?_ ?_))
  ·obtain rfl:i=w.things.length:=by omega
   exact⟨(),trivial,by(refine cN.sub ?_ ?_ ?_ ?_ ?_<;>repeat'(first|exact aW|exact rfl|exact sn|exact eV rfl|exact aZ|exact dM|exact hlo _ sn sn sn sn sn|(refine qD ?_;simp only[aB,bE,D4.aP];done)|refine bI ?_ ?_))⟩
 rintro _ _;refine bl ?_;exact em
theorem W2(w:D4)(hw:w.qV)(u:U4)(S:Nat->List (Int×Int)×Bool){lo:R}{ml:List (Nat×R)}
 (hlo:∀ml':List (Nat×R),aK ml' 1≠none->aK ml' 9≠none->aK ml' 161≠none->aK ml' 177≠none->aK ml' 7100≠none->rB ml' lo.hs)
 (hren1:lo.eZ (swp 12056 900)=lo)(hren2:lo.eZ (swp 12160 901)=lo)
 (hstep:∀k(h:k<w.things.length)(o:Oper)(c:Call)(fo:Operand)(l:List (Nat×A)),o.op=.call c->c.callee=.value fo->dN (lT l) fo=.h 7000->c.args.toList.map (dN (lT l))=[.d (ci w.things[k].ref),.d (ck w.things[k].bQ.kind)]->o8 Tryz.prog o (lT l) (aK ((900,dU 25 1 (iR w.aP))::(901,dU 84 1 (kR (w.things.map (·.bQ.kind))))::(7000,lo)::(7100,.cells false [.d (.ip w.cells)])::(1,.cells false [.d (.ip w.cells)])::(9,.cells false (u.cells.map A.d))::(161,.cells false [.h 129])::(177,.cells false [.d (cb (S k).2)])::(129,.mp false (iZ (S k).1) [])::[])) [(.ok (.d (.v (.bool true))),[(177,.cells false [.d (cb (S (k+1)).2)]),(129,.mp false (iZ (S (k+1)).1) [])])])
 (hm:RN ((7000,lo)::ml) ((7000,lo)::(7100,.cells false [.d (.ip w.cells)])::(1,.cells false [.d (.ip w.cells)])::(9,.cells false (u.cells.map A.d))::(161,.cells false [.h 129])::(177,.cells false [.d (cb (S 0).2)])::(129,.mp false (iZ (S 0).1) [])::[])):
 aJ Tryz.prog 105 ([]++([.h 7000]++[.lp 7100 0])) (aK ((7000,lo)::ml)) (.ok (.eL [])) (aH (aK ((7000,lo)::ml)) [(177,.cells false [.d (cb (S w.things.length).2)]),(129,.mp false (iZ (S w.things.length).1) [])]):=by
 refine aJ.hP (aBY w hw u S lo hlo hren1 hren2 hstep) ⟨sn,sn,trivial⟩ hm ?_ ?_
 ·repeat'(first|exact aW|exact sn|exact dM|exact hlo _ sn sn sn sn sn|refine bI ?_ ?_)
 ·repeat'(first|exact aW|exact .inl sn|refine bI ?_ ?_)
abbrev mNr(F:List (Int×Int)):List (Nat×R):=[(161,.cells false [.h 129]),(129,.mp false (iZ F) [])]
theorem QJ(F:List (Int×Int))(L:List Int)(hL:L.length<=2^38):aJ Tryz.prog 48 [.d (.sl 1 (iR L)),.lp 161 0] (aK (mNr F)) (.ok (.d (ci (jX F L)))) (aH (aK (mNr F)) []):=by
 refine wE mix 1000 Tryz.func48 trivial trivial ?_;unfold jX
 repeat'(first|refine bl ?_|refine aF (GP L hL) (bw ?_))
 have hrl:=xH L;generalize oZ L=R at hrl⊢;refine bV mix (λi:Nat=>i<=R.length) (I:=λi=>[(1,.lp 161 0),(4,.d (ci ((R.take i).foldl (pX F) 0))),(8,.d (.sl 1 (iR R))),(9,.d (ci R.length)),(10,.d (ci i))])
  (J:=λi=>mNr F) (μ:=λi=>R.length -i) 2000 0 (by omega) (by exact mv 5000 5001) ?_
 intro i hi;generalize hb:(R.take i).foldl (pX F) 0=b
 repeat'(first|refine bl ?_|refine bS (λh=>?_) (λh=>?_)|refine cD rfl (by decide) (by assumption) (bw ?_)|refine lkC (by decide) (λh=>h) (bw ?_))
 all_goals first
  |(rw[aI (by omega)]at hb
    rw[hb]
    exact em;done)
  |(have hlt:i<R.length:=by assumption
    have e:(R.take (i+1)).foldl (pX F) 0=pX F b R[i]:=by rw[aT hlt,iB,hb];rfl
    first
     |(have e2:pX F b R[i]=R[i]:=by unfold pX;rw[if_pos ⟨by assumption,by first|exact .inl (by assumption)|exact .inr (by assumption)⟩]
       refine⟨i+1,by omega,by omega,?_⟩;rw[e,e2];exact mv 5000 5001
       done)
     |(have e2:pX F b R[i]=b:=by
        unfold pX;rw[if_neg];rintro⟨h1,h2⟩;rcases h2 with h2|h2
        · first|omega|(exact absurd h2 (by assumption))
        · omega
       refine⟨i+1,by omega,by omega,?_⟩;rw[e,e2];exact mv 5000 5001
       done))
theorem aAZ{st:Int->List Int}{T:List Int}{to:Int}{F:List (Int×Int)}(h:aJI st T to F)(h0:cR F 0=0)(a:Int)(ha:0<cR F a)(hne:a≠to):jX F (st a)=0\/(jX F (st a)≠0/\0<cR F (jX F (st a))/\cR F (jX F (st a))+1<=cR F a):=by
 have hw:=h.inv.way a ha;generalize hn:(cR F a).toNat=n at hw;cases hw with
 |here=>exact absurd rfl hne
 | @step k r q hq hw=>
   have hl1:=h.least _ _ hw;have hz:∀x∈st a,0<cR F x->x≠0:=λx _ hx=>by rintro rfl;omega
   rcases BB F (st a) hz with⟨g1,g2⟩|⟨g1,g2,g3,g4⟩
   ·exact .inl g1
   ·have:=g4 q hq hl1.1;exact .inr ⟨g1,g2,by omega⟩
end Go.Pv
