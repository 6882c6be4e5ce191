import Derived.Test.YtpdcbahjjmooiaaGreatA23
/- A program logic over the model, contracts of the functions that the law reaches: part 24. (Names and blanks were shortened by program.) -/
set_option linter.unusedVariables false
set_option linter.unusedSimpArgs false
set_option linter.constructorNameAsVariable false
set_option linter.unusedSectionVars false
set_option linter.deprecated false
set_option maxRecDepth 100000
set_option maxHeartbeats 8000000
open Go Go.Proofs
namespace Go.Pv
open Go.RowKit
def QB(out:List Int)(r:Int):List Int:=if r∈out then out else out++[r]
theorem XK(L:List Int)(r:Int):(L.any λx=>decide (x=r))=decide (r∈L):=by
 cases h:decide (r∈L)with
 |true=>
  rw[dQ];exact⟨r,of_decide_eq_true h,sM⟩
 |false=>
  have:=of_decide_eq_false h;rw[qR];intro x hx e;have:x=r:=by simpa using e
  subst this;contradiction
theorem aTH(out:List Int)(r:Int):out.length<=(QB out r).length/\(QB out r).length<=out.length+1:=by
 unfold QB;split<;>simp
def wB(out more:List Int):List Int:=more.foldl QB out
theorem aOF:∀(more out:List Int),out.length<=(wB out more).length/\(wB out more).length<=out.length+more.length
 |[],out=>⟨bT _,bT _⟩
 |r::m,out=>by
  have h1:=aTH out r;have h2:=aOF m (QB out r);unfold wB at h2⊢;rw[fX,aQ];omega
theorem aPA(more out:List Int)(k:Nat)(h:k<more.length):wB out (more.take (k+1))=QB (wB out (more.take k)) more[k]:=by
 unfold wB;rw[aT h,iB];rfl
theorem aT7{out:List Int}{r x:Int}:x∈QB out r↔x∈out\/x=r:=by
 unfold QB;split
 ·constructor
  ·exact .inl
  ·rintro(h|h)
   ·exact h
   ·subst h;assumption
 ·simp
theorem tO:∀{more out:List Int}{x:Int},x∈wB out more↔x∈out\/x∈more
 |[],out,x=>by simp[wB]
 |r::m,out,x=>by
  have:wB out (r::m)=wB (QB out r) m:=rfl;rw[this,tO,aT7,aO,or_assoc]
theorem aQ8{out:List Int}{r:Int}(h:out.Nodup):(QB out r).Nodup:=by
 unfold QB;split
 ·exact h
 ·rename_i hn;exact iS.2 ⟨h,sM,λa ha b hb e=>hn (by rw[aR.1 hb]at e;exact e▸ha)⟩
theorem zI:∀{more out:List Int},out.Nodup->(wB out more).Nodup
 |[],out,h=>h
 |r::m,out,h=>zI (more:=m) (aQ8 h)
theorem aEM:∀{a b:List Int},a.Nodup->(∀x∈a,x∈b)->a.length<=b.length
 |[],b,_,_=>Nat.zero_le _
 |x::a,b,hn,hs=>by
  rw[gR]at hn;have hb:x∈b:=hs x sM;have:=aEM (a:=a) (b:=b.erase x) hn.2 λy hy=>(List.mem_erase_of_ne (λe=>hn.1 (by rw[<-e];exact hy))).2 (hs y (by simp[hy]));rw[List.length_erase_of_mem hb]at this;have hp:0<b.length:=y4 hb;rw[aQ];omega
def R4.univ(w:R4)(l:List Int):List Int:=l++(w.things.map λt=>w.lS t.ref).flatten
theorem R4.aO0(w:R4)(l:List Int)(r x:Int)(h:x∈w.lS r):x∈w.univ l:=by
 unfold R4.univ;refine List.mem_append_right _ ?_;cases hf:w.find r with
 |none=>
  exfalso;have hb:w.mI r=false:=by unfold R4.mI;rw[hf];rfl
  unfold R4.lS R4.SV R4.LY at h;rw[hb,if_neg gO,if_pos rfl]at h;simp at h
 |some t=>
  have hm:=cT hf;have hr:t.ref=r:=by have:=iD hf;simpa using this
  exact rQ.2 ⟨w.lS r,aA4.2 ⟨t,hm,by rw[hr]⟩,h⟩
def R4.N2(w:R4):Nat->Nat->List Int->List Int
 |0,_,out=>out
 |n+1,i,out=>match out[i]? with
  |some r=>w.N2 n (i+1) (wB out (w.lS r))
  |none=>out
def R4.YB(w:R4)(l:List Int):List Int:=w.N2 (w.univ l).length 0 (wB [] l)
def R4.BB(w:R4)(l:List Int):List Int:=if l.all w.mI=true then kV (w.YB l)else []
def R4.DV(w:R4)(l:List Int):Int:=if l.all w.mI=true then 0 else 5
theorem aCU(w:R4)(hw:w.gA)(l:List Int)(hN:(w.univ l).length<=2^30):Pu 20 [.d (.ip w.cells),.d (.sl 1 (iR l))] (.eL [.d (.sl 1 (iR (w.BB l))),.d (ci (w.DV l))]):=by
 have hll:l.length<=(w.univ l).length:=by unfold R4.univ;rw[aU];omega
 have hno:∀m,¬l.all w.mI=true->A1 m (.eL [.d (.nl 1),.d (ci 5)]) (.eL [.d (.sl 1 (iR (w.BB l))),.d (ci (w.DV l))]):=λm h=>by
  unfold R4.BB R4.DV;rw[if_neg h,if_neg h];exact .eL (cs:=[.sl 1 (iR []),ci 5]) (.cons (.nz _ _) (.cons (.d _) .nil))
 refine iC mix Tryz.func20 ?_;refine bl ?_;refine cY mix (λa:Nat×List Int=>a.1<=l.length/\a.2=wB [] (l.take a.1)/\(l.take a.1).all w.mI=true) (I:=λa=>[(0,.d (.ip w.cells)),(1,.d (.sl 1 (iR l))),(6,lv 1 900 (iR a.2)),(7,.d (ci a.1))])
  (J:=λa=>lm 900 25 1 (iR a.2) []) (μ:=λa=>l.length -a.1) 1000 (0,[]) 0
  (λQ:List Int=>Q=wB [] l/\l.all w.mI=true) (λQ=>[(0,.d (.ip w.cells)),(6,lv 1 900 (iR Q))]) (λQ=>lm 900 25 1 (iR Q) []) 2000 ⟨sM,rfl,sM⟩ (by exact mZ) ?_ ?_
 ·rintro⟨i,Q⟩ ⟨hi,hQ,hall⟩;dsimp only at hi hQ hall⊢;have hQl:Q.length<=i:=by
   have:=(aOF (l.take i) []).2;rw[<-hQ]at this;simp only[cS,cW]at this;omega
  by_cases hlt:i<l.length
  ·have hst:=aPA l [] i hlt;rw[<-hQ]at hst;have has:=ZO w.mI l i hlt hall;have hbad:w.mI l[i]=false->¬l.all w.mI=true:=λe h=>by
    have:=cV.1 h _ (aY hlt);rw[e]at this;cases this
   have hin:=aEL Q l[i] oM;rw[XK]at hin;cases Q with
   |nil=>
    show vc _ _ _ _ _ [] _ _
    repeat'(first|refine bl ?_|refine bS (λh=>?_) (λh=>?_)|refine cD rfl eD hlt (bw ?_)|refine aF (zP w l[i] hw.len) (bw ?_)|refine dR hin (.cons (.nl _ _) (.cons (.same _) .nil)) (bw ?_))
    ·exact hno _ (hbad aM)
    ·refine n8 (by simp only[cE,aS];omega) kK ?_;conv=>whnf
     refine E9.mk (λhz1=>absurd hz1 sM) (λhz1=>?_);conv=>whnf
     refine bl ?_;refine⟨(i+1,[l[i]]),dM,⟨dM,by dsimp only;rw[hst];simp[QB],has aM⟩,?_⟩;dsimp only[iR,List.map_cons,List.map_nil,lv,lm];exact mv 1248 900
     all_goals exact cO rfl rfl
    ·exfalso;omega
   |cons r Q=>
    show vc _ _ _ _ _ [(900,dU 25 1 (iR (r::Q)))] _ _;cases hd:decide (l[i]∈r::Q)with
    |true=>
     rw[hd]at hin;have hst2:wB [] (l.take (i+1))=r::Q:=by rw[hst];unfold QB;rw[if_pos (of_decide_eq_true hd)]
     repeat'(first|refine bl ?_|refine bS (λh=>?_) (λh=>?_)|refine cD rfl eD hlt (bw ?_)|refine aF (zP w l[i] hw.len) (bw ?_)|refine fU (cs:=[.sl 1 (iR (r::Q)),ci l[i]]) hin (.v _) (.cons (.dU rfl) (.cons (.d _) .nil)) (bw ?_))
     ·exact hno _ (hbad aM)
     ·exact⟨(i+1,r::Q),dM,⟨dM,hst2.symm,has aM⟩,by exact mZ⟩
     ·exfalso;omega
    |false=>
     rw[hd]at hin;have hst2:wB [] (l.take (i+1))=r::(Q++[l[i]]):=by rw[hst];unfold QB;rw[if_neg (of_decide_eq_false hd)];rfl
     repeat'(first|refine bl ?_|refine bS (λh=>?_) (λh=>?_)|refine cD rfl eD hlt (bw ?_)|refine aF (zP w l[i] hw.len) (bw ?_)|refine fU (cs:=[.sl 1 (iR (r::Q)),ci l[i]]) hin (.v _) (.cons (.dU rfl) (.cons (.d _) .nil)) (bw ?_))
     ·exact hno _ (hbad aM)
     ·refine n8 (by simp only[cE,aS,aB,aQ,bE];simp only[aQ]at hQl;omega) kK ?_;conv=>whnf
      refine bl ?_;refine⟨(i+1,r::(Q++[l[i]])),dM,⟨dM,hst2.symm,has aM⟩,?_⟩;dsimp only[iR,List.map_cons,List.map_nil,lv,lm];refine mq 1248 900 ?_
      all_goals exact cO rfl (gG (r::Q) [l[i]])
     ·exfalso;omega
  ·have hi':i=l.length:=oM;subst hi';rw[gX]at hQ hall;cases Q with
   |nil=>
    show vc _ _ _ _ _ [] _ _;refine bl ?_;refine O8.f (decide_eq_false (by(try simp only[aB]);omega)) ?_;refine bl ?_;exact⟨[],⟨hQ,hall⟩,by exact mZ⟩
   |cons r Q=>
    show vc _ _ _ _ _ [(900,dU 25 1 (iR (r::Q)))] _ _;refine bl ?_;refine O8.f (decide_eq_false (by(try simp only[aB]);omega)) ?_;refine bl ?_;exact⟨r::Q,⟨hQ,hall⟩,by exact mZ⟩
 rintro Q ⟨hQ,hall⟩;have hyes:w.BB l=kV (w.YB l)/\w.DV l=0:=by
  unfold R4.BB R4.DV;rw[if_pos hall,if_pos hall];exact⟨rfl,rfl⟩
 rw[hyes.1,hyes.2];cases Q with
 |nil=>
  show vc _ _ _ _ _ [] _ _;have hfr:w.YB l=[]:=by
   unfold R4.YB;rw[<-hQ];cases(w.univ l).length with
   |zero=>rfl
   |succ n=>rfl
  rw[hfr];refine bl ?_;refine bV mix (λi:Nat=>True) (I:=λi=>[(0,.d (.ip w.cells)),(6,.d (.nl 1)),(10,.d (ci 0))])
   (J:=λi=>[]) (μ:=λi=>0) 3000 0 trivial (by exact mZ) ?_
  intro _ _
  repeat'(first|refine bl ?_|refine dR (aH2 [] sM) (.cons (.nl _ _) .nil) (bw ?_))
  exact .eL (cs:=[.sl 1 (iR _),ci 0]) (.cons (.d _) (.cons (.d _) .nil))
 |cons q0 Q0=>
  show vc _ _ _ _ _ [(900,dU 25 1 (iR (q0::Q0)))] _ _;have hnd0:(q0::Q0).Nodup:=by rw[hQ];exact zI List.nodup_nil
  have hsub0:∀x∈q0::Q0,x∈w.univ l:=λx hx=>by
   rw[hQ,tO]at hx;rcases hx with hx|hx
   ·cases hx
   ·exact List.mem_append_left _ hx
  have hfr:w.YB l=w.N2 (w.univ l).length 0 (q0::Q0):=by unfold R4.YB;rw[<-hQ]
  rw[hfr];refine bl ?_;refine cY mix (λa:Nat×List Int=>a.1<=a.2.length/\a.2≠[]/\a.2.Nodup/\(∀x∈a.2,x∈w.univ l)/\w.N2 ((w.univ l).length -a.1) a.1 a.2=w.N2 (w.univ l).length 0 (q0::Q0)) (I:=λa=>[(0,.d (.ip w.cells)),(6,.h 900),(10,.d (ci a.1))])
   (J:=λa=>[(900,dU 25 1 (iR a.2))]) (μ:=λa=>(w.univ l).length -a.1) 3000 (0,q0::Q0) 2
   (λO:List Int=>O=w.N2 (w.univ l).length 0 (q0::Q0)/\O.length<=(w.univ l).length) (λO=>[(6,.d (.sl 1 (iR O)))]) (λO=>[]) 6000 ⟨sM,sM,hnd0,hsub0,rfl⟩ (by exact mZ) ?_ ?_
  ·rintro⟨i,O⟩ ⟨hi,hne,hnd,hsub,hg⟩;dsimp only at hi hne hnd hsub hg⊢;have hOl:=aEM hnd hsub;by_cases hlt:i<O.length
   ·have hgs:w.N2 ((w.univ l).length -(i+1)) (i+1) (wB O (w.lS O[i]))=w.N2 (w.univ l).length 0 (q0::Q0):=by
     rw[<-hg,show(w.univ l).length -i=((w.univ l).length -(i+1))+1 by omega,R4.N2,aC hlt]
    have hsl:(w.lS O[i]).length<=2^29:=by
     have h1:=hw.aW4 O[i];have h2:=w.tP O[i];unfold R4.lS;rw[aU];omega
    have hsu:∀x∈w.lS O[i],x∈w.univ l:=λx hx=>w.aO0 l O[i] x hx;refine bl ?_;refine O8.t (decide_eq_true (by(try simp only[aB,bE]);omega)) ?_;refine bl ?_;refine lG.mk i rfl (by simp only[bE,aB];omega) ?_;conv=>whnf
    skip
    refine fZ.mk [.d (ci O[i])] (gB _ _ [ci O[i]] (by rw[cK,aC hlt];rfl)) ?_;conv=>whnf
    repeat'(first|refine bl ?_|refine aF (aQH w hw O[i]) (bw ?_))
    generalize w.lS O[i]=M at hgs hsl hsu⊢;refine cY mix (λa:Nat×List Int=>a.1<=M.length/\a.2=wB O (M.take a.1)) (I:=λa=>[(0,.d (.ip w.cells)),(6,.h 900),(10,.d (ci i)),(11,.d (.sl 1 (iR M))),(12,.d (ci a.1))])
     (J:=λa=>[(900,dU 25 1 (iR a.2))]) (μ:=λa=>M.length -a.1) 4000 (0,O) 4
     (λO2:List Int=>O2=wB O M) (λO2=>[(0,.d (.ip w.cells)),(6,.h 900),(10,.d (ci i))]) (λO2=>[(900,dU 25 1 (iR O2))]) 5000 ⟨sM,rfl⟩ (by exact mZ) ?_ ?_
    ·rintro⟨k,P⟩ ⟨hk,hP⟩;dsimp only at hk hP⊢;have hPn:P.Nodup:=by rw[hP];exact zI hnd
     have hPs:∀x∈P,x∈w.univ l:=λx hx=>by
      rw[hP,tO]at hx;rcases hx with hx|hx
      ·exact hsub x hx
      ·exact hsu x (dJ hx)
     have hPl:=aEM hPn hPs;by_cases hlk:k<M.length
     ·have hst:=aPA M O k hlk;rw[<-hP]at hst;have hin:=aEL P M[k] oM;rw[XK]at hin;cases hd:decide (M[k]∈P)with
      |true=>
       rw[hd]at hin;have hst2:wB O (M.take (k+1))=P:=by rw[hst];unfold QB;rw[if_pos (of_decide_eq_true hd)]
       repeat'(first|refine bl ?_|refine bS (λh=>?_) (λh=>?_)|refine cD rfl eD hlk (bw ?_)|refine fU (cs:=[.sl 1 (iR P),ci M[k]]) hin (.v _) (.cons (.dU rfl) (.cons (.d _) .nil)) (bw ?_))
       all_goals try(exfalso;omega)
       exact⟨(k+1,P),dM,⟨dM,hst2.symm⟩,by exact mZ⟩
      |false=>
       rw[hd]at hin;have hst2:wB O (M.take (k+1))=P++[M[k]]:=by rw[hst];unfold QB;rw[if_neg (of_decide_eq_false hd)]
       repeat'(first|refine bl ?_|refine bS (λh=>?_) (λh=>?_)|refine cD rfl eD hlk (bw ?_)|refine fU (cs:=[.sl 1 (iR P),ci M[k]]) hin (.v _) (.cons (.dU rfl) (.cons (.d _) .nil)) (bw ?_))
       all_goals try(exfalso;omega)
       refine n8 (by simp only[cE,aS,aB,bE];omega) kK ?_;conv=>whnf
       refine bl ?_;refine⟨(k+1,P++[M[k]]),dM,⟨dM,hst2.symm⟩,?_⟩;refine mq 4136 900 ?_
       all_goals exact cO rfl (gG P [M[k]])
     ·have hk':k=M.length:=oM;subst hk';rw[gX]at hP;refine bl ?_;refine O8.f (decide_eq_false (by(try simp only[aB]);omega)) ?_;refine bl ?_;exact⟨P,hP,by exact mZ⟩
    rintro O2 rfl;have hO2:i+1<=(wB O M).length:=by have:=(aOF M O).1;omega
    refine bl ?_;refine⟨(i+1,wB O M),dM,⟨hO2,?_,zI hnd,?_,hgs⟩,by exact mZ⟩
    ·intro e;have e':(wB O M).length=0:=by dsimp only at e;rw[e];rfl
     omega
    ·intro x hx;rcases tO.1 hx with hx|hx
     ·exact hsub x hx
     ·exact hsu x hx
   ·have hi':i=O.length:=oM;have hfin:w.N2 (w.univ l).length 0 (q0::Q0)=O:=by
     rw[<-hg];cases hn:(w.univ l).length -i with
     |zero=>rfl
     |succ n=>rw[R4.N2,c8 oM]
    refine bl ?_;refine O8.f (decide_eq_false (by(try simp only[aB,bE]);omega)) ?_;refine bl ?_;exact⟨O,⟨hfin.symm,hOl⟩,cN.freeze [900] trivial ⟨.rd (.dU (eX rfl rfl)),trivial⟩ trivial ⟨trivial,trivial⟩ trivial⟩
  rintro O ⟨hO,hOl⟩;rw[<-hO]
  repeat'(first|refine bl ?_|refine aF (aH2 O oM) (bw ?_))
  exact .eL (cs:=[.sl 1 (iR _),ci 0]) (.cons (.d _) (.cons (.d _) .nil))
theorem TW(w:R4)(hw:w.gA)(l:List U4)(hl:l.length<=2^30)(hu:∀u∈l,u.wD):Pu 15 [.d (.ip w.cells),.d (.sl 4 (l.map U4.cells))] (.d (cb (l.all w.MR))):=by
 refine iC mix Tryz.func15 ?_;refine bl ?_;refine bV mix (λi:Nat=>i<=l.length/\(l.take i).all w.MR=true) (I:=λi=>[(0,.d (.ip w.cells)),(1,.d (.sl 4 (l.map U4.cells))),(5,.d (ci i))])
  (J:=λi=>[]) (μ:=λi=>l.length -i) 1000 0 ⟨oM,sM⟩ (by exact mZ) ?_
 rintro i ⟨hi,h0⟩;by_cases hlt:i<l.length
 ·have hui:=hu _ (aY hlt)
  repeat'(first|refine bl ?_|refine bS (λh=>?_) (λh=>?_)|refine cD rfl eD hlt (bw ?_)|refine dR (aSU w hw.towt l[i] hui) (.cons (.same _) (.cons (.same _) .nil)) (bw ?_))
  ·have hf:l.all w.MR=false:=by rw[iA];exact⟨_,aY hlt,by simp[‹w.MR _=false›]⟩
   rw[hf];exact dP rfl
  ·exact⟨i+1,oM,⟨oM,ZO _ _ i hlt h0 aM⟩,by exact mZ⟩
  ·exfalso;omega
 ·rw[aI oM]at h0;rw[h0];refine bl ?_;refine O8.f (decide_eq_false (by(try simp only[aB]);omega)) ?_;refine bl ?_;exact dP rfl
def xJ(l:List U4):List Int:=(l.map λu=>kV (l9 u.names)).flatten
def R4.gN(w:R4)(l:List U4):List Int:=if l.all w.MR=true then w.BB (xJ l)else []
def R4.wF(w:R4)(l:List U4):Int:=if l.all w.MR=true then w.DV (xJ l)else 190
theorem aQF(w:R4)(hw:w.gA)(l:List U4)(hl:l.length<=2^30)(hu:∀u∈l,u.wD)(hn:∀u∈l,V.dB (u.names.map (·.value))<=2^30)(hN:(w.univ (xJ l)).length<=2^30):Pu 22 [.d (.ip w.cells),.d (.sl 4 (l.map U4.cells))] (.eL [.d (.sl 1 (iR (w.gN l))),.d (ci (w.wF l))]):=by
 have hHl:(xJ l).length<=2^30:=by unfold R4.univ at hN;rw[aU]at hN;omega
 have hsum:∀i,(((l.take i).map λu=>kV (l9 u.names)).flatten).length<=2^30:=λi=>by
  have h1:xJ l=((l.take i).map λu=>kV (l9 u.names)).flatten++((l.drop i).map λu=>kV (l9 u.names)).flatten:=by
   unfold xJ;rw[<-List.flatten_append,<-List.map_append,gJ]
  rw[h1,aU]at hHl;omega
 refine iC mix Tryz.func22 ?_
 repeat'(first|refine bl ?_|refine bS (λh=>?_) (λh=>?_)|refine aF (TW w hw l hl hu) (bw ?_))
 ·have hf:l.all w.MR=false:=by rw[iA];obtain⟨x,h1,h2⟩:=h;exact⟨x,h1,by rw[h2];decide⟩
  unfold R4.gN R4.wF;rw[hf,if_neg gO,if_neg gO];exact .eL (cs:=[.sl 1 (iR []),ci 190]) (.cons (.nz _ _) (.cons (.d _) .nil))
 have hall:l.all w.MR=true:=cV.2 h;have hyes:w.gN l=w.BB (xJ l)/\w.wF l=w.DV (xJ l):=by unfold R4.gN R4.wF;rw[if_pos hall,if_pos hall];exact⟨rfl,rfl⟩
 rw[hyes.1,hyes.2];refine cY mix (λa:Nat×List Int=>a.1<=l.length/\a.2=((l.take a.1).map λu=>kV (l9 u.names)).flatten) (I:=λa=>[(0,.d (.ip w.cells)),(1,.d (.sl 4 (l.map U4.cells))),(6,lv 1 900 (iR a.2)),(7,.d (ci a.1))])
  (J:=λa=>lm 900 25 1 (iR a.2) []) (μ:=λa=>l.length -a.1) 2000 (0,[]) 0
  (λQ:List Int=>Q=xJ l) (λQ=>[(0,.d (.ip w.cells)),(6,.d (.sl 1 (iR Q)))]) (λQ=>[]) 4000 ⟨sM,sM⟩ (by exact mZ) ?_ ?_
 ·rintro⟨i,Q⟩ ⟨hi,hQ⟩;dsimp only at hi hQ⊢;have hlen:Q.length<=2^30:=by
   have h1:=hsum i;rw[hQ];omega
  by_cases hlt:i<l.length
  ·have hst:((l.take (i+1)).map λu=>kV (l9 u.names)).flatten=((l.take i).map λu=>kV (l9 u.names)).flatten++kV (l9 l[i].names):=iU (λu:U4=>kV (l9 u.names)) l i hlt;rw[<-hQ]at hst;have hs1:=hsum (i+1);rw[hst,aU]at hs1;have hui:=hu _ (aY hlt);have hho:=aPK l[i] (hn _ (aY hlt)) hui.nlen;generalize kV (l9 l[i].names)=M at hst hs1 hho;cases Q with
   |nil=>
    show vc _ _ _ _ _ [] _ _
    repeat'(first|refine bl ?_|refine bS (λh=>?_) (λh=>?_)|refine cD rfl eD hlt (bw ?_)|refine dR hho (.cons (.same _) .nil) (bw ?_))
    all_goals try(exfalso;omega)
    refine n8 (by simp only[aB];omega) kK ?_;conv=>whnf
    refine E9.mk (λh1=>?_) (λh1=>?_)
    ·have h1:M=[]:=by simpa using h1
     subst h1;conv=>whnf
     refine bl ?_;refine⟨(i+1,[]),dM,⟨dM,by dsimp only;rw[hst];rfl⟩,?_⟩;exact mZ
    ·have h1:M≠[]:=by simpa using h1
     conv=>whnf
     refine bl ?_;refine⟨(i+1,M),dM,⟨dM,by dsimp only;rw[hst];rfl⟩,?_⟩;cases M with
     |nil=>exact absurd rfl h1
     |cons r M=>
      dsimp only[iR,List.map_cons,lv,lm];exact mv 2080 900
      all_goals exact cO rfl rfl
   |cons r Q=>
    show vc _ _ _ _ _ [(900,dU 25 1 (iR (r::Q)))] _ _
    repeat'(first|refine bl ?_|refine bS (λh=>?_) (λh=>?_)|refine cD rfl eD hlt (bw ?_)|refine dR hho (.cons (.same _) .nil) (bw ?_))
    all_goals try(exfalso;omega)
    refine n8 (by simp only[aB,bE];omega) kK ?_;conv=>whnf
    refine bl ?_;refine⟨(i+1,r::(Q++M)),dM,⟨dM,by dsimp only;rw[hst];rfl⟩,?_⟩;refine mq 2080 900 ?_
    all_goals exact cO rfl (gG (r::Q) M)
  ·have hi':i=l.length:=oM;subst hi';rw[gX]at hQ;cases Q with
   |nil=>
    show vc _ _ _ _ _ [] _ _;refine bl ?_;refine O8.f (decide_eq_false (by(try simp only[aB]);omega)) ?_;refine bl ?_;exact⟨[],hQ,cN.freeze [] trivial ⟨.same _,.rd (.nz _ _),trivial⟩ trivial ⟨trivial,trivial,trivial⟩ trivial⟩
   |cons r Q=>
    show vc _ _ _ _ _ [(900,dU 25 1 (iR (r::Q)))] _ _;refine bl ?_;refine O8.f (decide_eq_false (by(try simp only[aB]);omega)) ?_;refine bl ?_;exact⟨r::Q,hQ,cN.freeze [900] trivial ⟨.same _,.rd (.dU (eX rfl rfl)),trivial⟩ trivial ⟨trivial,trivial,trivial⟩ trivial⟩
 rintro Q rfl
 repeat'(first|refine bl ?_|refine aF (aCU w hw (xJ l) hN) (bw ?_))
 all_goals exact .eL (cs:=[.sl 1 (iR _),ci _]) (.cons (.d _) (.cons (.d _) .nil))
def R4.aO2(w:R4)(r:Int)(l:List U4):Nat->List Int
 |0=>[]
 |i+1=>w.aO2 r l i++(match l[i]? with
  |some u=>if r∈w.BB (kV (l9 u.names))then [(i:Int)]else []
  |none=>[])
theorem R4.aQW(w:R4)(r:Int)(l:List U4):∀i,(w.aO2 r l i).length<=i
 |0=>bT _
 |i+1=>by
  have:=R4.aQW w r l i;rw[R4.aO2,aU]
  have:(match l[i]? with
  |some u=>if r∈w.BB (kV (l9 u.names))then [(i:Int)]else []
  |none=>[]).length<=1:=by
   split
   ·split<;>simp
   ·simp
  omega
theorem R4.aVL(w:R4)(r:Int)(l:List U4)(i:Nat)(h:i<l.length):w.aO2 r l (i+1)=w.aO2 r l i++(if r∈w.BB (kV (l9 l[i].names))then [(i:Int)]else []):=by
 rw[R4.aO2,aC h]
def R4.aAW(w:R4)(r:Int)(l:List U4):List Int:=if l.all w.MR=true then(if w.mI r=true then w.aO2 r l l.length else [])else []
def R4.aJK(w:R4)(r:Int)(l:List U4):Int:=if l.all w.MR=true then(if w.mI r=true then 0 else 5)else 190
theorem aQG(w:R4)(hw:w.gA)(r:Int)(l:List U4)(hl:l.length<=2^30)(hu:∀u∈l,u.wD)(hn:∀u∈l,V.dB (u.names.map (·.value))<=2^30)(hN:∀u∈l,(w.univ (kV (l9 u.names))).length<=2^30)(hF:∀u∈l,(w.BB (kV (l9 u.names))).length<=2^30):Pu 24 [.d (.ip w.cells),.d (ci r),.d (.sl 4 (l.map U4.cells))] (.eL [.d (.sl 1 (iR (w.aAW r l))),.d (ci (w.aJK r l))]):=by
 refine iC mix Tryz.func24 ?_
 repeat'(first|refine bl ?_|refine bS (λh=>?_) (λh=>?_)|refine aF (TW w hw l hl hu) (bw ?_)|refine aF (zP w r hw.len) (bw ?_))
 ·have hf:l.all w.MR=false:=by rw[iA];obtain⟨x,h1,h2⟩:=h;exact⟨x,h1,by rw[h2];decide⟩
  unfold R4.aAW R4.aJK;rw[hf,if_neg gO,if_neg gO];exact .eL (cs:=[.sl 1 (iR []),ci 190]) (.cons (.nz _ _) (.cons (.d _) .nil))
 ·have hall:l.all w.MR=true:=cV.2 aM;have hb:w.mI r=false:=aM;unfold R4.aAW R4.aJK;rw[if_pos hall,if_pos hall,hb,if_neg gO,if_neg gO];exact .eL (cs:=[.sl 1 (iR []),ci 5]) (.cons (.nz _ _) (.cons (.d _) .nil))
 have hall:l.all w.MR=true:=cV.2 aM;have hb:w.mI r=true:=aM;have hyes:w.aAW r l=w.aO2 r l l.length/\w.aJK r l=0:=by
  unfold R4.aAW R4.aJK;rw[if_pos hall,if_pos hall,if_pos hb,if_pos hb];exact⟨rfl,rfl⟩
 rw[hyes.1,hyes.2];refine bV mix (λa:Nat×List Int=>a.1<=l.length/\a.2=w.aO2 r l a.1) (I:=λa=>[(0,.d (.ip w.cells)),(1,.d (ci r)),(2,.d (.sl 4 (l.map U4.cells))),(10,lv 1 900 (iR a.2)),(11,.d (ci a.1))])
  (J:=λa=>lm 900 3 1 (iR a.2) []) (μ:=λa=>l.length -a.1) 2000 (0,[]) ⟨sM,rfl⟩ (by exact mZ) ?_
 rintro⟨i,Q⟩ ⟨hi,hQ⟩;dsimp only at hi hQ⊢;have hQl:=w.aQW r l i;rw[<-hQ]at hQl;by_cases hlt:i<l.length
 ·have hst:=w.aVL r l i hlt;rw[<-hQ]at hst;have hme:=aY hlt;have hui:=hu _ hme;have hho:=aPK l[i] (hn _ hme) hui.nlen;have hfr:=aCU w hw _ (hN _ hme);have hfl:=hF _ hme;generalize w.DV (kV (l9 l[i].names))=e at hfr;generalize w.BB (kV (l9 l[i].names))=M at hst hfr hfl;have hin:=aEL M r oM;rw[XK]at hin;cases hd:decide (r∈M)with
  |true=>
   rw[hd]at hin;rw[if_pos (of_decide_eq_true hd)]at hst;cases Q with
   |nil=>
    show vc _ _ _ _ _ [] _ _
    repeat'(first|refine bl ?_|refine bS (λh=>?_) (λh=>?_)|refine cD rfl eD hlt (bw ?_)|refine dR hho (.cons (.same _) .nil) (bw ?_)|refine aF hfr (bw ?_)|refine aF hin (bw ?_))
    all_goals try(exfalso;omega)
    refine n8 (by simp only[cE,aS];omega) kK ?_;conv=>whnf
    refine E9.mk (λhz1=>absurd hz1 sM) (λhz1=>?_);conv=>whnf
    refine bl ?_;refine⟨(i+1,[(i:Int)]),dM,⟨dM,hst.symm⟩,?_⟩;dsimp only[iR,List.map_cons,List.map_nil,lv,lm];exact mv 2176 900
    all_goals exact cO rfl rfl
   |cons q0 Q=>
    show vc _ _ _ _ _ [(900,dU 3 1 (iR (q0::Q)))] _ _
    repeat'(first|refine bl ?_|refine bS (λh=>?_) (λh=>?_)|refine cD rfl eD hlt (bw ?_)|refine dR hho (.cons (.same _) .nil) (bw ?_)|refine aF hfr (bw ?_)|refine aF hin (bw ?_))
    all_goals try(exfalso;omega)
    refine n8 (by simp only[cE,aS,aB,aQ,bE];simp only[aQ]at hQl;omega) kK ?_;conv=>whnf
    refine bl ?_;refine⟨(i+1,q0::(Q++[(i:Int)])),dM,⟨dM,hst.symm⟩,?_⟩;dsimp only[iR,List.map_cons,List.map_nil,lv,lm];refine mq 2176 900 ?_
    all_goals exact cO rfl (gG (q0::Q) [(i:Int)])
  |false=>
   rw[hd]at hin;rw[if_neg (of_decide_eq_false hd),dS]at hst;cases Q with
   |nil=>
    show vc _ _ _ _ _ [] _ _
    repeat'(first|refine bl ?_|refine bS (λh=>?_) (λh=>?_)|refine cD rfl eD hlt (bw ?_)|refine dR hho (.cons (.same _) .nil) (bw ?_)|refine aF hfr (bw ?_)|refine aF hin (bw ?_))
    all_goals try(exfalso;omega)
    exact⟨(i+1,[]),dM,⟨dM,hst.symm⟩,by exact mZ⟩
   |cons q0 Q=>
    show vc _ _ _ _ _ [(900,dU 3 1 (iR (q0::Q)))] _ _
    repeat'(first|refine bl ?_|refine bS (λh=>?_) (λh=>?_)|refine cD rfl eD hlt (bw ?_)|refine dR hho (.cons (.same _) .nil) (bw ?_)|refine aF hfr (bw ?_)|refine aF hin (bw ?_))
    all_goals try(exfalso;omega)
    exact⟨(i+1,q0::Q),dM,⟨dM,hst.symm⟩,by exact mZ⟩
 ·have hi':i=l.length:=oM;subst hi';rw[<-hQ];cases Q with
  |nil=>
   show vc _ _ _ _ _ [] _ _;refine bl ?_;refine O8.f (decide_eq_false (by(try simp only[aB]);omega)) ?_;refine bl ?_;exact .eL (cs:=[.sl 1 (iR []),ci 0]) (.cons (.nz _ _) (.cons (.d _) .nil))
  |cons q0 Q=>
   show vc _ _ _ _ _ [(900,dU 3 1 (iR (q0::Q)))] _ _;refine bl ?_;refine O8.f (decide_eq_false (by(try simp only[aB]);omega)) ?_;refine bl ?_;exact .eL (cs:=[.sl 1 (iR (q0::Q)),ci 0]) (.cons (.dU (t:=3) rfl) (.cons (.d _) .nil))
theorem V.aKZ:∀l:List V,0<=V.kE l
 |[]=>by simp[V.kE]
 |v::r=>by have:=V.aKZ r;simp only[V.kE];omega
theorem V.aTQ(v:V):0<=v.deep:=by
 cases v with
 |mk k n s l r=>have:=V.aKZ l;simp only[V.deep];split<;>omega
theorem V.aOJ(k n:Int)(s:ByteArray)(l:List V)(r:Int):V.field (.mk k n s l r)=(if k=0 then decide (n=0/\s.size=0/\l.length=0/\r=0)
 else if k=1 then decide (s.size=0/\l.length=0/\r=0)
 else if k=2 then decide (n=0/\(s.size:Int)<=256/\l.length=0/\r=0)
 else if k=3 then decide (n=0/\s.size=0/\r=0)
 else if k=4 then decide (n=0/\s.size=0/\l.length=0/\1<=r)
 else false):=rfl
mutual
theorem V.aQT:∀(v:V)(p d p' d':Int),0<=p->0<=d->mQ v p d=(true,p',d')->p'=p -v.cR/\0<=p'/\d'=d/\v.deep<=d/\v.u7=true
 |.mk k n s l r,p,d,p',d',hp,hd,h=>by
  have ih:=V.aPN l (p -1) (d -1);rw[mQ]at h;by_cases h0:p=0
  ·rw[if_pos h0]at h;simp at h
  rw[if_neg h0]at h;by_cases k0:k=0
  ·rw[if_pos k0]at h;simp only[aD,decide_eq_true_eq]at h;obtain⟨⟨a1,a2,a3,a4⟩,e1,e2⟩:=h;have:=bL a4;subst this;subst k0;simp[V.cR,V.dB,V.deep,V.kE,V.u7,V.y8,V.field,V.kind,V.n,V.s,V.l,V.r,a1,a2,a3];omega
  rw[if_neg k0]at h;by_cases k1:k=1
  ·rw[if_pos k1]at h;simp only[aD,decide_eq_true_eq]at h;obtain⟨⟨a2,a3,a4⟩,e1,e2⟩:=h;have:=bL a4;subst this;subst k1;simp[V.cR,V.dB,V.deep,V.kE,V.u7,V.y8,V.field,V.kind,V.n,V.s,V.l,V.r,a2,a3];omega
  rw[if_neg k1]at h;by_cases k2:k=2
  ·rw[if_pos k2]at h;by_cases hs:256<(s.size:Int)
   ·rw[if_pos hs]at h;simp at h
   rw[if_neg hs]at h;simp only[aD,decide_eq_true_eq]at h;obtain⟨⟨a2,a3,a4⟩,e1,e2⟩:=h;have:=bL a4;subst this;subst k2;simp[V.cR,V.dB,V.deep,V.kE,V.u7,V.y8,V.field,V.kind,V.n,V.s,V.l,V.r,a2,a3];omega
  rw[if_neg k2]at h;by_cases k4:k=4
  ·rw[if_pos k4]at h;by_cases hs:r<1
   ·rw[if_pos hs]at h;simp at h
   rw[if_neg hs]at h;simp only[aD,decide_eq_true_eq]at h;obtain⟨⟨a2,a3,a4⟩,e1,e2⟩:=h;have:=bL a4;subst this;subst k4;simp[V.cR,V.dB,V.deep,V.kE,V.u7,V.y8,V.field,V.kind,V.n,V.s,V.l,V.r,a2,a3];omega
  rw[if_neg k4]at h;by_cases k3:k=3
  ·rw[if_pos k3]at h;by_cases hs:d=0\/p -1<(l.length:Int)
   ·rw[if_pos hs]at h;simp at h
   rw[if_neg hs]at h;generalize nG l (p -1) (d -1)=q at ih h;obtain⟨b,p2,d2⟩:=q;cases b with
   |false=>simp at h
   |true=>
    simp only[aD,decide_eq_true_eq]at h;obtain⟨⟨a2,a3,a4⟩,e1,e2⟩:=h;obtain⟨b1,b2,b3,b4,b5⟩:=ih p2 d2 oM oM rfl;subst k3;simp[V.cR,V.deep,V.u7,V.field,V.kind,V.n,V.s,V.l,V.r,a2,a3,a4,b5];omega
  rw[if_neg k3]at h;simp at h
theorem V.aPN:∀(l:List V)(p d p' d':Int),0<=p->0<=d->nG l p d=(true,p',d')->p'=p -V.dB l/\0<=p'/\d'=d/\V.kE l<=d/\V.y8 l=true
 |[],p,d,p',d',hp,hd,h=>by
  simp only[nG,aD,true_and]at h;simp[V.dB,V.kE,V.y8];omega
 |v::r,p,d,p',d',hp,hd,h=>by
  have h1:=V.aQT v p d;have h2:=V.aPN r;rw[nG]at h;generalize mQ v p d=q at h1 h;obtain⟨b,p2,d2⟩:=q;cases b with
  |false=>simp at h
  |true=>
   obtain⟨b1,b2,b3,b4,b5⟩:=h1 p2 d2 hp hd rfl;subst b3;obtain⟨c1,c2,c3,c4,c5⟩:=h2 p2 d2 p' d' b2 hd h;simp[V.dB,V.kE,V.y8,b5,c5];omega
end
mutual
theorem V.aQS:∀(v:V)(p d:Int),(v.cR:Int)<=p->v.deep<=d->0<=d->v.u7=true->mQ v p d=(true,p -v.cR,d)
 |.mk k n s l r,p,d,hp,hd,hd0,hf=>by
  have ih:=V.aPM l (p -1) (d -1);have hln:=V.eW l;have hdl:=V.aKZ l;simp only[V.cR]at hp;simp only[V.u7,aE]at hf;obtain⟨hfl,hf⟩:=hf;rw[V.aOJ]at hf;rw[mQ,if_neg oM];by_cases k0:k=0
  ·rw[if_pos k0]at hf⊢;simp only[decide_eq_true_eq]at hf;obtain⟨a1,a2,a3,a4⟩:=hf;have:=bL (l:=l) oM;subst this;simp[V.cR,V.dB,a1,a2,a4]
  rw[if_neg k0]at hf⊢;by_cases k1:k=1
  ·rw[if_pos k1]at hf⊢;simp only[decide_eq_true_eq]at hf;obtain⟨a1,a2,a3⟩:=hf;have:=bL (l:=l) oM;subst this;simp[V.cR,V.dB,a1,a2,a3]
  rw[if_neg k1]at hf⊢;by_cases k2:k=2
  ·rw[if_pos k2]at hf⊢;simp only[decide_eq_true_eq]at hf;obtain⟨a1,a2,a3,a4⟩:=hf;have:=bL (l:=l) oM;subst this;rw[if_neg oM];simp[V.cR,V.dB,a1,a4]
  rw[if_neg k2]at hf⊢;by_cases k3:k=3
  ·have hd2:V.kE l+1<=d:=by simpa [V.deep,k3]using hd
   rw[if_pos k3]at hf;simp only[decide_eq_true_eq]at hf;obtain⟨a1,a2,a3⟩:=hf;rw[if_neg oM,if_pos k3,if_neg oM,ih oM oM oM hfl];simp[V.cR,a1,a2,a3];omega
  rw[if_neg k3]at hf;by_cases k4:k=4
  ·rw[if_pos k4]at hf⊢;simp only[decide_eq_true_eq]at hf;obtain⟨a1,a2,a3,a4⟩:=hf;have:=bL (l:=l) oM;subst this;rw[if_neg oM];simp[V.cR,V.dB,a1,a2]
  rw[if_neg k4]at hf;cases hf
theorem V.aPM:∀(l:List V)(p d:Int),(V.dB l:Int)<=p->V.kE l<=d->0<=d->V.y8 l=true->nG l p d=(true,p -V.dB l,d)
 |[],p,d,hp,hd,hd0,hf=>by simp[nG,V.dB]
 |v::r,p,d,hp,hd,hd0,hf=>by
  simp only[V.y8,aE]at hf;simp only[V.dB,V.kE]at hp hd;rw[nG,V.aQS v p d oM oM hd0 hf.1];simp only;rw[V.aPM r (p -v.cR) d oM oM hd0 hf.2];simp[V.dB];omega
end
mutual
theorem V.aAE:∀(v:V)(d:Int),v.GI d<=512->v.GI d=v.cR
 |.mk k n s l r,d,h=>by
  simp only[V.GI]at h⊢;split at h
  ·omega
  ·rename_i hd;rw[if_neg hd,V.TC l (d+1) 1 oM h];simp[V.cR]
theorem V.TC:∀(l:List V)(d n:Int),0<=n->V.pH l d n<=512->V.pH l d n=n+V.dB l
 |[],d,n,hn,h=>by simp[V.pH,V.dB]
 |v::r,d,n,hn,h=>by
  have h1:=V.aAE v d;have h2:=V.TC r d (n+V.GI v d);have h3:=(V.K5 v d).1;simp only[V.pH]at h⊢;by_cases h0:n<=512
  ·rw[if_pos h0]at h⊢;by_cases h4:n+V.GI v d<=512
   ·rw[h2 oM h,h1 oM];simp[V.dB];omega
   ·rw[V.K4 r d _ oM]at h;omega
  ·rw[if_neg h0]at h;omega
end
mutual
theorem V.aFL:∀(v:V)(d:Int),(v.cR:Int)<=512->v.deep+d<=16->v.u7=true->v.GI d=v.cR
 |.mk k n s l r,d,hc,hd,hf=>by
  simp only[V.u7,aE]at hf;have hdp:=V.aTQ (.mk k n s l r);simp only[V.GI];rw[if_neg oM];cases l with
  |nil=>simp[V.pH,V.cR,V.dB]
  |cons v r'=>
   have k3:k=3:=by
    have hf:=hf.2;rw[V.aOJ]at hf;simp only[aQ]at hf;by_cases k3:k=3
    ·exact k3
    ·exfalso;rw[if_neg k3]at hf;by_cases k0:k=0
     ·rw[if_pos k0]at hf;simp at hf
     rw[if_neg k0]at hf;by_cases k1:k=1
     ·rw[if_pos k1]at hf;simp at hf
     rw[if_neg k1]at hf;by_cases k2:k=2
     ·rw[if_pos k2]at hf;simp at hf
     rw[if_neg k2]at hf;by_cases k4:k=4
     ·rw[if_pos k4]at hf;simp at hf
     rw[if_neg k4]at hf;cases hf
   simp only[V.deep]at hd;rw[if_pos k3]at hd;simp only[V.cR]at hc⊢;rw[V.S9 (v::r') (d+1) 1 oM oM oM hf.1];simp
theorem V.S9:∀(l:List V)(d n:Int),0<=n->n+V.dB l<=512->V.kE l+d<=16->V.y8 l=true->V.pH l d n=n+V.dB l
 |[],d,n,hn,hc,hd,hf=>by simp[V.pH,V.dB]
 |v::r,d,n,hn,hc,hd,hf=>by
  simp only[V.y8,aE]at hf;simp only[V.dB,V.kE]at hc hd;simp only[V.pH];rw[if_pos oM,V.aFL v d oM oM hf.1,V.S9 r d _ oM oM oM hf.2];simp[V.dB];omega
end
theorem V.aOC(v:V):v.nI=true↔(v.cR:Int)<=512/\v.deep<=16/\v.u7=true:=by
 unfold V.nI;simp only[aE,decide_eq_true_eq];constructor
 ·rintro⟨h1,h2,h3⟩;have:=V.aAE v 0 h1;exact⟨oM,h2,h3⟩
 ·rintro⟨h1,h2,h3⟩;have:=V.aFL v 0 h1 oM h3;exact⟨oM,h2,h3⟩
theorem V.aU6(v:V):v.may=true↔(v.cR:Int)<=512/\v.deep<=16/\v.u7=true:=by
 unfold V.may V.aHT;rw[decide_eq_true_eq];have hp:=v.PO;constructor
 ·intro h;cases hq:mQ v 512 16 with
  |mk b q=>
   obtain⟨p,d⟩:=q;rw[hq]at h;cases b with
   |false=>simp at h
   |true=>
    obtain⟨a,b,c,d1,e⟩:=V.aQT v 512 16 p d oM oM hq;exact⟨oM,d1,e⟩
 ·rintro⟨h1,h2,h3⟩;rw[V.aQS v 512 16 h1 h2 oM h3];simp only;omega
theorem V.QI(v:V):v.may=v.nI:=by rw[jT,v.aU6,v.aOC]
mutual
theorem E4.aAE:∀(v:E4)(d:Int),v.GI d<=512->v.GI d=v.cR
 |.mk k n s l,d,h=>by
  simp only[E4.GI]at h⊢;split at h
  ·omega
  ·rename_i hd;rw[if_neg hd,E4.TC l (d+1) 1 oM h];simp[E4.cR]
theorem E4.TC:∀(l:List E4)(d n:Int),0<=n->E4.pH l d n<=512->E4.pH l d n=n+E4.dB l
 |[],d,n,hn,h=>by simp[E4.pH,E4.dB]
 |v::r,d,n,hn,h=>by
  have h1:=E4.aAE v d;have h2:=E4.TC r d (n+E4.GI v d);have h3:=(E4.K5 v d).1;simp only[E4.pH]at h⊢;by_cases h0:n<=512
  ·rw[if_pos h0]at h⊢;by_cases h4:n+E4.GI v d<=512
   ·rw[h2 oM h,h1 oM];simp[E4.dB];omega
   ·rw[E4.K4 r d _ oM]at h;omega
  ·rw[if_neg h0]at h;omega
end
theorem E4.aL1(k n:Int)(s:ByteArray)(l:List E4):E4.S3 (.mk k n s l)=(if k=1 then decide (s.size=0)&&decide (l.length=0)
 else if k=2 then decide (n=0)&&(decide (s.size<=256)&&decide (l.length=0))
 else if k=3 then decide (n=0)&&decide (s.size=0)
 else if k=4 then decide (n=0)&&(hZ s&&decide (l.length=0))
 else false):=Eq.refl _
theorem E4.aUG{k n:Int}{s:ByteArray}{v:E4}{l:List E4}(h:E4.S3 (.mk k n s (v::l))=true):k=3:=by
 rw[E4.aL1]at h;simp only[aQ]at h;by_cases k3:k=3
 ·exact k3
 exfalso;rw[if_neg k3]at h;by_cases k1:k=1
 ·rw[if_pos k1]at h;simp at h
 rw[if_neg k1]at h;by_cases k2:k=2
 ·rw[if_pos k2]at h;simp at h
 rw[if_neg k2]at h;by_cases k4:k=4
 ·rw[if_pos k4]at h;simp at h
 rw[if_neg k4]at h;cases h
mutual
theorem E4.aFL:∀(v:E4)(d:Int),(v.cR:Int)<=512->v.GK+d<=16->v.rfl=true->v.GI d=v.cR
 |.mk k n s l,d,hc,hd,hf=>by
  rw[E4.rfl,aE]at hf;have hdp:=(E4.aUE (.mk k n s l)).1;simp only[E4.GI];rw[if_neg oM];cases l with
  |nil=>simp[E4.pH,E4.cR,E4.dB]
  |cons v r'=>
   have k3:k=3:=E4.aUG hf.2;simp only[E4.GK]at hd;rw[if_neg oM]at hd;simp only[E4.cR]at hc⊢;rw[E4.S9 (v::r') (d+1) 1 oM oM oM hf.1];simp
theorem E4.S9:∀(l:List E4)(d n:Int),0<=n->n+E4.dB l<=512->E4.GW l+d<=16->E4.aAS l=true->E4.pH l d n=n+E4.dB l
 |[],d,n,hn,hc,hd,hf=>by simp[E4.pH,E4.dB]
 |v::r,d,n,hn,hc,hd,hf=>by
  simp only[E4.aAS,aE]at hf;simp only[E4.dB,E4.GW]at hc hd;simp only[E4.pH];rw[if_pos oM,E4.aFL v d oM oM hf.1,E4.S9 r d _ oM oM oM hf.2];simp[E4.dB];omega
end
mutual
theorem E4.aT6:∀(v:E4)(p d p':Int),0<=d->v.me p d=(true,p')->p'=p -v.cR/\0<=p'/\v.GK<=d/\v.rfl=true
 |.mk k n s l,p,d,p',hd,h=>by
  have ih:=E4.aRY l (p -1) (d -1);rw[E4.me]at h;by_cases h0:p -1<0\/(k≠1/\n≠0)\/(k≠3/\l.length≠0)\/(k≠2/\k≠4/\s.size≠0)
  ·rw[if_pos h0]at h;simp at h
  rw[if_neg h0]at h
  have hl:k≠3->l=[]:=λhk=>bL (by
   by_cases e:l.length=0
   · exact e
   · exact absurd (.inr (.inr (.inl ⟨hk,e⟩))) h0)
  have hn:k≠1->n=0:=λhk=>by
   by_cases e:n=0
   ·exact e
   ·exact absurd (.inr (.inl ⟨hk,e⟩)) h0
  have hs:k≠2->k≠4->s.size=0:=λhk hk2=>by
   by_cases e:s.size=0
   ·exact e
   ·exact absurd (.inr (.inr (.inr ⟨hk,hk2,e⟩))) h0
  have hp0:¬p -1<0:=λe=>absurd (.inl e) h0;by_cases k1:k=1
  ·rw[if_pos k1]at h;simp only[aD,true_and]at h;have:=hl oM;subst this;subst k1;have:=hs oM oM;simp[E4.cR,E4.dB,E4.GK,E4.rfl,E4.aAS,E4.aL1,this];omega
  rw[if_neg k1]at h;have hn:=hn k1;subst hn;by_cases k2:k=2
  ·rw[if_pos k2]at h;simp only[aD,decide_eq_true_eq]at h;have:=hl oM;subst this;subst k2;simp[E4.cR,E4.dB,E4.GK,E4.rfl,E4.aAS,E4.aL1,h.1];omega
  rw[if_neg k2]at h;by_cases k4:k=4
  ·rw[if_pos k4]at h;simp only[aD]at h;have:=hl oM;subst this;subst k4;simp[E4.cR,E4.dB,E4.GK,E4.rfl,E4.aAS,E4.aL1,h.1];omega
  rw[if_neg k4]at h;have hs:=hs k2 k4;by_cases k3:k=3/\0<d
  ·rw[if_pos k3]at h;obtain⟨b1,b2,b3,b4⟩:=ih p' oM oM h;obtain⟨k3,hd2⟩:=k3;subst k3;simp[E4.cR,E4.GK,E4.rfl,E4.aL1,b4,hs];omega
  rw[if_neg k3]at h;simp at h
theorem E4.aRY:∀(l:List E4)(p d p':Int),0<=p->0<=d->E4.A9 l p d=(true,p')->p'=p -E4.dB l/\0<=p'/\E4.GW l<=d/\E4.aAS l=true
 |[],p,d,p',hp,hd,h=>by
  simp only[E4.A9,aD,true_and]at h;simp[E4.dB,E4.GW,E4.aAS];omega
 |v::r,p,d,p',hp,hd,h=>by
  have h1:=E4.aT6 v p d;have h2:=E4.aRY r;rw[E4.A9]at h;generalize E4.me v p d=q at h1 h;obtain⟨b,p2⟩:=q;cases b with
  |false=>simp at h
  |true=>
   obtain⟨b1,b2,b4,b5⟩:=h1 p2 hd (Eq.refl _);obtain⟨c1,c2,c4,c5⟩:=h2 p2 d p' b2 hd h;simp[E4.dB,E4.GW,E4.aAS,b5,c5];omega
end
mutual
theorem E4.aT5:∀(v:E4)(p d:Int),(v.cR:Int)<=p->v.GK<=d->v.rfl=true->v.me p d=(true,p -v.cR)
 |.mk k n s l,p,d,hp,hd,hf=>by
  have ih:=E4.aRX l (p -1) (d -1);have hdl:=(E4.aOD l).1;simp only[E4.cR]at hp;rw[E4.rfl,aE]at hf;obtain⟨hfl,hf⟩:=hf;rw[E4.aL1]at hf;rw[E4.me];by_cases k1:k=1
  ·rw[if_pos k1]at hf;simp only[aE,decide_eq_true_eq]at hf;have:=bL hf.2;subst this;subst k1;rw[if_neg (by simp[hf.1];omega),if_pos (Eq.refl _)];simp[E4.cR,E4.dB]
  rw[if_neg k1]at hf;by_cases k2:k=2
  ·rw[if_pos k2]at hf;simp only[aE,decide_eq_true_eq]at hf;have:=bL hf.2.2;subst this;subst k2;rw[if_neg (by simp[hf.1];omega),if_neg oM,if_pos (Eq.refl _)];simp[E4.cR,E4.dB,hf.2.1]
  rw[if_neg k2]at hf;by_cases k3:k=3
  ·rw[if_pos k3]at hf;simp only[aE,decide_eq_true_eq]at hf;subst k3;have hd2:E4.GW l+1<=d:=by simpa [E4.GK]using hd
   rw[if_neg (by simp[hf.1,hf.2];omega),if_neg oM,if_neg oM,if_neg oM,if_pos ⟨(Eq.refl _),oM⟩,ih oM oM hfl];simp[E4.cR];omega
  rw[if_neg k3]at hf;by_cases k4:k=4
  ·rw[if_pos k4]at hf;simp only[aE,decide_eq_true_eq]at hf;have:=bL hf.2.2;subst this;subst k4;rw[if_neg (by simp[hf.1];omega),if_neg oM,if_neg oM,if_pos (Eq.refl _)];simp[E4.cR,E4.dB,hf.2.1]
  rw[if_neg k4]at hf;cases hf
theorem E4.aRX:∀(l:List E4)(p d:Int),(E4.dB l:Int)<=p->E4.GW l<=d->E4.aAS l=true->E4.A9 l p d=(true,p -E4.dB l)
 |[],p,d,hp,hd,hf=>by simp[E4.A9,E4.dB]
 |v::r,p,d,hp,hd,hf=>by
  simp only[E4.aAS,aE]at hf;simp only[E4.dB,E4.GW]at hp hd;rw[E4.A9,E4.aT5 v p d oM oM hf.1];simp only;rw[E4.aRX r (p -v.cR) d oM oM hf.2];simp[E4.dB];omega
end
mutual
theorem E4.aRV:∀(v:E4)(n d:Int),n+v.cR<=512->v.deep<=d->0<=d->v.lit n d=(true,n+v.cR)
 |.mk k n s l,m,d,hc,hd,hd0=>by
  have hdl:=(E4.uD l).1;simp only[E4.cR]at hc⊢;rw[E4.lit,if_neg oM];simp only[E4.deep]at hd;by_cases h0:k≠3/\l.length=0
  ·rw[if_pos h0];have:=bL h0.2;subst this;simp[E4.dB]
  ·rw[if_neg h0]at hd⊢;rw[if_neg oM,E4.aP8 l (m+1) (d -1) oM oM oM];simp;omega
theorem E4.aP8:∀(l:List E4)(n d:Int),n+E4.dB l<=512->E4.kE l<=d->0<=d->E4.oC l n d=(true,n+E4.dB l)
 |[],n,d,hc,hd,hd0=>by simp[E4.oC,E4.dB]
 |v::r,n,d,hc,hd,hd0=>by
  simp only[E4.dB,E4.kE]at hc hd;rw[E4.oC,E4.aRV v n d oM oM hd0];simp only;rw[E4.aP8 r (n+v.cR) d oM oM hd0];simp[E4.dB];omega
end
theorem E4.aP9(v:E4)(h:v.fits=true):(v.lit 0 16).1=true:=by
 unfold E4.fits at h;simp only[aE,decide_eq_true_eq]at h;have:=E4.aAE v 0 h.1;rw[E4.aRV v 0 16 oM h.2 oM]
theorem E4.aQN(v:E4):v.aQM=true↔(v.cR:Int)<=512/\v.GK<=16/\v.rfl=true:=by
 unfold E4.aQM;simp only[aE,decide_eq_true_eq];constructor
 ·rintro⟨h1,h2,h3⟩;have:=E4.aAE v 0 h1;exact⟨oM,h2,h3⟩
 ·rintro⟨h1,h2,h3⟩;have:=E4.aFL v 0 h1 oM h3;exact⟨oM,h2,h3⟩
theorem E4.aT3(v:E4):v.MR=true↔(v.cR:Int)<=512/\v.GK<=16/\v.rfl=true:=by
 unfold E4.MR;constructor
 ·intro h;cases hq:v.me 512 16 with
  |mk b p=>
   rw[hq]at h;simp only at h;subst h;obtain⟨a,b,c,e⟩:=E4.aT6 v 512 16 p oM hq;exact⟨oM,c,e⟩
 ·rintro⟨h1,h2,h3⟩;rw[E4.aT5 v 512 16 h1 h2 h3]
theorem E4.aPE(v:E4):v.MR=v.aQM:=by rw[jT,v.aT3,v.aQN]
mutual
def S4.flat:S4->List S4
 |.mk op n1 n2 ab wh a b t e c w=>.mk op n1 n2 ab wh a b t e c w::(S4.l7 t++(S4.l7 e++S4.l7 c))
def S4.l7:List S4->List S4
 |[]=>[]
 |v::r=>S4.flat v++S4.l7 r
end
mutual
theorem S4.aUP:∀(v:S4)(n:Int),0<=n->v.step n<=512->v.step n=n+v.flat.length
 |.mk op n1 n2 ab wh a b t e c w,n,hn,h=>by
  have h1:=S4.OF t 0 oM;have h2:=S4.OF e 0 oM;have h3:=S4.OF c 0 oM;have b1:=(S4.uU t 0 oM).1;have b2:=(S4.uU e 0 oM).1;have b3:=(S4.uU c 0 oM).1;simp only[S4.step,S4.flat,aQ,aU]at h⊢;generalize S4.nF t 0=x1 at*;generalize S4.nF e 0=x2 at*;generalize S4.nF c 0=x3 at*;have e1:n+1+x1<=512:=by
   by_cases e:n+1+x1<=512
   ·exact e
   ·rw[if_neg e,if_neg e]at h;omega
  rw[if_pos e1]at h⊢;have e2:n+1+x1+x2<=512:=by
   by_cases e:n+1+x1+x2<=512
   ·exact e
   ·rw[if_neg e]at h;omega
  rw[if_pos e2]at h⊢;rw[h1 oM,h2 oM,h3 oM]
  push_cast;omega
theorem S4.OF:∀(l:List S4)(n:Int),0<=n->S4.nF l n<=512->S4.nF l n=n+(S4.l7 l).length
 |[],n,hn,h=>by simp[S4.nF,S4.l7]
 |v::r,n,hn,h=>by
  have h1:=S4.aUP v n hn;have h2:=S4.OF r (v.step n);have b1:=(S4.Y9 v n hn).1;have b2:=(S4.uU r (v.step n) oM).1;simp only[S4.nF]at h⊢;by_cases h0:n<=512
  ·rw[if_pos h0]at h⊢;rw[h2 oM h,h1 oM];simp only[S4.l7,aU];push_cast;omega
  ·rw[if_neg h0]at h;omega
end
mutual
theorem S4.aWN:∀(v:S4)(n:Int),0<=n->n+v.flat.length<=512->v.fit=true->v.sm n=(true,n+v.flat.length)
 |.mk op n1 n2 ab wh a b t e c w,n,hn,h,hf=>by
  simp only[S4.flat,aQ,aU]at h⊢;simp only[S4.fit,aE,decide_eq_true_eq]at hf;obtain⟨⟨⟨⟨⟨f1,f2⟩,f3⟩,f4⟩,f5⟩,f6⟩:=hf;rw[S4.sm,if_neg (by rw[E4.aP9 a f2,E4.aP9 b f3];simp;omega),S4.aH9 t (n+1) oM oM f4];simp only;rw[S4.aH9 e _ oM oM f5];simp only;rw[S4.aH9 c _ oM oM f6];simp;omega
theorem S4.aH9:∀(l:List S4)(n:Int),0<=n->n+(S4.l7 l).length<=512->S4.jD l=true->S4.C4 l n=(true,n+(S4.l7 l).length)
 |[],n,hn,h,hf=>by simp[S4.C4,S4.l7]
 |v::r,n,hn,h,hf=>by
  simp only[S4.l7,aU]at h⊢;simp only[S4.jD,aE]at hf;rw[S4.C4,S4.aWN v n hn oM hf.1];simp only;rw[S4.aH9 r _ oM oM hf.2];simp;omega
end
theorem S4.aUM{l:List S4}(h1:S4.nF l 0<=512)(h2:S4.jD l=true):(S4.C4 l 0).1=true:=by
 have h:=S4.OF l 0 oM h1;rw[S4.aH9 l 0 oM oM h2]
theorem S4.aVR(v:S4)(n:Int):(n=512/\v.tl n=(false,512,4))\/(n≠512/\v.aKB=true/\v.tl n=(true,0,0))\/(n≠512/\v.aKB≠true/\v.tl n=(false,n,160)):=by
 unfold S4.tl;by_cases h:n=512
 ·exact .inl ⟨h,if_pos h⟩
 ·by_cases h2:v.aKB=true
  ·exact .inr (.inl ⟨h,h2,by rw[if_neg h,if_pos h2]⟩)
  ·exact .inr (.inr ⟨h,h2,by rw[if_neg h,if_neg h2]⟩)
abbrev Wq(n:Int)(L:List S4)(q:Bool×Int×Int×Int):Prop:=(q.2.2.2=0\/q.1=true)->n+L.length<=512/\q=(true,n+L.length,0,0)/\∀s∈L,s.aKB=true
mutual
theorem S4.aWR:∀(v:S4)(n:Int),0<=n->n<=512->Wq n v.flat (v.wk n)
 |.mk op n1 n2 ab wh a b t e c w,n,hn,hn2=>by
  have h1:=S4.aJ6 t (n+1) oM;have h2:=S4.aJ6 e;have h3:=S4.aJ6 c;intro h;rw[S4.wk]at h⊢;simp only[S4.flat,aQ,aU,aO,bN];rcases S4.aVR (.mk op n1 n2 ab wh a b t e c w) n with⟨_,e0⟩|⟨hz,hm,e0⟩|⟨_,_,e0⟩
  ·rw[e0]at h;simp at h
  ·rw[e0]at h⊢;simp only at h⊢;generalize S4.vS t (n+1)=q1 at h h1⊢;obtain⟨b1,m1,a1,r1⟩:=q1;cases b1 with
   |false=>
    have:=(h1 oM h).2.1;simp at this
   |true=>
    obtain⟨g1,g2,g3⟩:=h1 oM (.inr rfl);simp only[aD,true_and]at g2;obtain⟨k1,k2,k3⟩:=g2;subst k1;simp only at h⊢;have h2:=h2 (n+1+(S4.l7 t).length) oM oM;generalize S4.vS e (n+1+(S4.l7 t).length)=q2 at h h2⊢;obtain⟨b2,m2,a2,r2⟩:=q2;cases b2 with
    |false=>
     have:=(h2 h).2.1;simp at this
    |true=>
     obtain⟨f1,f2,f3⟩:=h2 (.inr rfl);simp only[aD,true_and]at f2;obtain⟨k4,k5,k6⟩:=f2;subst k4;simp only at h⊢;obtain⟨d1,d2,d3⟩:=h3 (n+1+(S4.l7 t).length+(S4.l7 e).length) oM oM h;rw[d2];refine⟨oM,zM,?_⟩;rintro s (hs|hs|hs|hs)
     ·subst hs;exact hm
     ·exact g3 s hs
     ·exact f3 s hs
     ·exact d3 s hs
  ·rw[e0]at h;simp at h
theorem S4.aJ6:∀(l:List S4)(n:Int),0<=n->n<=512->Wq n (S4.l7 l) (S4.vS l n)
 |[],n,hn,hn2=>by intro h;simp[S4.vS,S4.l7];omega
 |v::r,n,hn,hn2=>by
  have h1:=S4.aWR v n hn hn2;have h2:=S4.aJ6 r;intro h;rw[S4.vS]at h⊢;simp only[S4.l7,aU,bN];generalize S4.wk v n=q1 at h h1⊢;obtain⟨b1,m1,a1,r1⟩:=q1;cases b1 with
  |false=>
   have:=(h1 h).2.1;simp at this
  |true=>
   obtain⟨g1,g2,g3⟩:=h1 (.inr rfl);simp only[aD,true_and]at g2;obtain⟨k1,k2,k3⟩:=g2;subst k1;simp only at h⊢;obtain⟨d1,d2,d3⟩:=h2 (n+v.flat.length) oM oM h;rw[d2];refine⟨oM,zM,?_⟩;rintro s (hs|hs)
   ·exact g3 s hs
   ·exact d3 s hs
end
mutual
theorem S4.aWQ:∀(v:S4)(n:Int),0<=n->n+v.flat.length<=512->(∀s∈v.flat,s.aKB=true)->v.wk n=(true,n+v.flat.length,0,0)
 |.mk op n1 n2 ab wh a b t e c w,n,hn,h,hm=>by
  simp only[S4.flat,aQ,aU,aO,bN]at h hm⊢;rcases S4.aVR (.mk op n1 n2 ab wh a b t e c w) n with⟨e1,e0⟩|⟨hz,_,e0⟩|⟨_,e1,e0⟩
  ·omega
  ·rw[S4.wk,e0];simp only;rw[S4.aJ4 t (n+1) oM oM (λs hs=>hm s (.inr (.inl hs)))];simp only;rw[S4.aJ4 e _ oM oM (λs hs=>hm s (.inr (.inr (.inl hs))))];simp only;rw[S4.aJ4 c _ oM oM (λs hs=>hm s (.inr (.inr (.inr hs))))];simp;omega
  ·exact absurd (hm _ (.inl rfl)) e1
theorem S4.aJ4:∀(l:List S4)(n:Int),0<=n->n+(S4.l7 l).length<=512->(∀s∈S4.l7 l,s.aKB=true)->S4.vS l n=(true,n+(S4.l7 l).length,0,0)
 |[],n,hn,h,hm=>by simp[S4.vS,S4.l7]
 |v::r,n,hn,h,hm=>by
  simp only[S4.l7,aU,bN]at h hm⊢;rw[S4.vS,S4.aWQ v n hn oM (λs hs=>hm s (.inl hs))];simp only;rw[S4.aJ4 r _ oM oM (λs hs=>hm s (.inr hs))];simp;omega
end
theorem aSE(l:List S4):aI6 l=true↔((S4.l7 l).length:Int)<=512/\∀s∈S4.l7 l,s.aKB=true:=by
 unfold aI6 I9;rw[decide_eq_true_eq];constructor
 ·intro h;obtain⟨a,b,c⟩:=S4.aJ6 l 0 oM oM (.inl h);exact⟨oM,c⟩
 ·rintro⟨h1,h2⟩;rw[S4.aJ4 l 0 oM oM h2]
mutual
theorem S4.aUH:∀(v:S4)(d:Int)(q:Bool)(l:List iN),l.length+v.flat.length<=512->(v.rk d q l).map (·.stmt)=l.map (·.stmt)++v.flat
 |.mk op n1 n2 ab wh a b t e c w,d,q,l,h=>by
  simp only[S4.flat,aQ,aU]at h⊢;rw[S4.rk];have e1:=S4.KH t (d+1) q (l++[⟨d,q,.mk op n1 n2 ab wh a b t e c w⟩]) zM;generalize S4.eG t (d+1) q (l++[⟨d,q,.mk op n1 n2 ab wh a b t e c w⟩])=x1 at*;have l1:=congrArg List.length e1;simp only[aB,aU,aQ,cS]at l1;have e2:=S4.KH e (d+1) q x1 oM;generalize S4.eG e (d+1) q x1=x2 at*;have l2:=congrArg List.length e2;simp only[aB,aU,aQ,cS]at l2;rw[S4.KH c (d+1) true x2 oM,e2,e1];simp
theorem S4.KH:∀(c:List S4)(d:Int)(q:Bool)(l:List iN),l.length+(S4.l7 c).length<=512->(S4.eG c d q l).map (·.stmt)=l.map (·.stmt)++S4.l7 c
 |[],d,q,l,h=>by simp[S4.eG,S4.l7]
 |v::r,d,q,l,h=>by
  simp only[S4.l7,aU]at h⊢;rw[S4.eG,if_pos oM];have e1:=S4.aUH v d q l oM;generalize S4.rk v d q l=x1 at*;have l1:=congrArg List.length e1;simp only[aB,aU]at l1;rw[S4.KH r d q x1 oM,e1];simp
end
mutual
theorem S4.aWK:∀(v:S4)(d:Int)(q:Bool)(l:List iN),(v.rk d q l).length<=512->l.length+v.flat.length<=512
 |.mk op n1 n2 ab wh a b t e c w,d,q,l,h=>by
  simp only[S4.flat,aQ,aU];rw[S4.rk]at h;have h3:=S4.aH4 c (d+1) true _ h;have h2:=S4.aH4 e (d+1) q _ (cL (P2 _ _) h3);have h1:=S4.aH4 t (d+1) q _ (cL (P2 _ _) h2);have e1:=congrArg List.length (S4.KH t (d+1) q _ h1);have e2:=congrArg List.length (S4.KH e (d+1) q _ h2);simp only[aB,aU,aQ,cS]at e1 e2 h1 h2 h3;omega
theorem S4.aH4:∀(c:List S4)(d:Int)(q:Bool)(l:List iN),(S4.eG c d q l).length<=512->l.length+(S4.l7 c).length<=512
 |[],d,q,l,h=>by simpa [S4.eG,S4.l7]using h
 |v::r,d,q,l,h=>by
  simp only[S4.l7,aU];rw[S4.eG]at h;by_cases h0:l.length<=512
  ·rw[if_pos h0]at h;have h2:=S4.aH4 r d q _ h;have h1:=S4.aWK v d q l (cL (P2 _ _) h2);have e1:=congrArg List.length (S4.aUH v d q l h1);simp only[aB,aU]at e1;omega
  ·rw[if_neg h0]at h;omega
end
theorem aRO:∀(R:List iN)(i:Nat),i<=512->((HV R i).2=0↔i+R.length<=512/\∀r∈R,r.stmt.qP=true)
 |[],i,hi=>by simp[HV,hi]
 |r::R,i,hi=>by
  rw[HV];by_cases h0:512<=i
  ·rw[if_pos h0];simp;omega
  rw[if_neg h0];by_cases h1:r.stmt.qP=true
  ·rw[if_pos h1,aRO R (i+1) oM];simp[h1];omega
  ·rw[if_neg h1];simp[h1]
theorem aVE(l:List S4):S2 l=true↔((S4.l7 l).length:Int)<=512/\∀s∈S4.l7 l,s.qP=true:=by
 unfold S2;rw[decide_eq_true_eq,aRO _ 0 oM];unfold KZ;constructor
 ·rintro⟨h1,h2⟩;have h3:=S4.aH4 l 0 false [] oM;have h4:=S4.KH l 0 false [] h3;simp only[cS]at h3;refine⟨oM,λs hs=>?_⟩;rw[bM,bZ]at h4;rw[<-h4]at hs;obtain⟨r,hr,rfl⟩:=aA4.1 hs;exact h2 r hr
 ·rintro⟨h1,h2⟩;have h4:=S4.KH l 0 false [] (by simp only[cS];omega);rw[bM,bZ]at h4;have h5:=congrArg List.length h4;rw[aB]at h5;refine⟨oM,λr hr=>h2 _ ?_⟩;rw[<-h4];exact aA4.2 ⟨r,hr,rfl⟩
theorem E4.aT9{v:E4}(h:v.sV=true):v.aQM=false:=by
 cases hm:v.aQM with
 |false=>rfl
 |true=>
  have:=((v.aQN).1 hm).2.2;rw[E4.aR2,aE]at this;have h2:=this.2;unfold E4.sV at h;rw[decide_eq_true_eq]at h;unfold E4.S3 at h2;rw[if_neg oM,if_neg oM,if_neg oM,if_neg oM]at h2;cases h2
theorem E4.GY(v:E4):v.hw 0=v.sV:=by
 unfold E4.hw;cases h:v.sV<;>simp
theorem E4.sN(v:E4):v.hw 1=v.sW:=by
 unfold E4.hw E4.sW;rw[E4.aPE];cases h:v.sV<;>simp
theorem E4.wM(v:E4):v.hw 2=v.MR:=by
 unfold E4.hw;rw[E4.aPE];cases h:v.sV
 ·simp
 ·simp[E4.aT9 h]
theorem aAI(s:ByteArray):G4 s 0=decide (s.size=0):=by unfold G4;rw[if_pos rfl]
theorem aAJ(s:ByteArray):G4 s 2=hZ s:=by unfold G4;rw[if_neg eD]
theorem aVB:((List.range 256).all λk=>decide (aKT k=aPQ k)&&decide (TK k=decide ((k:Int)<=63)))=true:=kK
theorem aUC(x:Int)(h0:0<=x)(h1:x<256):aKT x=aPQ x/\TK x=!decide (63<x):=by
 have h:=cV.1 aVB x.toNat (jI.2 oM);rw[aE,decide_eq_true_eq,decide_eq_true_eq,DY h0]at h;refine⟨h.1,?_⟩;rw[h.2];by_cases e:x<=63
 ·rw[decide_eq_true e,decide_eq_false oM];rfl
 ·rw[decide_eq_false e,decide_eq_true oM];rfl
theorem aEW:E4.zero.sV=true:=rfl
theorem S4.stM_eq(v:S4)(o1:aKT v.jR=aPQ v.jR)(o2:TK v.jR=!decide (63<v.jR)):v.KM v.sU v.pL=v.st v.UM.1 v.UM.2:=by
 unfold S4.sU S4.pL S4.UM;by_cases q0:v.bQ=1
 ·rw[if_pos q0,if_pos q0,if_pos q0];obtain⟨op,name,second,jR,bQ,a,b,t,e,c,w⟩:=v;simp only[S4.jR]at o1 o2;simp only[S4.bQ]at q0;simp only[S4.KM,S4.st,S4.pV,S4.oK,S4.BF,aAI,aAJ,E4.GY,E4.sN,E4.wM,E4.sW];rw[jT];simp only[aE,gP,eC,gI,decide_eq_true_eq,decide_eq_false_iff_not,fR,fB];simp only[S4.name,S4.second,S4.jR,S4.bQ,S4.a,S4.b,S4.t,S4.e,S4.c,S4.w,aEW,cS]at*;have z1:name=ByteArray.empty↔name.size=0:=EL;have z2:second=ByteArray.empty↔second.size=0:=EL
  grind
 rw[if_neg q0,if_neg q0,if_neg q0];by_cases q1:v.bQ=2\/v.bQ=3\/v.bQ=4\/v.bQ=8
 ·rw[if_pos q1,if_pos q1,if_pos q1];obtain⟨op,name,second,jR,bQ,a,b,t,e,c,w⟩:=v;simp only[S4.jR]at o1 o2;simp only[S4.bQ]at q1;simp only[S4.KM,S4.st,S4.pV,S4.oK,S4.BF,aAI,aAJ,E4.GY,E4.sN,E4.wM,E4.sW];rw[jT];simp only[aE,gP,eC,gI,decide_eq_true_eq,decide_eq_false_iff_not,fR,fB];simp only[S4.name,S4.second,S4.jR,S4.bQ,S4.a,S4.b,S4.t,S4.e,S4.c,S4.w,aEW,cS]at*;have z1:name=ByteArray.empty↔name.size=0:=EL;have z2:second=ByteArray.empty↔second.size=0:=EL
  grind
 rw[if_neg q1,if_neg q1,if_neg q1];by_cases q2:v.bQ=14
 ·rw[if_pos q2,if_pos q2,if_pos q2];obtain⟨op,name,second,jR,bQ,a,b,t,e,c,w⟩:=v;simp only[S4.jR]at o1 o2;simp only[S4.bQ]at q2;simp only[S4.KM,S4.st,S4.pV,S4.oK,S4.BF,aAI,aAJ,E4.GY,E4.sN,E4.wM,E4.sW];rw[jT];simp only[aE,gP,eC,gI,decide_eq_true_eq,decide_eq_false_iff_not,fR,fB];simp only[S4.name,S4.second,S4.jR,S4.bQ,S4.a,S4.b,S4.t,S4.e,S4.c,S4.w,aEW,cS]at*;have z1:name=ByteArray.empty↔name.size=0:=EL;have z2:second=ByteArray.empty↔second.size=0:=EL
  grind
 rw[if_neg q2,if_neg q2,if_neg q2];by_cases q3:v.bQ=15\/v.bQ=16
 ·rw[if_pos q3,if_pos q3,if_pos q3];obtain⟨op,name,second,jR,bQ,a,b,t,e,c,w⟩:=v;simp only[S4.jR]at o1 o2;simp only[S4.bQ]at q3;simp only[S4.KM,S4.st,S4.pV,S4.oK,S4.BF,aAI,aAJ,E4.GY,E4.sN,E4.wM,E4.sW];rw[jT];simp only[aE,gP,eC,gI,decide_eq_true_eq,decide_eq_false_iff_not,fR,fB];simp only[S4.name,S4.second,S4.jR,S4.bQ,S4.a,S4.b,S4.t,S4.e,S4.c,S4.w,aEW,cS]at*;have z1:name=ByteArray.empty↔name.size=0:=EL;have z2:second=ByteArray.empty↔second.size=0:=EL
  grind
 rw[if_neg q3,if_neg q3,if_neg q3];by_cases q4:v.bQ=5\/v.bQ=10
 ·rw[if_pos q4,if_pos q4,if_pos q4];obtain⟨op,name,second,jR,bQ,a,b,t,e,c,w⟩:=v;simp only[S4.jR]at o1 o2;simp only[S4.bQ]at q4;simp only[S4.KM,S4.st,S4.pV,S4.oK,S4.BF,aAI,aAJ,E4.GY,E4.sN,E4.wM,E4.sW];rw[jT];simp only[aE,gP,eC,gI,decide_eq_true_eq,decide_eq_false_iff_not,fR,fB];simp only[S4.name,S4.second,S4.jR,S4.bQ,S4.a,S4.b,S4.t,S4.e,S4.c,S4.w,aEW,cS]at*;have z1:name=ByteArray.empty↔name.size=0:=EL;have z2:second=ByteArray.empty↔second.size=0:=EL
  grind
 rw[if_neg q4,if_neg q4,if_neg q4];by_cases q5:v.bQ=12
 ·rw[if_pos q5,if_pos q5,if_pos q5];obtain⟨op,name,second,jR,bQ,a,b,t,e,c,w⟩:=v;simp only[S4.jR]at o1 o2;simp only[S4.bQ]at q5;simp only[S4.KM,S4.st,S4.pV,S4.oK,S4.BF,aAI,aAJ,E4.GY,E4.sN,E4.wM,E4.sW];rw[jT];simp only[aE,gP,eC,gI,decide_eq_true_eq,decide_eq_false_iff_not,fR,fB];simp only[S4.name,S4.second,S4.jR,S4.bQ,S4.a,S4.b,S4.t,S4.e,S4.c,S4.w,aEW,cS]at*;have z1:name=ByteArray.empty↔name.size=0:=EL;have z2:second=ByteArray.empty↔second.size=0:=EL
  grind
 rw[if_neg q5,if_neg q5,if_neg q5];obtain⟨op,name,second,jR,bQ,a,b,t,e,c,w⟩:=v;simp only[S4.jR]at o1 o2;simp only[S4.bQ]at q0 q1 q2 q3 q4 q5;simp only[S4.KM,S4.st,S4.pV,S4.oK,S4.BF,aAI,aAJ,E4.GY,E4.sN,E4.wM,E4.sW];rw[jT];simp only[aE,gP,eC,gI,decide_eq_true_eq,decide_eq_false_iff_not,fR,fB];simp only[S4.name,S4.second,S4.jR,S4.bQ,S4.a,S4.b,S4.t,S4.e,S4.c,S4.w,aEW,cS]at*;have z1:name=ByteArray.empty↔name.size=0:=EL;have z2:second=ByteArray.empty↔second.size=0:=EL
 grind
theorem S4.aVQ(v:S4)(h0:0<=v.jR)(h1:v.jR<256):v.aKB=v.qP:=by
 obtain⟨o1,o2⟩:=aUC v.jR h0 h1;have hn1:v.jR=1->aPQ v.jR=true:=λe=>by rw[e];rfl
 have hn2:v.jR=32->aPQ v.jR=true:=λe=>by rw[e];rfl
 have hn0:v.jR=0->aPQ v.jR=false:=λe=>by rw[e];rfl
 unfold S4.aKB S4.qP S4.fm;by_cases k1:v.op=1
 ·rw[if_pos k1,if_pos k1];obtain⟨op,name,second,jR,bQ,a,b,t,e,c,w⟩:=v;unfold S4.aIX S4.aKL;simp only[S4.KM,S4.st,S4.pV,S4.oK,S4.BF,aAI,aAJ,E4.GY,E4.sN,E4.wM,E4.sW];rw[jT];simp only[aE,gP,eC,gI,decide_eq_true_eq,decide_eq_false_iff_not,fR,fB];simp only[S4.name,S4.second,S4.jR,S4.bQ,S4.a,S4.b,S4.t,S4.e,S4.c,S4.w,aEW,cS]at*;have z1:name=ByteArray.empty↔name.size=0:=EL;have z2:second=ByteArray.empty↔second.size=0:=EL
  grind
 rw[if_neg k1,if_neg k1];by_cases k2:v.op=2
 ·rw[if_pos k2,if_pos k2];by_cases q:v.jR=1\/v.jR=32
  ·rw[if_pos q];obtain⟨op,name,second,jR,bQ,a,b,t,e,c,w⟩:=v;unfold S4.aIY S4.aKM;simp only[S4.KM,S4.st,S4.pV,S4.oK,S4.BF,aAI,aAJ,E4.GY,E4.sN,E4.wM,E4.sW];rw[jT];simp only[aE,gP,eC,gI,decide_eq_true_eq,decide_eq_false_iff_not,fR,fB];simp only[S4.name,S4.second,S4.jR,S4.bQ,S4.a,S4.b,S4.t,S4.e,S4.c,S4.w,aEW,cS]at*;have z1:name=ByteArray.empty↔name.size=0:=EL;have z2:second=ByteArray.empty↔second.size=0:=EL
   grind
  ·rw[if_neg q];obtain⟨op,name,second,jR,bQ,a,b,t,e,c,w⟩:=v;unfold S4.aIY S4.aKM;simp only[S4.KM,S4.st,S4.pV,S4.oK,S4.BF,aAI,aAJ,E4.GY,E4.sN,E4.wM,E4.sW];rw[jT];simp only[aE,gP,eC,gI,decide_eq_true_eq,decide_eq_false_iff_not,fR,fB];simp only[S4.name,S4.second,S4.jR,S4.bQ,S4.a,S4.b,S4.t,S4.e,S4.c,S4.w,aEW,cS]at*;have z1:name=ByteArray.empty↔name.size=0:=EL;have z2:second=ByteArray.empty↔second.size=0:=EL
   grind
 rw[if_neg k2,if_neg k2];by_cases k3:v.op=3
 ·rw[if_pos k3,if_pos k3];exact S4.stM_eq _ o1 o2
 rw[if_neg k3,if_neg k3];by_cases k4:v.op=4
 ·rw[if_pos k4,if_pos k4];obtain⟨op,name,second,jR,bQ,a,b,t,e,c,w⟩:=v;unfold S4.aIZ S4.aKN;simp only[S4.KM,S4.st,S4.pV,S4.oK,S4.BF,aAI,aAJ,E4.GY,E4.sN,E4.wM,E4.sW];rw[jT];simp only[aE,gP,eC,gI,decide_eq_true_eq,decide_eq_false_iff_not,fR,fB];simp only[S4.name,S4.second,S4.jR,S4.bQ,S4.a,S4.b,S4.t,S4.e,S4.c,S4.w,aEW,cS]at*;have z1:name=ByteArray.empty↔name.size=0:=EL;have z2:second=ByteArray.empty↔second.size=0:=EL
  grind
 rw[if_neg k4,if_neg k4];by_cases k5:v.op=5
 ·rw[if_pos k5,if_pos k5];obtain⟨op,name,second,jR,bQ,a,b,t,e,c,w⟩:=v;unfold S4.aI0 S4.aKO;simp only[S4.KM,S4.st,S4.pV,S4.oK,S4.BF,aAI,aAJ,E4.GY,E4.sN,E4.wM,E4.sW];rw[jT];simp only[aE,gP,eC,gI,decide_eq_true_eq,decide_eq_false_iff_not,fR,fB];simp only[S4.name,S4.second,S4.jR,S4.bQ,S4.a,S4.b,S4.t,S4.e,S4.c,S4.w,aEW,cS]at*;have z1:name=ByteArray.empty↔name.size=0:=EL;have z2:second=ByteArray.empty↔second.size=0:=EL
  grind
 rw[if_neg k5,if_neg k5];by_cases k6:v.op=6
 ·rw[if_pos k6,if_pos k6];obtain⟨op,name,second,jR,bQ,a,b,t,e,c,w⟩:=v;unfold S4.aI1 S4.aKP;simp only[S4.KM,S4.st,S4.pV,S4.oK,S4.BF,aAI,aAJ,E4.GY,E4.sN,E4.wM,E4.sW];rw[jT];simp only[aE,gP,eC,gI,decide_eq_true_eq,decide_eq_false_iff_not,fR,fB];simp only[S4.name,S4.second,S4.jR,S4.bQ,S4.a,S4.b,S4.t,S4.e,S4.c,S4.w,aEW,cS]at*;have z1:name=ByteArray.empty↔name.size=0:=EL;have z2:second=ByteArray.empty↔second.size=0:=EL
  grind
 rw[if_neg k6,if_neg k6];by_cases k7:v.op=7
 ·rw[if_pos k7,if_pos k7];obtain⟨op,name,second,jR,bQ,a,b,t,e,c,w⟩:=v;unfold S4.aI2 S4.aKQ;simp only[S4.KM,S4.st,S4.pV,S4.oK,S4.BF,aAI,aAJ,E4.GY,E4.sN,E4.wM,E4.sW];rw[jT];simp only[aE,gP,eC,gI,decide_eq_true_eq,decide_eq_false_iff_not,fR,fB];simp only[S4.name,S4.second,S4.jR,S4.bQ,S4.a,S4.b,S4.t,S4.e,S4.c,S4.w,aEW,cS]at*;have z1:name=ByteArray.empty↔name.size=0:=EL;have z2:second=ByteArray.empty↔second.size=0:=EL
  grind
 rw[if_neg k7,if_neg k7];by_cases k8:v.op=8
 ·rw[if_pos k8,if_pos k8];obtain⟨op,name,second,jR,bQ,a,b,t,e,c,w⟩:=v;unfold S4.aI3 S4.aKR;simp only[S4.KM,S4.st,S4.pV,S4.oK,S4.BF,aAI,aAJ,E4.GY,E4.sN,E4.wM,E4.sW];rw[jT];simp only[aE,gP,eC,gI,decide_eq_true_eq,decide_eq_false_iff_not,fR,fB];simp only[S4.name,S4.second,S4.jR,S4.bQ,S4.a,S4.b,S4.t,S4.e,S4.c,S4.w,aEW,cS]at*;have z1:name=ByteArray.empty↔name.size=0:=EL;have z2:second=ByteArray.empty↔second.size=0:=EL
  grind
 rw[if_neg k8,if_neg k8];by_cases k9:v.op=9
 ·rw[if_pos k9,if_pos k9];obtain⟨op,name,second,jR,bQ,a,b,t,e,c,w⟩:=v;unfold S4.aI4 S4.aKS;simp only[S4.KM,S4.st,S4.pV,S4.oK,S4.BF,aAI,aAJ,E4.GY,E4.sN,E4.wM,E4.sW];rw[jT];simp only[aE,gP,eC,gI,decide_eq_true_eq,decide_eq_false_iff_not,fR,fB];simp only[S4.name,S4.second,S4.jR,S4.bQ,S4.a,S4.b,S4.t,S4.e,S4.c,S4.w,aEW,cS]at*;have z1:name=ByteArray.empty↔name.size=0:=EL;have z2:second=ByteArray.empty↔second.size=0:=EL
  grind
 rw[if_neg k9,if_neg k9];rfl
mutual
theorem S4.aUU:∀(v:S4),v.ab->∀s∈v.flat,0<=s.jR/\s.jR<256
 |.mk op n1 n2 ab wh a b t e c w,h,s,hs=>by
  simp only[S4.flat,aO,bN]at hs;simp only[S4.ab]at h;rcases hs with hs|hs|hs|hs
  ·subst hs;exact h.1
  ·exact S4.NR t h.2.1 s hs
  ·exact S4.NR e h.2.2.1 s hs
  ·exact S4.NR c h.2.2.2 s hs
theorem S4.NR:∀(l:List S4),S4.RF l->∀s∈S4.l7 l,0<=s.jR/\s.jR<256
 |[],h,s,hs=>by simp[S4.l7]at hs
 |v::r,h,s,hs=>by
  simp only[S4.l7,bN]at hs;simp only[S4.RF]at h;rcases hs with hs|hs
  ·exact S4.aUU v h.1 s hs
  ·exact S4.NR r h.2 s hs
end
theorem aSF(l:List S4)(h:S4.RF l):aI6 l=S2 l:=by
 rw[jT,aSE,aVE];refine and_congr Iff.rfl ⟨λg s hs=>?_,λg s hs=>?_⟩
 ·have:=S4.NR l h s hs;rw[<-s.aVQ this.1 this.2];exact g s hs
 ·have:=S4.NR l h s hs;rw[s.aVQ this.1 this.2];exact g s hs
theorem aQA(N:List N4):BA N=aAT N:=by
 unfold BA aAT;rw[show(λn:N4=>hZ n.name&&n.value.may)=λn:N4=>hZ n.name&&n.value.nI from funext λn=>by rw[V.QI]]
structure W4.aAZ(x:W4):Prop where
 size:S4.nF x.code 0<=512
 jD:S4.jD x.code=true
 value:x.value.nI=true
 values:∀v∈x.values,v.nI=true
 names:∀n∈x.names,n.value.nI=true
theorem W4.aWA{x:W4}(h:x.fits=true):x.aAZ:=by
 unfold W4.fits at h;simp only[aE,decide_eq_true_eq,W4.vA,o9,gQ,cV,aA4]at h;obtain⟨⟨⟨h1,h2,h3⟩,h4⟩,h5,h6,h7⟩:=h;exact⟨h3,h4,h5,h6,λn hn=>h7 _ ⟨n,hn,rfl⟩⟩
theorem V.aSC(v:V):v.blank=true↔v=V.zero:=by
 obtain⟨k,n,s,l,r⟩:=v;unfold V.blank V.zero;simp only[V.kind,V.n,V.s,V.l,V.r,decide_eq_true_eq,V.mk.injEq,iL];rw[show(s=ByteArray.empty)=(s.size=0)from propext EL]
theorem V.aSQ{v:V}(h:v.nI=true)(h0:v.kind=0):v=V.zero:=by
 have:=((v.aOC).1 h).2.2;obtain⟨k,n,s,l,r⟩:=v;simp only[V.kind]at h0;subst h0;rw[V.u7,aE,V.aOJ,if_pos rfl,decide_eq_true_eq]at this;obtain⟨_,a,b,c,d⟩:=this;rw[a,d,bL c,EL.2 b];rfl
theorem W4.aWD{x:W4}(h:x.aAZ):U5 x.values=0↔(V.mk 3 0 ByteArray.empty x.values 0).nI=true:=by
 unfold U5;rw[if_pos (cV.2 λv hv=>by rw[V.QI];exact h.values v hv),V.QI];constructor
 ·intro e;by_cases g:(V.mk 3 0 ByteArray.empty x.values 0).nI=true
  ·exact g
  ·rw[if_neg g]at e;simp at e
 ·intro g;rw[if_pos g]
theorem aU9{l:List V}(h:(V.mk 3 0 ByteArray.empty l 0).nI=true):l.length<=512:=by
 have:=((V.aOC _).1 h).1;have h2:=V.eW l;simp only[V.cR]at this;omega
theorem aVA:(V.mk 3 0 ByteArray.empty [] 0).nI=true:=by
 rw[V.aOC];decide
theorem aTE(v:V):v.same V.zero=true↔v=V.zero:=V.aOZ v V.zero
theorem W4.aTV(w:D4)(x:W4)(n:Int)(hn:(w.made.length:Int)=n)(hk:0<=x.kind)(hf:x.aAZ):w.AA x=true↔x.tB n=true/\(x.kind=14->TK x.set=true):=by
 have a1:=W4.aWD hf;have a2:x.values.length=0->(V.mk 3 0 ByteArray.empty x.values 0).nI=true:=λe=>by rw[bL e];exact aVA
 have a3:(V.mk 3 0 ByteArray.empty x.values 0).nI=true->x.values.length<=512:=aU9;have a4:=hf.value;have a5:=V.QI x.value;have a6:(x.names.all λn=>n.value.may)=true:=cV.2 λv hv=>by rw[V.QI];exact hf.names v hv
 have a7:(x.names.all λn=>n.value.nI)=true:=cV.2 λv hv=>hf.names v hv;have a8:=S4.aUM hf.size hf.jD;have a9:=hf.size;have b1:=hf.jD;have b2:=x.value.aSC;have b3:=aTE x.value;have b4:x.value.same x.value=true:=(V.aOZ _ _).2 rfl;have b5:V.zero.blank=true:=rfl;have b6:x.value.kind=0->x.value=V.zero:=λe=>V.aSQ a4 e;have b7:x.value=V.zero->x.value.kind=0:=λe=>by rw[e];rfl
 unfold D4.AA W4.HE W4.BZ W4.JZ W4.DT W4.NQ W4.YA W4.tB W4.kM W4.EV W4.rtl W4.req W4.rb W4.vB W4.nB W4.bare W4.base D4.HU;simp only[aE,gP,eC,gI,decide_eq_true_eq,decide_eq_false_iff_not];by_cases k0:x.kind=1
 ·simp only[if_pos k0]
  grind
 by_cases k1:x.kind=2\/x.kind=4
 ·simp only[if_pos k1,if_neg k0]
  grind
 by_cases k2:x.kind=3
 ·simp only[if_pos k2,if_neg k0,if_neg k1]
  grind
 by_cases k3:x.kind=6\/x.kind=11
 ·simp only[if_pos k3,if_neg k0,if_neg k1,if_neg k2]
  grind
 by_cases k4:x.kind=7
 ·simp only[if_pos k4,if_neg k0,if_neg k1,if_neg k2,if_neg k3]
  grind
 by_cases k5:x.kind=8
 ·simp only[if_pos k5,if_neg k0,if_neg k1,if_neg k2,if_neg k3,if_neg k4]
  grind
 by_cases k6:x.kind=9
 ·simp only[if_pos k6,if_neg k0,if_neg k1,if_neg k2,if_neg k3,if_neg k4,if_neg k5]
  grind
 by_cases k7:x.kind=10
 ·simp only[if_pos k7,if_neg k0,if_neg k1,if_neg k2,if_neg k3,if_neg k4,if_neg k5,if_neg k6]
  grind
 by_cases k8:x.kind=12
 ·simp only[if_pos k8,if_neg k0,if_neg k1,if_neg k2,if_neg k3,if_neg k4,if_neg k5,if_neg k6,if_neg k7]
  grind
 by_cases k9:x.kind=13
 ·simp only[if_pos k9,if_neg k0,if_neg k1,if_neg k2,if_neg k3,if_neg k4,if_neg k5,if_neg k6,if_neg k7,if_neg k8]
  grind
 by_cases k10:x.kind=15\/x.kind=16
 ·simp only[if_pos k10,if_neg k0,if_neg k1,if_neg k2,if_neg k3,if_neg k4,if_neg k5,if_neg k6,if_neg k7,if_neg k8,if_neg k9]
  grind
 by_cases k11:x.kind=14
 ·simp only[if_pos k11,if_neg k0,if_neg k1,if_neg k2,if_neg k3,if_neg k4,if_neg k5,if_neg k6,if_neg k7,if_neg k8,if_neg k9,if_neg k10]
  grind
 ·simp only[if_neg k0,if_neg k1,if_neg k2,if_neg k3,if_neg k4,if_neg k5,if_neg k6,if_neg k7,if_neg k8,if_neg k9,if_neg k10,if_neg k11]
  grind
end Go.Pv
