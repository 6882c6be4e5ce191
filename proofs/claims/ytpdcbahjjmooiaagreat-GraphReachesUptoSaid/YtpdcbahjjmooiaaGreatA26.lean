import Derived.Test.YtpdcbahjjmooiaaGreatA25
import Derived.ProofKit
import Derived.OpenShut
import Derived.JoinedCond
import Derived.WideKeyArgs
/- A program logic over the model, contracts of the functions that the law reaches: part 26. (Names and blanks were shortened by program.) -/
set_option linter.unusedVariables false
set_option linter.unusedSimpArgs false
set_option linter.constructorNameAsVariable false
set_option linter.unusedSectionVars false
set_option linter.deprecated false
set_option maxRecDepth 100000
set_option maxHeartbeats 8000000
open Go Go.Proofs
namespace Go.Pv
open Go.RowKit
variable{n:Nat}{cs:List Value}{w:World}
theorem aWV{P:Program}{mb:List (Nat×R)}{a1 a2 a3 b:Code}{l:List (Nat×A)}{ml:List (Nat×R)}{nx:Nat}{K:KT}(I':List (Nat×A))(J':List (Nat×R))(nx2:Nat)(h:(∀_:Unit,True->vc P mb n b I' J' nx2 K)->vc P mb n (.seq a1 (.seq a2 (.seq a3 b))) l ml nx K)(h2:vc P mb n b I' J' nx2 K):vc P mb n (.seq a1 (.seq a2 (.seq a3 b))) l ml nx K:=h λ_ _=>h2
theorem aQ6{es ce:Nat}{F:List Int}{n:Int}{k:List C->Prop}(hn:n=F.length)(h1:es=ce)(h2:0<es)(hk:k [ci 771]):PA es ce (iR (F++[771])) n k:=by
 subst hn;refine cD h1 h2 sM ?_;have:(F++[771])[F.length]' sM =771:=sM;rw[this];exact hk
theorem aRH(x:X4)(l:List U4)(F:List Int)(hJ:aSB x l)(hF:F.length<=2^30):Pu 5 [.d (.agg x.cells),.d (.sl 4 (l.map U4.cells)),.d (.sl 1 (iR F))] (.d (cb true)):=by
 refine iC mix Tryz.func5 ?_;have hfi:=aAA x l (λt ht=>⟨cL (hJ.cR t ht).1 (bD rfl),(hJ.cR t ht).2⟩) (cL hJ.ll (bD rfl)) (cL hJ.tl (bD rfl));cases hf:CI x l with
 |false=>
  rw[hf]at hfi
  repeat'(first|refine bl ?_|refine dR hfi (.cons (.agg x.cells) (.cons (.same _) .nil)) (bw ?_)|refine aF D9 (bw ?_))
  exact dP rfl
 |true=>
  rw[hf]at hfi;by_cases hlen:60<(F.length:Int)
  ·skip
   repeat'(first|refine bl ?_|refine bS (λh=>?_) (λh=>?_)|refine dR hfi (.cons (.agg x.cells) (.cons (.same _) .nil)) (bw ?_)|refine aF D9 (bw ?_))
   all_goals first|(exfalso;omega)|exact dP rfl
  cases hb:y9 x with
  |false=>
   have hbo:=aV0 hJ hf hb
   repeat'(first|refine bl ?_|refine bS (λh=>?_) (λh=>?_)|refine dR hfi (.cons (.agg x.cells) (.cons (.same _) .nil)) (bw ?_)|refine dR hbo (.cons (.agg x.cells) .nil) (bw ?_)|refine aF D9 (bw ?_))
   all_goals first|(exfalso;omega)|exact dP rfl
  |true=>
   have hR:=aU4 hJ hf hb;have hbo:=aV1 hR;refine w1 ?_
   repeat'(first|with_reducible (first|refine w9 ?_|refine nN.mk ?_)|((with_reducible refine wr ?_);(conv=>whnf)))
   refine w1 (w1 ?_)
   repeat'(first|with_reducible (first|refine w2 ?_|refine w9 ?_|refine nN.mk ?_|refine O8.f rfl ?_)|((with_reducible (first|refine wr ?_|refine wi ?_|refine wh ?_));(conv=>whnf))|((with_reducible refine nQ (λh=>?_) (λh=>?_))<;>(try rw[h])<;>(conv at h=>{simp}))|((refine dR hfi (.cons (.agg x.cells) (.cons (.same _) .nil)) ?_);(conv=>whnf)))
   ·exfalso;omega
   refine w1 ?_
   repeat'(first|with_reducible (first|refine w9 ?_|refine nN.mk ?_)|((with_reducible refine wr ?_);(conv=>whnf))|((refine dR hbo (.cons (.agg x.cells) .nil) ?_);(conv=>whnf)))
   refine w1 (w1 ?_)
   repeat'(first|with_reducible (first|refine w2 ?_|refine w9 ?_|refine nN.mk ?_|refine O8.f rfl ?_)|((with_reducible (first|refine wr ?_|refine wi ?_|refine wh ?_));(conv=>whnf)))
   refine BH (λ_:Unit=>True) (λ_=>[(1,.d (.sl 4 (l.map U4.cells))),(2,.d (.sl 1 (iR F))),(7,.d (.ip (bJ x).cells)),(8,.d (.ip (rW x).cells)),(9,.d (.sl 1 (iR (F++[771]))))]) (λ_=>[]) 3000 ?_ ?_
   ·skip
    repeat'((with_reducible refine wr ?_);(conv=>whnf))
    have hFl:F.length<=60:=oM;refine n8 (by simp only[aB];omega) kK ?_;conv=>whnf
    refine E9.mk (λh1=>?_) (λh1=>?_)
    ·have h1:F=[]:=by simpa using h1
     conv=>whnf
     skip
     refine n8 (by simp only[cE,aS];omega) kK ?_;conv=>whnf
     refine E9.mk (λhz1=>absurd hz1 sM) (λhz1=>?_);conv=>whnf
     repeat'(with_reducible (first|refine w9 ?_|refine nN.mk ?_))
     refine⟨(),trivial,cN.freeze [217] trivial ⟨.same _,.same _,.same _,.same _,.rd (.dU (t:=25) (eX rfl (by rw[h1];rfl))),trivial⟩ trivial ⟨trivial,trivial,trivial,trivial,trivial,trivial⟩ trivial⟩
    ·have h1:F≠[]:=by simpa using h1
     conv=>whnf
     skip
     refine n8 (by simp only[cE,aS,aB];omega) kK ?_;conv=>whnf
     repeat'(with_reducible (first|refine w9 ?_|refine nN.mk ?_))
     refine⟨(),trivial,cN.freeze [217] trivial ⟨.same _,.same _,.same _,.same _,.rd (.UN (t:=25) (eX rfl rfl) (gG F [771])),trivial⟩ trivial ⟨trivial,trivial,trivial,trivial,trivial,trivial⟩ trivial⟩
   rintro _ _;refine aWV [(1,.d (.sl 4 (l.map U4.cells))),(2,.d (.sl 1 (iR F))),(7,.d (.ip (bJ x).cells)),(8,.d (.ip (rW x).cells))] [] 20000 ?_ ?_
   ·intro hrest;have hFl:F.length<=60:=oM;have hsl:List.take (((List.map (λx=>List.map A.d x) (iR F)).length:Int)-0).toNat (List.drop (Int.toNat 0) (iR (F++[771])))=iR F:=sM;have hga0:=aAH (bJ x) hR.w.togA F;have hgb:=aCU (rW x) hR.v F (hR.univ F oM);have he:=hR.from (L:=F) (M:=F) λ_=>Iff.rfl;rw[<-he.1,<-he.2]at hgb;by_cases hall:F.all (bJ x).mI=true
    ·have e2:(bJ x).v7 F=0:=by unfold D4.v7;rw[if_pos hall]
     have e1:(bJ x).v8 F=oZ ((bJ x).uJ F):=by unfold D4.v8;rw[if_pos hall]
     rw[e1,e2]at hgb;by_cases hne:F=[]
     ·have hga:Pu 19 [.d (.ip (bJ x).cells),.d (.sl 1 (iR F))] (.eL [.d (.sl 1 []),.d (ci 0)]):=by rw[hne];exact aAG (bJ x) hR.w.togA
      have hsn:Pu 13 [.d (.nl 1),.d (.sl 1 (iR F))] (.d (cb true)):=by rw[hne];exact aE3
      rw[show(bJ x).uJ F=[] by rw[hne];exact aAD _,AT]at hgb;rw[<-hsl]at hga;refine w1 ?_
      repeat'((with_reducible refine wr ?_);(conv=>whnf))
      refine xV (by simp;exact⟨kK,oM⟩) ?_;conv=>whnf
      repeat'(first|with_reducible (first|refine w9 ?_|refine nN.mk ?_)|((refine aF hga ?_);(conv=>whnf)))
      refine w1 ?_
      repeat'(first|with_reducible (first|refine w9 ?_|refine nN.mk ?_)|((with_reducible refine wr ?_);(conv=>whnf))|((refine aF hgb ?_);(conv=>whnf)))
      refine BH (λ_:Unit=>True) (λ_=>[(1,.d (.sl 4 (l.map U4.cells))),(2,.d (.sl 1 (iR F))),(7,.d (.ip (bJ x).cells)),(8,.d (.ip (rW x).cells))]) (λ_=>[]) 20000 ?_ hrest;refine w1 ?_
      repeat'(first|with_reducible refine O8.f rfl ?_|((with_reducible (first|refine wr ?_|refine wh ?_));(conv=>whnf))|((refine aF aOY ?_);(conv=>whnf)))
      refine aQ6 sM kK eD ?_;conv=>whnf
      repeat'(first|with_reducible refine O8.f rfl ?_|((with_reducible refine wh ?_);(conv=>whnf)))
      refine xV (by simp;exact⟨kK,oM⟩) ?_;conv=>whnf
      rw[hsl]
      repeat'(first|with_reducible refine O8.f rfl ?_|((with_reducible refine wh ?_);(conv=>whnf)))
      refine n8 (by simp only[aB];omega) kK ?_;conv=>whnf
      refine E9.mk (λh1=>?_) (λh1=>absurd hne (by simpa using h1));conv=>whnf
      repeat'(first|with_reducible (first|refine w2 ?_|refine w9 ?_|refine nN.mk ?_|refine O8.f rfl ?_)|((with_reducible (first|refine wi ?_|refine wh ?_));(conv=>whnf))|((refine aF hsn ?_);(conv=>whnf)))
      exact⟨(),trivial,by exact mZ⟩
     ·have hga:=aP3 (bJ x) hR.w.togA F hne hall (cL (hR.qK F oM) (bD rfl));have hrl:(oZ ((bJ x).uJ F)).length<=2^38:=cL (hR.YC (cV.1 hall)) (bD rfl);rw[<-hsl]at hga;generalize oZ ((bJ x).uJ F)=A at hga hgb hrl;refine w1 ?_
      repeat'((with_reducible refine wr ?_);(conv=>whnf))
      refine xV (by simp;exact⟨kK,oM⟩) ?_;conv=>whnf
      repeat'(first|with_reducible (first|refine w9 ?_|refine nN.mk ?_)|((refine fQ hga 901 rfl ?_);(conv=>whnf)))
      refine w1 ?_
      repeat'(first|with_reducible (first|refine w9 ?_|refine nN.mk ?_)|((with_reducible refine wr ?_);(conv=>whnf))|((refine aF hgb ?_);(conv=>whnf)))
      refine BH (λ_:Unit=>True) (λ_=>[(1,.d (.sl 4 (l.map U4.cells))),(2,.d (.sl 1 (iR F))),(7,.d (.ip (bJ x).cells)),(8,.d (.ip (rW x).cells))]) (λ_=>[]) 20000 ?_ hrest;refine w1 ?_
      repeat'(first|with_reducible refine O8.f rfl ?_|((with_reducible (first|refine wr ?_|refine wh ?_));(conv=>whnf))|((refine lN 901 (dU 25 1 (iR (over A A.length))) ((aIC A oM).AK (oJ _ _ _) (λg=>eT g _ _ _) (λg=>eT g _ _ _) rfl (by simp[Go.Pv.A.lQ,Go.Pv.A.hs]) (aK _) 901 rfl) ?_);(conv=>whnf)))
      refine aQ6 sM kK eD ?_;conv=>whnf
      repeat'(first|with_reducible refine O8.f rfl ?_|((with_reducible refine wh ?_);(conv=>whnf)))
      refine xV (by simp;exact⟨kK,oM⟩) ?_;conv=>whnf
      rw[hsl]
      repeat'(first|with_reducible refine O8.f rfl ?_|((with_reducible refine wh ?_);(conv=>whnf)))
      refine n8 (by simp only[aB];omega) kK ?_;conv=>whnf
      refine E9.mk (λh1=>absurd (by simpa using h1) hne) (λh1=>?_);conv=>whnf
      repeat'(first|with_reducible (first|refine w2 ?_|refine w9 ?_|refine nN.mk ?_|refine O8.f rfl ?_)|((with_reducible (first|refine wi ?_|refine wh ?_));(conv=>whnf))|((refine lN 3328 (dU 25 1 (iR (over F F.length))) ((aIC F oM).AK (oJ _ _ _) (λg=>eT g _ _ _) (λg=>eT g _ _ _) rfl (by simp[Go.Pv.A.lQ,Go.Pv.A.hs]) (aK _) 3328 rfl) ?_);(conv=>whnf)))
      exact⟨(),trivial,by exact mZ⟩
    ·have hga:=hga0 hall oM;have e1:(bJ x).v8 F=[]:=by unfold D4.v8;rw[if_neg hall]
     have e2:(bJ x).v7 F=5:=by unfold D4.v7;rw[if_neg hall]
     rw[e1,e2]at hgb;have hne:F≠[]:=λe=>hall (by rw[e];rfl);rw[<-hsl]at hga;refine w1 ?_
     repeat'((with_reducible refine wr ?_);(conv=>whnf))
     refine xV (by simp;exact⟨kK,oM⟩) ?_;conv=>whnf
     repeat'(first|with_reducible (first|refine w9 ?_|refine nN.mk ?_)|((refine aF hga ?_);(conv=>whnf)))
     refine w1 ?_
     repeat'(first|with_reducible (first|refine w9 ?_|refine nN.mk ?_)|((with_reducible refine wr ?_);(conv=>whnf))|((refine aF hgb ?_);(conv=>whnf)))
     refine BH (λ_:Unit=>True) (λ_=>[(1,.d (.sl 4 (l.map U4.cells))),(2,.d (.sl 1 (iR F))),(7,.d (.ip (bJ x).cells)),(8,.d (.ip (rW x).cells))]) (λ_=>[]) 20000 ?_ hrest;refine w1 ?_
     repeat'(first|with_reducible refine O8.f rfl ?_|((with_reducible (first|refine wr ?_|refine wh ?_));(conv=>whnf))|((refine aF aOY ?_);(conv=>whnf)))
     refine aQ6 sM kK eD ?_;conv=>whnf
     repeat'(first|with_reducible refine O8.f rfl ?_|((with_reducible refine wh ?_);(conv=>whnf)))
     refine xV (by simp;exact⟨kK,oM⟩) ?_;conv=>whnf
     rw[hsl]
     repeat'(first|with_reducible refine O8.f rfl ?_|((with_reducible refine wh ?_);(conv=>whnf)))
     refine n8 (by simp only[aB];omega) kK ?_;conv=>whnf
     refine E9.mk (λh1=>absurd (by simpa using h1) hne) (λh1=>?_);conv=>whnf
     repeat'(first|with_reducible (first|refine w2 ?_|refine w9 ?_|refine nN.mk ?_|refine O8.f rfl ?_)|((with_reducible (first|refine wi ?_|refine wh ?_));(conv=>whnf))|((refine lN 3328 (dU 25 1 (iR (over F F.length))) ((aIC F oM).AK (oJ _ _ _) (λg=>eT g _ _ _) (λg=>eT g _ _ _) rfl (by simp[Go.Pv.A.lQ,Go.Pv.A.hs]) (aK _) 3328 rfl) ?_);(conv=>whnf)))
     exact⟨(),trivial,by exact mZ⟩
   refine aWV [(1,.d (.sl 4 (l.map U4.cells))),(2,.d (.sl 1 (iR F))),(7,.d (.ip (bJ x).cells)),(8,.d (.ip (rW x).cells))] [] 40000 ?_ ?_
   ·intro hrest;have hgood:∀i(h:i<l.length),l[i].gA:=λi h=>hR.gA _ (aY h);have hgb:=aQF (rW x) hR.v l hR.ll hR.wD (λu hu=>cL (hR.nm u hu) (bD rfl)) (hR.univ _ (cL hR.aSN (bD rfl)));rw[<-hR.reach.1,<-hR.reach.2]at hgb;by_cases hck:l.all (bJ x).zE=true
    ·have hin:=hR.u6 hck;have hN:=hR.qK (pG l) (cL hR.aL2 (bD rfl));have hgo:=SU (w:=bJ x) (L:=pG l) (λr hr=>cV.1 hin r hr);have e1:(bJ x).gN l=oZ ((bJ x).uJ (pG l)):=by unfold D4.gN;rw[if_pos hck];exact hgo.1
     have e2:(bJ x).wF l=0:=by unfold D4.wF;rw[if_pos hck];exact hgo.2
     rw[e1,e2]at hgb;by_cases h0:pG l=[]
     ·have hga:=aQ3 (bJ x) hR.w l hR.ll hgood hN hck h0;rw[show(bJ x).uJ (pG l)=[] by rw[h0];exact aAD _,AT]at hgb;refine w1 ?_
      repeat'(first|with_reducible (first|refine w9 ?_|refine nN.mk ?_)|((with_reducible refine wr ?_);(conv=>whnf))|((refine aF hga ?_);(conv=>whnf)))
      refine w1 ?_
      repeat'(first|with_reducible (first|refine w9 ?_|refine nN.mk ?_)|((with_reducible refine wr ?_);(conv=>whnf))|((refine aF hgb ?_);(conv=>whnf)))
      refine BH (λ_:Unit=>True) (λ_=>[(1,.d (.sl 4 (l.map U4.cells))),(2,.d (.sl 1 (iR F))),(7,.d (.ip (bJ x).cells)),(8,.d (.ip (rW x).cells))]) (λ_=>[]) 40000 ?_ hrest;refine w1 ?_
      repeat'(first|with_reducible (first|refine w2 ?_|refine w9 ?_|refine nN.mk ?_|refine O8.f rfl ?_)|((with_reducible (first|refine wr ?_|refine wi ?_|refine wh ?_));(conv=>whnf))|((refine aF aOY ?_);(conv=>whnf)))
      exact⟨(),trivial,by exact mZ⟩
     ·have hga:=aQ5 (bJ x) hR.w l hR.ll hgood hN hck hin h0;have hrl:(oZ ((bJ x).uJ (pG l))).length<=2^38:=cL (hR.YC (cV.1 hin)) (bD rfl);generalize oZ ((bJ x).uJ (pG l))=A at hga hgb hrl;refine w1 ?_
      repeat'(first|with_reducible (first|refine w9 ?_|refine nN.mk ?_)|((with_reducible refine wr ?_);(conv=>whnf))|((refine fQ hga 901 rfl ?_);(conv=>whnf)))
      refine w1 ?_
      repeat'(first|with_reducible (first|refine w9 ?_|refine nN.mk ?_)|((with_reducible refine wr ?_);(conv=>whnf))|((refine aF hgb ?_);(conv=>whnf)))
      refine BH (λ_:Unit=>True) (λ_=>[(1,.d (.sl 4 (l.map U4.cells))),(2,.d (.sl 1 (iR F))),(7,.d (.ip (bJ x).cells)),(8,.d (.ip (rW x).cells))]) (λ_=>[]) 40000 ?_ hrest;refine w1 ?_
      repeat'(first|with_reducible (first|refine w2 ?_|refine w9 ?_|refine nN.mk ?_|refine O8.f rfl ?_)|((with_reducible (first|refine wr ?_|refine wi ?_|refine wh ?_));(conv=>whnf))|((refine lN 901 (dU 25 1 (iR (over A A.length))) ((aIC A oM).AK (oJ _ _ _) (λg=>eT g _ _ _) (λg=>eT g _ _ _) rfl (by simp[Go.Pv.A.lQ,Go.Pv.A.hs]) (aK _) 901 rfl) ?_);(conv=>whnf)))
      exact⟨(),trivial,by exact mZ⟩
    ·have hga:=aQ4 (bJ x) hR.w l hR.ll hgood hck;have e1:(bJ x).gN l=[]:=by unfold D4.gN;rw[if_neg hck]
     have e2:(bJ x).wF l=190:=by unfold D4.wF;rw[if_neg hck]
     rw[e1,e2]at hgb;refine w1 ?_
     repeat'(first|with_reducible (first|refine w9 ?_|refine nN.mk ?_)|((with_reducible refine wr ?_);(conv=>whnf))|((refine aF hga ?_);(conv=>whnf)))
     refine w1 ?_
     repeat'(first|with_reducible (first|refine w9 ?_|refine nN.mk ?_)|((with_reducible refine wr ?_);(conv=>whnf))|((refine aF hgb ?_);(conv=>whnf)))
     refine BH (λ_:Unit=>True) (λ_=>[(1,.d (.sl 4 (l.map U4.cells))),(2,.d (.sl 1 (iR F))),(7,.d (.ip (bJ x).cells)),(8,.d (.ip (rW x).cells))]) (λ_=>[]) 40000 ?_ hrest;refine w1 ?_
     repeat'(first|with_reducible (first|refine w2 ?_|refine w9 ?_|refine nN.mk ?_|refine O8.f rfl ?_)|((with_reducible (first|refine wr ?_|refine wi ?_|refine wh ?_));(conv=>whnf))|((refine aF aE3 ?_);(conv=>whnf)))
     exact⟨(),trivial,by exact mZ⟩
   refine w1 (w1 ?_)
   repeat'(first|with_reducible (first|refine w5 ?_|refine w8 ?_|refine w9 ?_|refine nN.mk ?_)|((with_reducible refine wr ?_);(conv=>whnf)))
   refine bV mix (λi:Nat=>i<=F.length) (I:=λi=>[(1,.d (.sl 4 (l.map U4.cells))),(2,.d (.sl 1 (iR F))),(7,.d (.ip (bJ x).cells)),(8,.d (.ip (rW x).cells)),(18,.d (ci i))]) (J:=λi=>[]) (μ:=λi=>F.length -i) 50000 0 oM (by exact mZ) ?_;intro i hi;by_cases hlt:i<F.length
   ·have hwa:=aSM (bJ x) hR.w F[i] l hR.ll (λi h=>hR.gA _ (aY h)) (λi h hc=>by
     have:=hR.aUF (aY h) hc
     exact⟨(hR.one _ (aY h)).qK _ (cL (hR.one _ (aY h)).aL2 (bD rfl)),this.2.1,oM⟩)
    have hwb:=aQG (rW x) hR.v F[i] l hR.ll hR.wD (λu hu=>cL (hR.nm u hu) (bD rfl)) (λu hu=>hR.univ _ (cL (RJ _) (cL (aPG _) (cL (hR.nm u hu) (bD rfl))))) (λu hu=>cL (hR.aSJ _) (bD rfl));rw[<-(hR.aVU F[i]).1,<-(hR.aVU F[i]).2]at hwb;have hWl:((bJ x).aAW F[i] l).length<=2^31:=by
     have:=(bJ x).aO4 F[i] l l.length;have:=hR.ll;unfold D4.aAW
     repeat' split
     all_goals first|(simp only[cS];omega)|omega
    generalize(bJ x).aAW F[i] l=W at hwa hwb hWl;generalize(bJ x).aJK F[i] l=e at hwa hwb
    repeat'(first|refine bl ?_|refine bS (λh=>?_) (λh=>?_)|refine cD rfl eD hlt (bw ?_)|refine aF hwa (bw ?_)|refine aF hwb (bw ?_)|refine aF D9 (bw ?_))
    ·contradiction
    ·contradiction
    ·refine cY mix (λj:Nat=>j<=W.length) (I:=λj=>[(1,.d (.sl 4 (l.map U4.cells))),(2,.d (.sl 1 (iR F))),(7,.d (.ip (bJ x).cells)),(8,.d (.ip (rW x).cells)),(18,.d (ci i)),(19,.d (.sl 1 (iR W))),(21,.d (.sl 1 (iR W))),(23,.d (ci j))]) (J:=λj=>[]) (μ:=λj=>W.length -j) 60000 0 2
      (λ_:Unit=>True) (λ_=>[(1,.d (.sl 4 (l.map U4.cells))),(2,.d (.sl 1 (iR F))),(7,.d (.ip (bJ x).cells)),(8,.d (.ip (rW x).cells)),(18,.d (ci i))]) (λ_=>[]) 70000 oM (by exact mZ) ?_ ?_
     ·intro j hj;by_cases hjl:j<W.length
      ·skip
       repeat'(first|with_reducible (first|refine w1 ?_|refine w2 ?_|refine w3 ?_|refine w4 ?_|refine w5 ?_|refine w9 ?_|refine wa ?_|refine wb ?_|refine wc ?_|refine wd ?_|refine wj ?_|refine wk ?_|refine wl ?_|refine nN.mk ?_)|((with_reducible (first|refine wr ?_|refine wi ?_|refine wx ?_));(conv=>whnf))|((with_reducible refine wt eD kK ?_);(conv=>whnf))|((with_reducible refine FC.mk (RG (by(try dsimp only);omega) (by(try dsimp only);omega)) ?_);(conv=>whnf))|((with_reducible refine nQ (λh=>?_) (λh=>?_))<;>(try rw[h])<;>(conv at h=>{simp}))|((refine cD rfl eD hjl ?_);(conv=>whnf)))
       ·contradiction
       ·exact⟨j+1,oM,oM,by exact mZ⟩
       ·exact⟨(),trivial,by exact mZ⟩
      ·have hj':j=W.length:=oM
       repeat'(first|with_reducible (first|refine w1 ?_|refine w2 ?_|refine w3 ?_|refine w5 ?_|refine w9 ?_|refine wa ?_|refine wk ?_|refine nN.mk ?_)|((with_reducible (first|refine wr ?_|refine wi ?_));(conv=>whnf))|((with_reducible refine wt eD kK ?_);(conv=>whnf))|((with_reducible refine nQ (λh=>?_) (λh=>?_))<;>(try rw[h])<;>(conv at h=>{simp})))
       ·exfalso;omega
       ·exact⟨(),trivial,by exact mZ⟩
     rintro _ _;refine bl ?_;exact⟨i+1,oM,oM,by exact mZ⟩
    ·exact dP rfl
    ·exact dP rfl
   ·have hi':i=F.length:=oM
    repeat'(first|refine bl ?_|refine bS (λh=>?_) (λh=>?_)|refine aF D9 (bw ?_))
    ·exfalso;omega
    ·exact dP rfl
    ·exact dP rfl
theorem V.oS:∀l:List V,(l.map V.cR).sum=V.dB l
 |[]=>rfl
 |v::r=>by simp only[aG,gU,V.dB,V.oS r]
mutual
def E4.wU:E4->Nat
 |.mk _ _ s l=>1+s.size+E4.NK l
def E4.NK:List E4->Nat
 |[]=>0
 |v::r=>E4.wU v+E4.NK r
end
mutual
def S4.wU:S4->Nat
 |.mk _ n1 n2 _ _ a b t e c w=>1+n1.size+n2.size+a.wU+b.wU+(w.map λs=>s.size+1).sum+S4.NK t+S4.NK e+S4.NK c
def S4.NK:List S4->Nat
 |[]=>0
 |v::r=>S4.wU v+S4.NK r
end
theorem E4.OZ:∀l:List E4,(l.map E4.wU).sum=E4.NK l
 |[]=>Eq.refl _
 |v::r=>by simp only[aG,gU,E4.NK,E4.OZ r]
theorem S4.OZ:∀l:List S4,(l.map S4.wU).sum=S4.NK l
 |[]=>rfl
 |v::r=>by simp only[aG,gU,S4.NK,S4.OZ r]
mutual
theorem E4.XL:∀v:E4,v.cR<=v.wU
 |.mk _ _ s l=>by have:=E4.xC l;simp only[E4.cR,E4.wU];omega
theorem E4.xC:∀l:List E4,E4.dB l<=E4.NK l
 |[]=>bT _
 |v::r=>by have:=E4.XL v;have:=E4.xC r;simp only[E4.dB,E4.NK];omega
end
mutual
theorem E4.aUO:∀v:E4,v.wU<=2^40->v.ss
 |.mk _ _ s l,h=>by simp only[E4.wU]at h;exact⟨oM,E4.aUN l oM⟩
theorem E4.aUN:∀l:List E4,E4.NK l<=2^40->E4.US l
 |[],_=>trivial
 |v::r,h=>by simp only[E4.NK]at h;exact⟨E4.aUO v oM,E4.aUN r oM⟩
end
theorem aVS:∀w:List ByteArray,w.length<=(w.map λs=>s.size+1).sum
 |[]=>sM
 |s::w=>by have:=aVS w;simp only[aG,gU,aQ];omega
theorem aVT:∀w:List ByteArray,∀s∈w,s.size<=(w.map λs=>s.size+1).sum
 |[],s,h=>by simp at h
 |a::w,s,h=>by
  simp only[aG,gU];rcases aO.1 h with rfl|h
  ·omega
  ·have:=aVT w s h;omega
mutual
theorem S4.XL:∀v:S4,v.cR<=v.wU
 |.mk _ _ _ _ _ a b t e c w=>by
  have:=a.XL;have:=b.XL;have:=S4.xC t;have:=S4.xC e;have:=S4.xC c;have:=aVS w;simp only[S4.cR,S4.wU];omega
theorem S4.xC:∀l:List S4,S4.dB l<=S4.NK l
 |[]=>bT _
 |v::r=>by have:=S4.XL v;have:=S4.xC r;simp only[S4.dB,S4.NK];omega
end
mutual
theorem S4.aWF:∀v:S4,v.wt->v.wU<=2^36->v.SZ
 |.mk op n1 n2 ab wh a b t e c w,h,hv=>by
  have hc:=S4.XL (.mk op n1 n2 ab wh a b t e c w);have hm:=aVT w;simp only[S4.wt]at h;obtain⟨h1,h2,h3,h4,_,_,_,_,h5,h6,h7⟩:=h;simp only[S4.wU]at hv hc;refine⟨⟨oM,⟨h1,h2⟩,⟨h3,h4⟩,?_,?_,E4.aUO a oM,E4.aUO b oM,λs hs=>?_⟩,S4.aEZ t h5 oM,S4.aEZ e h6 oM,S4.aEZ c h7 oM⟩
  ·show n1.size<=2^40;omega
  ·show n2.size<=2^40;omega
  ·have:=hm s hs;omega
theorem S4.aEZ:∀l:List S4,S4.B5 l->S4.NK l<=2^36->S4.aO6 l
 |[],_,_=>trivial
 |v::r,h,hv=>by
  simp only[S4.NK]at hv;exact⟨S4.aWF v h.1 oM,S4.aEZ r h.2 oM⟩
end
theorem V.rM:∀l:List V,(∀x∈l,x.wt)->V.B5 l
 |[],_=>trivial
 |v::r,h=>⟨h v sM,V.rM r λx hx=>h x (by simp[hx])⟩
theorem E4.rM:∀l:List E4,(∀x∈l,x.wt)->E4.B5 l
 |[],_=>trivial
 |v::r,h=>⟨h v sM,E4.rM r λx hx=>h x (by simp[hx])⟩
theorem S4.rM:∀l:List S4,(∀x∈l,x.wt/\x.ab)->S4.B5 l/\S4.RF l
 |[],_=>⟨trivial,trivial⟩
 |v::r,h=>by
  have h1:=h v sM;have h2:=S4.rM r λx hx=>h x (by simp[hx]);exact⟨⟨h1.1,h2.1⟩,⟨h1.2,h2.2⟩⟩
theorem E1{α:Type}:∀l:List α,(l.map λ_=>1).sum=l.length
 |[]=>rfl
 |v::r=>by simp only[aG,gU,aQ,E1 r];omega
theorem aMV:V.row=V.cells:=funext V.cP
theorem aNA:E4.row=E4.cells:=funext E4.cP
theorem aMI:S4.row=S4.cells:=funext S4.cP
theorem U3:IntKind.u8.min=0/\IntKind.u8.max=255:=eD
theorem BQ:IntKind.i64.min=-9223372036854775808/\IntKind.i64.max=9223372036854775807:=eD
section
variable{H:Type}{enc:TypeId×Value->H}{w:World}
abbrev PB(w:World)(enc:TypeId×Value->H)(n:Nat)(t:TypeId)(cs:List Value)(d:DataW H):Prop:=xF enc Tryz.prog w n t cs d
theorem aN3:Tryz.prog.underlying 85=some (.int .u8):=kK
theorem ty2:Tryz.prog.underlying 2=some (.int .i64):=kK
theorem W3:Tryz.prog.underlying 25=some (.int .i64):=kK
theorem aMR:Tryz.prog.underlying 84=some (.int .u8):=kK
theorem aK8:Tryz.prog.underlying 28=some (.int .i64):=kK
theorem aMT:Tryz.prog.underlying 89=some (.int .u8):=kK
theorem aML:Tryz.prog.underlying 203=some (.int .u8):=kK
theorem aMM:Tryz.prog.underlying 204=some (.int .u8):=kK
theorem ty3:Tryz.prog.underlying 3=some (.int .i64):=kK
theorem S8:Tryz.prog.underlying 9=some .string:=kK
theorem ty4:Tryz.prog.underlying 4=some .bool:=kK
theorem aMS:Tryz.prog.underlying 86=some (.slice 88):=kK
theorem aLS:Tryz.prog.cellsOf 88=5:=kK
theorem aMN:Tryz.prog.underlying 205=some (.slice 207):=kK
theorem aLQ:Tryz.prog.cellsOf 207=4:=kK
theorem aIQ:Tryz.prog.underlying 29=some (.slice 210):=kK
theorem aGS:Tryz.prog.cellsOf 210=17:=kK
theorem aMP:Tryz.prog.underlying 208=some (.slice 9):=kK
theorem aLR:Tryz.prog.cellsOf 9=1:=kK
theorem aNZ:Tryz.prog.underlying 30=some (.slice 100):=kK
theorem aM7:Tryz.prog.cellsOf 100=6:=kK
theorem aNV:Tryz.prog.underlying 22=some (.slice 28):=kK
theorem aM4:Tryz.prog.cellsOf 28=1:=kK
theorem aNW:Tryz.prog.underlying 23=some (.slice 3):=kK
theorem aM5:Tryz.prog.cellsOf 3=1:=kK
theorem aNX:Tryz.prog.underlying 24=some (.slice 93):=kK
theorem aM6:Tryz.prog.cellsOf 93=17:=kK
theorem aN0:Tryz.prog.underlying 31=some (.slice 25):=kK
theorem aM8:Tryz.prog.cellsOf 25=1:=kK
theorem aN2:Tryz.prog.underlying 35=some (.slice 33):=kK
theorem aM9:Tryz.prog.cellsOf 33=4:=kK
theorem aN4:u7 Tryz.prog 88=some [85,2,9,86,25]:=kK
theorem aMO:u7 Tryz.prog 207=some [204,2,9,205]:=kK
theorem aMQ:u7 Tryz.prog 210=some [203,9,9,89,84,207,207,29,29,29,208]:=kK
theorem aMK:u7 Tryz.prog 100=some [9,88]:=kK
theorem aN5:u7 Tryz.prog 91=some [84,28,88,86,2,2,25,25,89,4,29,30]:=kK
theorem aN6:u7 Tryz.prog 93=some [25,91]:=kK
theorem aNY:u7 Tryz.prog 27=some [22,23,24,25,23]:=kK
theorem aN1:u7 Tryz.prog 33=some [28,29,30,31]:=kK
theorem aJI{t:TypeId}{d:DataW H}(ht:Tryz.prog.underlying t=some .string)(h:PB w enc n t cs d):∃s,sL w [.v (.string s)] cs/\s.size+1<=rI d:=by
 obtain⟨ps,h⟩:=h;cases n with
 |zero=>simp[DataW.trod]at h
 |succ n=>
  unfold DataW.trod at h;rw[ht]at h;split at h<;>try(simp at h;done)
  all_goals(rename_i hu;try(cases hu;done))
  rename_i s;split at h
  ·simp only[aA,aD]at h;exact⟨_,sL.one rfl,by rw[<-h.1];simp[rI,Go.Proofs.YtpdcbahjjmooiaaGreat.Rows.uptoBulk]⟩
  ·cases h
theorem aNO{d:DataW H}(h:PB w enc n 22 cs d):∃l:List Int,sL w [.sl 1 (iR l)] cs/\l.length+1<=rI d:=by
 obtain⟨l,h1,h2,_⟩:=oV (λx:Int=>[ci x]) (λ_=>1) (λ_=>True) 1 aNV aM4 eD (λk hk cs d h=>by
  obtain⟨i,h1,h2,_⟩:=kQ aK8 h
  exact⟨i,h1,h2,trivial⟩) h
 exact⟨l,h1,by rw[E1]at h2;exact h2⟩
theorem aMB{d:DataW H}(h:PB w enc n 23 cs d):∃l:List Int,sL w [.sl 1 (iR l)] cs/\l.length+1<=rI d:=by
 obtain⟨l,h1,h2,_⟩:=oV (λx:Int=>[ci x]) (λ_=>1) (λ_=>True) 1 aNW aM5 eD (λk hk cs d h=>by
  obtain⟨i,h1,h2,_⟩:=kQ ty3 h
  exact⟨i,h1,h2,trivial⟩) h
 exact⟨l,h1,by rw[E1]at h2;exact h2⟩
theorem aNP{d:DataW H}(h:PB w enc n 31 cs d):∃l:List Int,sL w [.sl 1 (iR l)] cs/\l.length+1<=rI d:=by
 obtain⟨l,h1,h2,_⟩:=oV (λx:Int=>[ci x]) (λ_=>1) (λ_=>True) 1 aN0 aM8 eD (λk hk cs d h=>by
  obtain⟨i,h1,h2,_⟩:=kQ W3 h
  exact⟨i,h1,h2,trivial⟩) h
 exact⟨l,h1,by rw[E1]at h2;exact h2⟩
theorem aMA{d:DataW H}(h:PB w enc n 208 cs d):∃l:List ByteArray,sL w [.sl 1 (l.map λs=>[Go.Pv.cs s])] cs/\(l.map λs=>s.size+1).sum+1<=rI d:=by
 obtain⟨l,h1,h2,_⟩:=oV (λx:ByteArray=>[Go.Pv.cs x]) (λs=>s.size+1) (λ_=>True) 1 aMP aLR eD (λk hk cs d h=>by
  obtain⟨i,h1,h2⟩:=aJI S8 h
  exact⟨i,h1,h2,trivial⟩) h
 exact⟨l,h1,h2⟩
theorem riV:∀(n:Nat){cs:List Value}{d:DataW H},PB w enc n 88 cs d->∃v:V,sL w v.cells cs/\v.cR<=rI d/\v.wt:=by
 intro n;induction n using Nat.strongRecOn with|_ n ih=>?_
 intro cs d h;obtain⟨k,ds,rfl,hb,hf⟩:=p9 aN4 h;obtain⟨a0,b0,d0,r0,rfl,rfl,h0,hf⟩:=hf;obtain⟨a1,b1,d1,r1,rfl,rfl,h1,hf⟩:=hf;obtain⟨a2,b2,d2,r2,rfl,rfl,h2,hf⟩:=hf;obtain⟨a3,b3,d3,r3,rfl,rfl,h3,hf⟩:=hf;obtain⟨a4,b4,d4,r4,rfl,rfl,h4,hf⟩:=hf;obtain⟨rfl,rfl⟩:=hf;obtain⟨x0,g0,m0,e0,F0⟩:=kQ aN3 h0;obtain⟨x1,g1,m1,e1,F1⟩:=kQ ty2 h1;obtain⟨x2,g2,m2⟩:=GX S8 h2;obtain⟨l,g3,m3,q3⟩:=oV V.cells V.cR V.wt 5 aMS aLS eD (λj hj cs d h=>ih j oM h) h3;obtain⟨x4,g4,m4,e4,F4⟩:=kQ W3 h4;simp only[mE]at hb;have hn:rZ ([]:List (DataW H))=0:=rfl
 try simp only[U3.1,U3.2,BQ.1,BQ.2]at*
 have G:=g0.app (g1.app (g2.app (g3.app (g4.app sL.nil))));rw[V.oS]at m3;refine⟨.mk x0 x1 x2 l x4,?_,?_,?_⟩
 ·simpa [V.cells,V.kind,V.n,V.s,V.l,V.r,aMV]using G
 ·simp only[V.cR];omega
 ·exact⟨e0,oM,V.rM l q3⟩
theorem aNR{d:DataW H}(h:PB w enc n 86 cs d):∃l:List V,sL w [.sl 5 (l.map V.row)] cs/\V.dB l+1<=rI d/\V.B5 l:=by
 obtain⟨l,h1,h2,h3⟩:=oV V.cells V.cR V.wt 5 aMS aLS eD (λk _ cs d h=>riV k h) h;exact⟨l,by rw[aMV];exact h1,by rw[V.oS]at h2;exact h2,V.rM l h3⟩
theorem riE:∀(n:Nat){cs:List Value}{d:DataW H},PB w enc n 207 cs d->∃v:E4,sL w v.cells cs/\v.wU<=rI d/\v.wt:=by
 intro n;induction n using Nat.strongRecOn with|_ n ih=>?_
 intro cs d h;obtain⟨k,ds,rfl,hb,hf⟩:=p9 aMO h;obtain⟨a0,b0,d0,r0,rfl,rfl,h0,hf⟩:=hf;obtain⟨a1,b1,d1,r1,rfl,rfl,h1,hf⟩:=hf;obtain⟨a2,b2,d2,r2,rfl,rfl,h2,hf⟩:=hf;obtain⟨a3,b3,d3,r3,rfl,rfl,h3,hf⟩:=hf;obtain⟨rfl,rfl⟩:=hf;obtain⟨x0,g0,m0,e0,F0⟩:=kQ aMM h0;obtain⟨x1,g1,m1,e1,F1⟩:=kQ ty2 h1;obtain⟨x2,g2,m2⟩:=aJI S8 h2;obtain⟨l,g3,m3,q3⟩:=oV E4.cells E4.wU E4.wt 4 aMN aLQ eD (λj hj cs d h=>ih j oM h) h3;simp only[mE]at hb;have hn:rZ ([]:List (DataW H))=0:=rfl
 try simp only[U3.1,U3.2,BQ.1,BQ.2]at*
 have G:=g0.app (g1.app (g2.app (g3.app sL.nil)));rw[E4.OZ]at m3;refine⟨.mk x0 x1 x2 l,?_,?_,?_⟩
 ·simpa [E4.cells,E4.kind,E4.n,E4.s,E4.l,aNA]using G
 ·simp only[E4.wU];omega
 ·exact⟨e0,oM,E4.rM l q3⟩
theorem riS:∀(n:Nat){cs:List Value}{d:DataW H},PB w enc n 210 cs d->∃v:S4,sL w v.cells cs/\v.wU<=rI d/\v.wt/\v.ab:=by
 intro n;induction n using Nat.strongRecOn with|_ n ih=>?_
 intro cs d h;obtain⟨k,ds,rfl,hb,hf⟩:=p9 aMQ h;obtain⟨a0,b0,d0,r0,rfl,rfl,h0,hf⟩:=hf;obtain⟨a1,b1,d1,r1,rfl,rfl,h1,hf⟩:=hf;obtain⟨a2,b2,d2,r2,rfl,rfl,h2,hf⟩:=hf;obtain⟨a3,b3,d3,r3,rfl,rfl,h3,hf⟩:=hf;obtain⟨a4,b4,d4,r4,rfl,rfl,h4,hf⟩:=hf;obtain⟨a5,b5,d5,r5,rfl,rfl,h5,hf⟩:=hf;obtain⟨a6,b6,d6,r6,rfl,rfl,h6,hf⟩:=hf;obtain⟨a7,b7,d7,r7,rfl,rfl,h7,hf⟩:=hf;obtain⟨a8,b8,d8,r8,rfl,rfl,h8,hf⟩:=hf;obtain⟨a9,b9,d9,r9,rfl,rfl,h9,hf⟩:=hf;obtain⟨a10,b10,d10,r10,rfl,rfl,h10,hf⟩:=hf;obtain⟨rfl,rfl⟩:=hf;obtain⟨x0,g0,m0,e0,F0⟩:=kQ aML h0;obtain⟨x1,g1,m1⟩:=aJI S8 h1;obtain⟨x2,g2,m2⟩:=aJI S8 h2;obtain⟨x3,g3,m3,e3,F3⟩:=kQ aMT h3;obtain⟨x4,g4,m4,e4,F4⟩:=kQ aMR h4;obtain⟨x5,g5,m5,q5⟩:=riE _ h5;obtain⟨x6,g6,m6,q6⟩:=riE _ h6;obtain⟨x7,g7,m7,q7⟩:=oV S4.cells S4.wU (λv=>v.wt/\v.ab) 17 aIQ aGS eD (λj hj cs d h=>ih j oM h) h7;obtain⟨x8,g8,m8,q8⟩:=oV S4.cells S4.wU (λv=>v.wt/\v.ab) 17 aIQ aGS eD (λj hj cs d h=>ih j oM h) h8;obtain⟨x9,g9,m9,q9⟩:=oV S4.cells S4.wU (λv=>v.wt/\v.ab) 17 aIQ aGS eD (λj hj cs d h=>ih j oM h) h9;obtain⟨x10,g10,m10⟩:=aMA h10;simp only[mE]at hb;have hn:rZ ([]:List (DataW H))=0:=rfl
 try simp only[U3.1,U3.2,BQ.1,BQ.2]at*
 have G:=g0.app (g1.app (g2.app (g3.app (g4.app (g5.app (g6.app (g7.app (g8.app (g9.app (g10.app sL.nil))))))))));rw[S4.OZ]at m7 m8 m9;have t7:=S4.rM x7 q7;have t8:=S4.rM x8 q8;have t9:=S4.rM x9 q9;refine⟨.mk x0 x1 x2 x3 x4 x5 x6 x7 x8 x9 x10,?_,?_,?_,?_⟩
 ·simpa [S4.cells,S4.op,S4.name,S4.second,S4.jR,S4.bQ,S4.a,S4.b,S4.t,S4.e,S4.c,S4.w,aMI,E4.cells]using G
 ·simp only[S4.wU];omega
 ·exact⟨e0,oM,e3,oM,e4,oM,q5,q6,t7.1,t8.1,t9.1⟩
 ·exact⟨⟨e3,oM⟩,t7.2,t8.2,t9.2⟩
theorem aMC{d:DataW H}(h:PB w enc n 29 cs d):∃l:List S4,sL w [.sl 17 (l.map S4.row)] cs/\S4.NK l+1<=rI d/\S4.B5 l/\S4.RF l:=by
 obtain⟨l,h1,h2,h3⟩:=oV S4.cells S4.wU (λv=>v.wt/\v.ab) 17 aIQ aGS eD (λk _ cs d h=>riS k h) h;exact⟨l,by rw[aMI];exact h1,by rw[S4.OZ]at h2;exact h2,S4.rM l h3⟩
theorem aRM:∀l:List N4,V.dB (l.map (·.value))+l.length<=(l.map λv=>v.value.cR+v.name.size+1).sum
 |[]=>by simp[V.dB]
 |v::r=>by have:=aRM r;simp only[aG,gU,aQ,V.dB];omega
theorem aR7:∀l:List N4,∀n∈l,n.name.size<=(l.map λv=>v.value.cR+v.name.size+1).sum
 |[],n,h=>by simp at h
 |v::r,n,h=>by
  simp only[aG,gU];rcases aO.1 h with rfl|h
  ·omega
  ·have:=aR7 r n h;omega
theorem riN{d:DataW H}(h:PB w enc n 100 cs d):∃v:N4,sL w v.cells cs/\v.value.cR+v.name.size+1<=rI d/\v.value.wt:=by
 obtain⟨k,ds,rfl,hb,hf⟩:=p9 aMK h;obtain⟨a0,b0,d0,r0,rfl,rfl,h0,hf⟩:=hf;obtain⟨a1,b1,d1,r1,rfl,rfl,h1,hf⟩:=hf;obtain⟨rfl,rfl⟩:=hf;obtain⟨x0,g0,m0⟩:=aJI S8 h0;obtain⟨x1,g1,m1,q1⟩:=riV _ h1;simp only[mE]at hb;have hn:rZ ([]:List (DataW H))=0:=rfl
 try simp only[U3.1,U3.2,BQ.1,BQ.2]at*
 have G:=g0.app (g1.app sL.nil);refine⟨⟨x0,x1⟩,?_,?_,q1⟩
 ·simpa [N4.cells,V.cells]using G
 ·(try dsimp only);omega
theorem aMD{d:DataW H}(h:PB w enc n 30 cs d):∃l:List N4,sL w [.sl 6 (l.map N4.cells)] cs/\(l.map λv=>v.value.cR+v.name.size+1).sum+1<=rI d/\V.B5 (l.map (·.value)):=by
 obtain⟨l,h1,h2,h3⟩:=oV N4.cells (λv=>v.value.cR+v.name.size+1) (λv=>v.value.wt) 6 aNZ aM7 eD (λk _ cs d h=>riN h) h;refine⟨l,h1,h2,V.rM _ λx hx=>?_⟩;obtain⟨y,hy,rfl⟩:=aA4.1 hx;exact h3 y hy
theorem riW{d:DataW H}(h:PB w enc n 91 cs d):∃v:W4,sL w v.cells cs/\v.cR<=rI d/\v.wt/\-9223372036854775808<=v.home/\v.home<=9223372036854775807:=by
 obtain⟨k,ds,rfl,hb,hf⟩:=p9 aN5 h;obtain⟨a0,b0,d0,r0,rfl,rfl,h0,hf⟩:=hf;obtain⟨a1,b1,d1,r1,rfl,rfl,h1,hf⟩:=hf;obtain⟨a2,b2,d2,r2,rfl,rfl,h2,hf⟩:=hf;obtain⟨a3,b3,d3,r3,rfl,rfl,h3,hf⟩:=hf;obtain⟨a4,b4,d4,r4,rfl,rfl,h4,hf⟩:=hf;obtain⟨a5,b5,d5,r5,rfl,rfl,h5,hf⟩:=hf;obtain⟨a6,b6,d6,r6,rfl,rfl,h6,hf⟩:=hf;obtain⟨a7,b7,d7,r7,rfl,rfl,h7,hf⟩:=hf;obtain⟨a8,b8,d8,r8,rfl,rfl,h8,hf⟩:=hf;obtain⟨a9,b9,d9,r9,rfl,rfl,h9,hf⟩:=hf;obtain⟨a10,b10,d10,r10,rfl,rfl,h10,hf⟩:=hf;obtain⟨a11,b11,d11,r11,rfl,rfl,h11,hf⟩:=hf;obtain⟨rfl,rfl⟩:=hf;obtain⟨x0,g0,m0,e0,F0⟩:=kQ aMR h0;obtain⟨x1,g1,m1,e1,F1⟩:=kQ aK8 h1;obtain⟨x2,g2,m2,q2⟩:=riV _ h2;obtain⟨x3,g3,m3,q3⟩:=aNR h3;obtain⟨x4,g4,m4,e4,F4⟩:=kQ ty2 h4;obtain⟨x5,g5,m5,e5,F5⟩:=kQ ty2 h5;obtain⟨x6,g6,m6,e6,F6⟩:=kQ W3 h6;obtain⟨x7,g7,m7,e7,F7⟩:=kQ W3 h7;obtain⟨x8,g8,m8,e8,F8⟩:=kQ aMT h8;obtain⟨x9,g9,m9⟩:=aIP ty4 h9;obtain⟨x10,g10,m10,q10,_⟩:=aMC h10;have m10v:=S4.xC x10;obtain⟨x11,g11,m11,q11⟩:=aMD h11;have m11v:=aRM x11;simp only[mE]at hb;have hn:rZ ([]:List (DataW H))=0:=rfl
 try simp only[U3.1,U3.2,BQ.1,BQ.2]at*
 have G:=g0.app (g1.app (g2.app (g3.app (g4.app (g5.app (g6.app (g7.app (g8.app (g9.app (g10.app (g11.app sL.nil)))))))))));refine⟨⟨x0,x1,x2,x3,x4,x5,x6,x7,x8,x9,x10,x11⟩,?_,?_,⟨q2,q3,q11,q10,⟨e0,by(try dsimp only);omega⟩,⟨e8,by(try dsimp only);omega⟩⟩,e1,F1⟩
 ·simpa [W4.cells,V.cells]using G
 ·simp only[W4.cR];omega
theorem riT{d:DataW H}(h:PB w enc n 93 cs d):∃v:T4,sL w v.cells cs/\v.bQ.cR+1<=rI d/\v.bQ.wt/\-9223372036854775808<=v.bQ.home/\v.bQ.home<=9223372036854775807:=by
 obtain⟨k,ds,rfl,hb,hf⟩:=p9 aN6 h;obtain⟨a0,b0,d0,r0,rfl,rfl,h0,hf⟩:=hf;obtain⟨a1,b1,d1,r1,rfl,rfl,h1,hf⟩:=hf;obtain⟨rfl,rfl⟩:=hf;obtain⟨x0,g0,m0,e0,F0⟩:=kQ W3 h0;obtain⟨x1,g1,m1,q1⟩:=riW h1;simp only[mE]at hb;have hn:rZ ([]:List (DataW H))=0:=rfl
 try simp only[U3.1,U3.2,BQ.1,BQ.2]at*
 have G:=g0.app (g1.app sL.nil);refine⟨⟨x0,x1⟩,?_,?_,q1⟩
 ·simpa [T4.cells]using G
 ·(try dsimp only);omega
theorem WZ{α:Type}(f:α->Nat):∀(l:List α),∀x∈l,f x<=(l.map f).sum
 |v::r,x,h=>by
  simp only[aG,gU];rcases aO.1 h with e|e
  ·subst e;omega
  ·have:=WZ f r x e;omega
theorem Q7{α:Type}(f:α->Nat)(hf:∀x,1<=f x):∀(l:List α),l.length<=(l.map f).sum
 |[]=>sM
 |v::r=>by
  have:=Q7 f hf r;have:=hf v;simp only[aG,gU,aQ];omega
theorem riX{d:DataW H}(h:PB w enc n 27 cs d)(hB:rI d<=1048576):∃x:X4,sL w x.cells cs/\(∀t∈x.things,t.bQ.cR<=2^20/\t.bQ.wt)/\x.things.length<=2^30/\x.parents.length<=2^38/\x.cuts.length<=2^38/\x.made.length<=2^38/\∀t∈x.things,-9223372036854775808<=t.bQ.home/\t.bQ.home<=9223372036854775807:=by
 obtain⟨k,ds,rfl,hb,hf⟩:=p9 aNY h;obtain⟨a0,b0,d0,r0,rfl,rfl,h0,hf⟩:=hf;obtain⟨a1,b1,d1,r1,rfl,rfl,h1,hf⟩:=hf;obtain⟨a2,b2,d2,r2,rfl,rfl,h2,hf⟩:=hf;obtain⟨a3,b3,d3,r3,rfl,rfl,h3,hf⟩:=hf;obtain⟨a4,b4,d4,r4,rfl,rfl,h4,hf⟩:=hf;obtain⟨rfl,rfl⟩:=hf;obtain⟨x0,g0,m0⟩:=aNO h0;obtain⟨x1,g1,m1⟩:=aMB h1;obtain⟨x2,g2,m2,q2⟩:=oV T4.cells (λv=>v.bQ.cR+1) (λv=>v.bQ.wt/\-9223372036854775808<=v.bQ.home/\v.bQ.home<=9223372036854775807) 17 aNX aM6 eD (λk _ cs d h=>riT h) h2;obtain⟨x3,g3,m3,e3,F3⟩:=kQ W3 h3;obtain⟨x4,g4,m4⟩:=aMB h4;simp only[mE]at hb;have hn:rZ ([]:List (DataW H))=0:=rfl
 try simp only[U3.1,U3.2,BQ.1,BQ.2]at*
 have G:=g0.app (g1.app (g2.app (g3.app (g4.app sL.nil))));have hl:=Q7 (λv:T4=>v.bQ.cR+1) (λ_=>oM) x2;refine⟨⟨x0,x1,x2,x3,x4⟩,?_,?_,?_,?_,?_,?_,?_⟩
 ·simpa [X4.cells]using G
 ·intro t ht;have:=WZ (λv:T4=>v.bQ.cR+1) x2 t ht;exact⟨by(try dsimp only at this);omega,(q2 t ht).1⟩
 ·(try dsimp only);omega
 ·(try dsimp only);omega
 ·(try dsimp only);omega
 ·(try dsimp only);omega
 ·exact λt ht=>(q2 t ht).2
def U4.m(u:U4):Nat:=S4.NK u.code+(u.names.map λv=>v.value.cR+v.name.size+1).sum+u.seen.length+1
def U4.p(u:U4):Prop:=(-9223372036854775808<=u.side/\u.side<=9223372036854775807)/\S4.RF u.code/\S4.B5 u.code/\V.B5 (u.names.map (·.value))
theorem riU{d:DataW H}(h:PB w enc n 33 cs d):∃u:U4,sL w u.cells cs/\u.m<=rI d/\u.p:=by
 obtain⟨k,ds,rfl,hb,hf⟩:=p9 aN1 h;obtain⟨a0,b0,d0,r0,rfl,rfl,h0,hf⟩:=hf;obtain⟨a1,b1,d1,r1,rfl,rfl,h1,hf⟩:=hf;obtain⟨a2,b2,d2,r2,rfl,rfl,h2,hf⟩:=hf;obtain⟨a3,b3,d3,r3,rfl,rfl,h3,hf⟩:=hf;obtain⟨rfl,rfl⟩:=hf;obtain⟨x0,g0,m0,e0,F0⟩:=kQ aK8 h0;obtain⟨x1,g1,m1,q1,q1b⟩:=aMC h1;obtain⟨x2,g2,m2,q2⟩:=aMD h2;obtain⟨x3,g3,m3⟩:=aNP h3;simp only[mE]at hb;have hn:rZ ([]:List (DataW H))=0:=rfl
 try simp only[U3.1,U3.2,BQ.1,BQ.2]at*
 have G:=g0.app (g1.app (g2.app (g3.app sL.nil)));refine⟨⟨x0,x1,x2,x3⟩,?_,?_,⟨e0,F0⟩,q1b,q1,q2⟩
 ·simpa [U4.cells]using G
 ·simp only[U4.m];omega
theorem aNQ{d:DataW H}(h:PB w enc n 35 cs d)(hB:rI d<=1048576):∃l:List U4,sL w [.sl 4 (l.map U4.cells)] cs/\l.length<=2^30/\∀u∈l,u.gA/\u.wD/\V.dB (u.names.map (·.value))<=2^20:=by
 obtain⟨l,h1,h2,h3⟩:=oV U4.cells U4.m U4.p 4 aN2 aM9 eD (λk _ cs d h=>riU h) h;have hl:=Q7 U4.m (λu=>by simp only[U4.m];omega) l;refine⟨l,h1,oM,λu hu=>?_⟩;have h4:=WZ U4.m l u hu;have h5:=aRM u.names;have h8:=S4.xC u.code;obtain⟨p1,p2,p3,p4⟩:=h3 u hu;simp only[U4.m]at h4;exact⟨⟨p1,oM,p2,oM,oM,oM⟩,⟨p1,oM,S4.aEZ _ p3 oM,oM,p4,λn hn=>by have:=aR7 u.names n hn;omega,oM,oM⟩,oM⟩
theorem aGO{n2 n3:Nat}{a b c:List Value}{d1 d2 d3:DataW H}(h1:PB w enc n 27 a d1)(h2:PB w enc n2 35 b d2)(h3:PB w enc n3 31 c d3)(hB:rI d1+rI d2+rI d3<=1048576):
 ∃(x:X4)(l:List U4)(F:List Int),aSB x l/\F.length<=2^30/\sL w x.cells a/\sL w [.sl 4 (l.map U4.cells)] b/\sL w [.sl 1 (iR F)] c:=by
 obtain⟨x,g1,p1,p2,p3,p4,p5,p6⟩:=riX h1 oM;obtain⟨l,g2,q1,q2⟩:=aNQ h2 oM;obtain⟨F,g3,m3⟩:=aNP h3;exact⟨x,l,F,⟨p1,p2,p3,p4,p5,p6,q1,λu h=>(q2 u h).1,λu h=>(q2 u h).2.1,λu h=>(q2 u h).2.2⟩,oM,g1,g2,g3⟩
end
open Go.ChangeShapes Go.WideShapes Go.ChangeAt Go.RowKit
theorem aMW{P:Program}{f:FuncId}{cs:List C}{vs:List Value}(h:aJ P f (cs.map .d) (λ_=>none) (.ok (.d (.v (.bool true)))) (λ_=>none))(hd:C.bR w (λ_=>False) cs vs):
 Calls P f vs.toArray w λe w'=>e=.returned (.bool true)/\iF (λ_=>False) w w':=by
 have h0:bC (λ_=>False) (λ_=>False) w ⟨0,none⟩ (λ_=>.x) (λ_=>none) (λ_=>undef) {tmps:= #[],defers:=[]} w:=
  {keeps:=iF.refl _ _,size:=rfl,defers:=(λds e=>by cases e),tmps:=(λn=>by simp[A.Den]),res:=(λi r e=>by cases e),own:=(λi r b e=>by cases e),apart:=(λi j r r2 b e=>by cases e)}
 refine(h.2 _ _ _ _ w _ _ w h0 (λb e=>e.elim) vs ?_).mono ?_
 ·refine A.iO.2 (C.dK (dV.refl _ w) (λb hb _=>?_) _ _ hd);rcases hb with hb|⟨i,r,hb,_⟩
  ·exact hb
  ·cases hb
 ·rintro e w' ⟨ρ',h1,_,y,rfl,hy⟩;simp only[A.Den,C.Den]at hy;subst hy;exact⟨rfl,h1.keeps⟩
theorem sL.agg{w:World}{l:List C}{vs:Array Value}(h:sL w l vs.toList):C.Den w (λ_=>False) (.agg l) (.agg vs):=by
 simp only[C.Den];exact⟨vs,rfl,h.2,h.1⟩
theorem sL.den{c:C}{v:Value}(h:sL w [c] [v]):C.Den w (λ_=>False) c v:=by
 have:=h.1;simp only[C.bR]at this;obtain⟨y,yr,h1,h2,rfl⟩:=this;simp only[iX,and_true]at h1;rw[h1];exact h2
theorem iF.sameAt{w w':World}(h:iF (λ_=>False) w w'){p:MemPlace}(hb:p.block<w.heap.size):w.sameAt w' p:=by
 cases p with
 |cell b o=>exact World.cell?_of_block (h.block b hb λe=>e)
 |map b=>exact h.block b hb λe=>e
section
variable{H:Type}{enc:TypeId×Value->H}{P:Program}
theorem M8(hl:laidOutB P=true){W W':World}(hK:iF (λ_=>False) W W'){sp:Nat->Bool}:∀(ts:List TypeId)(vs:List Value)(ds:List (DataW H))(ps:List MemPlace),(∀t∈ts,P.readableRec t=true/\t<P.types.size)->
 DataW.TrodAll enc P W 0 (λ_=>true) true ts vs ds ps->(∀p∈ps,p.block<W.heap.size)->(∀p∈ps,sp p.block=true)->DataW.TrodAll enc P W' 0 sp true ts vs ds ps
 |[],[],[],ps,_,h,_,_=>h
 |t::ts,v::vs,d::ds,ps,ht,h,hb,hs=>by
  obtain⟨p,q,h1,h2,rfl⟩:=h;have htt:=ht t sM
  exact⟨p,q,Go.WideElems.Trod_stays hl htt.1 htt.2 h1 (λx hx=>hK.sameAt (hb x (by simp[hx]))) (λx hx=>hs x (by simp[hx])),
   M8 hl hK ts vs ds q (λt h=>ht t (by simp[h])) h2 (λx hx=>hb x (by simp[hx])) (λx hx=>hs x (by simp[hx])),rfl⟩
 |[],[],_::_,_,_,h,_,_=>h.elim
 |[],_::_,_,_,_,h,_,_=>h.elim
 |_::_,[],_,_,_,h,_,_=>h.elim
 |_::_,_::_,[],_,_,h,_,_=>h.elim
end
end Go.Pv
