import Derived.Test.YtpdcbahjjmooiaaGreatP19
import Derived.Test.YtpdcbahjjmooiaaGreatRows
import Derived.Deep.Slices
import Derived.ChangeArms
import Derived.ChangeMaps5
/- A program logic over the model, contracts of the functions that the law reaches: part 20. (Names and blanks were shortened by program.) -/
set_option linter.unusedVariables false
set_option linter.unusedSimpArgs false
set_option linter.constructorNameAsVariable false
set_option linter.unusedSectionVars false
set_option linter.deprecated false
set_option maxRecDepth 100000
set_option maxHeartbeats 8000000
open Go Go.Proofs
namespace Go.Pv
open Go.RowKit
variable{w:D4}{r:Int}{n:Nat}{t:TypeId}{cs:List Value}
theorem aNU(w:D4):∀(m:Mem)(d:Nat),m d=none->aJ Tryz.prog 46 [.d (.ip w.aT1)] m (.ok (.fn (.func 105) [] [.lp d 0])) (aX m d (.cells false [.d (.ip w.aT1)])):=by
 refine iW mix (F:=λd=>.fn (.func 105) [] [.lp d 0]) (r:=.cells false [.d (.ip w.aT1)]) Tryz.func46 rfl kK (bD rfl) rfl rfl (λ_ _=>rfl) (λi j hj=>by simpa [A.hs,A.lQ]using hj) (λg=>rfl) ?_;refine bl ?_;exact⟨_,rfl,rfl⟩
theorem aQ5(hg:w.gA)(i:Nat)(h:i<w.aT4.length):w.find w.aT4[i].ref=some w.aT4[i]:=by
 unfold D4.find;cases hf:w.aT4.find? λt=>decide (t.ref=w.aT4[i].ref)with
 |none=>
  have:=mN.1 hf w.aT4[i] (aY h);simp at this
 |some t=>
  have e1:=iD hf;simp only[aUA]at e1;obtain⟨j,hj,e2⟩:=dH.1 (cT hf);subst e2;have hn:=hg.nodup;have:j=i:=by
   refine(jB (h₀:=by simpa using hj) (h₁:=by simpa using h) hn).1 ?_;simpa using e1
  subst this;rfl
abbrev kR(L:List Int):List (List C):=L.map λk=>[ck k]
theorem aTW(T:List Int)(k:Nat)(h:k<T.length):(bE (kR T))[k]?=some [.d (ck T[k])]:=by
 refine gB _ _ [ck T[k]] ?_;rw[cK,aC h];rfl
theorem aPW(w:D4)(hw:w.qV)(u:U4)(S:Nat->List (Int×Int)×Bool)(lo:R)
 (hlo:∀ml':List (Nat×R),aK ml' 1≠none->aK ml' 9≠none->aK ml' 161≠none->aK ml' 177≠none->aK ml' 7100≠none->rB ml' lo.hs)
 (a0N:lo.eZ (swp 12056 900)=lo)(a0O:lo.eZ (swp 12160 901)=lo)
 (aX1:∀k(h:k<w.aT4.length)(o:Oper)(c:Call)(fo:Operand)(l:List (Nat×A)),o.op=.call c->c.callee=.value fo->dN (lT l) fo=.h 7000->c.args.toList.map (dN (lT l))=[.d (ci w.aT4[k].ref),.d (ck w.aT4[k].bQ.kind)]->o8 Tryz.prog o (lT l) (aK ((900,dU 25 1 (iR w.aP))::(901,dU 84 1 (kR (w.aT4.map (·.bQ.kind))))::(7000,lo)::(7100,.cells false [.d (.ip w.aT1)])::(1,.cells false [.d (.ip w.aT1)])::(9,.cells false (u.aT1.map A.d))::(161,.cells false [.h 129])::(177,.cells false [.d (cb (S k).2)])::(129,.mp false (iZ (S k).1) [])::[])) [(.ok (.d (.v (.bool true))),[(177,.cells false [.d (cb (S (k+1)).2)]),(129,.mp false (iZ (S (k+1)).1) [])])]):
 aJ Tryz.prog 105 [.h 7000,.lp 7100 0] (aK ((7000,lo)::(7100,.cells false [.d (.ip w.aT1)])::(1,.cells false [.d (.ip w.aT1)])::(9,.cells false (u.aT1.map A.d))::(161,.cells false [.h 129])::(177,.cells false [.d (cb (S 0).2)])::(129,.mp false (iZ (S 0).1) [])::[])) (.ok (.eL [])) (aH (aK ((7000,lo)::(7100,.cells false [.d (.ip w.aT1)])::(1,.cells false [.d (.ip w.aT1)])::(9,.cells false (u.aT1.map A.d))::(161,.cells false [.h 129])::(177,.cells false [.d (cb (S 0).2)])::(129,.mp false (iZ (S 0).1) [])::[])) [(177,.cells false [.d (cb (S w.aT4.length).2)]),(129,.mp false (iZ (S w.aT4.length).1) [])]):=by
 refine wE mix 12000 Tryz.func105 (by(repeat'(first|exact aW))) ⟨tV,aEP,tV⟩ ?_;have hgl:=hw.len;have hg:=hw.togA;have hnl:w.aP.length=w.aT4.length:=by unfold D4.aP;rw[aB]
 repeat'(first|refine bl ?_|refine fU (cs:=[.ip w.aT1]) (vQ w) (.v _) (.cons (.d _) .nil) (bw ?_)|refine fQ (K6 w hw.len hw.EP) 12900 rfl (bw ?_))
 have hst:∀i(h:i<w.aT4.length),w.aP[i]' oM =w.aT4[i].ref/\w.find w.aT4[i].ref=some w.aT4[i]/\w.aT4.take (i+1)=w.aT4.take i++[w.aT4[i]]:=λi h=>by
  refine⟨by simp[D4.aP],aQ5 hg i h,aT h⟩
 refine cY mix (λi:Nat=>i<=w.aT4.length) (I:=λi=>[(0,.h 7000),(1,.lp 7100 0),(3,lv 1 900 (iR ((w.aT4.take i).map (·.ref)))),(4,lv 1 901 (kR ((w.aT4.take i).map (·.bQ.kind)))),(12,.h 12900),(13,.d (ci w.aT4.length)),(14,.d (ci i))])
  (J:=λi=>lm 900 25 1 (iR ((w.aT4.take i).map (·.ref))) (lm 901 84 1 (kR ((w.aT4.take i).map (·.bQ.kind))) ((12900,dU 25 1 (iR w.aP))::(7000,lo)::(7100,.cells false [.d (.ip w.aT1)])::(1,.cells false [.d (.ip w.aT1)])::(9,.cells false (u.aT1.map A.d))::(161,.cells false [.h 129])::(177,.cells false [.d (cb (S 0).2)])::(129,.mp false (iZ (S 0).1) [])::[]))) (μ:=λi=>w.aT4.length -i) 12000 0 0
  (λ_:Unit=>True) (λ_=>[(0,.h 7000),(3,lv 1 900 (iR w.aP)),(4,lv 1 901 (kR (w.aT4.map (·.bQ.kind))))]) (λ_=>lm 900 25 1 (iR w.aP) (lm 901 84 1 (kR (w.aT4.map (·.bQ.kind))) ((7000,lo)::(7100,.cells false [.d (.ip w.aT1)])::(1,.cells false [.d (.ip w.aT1)])::(9,.cells false (u.aT1.map A.d))::(161,.cells false [.h 129])::(177,.cells false [.d (cb (S 0).2)])::(129,.mp false (iZ (S 0).1) [])::[]))) 13000 oM (by(refine cN.sub ?_ ?_ ?_ ?_ ?_<;>repeat'(first|exact aW|exact rfl|exact sn|exact eV rfl|exact aZ|exact aEP|exact hlo _ sn sn sn sn sn|(refine qD ?_;simp only[aB,bE,D4.aP];done)|refine bI ?_ ?_))) ?_ ?_
 ·intro i hi;have aZI:(w.aT4.take i).length<=w.aT4.length:=zM;have hst:=hst i;generalize hQ:w.aT4.take i=Q at hst aZI⊢;cases Q with
  |nil=>
   show vc _ _ _ _ _ ((12900,dU 25 1 (iR w.aP))::(7000,lo)::(7100,.cells false [.d (.ip w.aT1)])::(1,.cells false [.d (.ip w.aT1)])::(9,.cells false (u.aT1.map A.d))::(161,.cells false [.h 129])::(177,.cells false [.d (cb (S 0).2)])::(129,.mp false (iZ (S 0).1) [])::[]) _ _
   repeat'(first|refine bl ?_|refine bS (λh=>?_) (λh=>?_)|refine lG.mk i rfl (by simp only[bE,aB];omega) (bw ?_)|(refine fZ.mk _ (T9 w.aP i oM) ?_;(conv=>whnf)))
   ·have hlt:i<w.aT4.length:=aM;obtain⟨s1,s2,s3⟩:=hst hlt;refine n8 (by simp only[aB,bE,cE,aS];omega) kK ?_;conv=>whnf
    refine E9.mk (λh=>by cases h) (λh=>?_);conv=>whnf
    refine bl ?_;refine EA eD (λt ht=>?_) (λht=>?_)
    ·have e:t=w.aT4[i]:=eY ((show w.find w.aP[i]=some t from ht).symm.trans (by rw[s1];exact s2));subst e;conv=>whnf
     skip
     refine n8 (by simp only[aB,bE,cE,aS];omega) kK ?_;conv=>whnf
     refine E9.mk (λh=>by cases h) (λh=>?_);conv=>whnf
     refine bl ?_;rw[s1];refine⟨i+1,oM,oM,?_⟩;rw[s3];refine cN.trans (l':=[(0,.h 7000),(1,.lp 7100 0),(3,.h 900),(4,.h 12160),(12,.h 12900),(13,.d (ci w.aT4.length)),(14,.d (ci (i+1:Nat)))])
      (ml':=(900,dU 25 1 (iR [w.aT4[i].ref]))::(12160,dU 84 1 (kR [w.aT4[i].bQ.kind]))::(12900,dU 25 1 (iR w.aP))::(7000,lo)::(7100,.cells false [.d (.ip w.aT1)])::(1,.cells false [.d (.ip w.aT1)])::(9,.cells false (u.aT1.map A.d))::(161,.cells false [.h 129])::(177,.cells false [.d (cb (S 0).2)])::(129,.mp false (iZ (S 0).1) [])::[]) ?_ ?_
     ·exact mv 12056 900
      all_goals first|exact cO rfl rfl|exact cO rfl rfl|exact cO rfl rfl
     ·dsimp only[List.nil_append,List.cons_append,List.map_cons,List.map_nil,lv,lm];exact mv 12160 901
      all_goals first|exact cO rfl rfl
    ·exfalso;have:w.find w.aP[i]=none:=ht;rw[s1,s2]at this;cases this
   ·rw[aI oM]at hQ;refine⟨(),tV,?_⟩;rw[show w.aP=[] by unfold D4.aP;rw[hQ];rfl,hQ]
    (refine cN.sub ?_ ?_ ?_ ?_ ?_<;>repeat'(first|exact aW|exact rfl|exact sn|exact eV rfl|exact aZ|exact aEP|exact hlo _ sn sn sn sn sn|(refine qD ?_;simp only[aB,bE,D4.aP];done)|refine bI ?_ ?_))
  |cons q0 Q=>
   show vc _ _ _ _ _ ((900,dU 25 1 (iR ((q0::Q).map (·.ref))))::(901,dU 84 1 (kR ((q0::Q).map (·.bQ.kind))))::(12900,dU 25 1 (iR w.aP))::(7000,lo)::(7100,.cells false [.d (.ip w.aT1)])::(1,.cells false [.d (.ip w.aT1)])::(9,.cells false (u.aT1.map A.d))::(161,.cells false [.h 129])::(177,.cells false [.d (cb (S 0).2)])::(129,.mp false (iZ (S 0).1) [])::[]) _ _
   repeat'(first|refine bl ?_|refine bS (λh=>?_) (λh=>?_)|refine lG.mk i rfl (by simp only[bE,aB];omega) (bw ?_)|(refine fZ.mk _ (T9 w.aP i oM) ?_;(conv=>whnf)))
   ·have hlt:i<w.aT4.length:=aM;obtain⟨s1,s2,s3⟩:=hst hlt;simp only[aQ]at aZI;refine n8 (by simp only[aB,bE,cE,aS,aQ];omega) kK ?_;conv=>whnf
    refine bl ?_;refine EA eD (λt ht=>?_) (λht=>?_)
    ·have e:t=w.aT4[i]:=eY ((show w.find w.aP[i]=some t from ht).symm.trans (by rw[s1];exact s2));subst e;conv=>whnf
     skip
     refine n8 (by simp only[aB,bE,cE,aS,aQ];omega) kK ?_;conv=>whnf
     refine bl ?_;rw[s1];refine⟨i+1,oM,oM,?_⟩;rw[s3];refine cN.trans (l':=[(0,.h 7000),(1,.lp 7100 0),(3,.h 900),(4,.h 12160),(12,.h 12900),(13,.d (ci w.aT4.length)),(14,.d (ci (i+1:Nat)))])
      (ml':=(900,dU 25 1 (iR (((q0::Q)++[w.aT4[i]]).map (·.ref))))::(12160,dU 84 1 (kR (((q0::Q)++[w.aT4[i]]).map (·.bQ.kind))))::(12900,dU 25 1 (iR w.aP))::(7000,lo)::(7100,.cells false [.d (.ip w.aT1)])::(1,.cells false [.d (.ip w.aT1)])::(9,.cells false (u.aT1.map A.d))::(161,.cells false [.h 129])::(177,.cells false [.d (cb (S 0).2)])::(129,.mp false (iZ (S 0).1) [])::[]) ?_ ?_
     ·(refine cN.swap 12056 900 ?_ ?_ ?_ ?_ ?_<;>repeat'(first|exact aW|exact rfl|exact sn|exact aZ|exact IK rfl|exact cO rfl rfl|exact KS rfl rfl|exact aEP|exact aSJ rfl aM|exact hlo _ sn sn sn sn sn|refine bI ?_ ?_))
      all_goals first|exact cO rfl rfl|exact cO rfl (by simp[bE])|exact cO rfl (by simp[bE])
     ·dsimp only[List.nil_append,List.cons_append,List.map_cons,List.map_nil,lv,lm];exact mv 12160 901
      all_goals first|exact cO rfl rfl
    ·exfalso;have:w.find w.aP[i]=none:=ht;rw[s1,s2]at this;cases this
   ·rw[aI oM]at hQ;refine⟨(),tV,?_⟩;rw[show w.aP=(q0::Q).map (·.ref) by unfold D4.aP;rw[hQ],hQ]
    (refine cN.sub ?_ ?_ ?_ ?_ ?_<;>repeat'(first|exact aW|exact rfl|exact sn|exact eV rfl|exact aZ|exact aEP|exact hlo _ sn sn sn sn sn|(refine qD ?_;simp only[aB,bE,D4.aP];done)|refine bI ?_ ?_))
 rintro _ _;have hkl:(w.aT4.map (·.bQ.kind)).length=w.aT4.length:=by rw[aB]
 by_cases hT:w.aT4=[]
 ·have hr0:w.aP=[]:=by unfold D4.aP;rw[hT];rfl
  have hk0:kR (w.aT4.map (·.bQ.kind))=[]:=by rw[hT];rfl
  have hn0:w.aT4.length=0:=by rw[hT];rfl
  rw[hr0,hk0,hn0];show vc _ _ _ _ [(0,.h 7000),(3,.d (.nl 1)),(4,.d (.nl 1))] ((7000,lo)::(7100,.cells false [.d (.ip w.aT1)])::(1,.cells false [.d (.ip w.aT1)])::(9,.cells false (u.aT1.map A.d))::(161,.cells false [.h 129])::(177,.cells false [.d (cb (S 0).2)])::(129,.mp false (iZ (S 0).1) [])::[]) _ _;refine bl ?_;refine cY mix (λi:Unit=>True) (I:=λi=>[(36,.d (ci 0)),(37,.d (ci 0))]) (J:=λi=>(7000,lo)::(7100,.cells false [.d (.ip w.aT1)])::(1,.cells false [.d (.ip w.aT1)])::(9,.cells false (u.aT1.map A.d))::(161,.cells false [.h 129])::(177,.cells false [.d (cb (S 0).2)])::(129,.mp false (iZ (S 0).1) [])::[]) (μ:=λi=>0) 14000 () 2
   (λ_:Unit=>True) (λ_=>[]) (λ_=>(7000,lo)::(7100,.cells false [.d (.ip w.aT1)])::(1,.cells false [.d (.ip w.aT1)])::(9,.cells false (u.aT1.map A.d))::(161,.cells false [.h 129])::(177,.cells false [.d (cb (S 0).2)])::(129,.mp false (iZ (S 0).1) [])::[]) 15000 tV (by(refine cN.sub ?_ ?_ ?_ ?_ ?_<;>repeat'(first|exact aW|exact rfl|exact sn|exact eV rfl|exact aZ|exact aEP|exact hlo _ sn sn sn sn sn|(refine qD ?_;simp only[aB,bE,D4.aP];done)|refine bI ?_ ?_))) ?_ ?_
  ·intro i hi;refine bl ?_;exact⟨(),tV,by(refine cN.sub ?_ ?_ ?_ ?_ ?_<;>repeat'(first|exact aW|exact rfl|exact sn|exact eV rfl|exact aZ|exact aEP|exact hlo _ sn sn sn sn sn|(refine qD ?_;simp only[aB,bE,D4.aP];done)|refine bI ?_ ?_))⟩
  rintro _ _;refine bl ?_;exact em
 obtain⟨q0,Q0,a0H⟩:∃q Q,w.aP=q::Q:=by
  cases h:w.aP with
  |nil=>rw[h]at hnl;exact absurd (iL.1 hnl.symm) hT
  |cons q Q=>exact⟨q,Q,rfl⟩
 obtain⟨k0,K0,kcons⟩:∃q Q,w.aT4.map (·.bQ.kind)=q::Q:=by
  cases h:w.aT4.map (·.bQ.kind)with
  |nil=>rw[h]at hkl;exact absurd (iL.1 hkl.symm) hT
  |cons q Q=>exact⟨q,Q,rfl⟩
 rw[show lv 1 900 (iR w.aP)=.h 900 by rw[a0H];rfl,show lv 1 901 (kR (w.aT4.map (·.bQ.kind)))=.h 901 by rw[kcons];rfl,show lm 900 25 1 (iR w.aP) (lm 901 84 1 (kR (w.aT4.map (·.bQ.kind))) ((7000,lo)::(7100,.cells false [.d (.ip w.aT1)])::(1,.cells false [.d (.ip w.aT1)])::(9,.cells false (u.aT1.map A.d))::(161,.cells false [.h 129])::(177,.cells false [.d (cb (S 0).2)])::(129,.mp false (iZ (S 0).1) [])::[]))=(900,dU 25 1 (iR w.aP))::(901,dU 84 1 (kR (w.aT4.map (·.bQ.kind))))::(7000,lo)::(7100,.cells false [.d (.ip w.aT1)])::(1,.cells false [.d (.ip w.aT1)])::(9,.cells false (u.aT1.map A.d))::(161,.cells false [.h 129])::(177,.cells false [.d (cb (S 0).2)])::(129,.mp false (iZ (S 0).1) [])::[] by rw[a0H,kcons];rfl];refine bl ?_;refine cY mix (λi:Nat=>i<=w.aT4.length) (I:=λi=>[(0,.h 7000),(4,.h 901),(35,.h 900),(36,.d (ci w.aT4.length)),(37,.d (ci i))])
  (J:=λi=>(900,dU 25 1 (iR w.aP))::(901,dU 84 1 (kR (w.aT4.map (·.bQ.kind))))::(7000,lo)::(7100,.cells false [.d (.ip w.aT1)])::(1,.cells false [.d (.ip w.aT1)])::(9,.cells false (u.aT1.map A.d))::(161,.cells false [.h 129])::(177,.cells false [.d (cb (S i).2)])::(129,.mp false (iZ (S i).1) [])::[]) (μ:=λi=>w.aT4.length -i) 16000 0 2
  (λ_:Unit=>True) (λ_=>[]) (λ_=>(7000,lo)::(7100,.cells false [.d (.ip w.aT1)])::(1,.cells false [.d (.ip w.aT1)])::(9,.cells false (u.aT1.map A.d))::(161,.cells false [.h 129])::(177,.cells false [.d (cb (S w.aT4.length).2)])::(129,.mp false (iZ (S w.aT4.length).1) [])::[]) 17000 oM (by(refine cN.sub ?_ ?_ ?_ ?_ ?_<;>repeat'(first|exact aW|exact rfl|exact sn|exact eV rfl|exact aZ|exact aEP|exact hlo _ sn sn sn sn sn|(refine qD ?_;simp only[aB,bE,D4.aP];done)|refine bI ?_ ?_))) ?_ ?_
 ·intro i hi
  repeat'(first|refine bl ?_|refine bS (λh=>?_) (λh=>?_)|refine lG.mk i rfl (by simp only[bE,aB];omega) (bw ?_)|(refine fZ.mk _ (T9 w.aP i oM) ?_;(conv=>whnf))|(refine fZ.mk _ (aTW (w.aT4.map (·.bQ.kind)) i oM) ?_;(conv=>whnf)))
  ·have hlt:i<w.aT4.length:=aM;obtain⟨s1,s2,s3⟩:=hst i hlt;refine OpK.mk _ _ (aX1 i hlt _ _ _ _ rfl rfl rfl ?_) ?_
   ·show([.d (ci (w.aP[i]' oM)),.d (ck ((w.aT4.map (·.bQ.kind))[i]' oM))]:List A)=_;rw[s1,fO]
   conv=>whnf
   refine bl ?_;refine⟨i+1,oM,oM,?_⟩
   (refine cN.sub ?_ ?_ ?_ ?_ ?_<;>repeat'(first|exact aW|exact rfl|exact sn|exact eV rfl|exact aZ|exact aEP|exact hlo _ sn sn sn sn sn|(refine qD ?_;simp only[aB,bE,D4.aP];done)|refine bI ?_ ?_))
  ·obtain rfl:i=w.aT4.length:=oM;exact⟨(),tV,by(refine cN.sub ?_ ?_ ?_ ?_ ?_<;>repeat'(first|exact aW|exact rfl|exact sn|exact eV rfl|exact aZ|exact aEP|exact hlo _ sn sn sn sn sn|(refine qD ?_;simp only[aB,bE,D4.aP];done)|refine bI ?_ ?_))⟩
 rintro _ _;refine bl ?_;exact em
theorem aNT(w:D4)(hw:w.qV)(u:U4)(S:Nat->List (Int×Int)×Bool){lo:R}{ml:List (Nat×R)}
 (hlo:∀ml':List (Nat×R),aK ml' 1≠none->aK ml' 9≠none->aK ml' 161≠none->aK ml' 177≠none->aK ml' 7100≠none->rB ml' lo.hs)
 (a0N:lo.eZ (swp 12056 900)=lo)(a0O:lo.eZ (swp 12160 901)=lo)
 (aX1:∀k(h:k<w.aT4.length)(o:Oper)(c:Call)(fo:Operand)(l:List (Nat×A)),o.op=.call c->c.callee=.value fo->dN (lT l) fo=.h 7000->c.args.toList.map (dN (lT l))=[.d (ci w.aT4[k].ref),.d (ck w.aT4[k].bQ.kind)]->o8 Tryz.prog o (lT l) (aK ((900,dU 25 1 (iR w.aP))::(901,dU 84 1 (kR (w.aT4.map (·.bQ.kind))))::(7000,lo)::(7100,.cells false [.d (.ip w.aT1)])::(1,.cells false [.d (.ip w.aT1)])::(9,.cells false (u.aT1.map A.d))::(161,.cells false [.h 129])::(177,.cells false [.d (cb (S k).2)])::(129,.mp false (iZ (S k).1) [])::[])) [(.ok (.d (.v (.bool true))),[(177,.cells false [.d (cb (S (k+1)).2)]),(129,.mp false (iZ (S (k+1)).1) [])])])
 (hm:RN ((7000,lo)::ml) ((7000,lo)::(7100,.cells false [.d (.ip w.aT1)])::(1,.cells false [.d (.ip w.aT1)])::(9,.cells false (u.aT1.map A.d))::(161,.cells false [.h 129])::(177,.cells false [.d (cb (S 0).2)])::(129,.mp false (iZ (S 0).1) [])::[])):
 aJ Tryz.prog 105 ([]++([.h 7000]++[.lp 7100 0])) (aK ((7000,lo)::ml)) (.ok (.eL [])) (aH (aK ((7000,lo)::ml)) [(177,.cells false [.d (cb (S w.aT4.length).2)]),(129,.mp false (iZ (S w.aT4.length).1) [])]):=by
 refine aJ.l8 (aPW w hw u S lo hlo a0N a0O aX1) ⟨sn,sn,tV⟩ hm ?_ ?_
 ·repeat'(first|exact aW|exact sn|exact aEP|exact hlo _ sn sn sn sn sn|refine bI ?_ ?_)
 ·repeat'(first|exact aW|exact .inl sn|refine bI ?_ ?_)
abbrev mNr(F:List (Int×Int)):List (Nat×R):=[(161,.cells false [.h 129]),(129,.mp false (iZ F) [])]
theorem aJ9(F:List (Int×Int))(L:List Int)(hL:L.length<=2^38):aJ Tryz.prog 48 [.d (.sl 1 (iR L)),.lp 161 0] (aK (mNr F)) (.ok (.d (ci (n0 F L)))) (aH (aK (mNr F)) []):=by
 refine wE mix 1000 Tryz.func48 tV tV ?_;unfold n0
 repeat'(first|refine bl ?_|refine aF (aPU L hL) (bw ?_))
 have hrl:=xH L;generalize oZ L=R at hrl⊢;refine bV mix (λi:Nat=>i<=R.length) (I:=λi=>[(1,.lp 161 0),(4,.d (ci ((R.take i).foldl (tO F) 0))),(8,.d (.sl 1 (iR R))),(9,.d (ci R.length)),(10,.d (ci i))])
  (J:=λi=>mNr F) (μ:=λi=>R.length -i) 2000 0 oM mZ ?_
 intro i hi;generalize hb:(R.take i).foldl (tO F) 0=b
 repeat'(first|refine bl ?_|refine bS (λh=>?_) (λh=>?_)|refine cD rfl eD aM (bw ?_)|refine lkC eD (λh=>h) (bw ?_))
 all_goals first
  |(rw[aI oM]at hb
    rw[hb]
    exact em;done)
  |(have hlt:i<R.length:=by assumption
    have e:(R.take (i+1)).foldl (tO F) 0=tO F b R[i]:=by rw[aT hlt,iB,hb];rfl
    first
     |(have e2:tO F b R[i]=R[i]:=by unfold tO;rw[aUF ⟨by assumption,by first|exact .inl aM|exact .inr aM⟩]
       refine⟨i+1,oM,oM,?_⟩;rw[e,e2];exact mZ
       done)
     |(have e2:tO F b R[i]=b:=by
        unfold tO;rw[aT7];rintro⟨h1,h2⟩;rcases h2 with h2|h2
        · first|omega|(exact absurd h2 aM)
        · omega
       refine⟨i+1,oM,oM,?_⟩;rw[e,e2];exact mZ
       done))
theorem aPO{st:Int->List Int}{T:List Int}{to:Int}{F:List (Int×Int)}(h:aQ3 st T to F)(h0:cR F 0=0)(a:Int)(ha:0<cR F a)(hne:a≠to):n0 F (st a)=0\/(n0 F (st a)≠0/\0<cR F (n0 F (st a))/\cR F (n0 F (st a))+1<=cR F a):=by
 have hw:=h.inv.way a ha;generalize hn:(cR F a).toNat=n at hw;cases hw with
 |here=>exact absurd rfl hne
 | @step k r q hq hw=>
   have hl1:=h.least _ _ hw;have hz:∀x∈st a,0<cR F x->x≠0:=λx _ hx=>by rintro rfl;omega
   rcases I5 F (st a) hz with⟨g1,g2⟩|⟨g1,g2,g3,g4⟩
   ·exact .inl g1
   ·have:=g4 q hq hl1.1;exact .inr ⟨g1,g2,oM⟩
def D4.aFY(w:D4)(to:Int):List (Int×Int):=aE4 w.cX w.aP (O2 w.aP w.aP.length [(to,1)]+1) [(to,1)]
theorem aRU(hw:w.qV):aQ4 w.cX w.aP:=⟨E0 w,λh=>by
 obtain⟨t,ht,e⟩:=aA4.1 h
 have:=hw.pos t ht;omega,hw.nodup⟩
theorem aH7(hg:w.gA)(r:Int):(w.cX r).length<=2^35+2:=by
 unfold D4.cX;rw[aU];have:=AJ w hg r;have:=tP w r;omega
abbrev wB(w:D4):R:=.cells false [.d (.ip w.aT1)]
abbrev uB(u:U4):R:=.cells false (u.aT1.map A.d)
def D4.TW(w:D4)(u:U4)(to:Int):Int:=if w.zE u=true then(if w.mI to=true then 0 else 5)else 190
theorem aRI(w:D4)(hw:w.qV)(u:U4)(hu:u.gA)(to:Int)(h:(w.zE u&&w.mI to)=false):Pu 11 [.d (.ip w.aT1),.d (.agg u.aT1),.d (ci to)] (.eL [.d (.sl 1 []),.d (cb false),.d (ci (w.TW u to))]):=by
 have aX5:∀i(h:i<[u].length),[u][i].gA:=λi h=>match i,h with
  |0,_=>hu
 have hm:=yG w hw [u] sM aX5;have his:=sB w to;refine iC mix Tryz.func11 ?_;unfold D4.TW;cases hck:w.zE u with
 |false=>
  have hme:w.s8 [u]=190:=by unfold D4.s8;simp[hck]
  rw[hme]at hm
  repeat'(first|refine bl ?_|(refine fU (cs:=[.ip w.aT1,.sl 4 [u.aT1]]) hm (.v _) (.cons (.d _) (.cons (.os rfl (D6.data _ [u.aT1])) .nil)) ?_;(conv=>whnf)))
  exact .eL (cs:=[.sl 1 [],cb false,ci 190]) (.cons (.nz _ _) (.cons (.d _) (.cons (.d _) .nil)))
 |true=>
  have hme:w.s8 [u]=0:=by unfold D4.s8;simp[hck]
  have hi:w.mI to=false:=by simpa [hck]using h
  rw[hme]at hm;rw[hi]at his
  repeat'(first|refine bl ?_|(refine fU (cs:=[.ip w.aT1,.sl 4 [u.aT1]]) hm (.v _) (.cons (.d _) (.cons (.os rfl (D6.data _ [u.aT1])) .nil)) ?_;(conv=>whnf))|refine aF his (bw ?_))
  rw[hi];exact .eL (cs:=[.sl 1 [],cb false,ci 5]) (.cons (.nz _ _) (.cons (.d _) (.cons (.d _) .nil)))
def over(A:List Int)(i:Nat):List Int:=List.replicate i 77++A.drop i
theorem aEI(A:List Int)(i:Nat)(h:i<=A.length):(over A i).length=A.length:=by unfold over;simp;omega
theorem aEH(A:List Int)(i:Nat)(h:i<A.length):(over A i)[i]?=some A[i]:=by
 unfold over;rw[bO sM];simp[h]
theorem aEJ(A:List Int)(i:Nat)(h:i<A.length):(over A i).set i 77=over A (i+1):=by
 unfold over;rw[List.set_append_right _ _ sM,List.replicate_succ',bG,aS,Nat.sub_self,dE h];rfl
theorem aNS(A:List Int)(i:Nat)(h:i<A.length):(bE (iR (over A i)))[i]?=some [.d (ci A[i])]:=by
 refine gB _ _ [ci A[i]] ?_;rw[cK,aEH A i h];rfl
theorem aBJ(A:List Int)(i:Nat)(h:i<A.length):(bE (iR (over A i))).set i [.d (ci 77)]=bE (iR (over A (i+1))):=by
 rw[<-aEJ A i h];simp only[bE,qS];rfl
theorem aE3:Pu 13 [.d (.nl 1),.d (.sl 1 [])] (.d (cb true)):=by
 refine iC mix Tryz.func13 ?_;refine bl ?_;refine bV mix (λi:Unit=>True) (I:=λi=>[(0,.d (.nl 1)),(1,.d (.sl 1 [])),(5,.d (cb true)),(6,.d (ci 0))]) (J:=λi=>[]) (μ:=λi=>0) 1000 () tV mZ ?_;intro i hi;refine bl ?_;exact dP rfl
theorem aIC(A:List Int)(hA:A.length<=2^38):aJ Tryz.prog 13 [.h 0,.d (.sl 1 (iR A))] (aK [(0,dU 25 1 (iR A))]) (.ok (.d (cb true))) (aH (aK [(0,dU 25 1 (iR A))]) [(0,dU 25 1 (iR (over A A.length)))]):=by
 refine wE mix 1000 Tryz.func13 tV ⟨aZ,tV⟩ ?_
 repeat'(first|refine bl ?_|refine bS (λh=>?_) (λh=>?_))
 ·exact absurd (by simp[bE]) h
 refine bV mix (λi:Nat=>i<=A.length) (I:=λi=>[(0,.h 0),(1,.d (.sl 1 (iR A))),(5,.d (cb true)),(6,.d (ci i))]) (J:=λi=>[(0,dU 25 1 (iR (over A i)))]) (μ:=λi=>A.length -i) 1000 0 oM mZ ?_;intro i hi;have hol:=aEI A i hi;have aZI:i<(bE (iR (over A i))).length->i<A.length:=λh=>by simp only[bE,aB]at h;omega
 repeat'(first|refine bl ?_|refine bS (λh=>?_) (λh=>?_))
 ·have hlt:=aZI aM
  repeat'(first|refine bl ?_|refine lG.mk i rfl (by simp only[bE,aB];omega) (bw ?_)|(refine fZ.mk _ (aNS A i hlt) ?_;(conv=>whnf))|refine cD rfl eD hlt (bw ?_))
  refine⟨i+1,oM,oM,?_⟩;rw[aUZ (rfl:A[i]=A[i])];refine mq 5000 5001 ?_
  all_goals exact cO rfl (aBJ A i hlt)
 ·obtain rfl:i=A.length:=by simp only[bE,aB]at h;omega
  exact em
theorem Q9(w:D4)(xl:Int):∀(T:List T4)(q:Int),ZE w xl T q=true->(∀t∈T,w.AA t.bQ=true)/\(T.map (·.ref)).Pairwise (· <·)
 |[],q,h=>sM
 |t::r,q,h=>by
  simp only[ZE,aE,aUA]at h;obtain⟨h1,h2⟩:=Q9 w xl r t.ref h.2;obtain⟨h3,_⟩:=xN w xl r t.ref h.2;refine⟨λu hu=>?_,?_⟩
  ·rcases aO.1 hu with rfl|hu
   ·exact h.1.2
   ·exact h1 u hu
  ·rw[aG,List.pairwise_cons];refine⟨λa ha=>?_,h2⟩;obtain⟨u,hu,rfl⟩:=aA4.1 ha;exact h3 u hu
structure RI(x:X4):Prop where
 b:y9 x=true
 made:x.made.length=x.parents.length+1
 th:ZE (oD x.parents (DU x) []) x.last x.aT4 0=true
 snd:(oD x.parents (DU x) x.aT4).sH=true
theorem aL0{x:X4}(h:y9 x=true):RI x:=by
 have h0:=h;unfold y9 at h0;simp only[aE,aUA]at h0;obtain⟨_,_,h3,_,h5,h6⟩:=h0;refine⟨h,h3,h5,?_⟩;unfold YB at h6;simp only[aE]at h6;exact h6.2.2.2.1
theorem vM:w.mI r=true↔r∈w.aP:=by
 unfold D4.mI D4.find D4.aP;rw[List.find?_isSome];constructor
 ·rintro⟨t,h1,h2⟩;exact aA4.2 ⟨t,h1,by simpa using h2⟩
 ·intro h;obtain⟨t,h1,rfl⟩:=aA4.1 h;exact⟨t,h1,sM⟩
theorem J1{x:X4}(h:RI x)(aXR:∀t∈x.aT4,t.bQ.cR<=2^20)(hlen:x.aT4.length<=60)(hpl:x.parents.length<=40):(bJ x).qV where
 cR:=λt ht=>cL (aXR t ht) (bD rfl)
 len:=by show x.aT4.length<=2^30;omega
 nodup:=(xN _ _ _ _ h.th).2
 may:=λt ht=>by
  obtain⟨a,b,c,_⟩:=NS ((Q9 _ _ _ _ h.th).1 t ht);exact⟨a,b,c⟩
 sides:=by show 0<x.made.length;rw[h.made];omega
 EP:=(Q9 _ _ _ _ h.th).2
 pl:=by show x.parents.length<=2^38;omega
 ml:=by show x.made.length<=2^38;rw[h.made];omega
 cl:=by
  show(xY (oW x.parents) x.aU3).length<=2^36;rw[RX];unfold oW;rw[aS];omega
 pos:=(xN _ _ _ _ h.th).1
variable{x:X4}{l:List U4}
theorem KB{L:List (List Int)}{B:Nat}(h:∀e∈L,e.length<=B):L.flatten.length<=L.length*B:=by
 induction L with
 |nil=>simp
 |cons a L ih=>
  have:=h a sM;have:=ih λe he=>h e (by simp[he]);rw[dL,aU,aQ,fS,Nat.one_mul];omega
open Classical in

theorem aAU:RK (yI Tryz.prog aA0 60 (.fn 9) [] .nil 1) (.d (cb true))=true:=kK
theorem D9:Pu 9 [] (.d (cb true)):=zO mix aAU rfl
open Go.Proofs.YtpdcbahjjmooiaaGreat (Rows.uptoBulk Rows.uptoBulkAll)
abbrev rI{H:Type}(d:DataW H):Nat:=Rows.uptoBulk d
abbrev rZ{H:Type}(l:List (DataW H)):Nat:=Rows.uptoBulkAll l
section
variable{H:Type}(enc:TypeId×Value->H)(P:Program)(w:World)
def sL(l:List C)(cs:List Value):Prop:=C.bR w (λ_=>False) l cs/\∀y∈cs,y.oneCell'=true
def xF(n:Nat)(t:TypeId)(cs:List Value)(d:DataW H):Prop:=∃ps,DataW.trod enc P w 0 (λ_=>true) true n t cs=some (d,ps)
def TrF(n:Nat):List TypeId->List Value->List (DataW H)->Prop
 |[],cs,ds=>cs=[]/\ds=[]
 |t::ts,cs,ds=>∃a b d r,cs=a++b/\ds=d::r/\xF enc P w n t a d/\TrF n ts b r
end
section
variable{H:Type}{enc:TypeId×Value->H}{P:Program}{w:World}
theorem sL.app{l m:List C}{a b:List Value}(h:sL w l a)(h':sL w m b):sL w (l++m) (a++b):=by
 refine⟨C.iH h.1 h'.1,λy hy=>?_⟩;rcases bN.1 hy with e|e
 ·exact h.2 y e
 ·exact h'.2 y e
theorem sL.nil:sL w [] []:=⟨by simp[C.bR],sM⟩
theorem sL.one{x:Value}(h:x.oneCell'=true):sL w [.v x] [x]:=by
 refine⟨?_,by simpa using h⟩;simp[C.bR,C.Den]
theorem sL.len{l:List C}{a:List Value}(h:sL w l a):l.length=a.length:=(C.c9.1 h.1).1
theorem kQ{k:IntKind}{d:DataW H}(ht:P.underlying t=some (.int k))(h:xF enc P w n t cs d):∃i,sL w [.v (.int k i)] cs/\1<=rI d/\k.min<=i/\i<=k.max:=by
 obtain⟨ps,h⟩:=h;obtain⟨i,rfl,hx,hw⟩:=DataW.trod_int ht h;simp only[aD]at hx;simp only[Lit.wf,aE,aUA]at hw;exact⟨i,sL.one rfl,by rw[hx.1];simp[rI,Rows.uptoBulk],hw.1,hw.2⟩
theorem aIP{d:DataW H}(ht:P.underlying t=some .bool)(h:xF enc P w n t cs d):∃b,sL w [.v (.bool b)] cs/\1<=rI d:=by
 obtain⟨ps,h⟩:=h;obtain⟨i,rfl,hx⟩:=DataW.trod_bool ht h;simp only[aD]at hx;exact⟨i,sL.one rfl,by rw[hx.1];simp[rI,Rows.uptoBulk]⟩
theorem GX{d:DataW H}(ht:P.underlying t=some .string)(h:xF enc P w n t cs d):∃s,sL w [.v (.string s)] cs/\1<=rI d:=by
 obtain⟨ps,h⟩:=h;cases n with
 |zero=>simp[DataW.trod]at h
 |succ n=>
  unfold DataW.trod at h;rw[ht]at h;split at h<;>try(simp at h;done)
  all_goals(rename_i hu;try(cases hu;done))
  rename_i s;split at h
  ·simp only[aA,aD]at h;exact⟨_,sL.one rfl,by rw[<-h.1];simp[rI,Rows.uptoBulk]⟩
  ·cases h
theorem aP0{b:Nat}:∀{l:List C}{cs:List Value}{off:Nat},sL w l cs->(∀i,i<cs.length->w.cell? ⟨b,off+i,none⟩=cs[i]?)->C.sS w (λ_=>False) b off l
 |[],cs,off,_,_=>by simp[C.sS]
 |c::l,cs,off,h,hc=>by
  obtain⟨h1,h2⟩:=h;simp only[C.bR]at h1;obtain⟨y,yr,rfl,hy,hr⟩:=h1;simp only[C.sS];refine⟨⟨y,by simpa using hc 0 sM,h2 y sM,hy⟩,?_⟩;refine aP0 (l:=l) (cs:=yr) ⟨hr,λz hz=>h2 z (by simp[hz])⟩ λi hi=>?_;have:=hc (i+1) zM;rw[show off+1+i=off+(i+1) by omega,this];simp
theorem mE(d:DataW H)(r:List (DataW H)):rZ (d::r)=rI d+rZ r:=by simp[rZ,rI,Rows.uptoBulkAll]
theorem RO{a:Addr}(h:a.spot=none)(i:Nat):a.add i=⟨a.block,a.off+i,none⟩:=by
 unfold Addr.add;cases a;simp only at h;subst h;split<;>simp_all
theorem ZH{α:Type}{row:α->List C}{m:α->Nat}{p:α->Prop}{n:Nat}{e:TypeId}{es:Nat}{a:Addr}(aWU:0<es)(ha:a.spot=none)
 (ih:∀cs(d:DataW H),xF enc P w n e cs d->∃x,sL w (row x) cs/\m x<=rI d/\p x):∀(els:List (DataW H×List MemPlace))(k:Nat),
 (∀i,i<els.length->(w.cells? 0 (a.add ((k+i)*es)) es).bind (DataW.trod enc P w 0 (λ_=>true) true n e)=els[i]?)->
 ∃l:List α,l.length=els.length/\C.lD w (λ_=>False) a.block es (a.off+k*es) (l.map row)/\(l.map m).sum<=rZ (els.map (·.1))/\∀x∈l,p x
 |[],k,h=>⟨[],rfl,by simp[C.lD],sM,sM⟩
 |x::els,k,h=>by
  have h0:=h 0 sM;simp only[iE,iK,Option.bind_eq_some_iff]at h0;obtain⟨cs,hcs,htr⟩:=h0;obtain⟨y,hy,hm,hp⟩:=ih cs x.1 ⟨x.2,htr⟩
  obtain⟨l,hl,hd,hs,hq⟩:=ZH aWU ha ih els (k+1) (λi hi=>by
   have:=h (i+1) zM;rw[show k+(i+1)=k+1+i by omega]at this
   rw[this];simp)
  obtain⟨_,hlen,aW7⟩:=World.cells?_some hcs;refine⟨y::l,by simp[hl],?_,?_,?_⟩
  ·simp only[aG,C.lD];refine⟨by rw[hy.len,hlen],aP0 hy λi hi=>?_,?_⟩
   ·rw[<-aW7 i oM,RO ha,RO (by rfl)]
   ·rw[show a.off+k*es+es=a.off+(k+1)*es by rw[gY];omega];exact hd
  ·simp only[aG,gU,mE];omega
  ·intro z hz;rcases aO.1 hz with e|e
   ·exact e▸hp
   ·exact hq z e
theorem oV{α:Type}(row:α->List C)(m:α->Nat)(p:α->Prop){n:Nat}{t e:TypeId}(es:Nat){cs:List Value}{d:DataW H}(ht:P.underlying t=some (.slice e))(hes:P.cellsOf e=es)(aWU:0<es)
 (ih:∀k,k<n->∀cs(d:DataW H),xF enc P w k e cs d->∃x,sL w (row x) cs/\m x<=rI d/\p x)(h:xF enc P w n t cs d):
 ∃l:List α,sL w [.sl es (l.map row)] cs/\(l.map m).sum+1<=rI d/\∀x∈l,p x:=by
 obtain⟨ps,h⟩:=h;rcases DataW.trod_slice ht h with⟨rfl,hx⟩|⟨a,len,cap,elems,rest,k,rfl,rfl,hx,_,hl,_,hlen,hel,_,_⟩
 ·simp only[aD]at hx;refine⟨[],⟨?_,by simp[Value.oneCell']⟩,by rw[hx.1];simp[rI,Rows.uptoBulk],sM⟩;simp[C.bR,C.Den]
 ·simp only[aD]at hx;rw[hes]at hel;have hb:rI d=rZ (elems.map (·.1))+rZ (rest.map (·.1))+1:=by rw[hx.1];simp[rI,rZ,Rows.uptoBulk]
  cases elems with
  |nil=>
   simp only[cS]at hlen;subst hlen;refine⟨[],⟨?_,by simp[Value.oneCell']⟩,zM,sM⟩;simp[C.bR,C.Den]
  |cons x elems=>
   have h0:=hel 0 (by rw[<-hlen];simp);simp only[Nat.zero_mul,iK,Option.bind_eq_some_iff]at h0;obtain⟨cs,hcs,_⟩:=h0;obtain⟨_,_,aW7⟩:=World.cells?_some hcs;have hc0:=aW7 0 aWU;rw[show(a.add 0).add 0=a by simp[Addr.add]]at hc0;have hcl:cs.length=es:=(World.cells?_some hcs).2.1;rw[aC oM]at hc0;unfold World.cell? at hc0;have ha:a.spot=none/\a.block<w.heap.size:=by
    split at hc0
    ·rename_i heq;split at hc0
     ·cases hc0
     ·rename_i hs;exact⟨by simpa using hs,(aL.1 heq).1⟩
    ·cases hc0
   obtain⟨l,hll,hd,hs,hq⟩:=ZH (row:=row) (m:=m) (p:=p) aWU ha.1 (ih k oM) (x::elems) 0 (λi hi=>by rw[fF];exact hel i (by rw[<-hlen];exact hi));refine⟨l,⟨?_,by simp[Value.oneCell']⟩,oM,hq⟩;simp only[C.bR,C.Den];refine⟨_,[],rfl,⟨some a,cap,?_,?_,eV ⟨a.block,a.off,?_,λe=>e,ha.2,?_⟩⟩,rfl⟩
   ·rw[aB,hll,hlen]
   ·rw[aB,hll,hlen];exact hl
   ·cases a;simp_all
   ·simpa using hd
def u7(P:Program)(t:TypeId):Option (List TypeId):=match P.underlying t with
 |some (.struct fs)=>if go fs.toList 0 (P.cellsOf t)then some (fs.toList.map (·.type))else none
 |_=>none
where go:List Field->Nat->Nat->Bool
 |[],k,n=>k==n
 |f::r,k,n=>f.offset==k&&go r (k+P.cellsOf f.type) n
theorem ZG{n:Nat}{N:Nat}{cs:List Value}:∀(fs:List Field)(k:Nat)(xs:List (DataW H×List MemPlace)),u7.go P fs k N=true->cs.length=N->xs.length=fs.length->
 (∀(i:Nat)(f:Field),fs[i]?=some f->DataW.trod enc P w 0 (λ_=>true) true n f.type ((cs.drop f.offset).take (P.cellsOf f.type))=xs[i]?)->
 TrF enc P w n (fs.map (·.type)) (cs.drop k) (xs.map (·.1))
 |[],k,xs,hg,hl,hx,h=>by
  simp only[u7.go,beq_iff_eq]at hg;cases xs with
  |nil=>exact⟨zM,rfl⟩
  |cons=>simp at hx
 |f::fs,k,xs,hg,hl,hx,h=>by
  simp only[u7.go,aE,beq_iff_eq]at hg;cases xs with
  |nil=>simp at hx
  |cons x xs=>
   have h0:=h 0 f sM;rw[hg.1]at h0;refine⟨(cs.drop k).take (P.cellsOf f.type),cs.drop (k+P.cellsOf f.type),x.1,xs.map (·.1),?_,rfl,⟨x.2,by rw[h0];simp⟩,?_⟩
   ·rw[<-List.drop_drop,gJ]
   ·exact ZG fs _ xs hg.2 hl (by simpa using hx) λi f' hf=>by
     have:=h (i+1) f' (by simpa using hf);simpa using this
theorem p9{ts:List TypeId}{d:DataW H}(ht:u7 P t=some ts)(h:xF enc P w n t cs d):∃k ds,n=k+1/\rI d=rZ ds+1/\TrF enc P w k ts cs ds:=by
 obtain⟨ps,h⟩:=h;unfold u7 at ht;split at ht
 ·rename_i fs hfs;obtain⟨xs,k,hk,hx,hl,hxl,hf⟩:=DataW.trod_struct hfs h;split at ht
  ·rename_i hg;cases ht;simp only[aD]at hx;exact⟨k,xs.map (·.1),hk,by rw[hx.1];simp[rI,rZ,Rows.uptoBulk],by simpa using ZG (enc:=enc) (w:=w) (n:=k) (cs:=cs) fs.toList 0 xs hg hl (by simpa using hxl) (λi f h=>hf i f (by simpa using h))⟩
  ·cases ht
 ·cases ht
end
structure R4 where
 parents:List Int
 aU3:List Bool
 aT4:List T4
 last:Int
 made:List Int
def R4.aT1(w:R4):List C:=[.sl 1 (iR w.parents),.sl 1 (w.aU3.map λb=>[cb b]),.sl 17 (w.aT4.map T4.aT1),ci w.last,.sl 1 (iR w.made)]
def R4.find(w:R4)(r:Int):Option T4:=w.aT4.find? λt=>decide (t.ref=r)
def R4.mI(w:R4)(r:Int):Bool:=(w.find r).isSome
def R4.iI(w:R4)(r:Int):W4:=((w.find r).map (·.bQ)).getD W4.zero
theorem aSH{α:Type}(p:α->Bool)(L:List α)(i:Nat)(h:i<L.length)(h0:(L.take i).find? p=none)(hp:p L[i]=false):(L.take (i+1)).find? p=none:=by
 rw[aT h,y3,h0];simp[hp]
theorem aTS{α:Type}(p:α->Bool)(L:List α)(i:Nat)(h:i<L.length)(h0:(L.take i).find? p=none)(hp:p L[i]=true):L.find? p=some L[i]:=by
 have e:L=L.take i++L.drop i:=(gJ i L).symm;conv=>lhs;rw[e]
 rw[y3,h0,dE h,eN,hp];rfl
abbrev wH:List A:=[.d (.v (.int .u8 0)),.d (ci 0),.d (.v (.int .u8 0)),.d (ci 0),.d (.v (.string ByteArray.empty)),.d (.nl 5),.d (ci 0),.d (.nl 5),.d (ci 0),.d (ci 0),.d (ci 0),.d (ci 0),.d (.v (.int .u8 0)),.d (cb false),.d (.nl 17),.d (.nl 6)]
theorem zP(w:R4)(r:Int)(hl:w.aT4.length<=2^30):Pu 52 [.d (.ip w.aT1),.d (ci r)] (.eL [.d (.agg (w.iI r).aT1),.d (cb (w.mI r))]):=by
 refine iC mix Tryz.func52 ?_;refine bl ?_;refine bV mix (λi:Nat=>i<=w.aT4.length/\(w.aT4.take i).find? (λt=>decide (t.ref=r))=none) (I:=λi=>[(0,.d (.ip w.aT1)),(1,.d (ci r)),(4,.lp 1 0),(5,.d (cb false)),(6,.d (ci i))])
  (J:=λi=>[(1,.cells false wH)]) (μ:=λi=>w.aT4.length -i) 100 0 ⟨oM,rfl⟩ mZ ?_
 rintro i ⟨hi,h0⟩
 repeat'(first|refine bl ?_|refine bS (λh=>?_) (λh=>?_)|refine cD rfl eD aM (bw ?_))
 ·have hlt:i<w.aT4.length:=aM;have hf:w.find r=some w.aT4[i]:=aTS _ _ i hlt h0 (by simpa using‹w.aT4[i].ref=r›);have e1:w.iI r=w.aT4[i].bQ:=by unfold R4.iI;rw[hf];rfl
  have e2:w.mI r=true:=by unfold R4.mI;rw[hf];rfl
  rw[e1,e2];exact .eL (cs:=[.agg w.aT4[i].bQ.aT1,cb true]) (.cons (.agg (wJ.data _ w.aT4[i].bQ.aT1)) (.cons (.d _) .nil))
 ·have hlt:i<w.aT4.length:=aM;exact⟨i+1,oM,⟨oM,aSH _ _ i hlt h0 (by simpa using‹¬w.aT4[i].ref=r›)⟩,mZ⟩
 ·rw[aI oM]at h0;have hf:w.find r=none:=h0;have e1:w.iI r=W4.zero:=by unfold R4.iI;rw[hf];rfl
  have e2:w.mI r=false:=by unfold R4.mI;rw[hf];rfl
  rw[e1,e2];exact .eL (cs:=[.agg W4.zero.aT1,cb false]) (.cons (.agg aES) (.cons (.d _) .nil))
structure R4.wt(w:R4):Prop where
 len:w.aT4.length<=2^30
 cR:∀t∈w.aT4,t.bQ.cR<=2^35
 kind:∀t∈w.aT4,0<=t.bQ.kind/\t.bQ.kind<256
theorem R4.AF{w:R4}(h:w.wt)(r:Int):0<=(w.iI r).kind/\(w.iI r).kind<256:=by
 unfold R4.iI;cases hf:w.find r with
 |none=>exact⟨Int.le_refl _,(by decide:(0:Int)<256)⟩
 |some t=>exact h.kind t (cT hf)
def R4.zB(w:R4)(r:Int):Int:=(w.iI r).kind
theorem aQI(w:R4)(r:Int)(hw:w.wt):Pu 101 [.d (.ip w.aT1),.d (ci r)] (.d (ci (w.zB r))):=by
 refine iC mix Tryz.func101 ?_;obtain⟨h0,h1⟩:=R4.AF hw r
 repeat'(first|refine bl ?_|refine aF (zP w r hw.len) (bw ?_))
 exact .one (.d _)
def y5(k:Int):Bool:=decide (k=14)||(decide (k=15)||decide (k=16))
theorem aH5(k:Int):Pu 100 [.d (ci k)] (.d (cb (y5 k))):=by
 refine iC mix Tryz.func100 ?_
 repeat'(first|refine bl ?_|refine bS (λh=>?_) (λh=>?_))
 all_goals(refine dP ?_;simp_all[y5])
def R4.pX(w:R4):Nat->Int->List Int
 |0,_=>[]
 |n+1,r=>match w.find r with
  |none=>[]
  |some t=>r::(if y5 t.bQ.kind=true then w.pX n t.bQ.of else [])
def R4.CT(w:R4)(r:Int):List Int:=w.pX (w.aT4.length+1) r
theorem R4.aQU(w:R4):∀(n:Nat)(r:Int),(w.pX n r).length<=n
 |0,_=>by simp[R4.pX]
 |n+1,r=>by
  rw[R4.pX];split
  ·simp
  ·rw[aQ];split
   ·have:=R4.aQU w n (by assumption:T4).bQ.of;omega
   ·simp
theorem Rd.UN{m:Mem}{i:Nat}{es:Nat}{rows:List (List A)}{L:List (List C)}(h:m i=some (.fW false t es rows))(hr:rows=bE L):Rd m (.h i) (.sl es L):=.dU (by rw[h,hr];rfl)
theorem aUT{w:R4}(h:w.mI r=false):w.pX (n+1) r=[]:=by
 unfold R4.mI at h;rw[R4.pX];cases hf:w.find r with
 |none=>rfl
 |some t=>rw[hf]at h;cases h
theorem aSA{w:R4}(h:w.mI r=true)(hk:y5 (w.iI r).kind=false):w.pX (n+1) r=[r]:=by
 unfold R4.mI at h;unfold R4.iI at hk;rw[R4.pX];cases hf:w.find r with
 |none=>rw[hf]at h;cases h
 |some t=>rw[hf]at hk;simp only[dF,gZ]at hk;simp[hk]
theorem aUS{w:R4}(h:w.mI r=true)(hk:y5 (w.iI r).kind=true):w.pX (n+1) r=r::w.pX n (w.iI r).of:=by
 unfold R4.mI at h;unfold R4.iI at hk⊢;rw[R4.pX];cases hf:w.find r with
 |none=>rw[hf]at h;cases h
 |some t=>rw[hf]at hk;simp only[dF,gZ]at hk⊢;simp[hk]
theorem aVD(w:R4)(r:Int)(hw:w.wt):Pu 99 [.d (.ip w.aT1),.d (ci r)] (.d (.sl 1 (iR (w.CT r)))):=by
 have hlen:=hw.len;refine iC mix Tryz.func99 ?_;refine bl ?_;refine cY mix (λa:(Nat×Int)×List Int=>a.1.1<=w.aT4.length+1/\a.2.length<=a.1.1/\a.2++w.pX (w.aT4.length+1 -a.1.1) a.1.2=w.CT r) (I:=λa=>[(0,.d (.ip w.aT1)),(1,.d (ci a.1.2)),(5,lv 1 900 (iR a.2)),(6,.d (ci a.1.1))])
  (J:=λa=>lm 900 25 1 (iR a.2) []) (μ:=λa=>w.aT4.length+1 -a.1.1) 2000 ((0,r),[]) 0
  (λQ:List Int=>Q=w.CT r) (λQ=>[(5,dl Q)]) (λQ=>[]) 4000 ⟨sM,sM,by simp[R4.CT]⟩ mZ ?_ ?_
 ·rintro⟨⟨i,s⟩,Q⟩ ⟨hi,hQl,hQ⟩;dsimp only at hi hQl hQ⊢;obtain⟨hk0,hk1⟩:=R4.AF hw s;cases Q with
  |nil=>
   show vc _ _ _ _ _ [] _ _
   repeat'(first|refine bl ?_|refine bS (λh=>?_) (λh=>?_)|refine aF (zP w s hw.len) (bw ?_))
   ·have hwl:w.CT r=[]:=by
     rw[<-hQ,bZ];obtain⟨k,hk⟩:∃k,w.aT4.length+1 -i=k+1:=⟨w.aT4.length -i,oM⟩;rw[hk,aUT aM]
    rw[hwl];exact .one (.nz _ _)
   ·refine n8 (by simp only[cE,aS];omega) kK ?_;conv=>whnf
    refine E9.mk (λh1=>absurd h1 sM) (λh1=>?_);conv=>whnf
    repeat'(first|refine bl ?_|refine bS (λh=>?_) (λh=>?_)|refine aF (aH5 (w.iI s).kind) (bw ?_))
    ·have hwl:w.CT r=[s]:=by
      rw[<-hQ,bZ];obtain⟨k,hk⟩:∃k,w.aT4.length+1 -i=k+1:=⟨w.aT4.length -i,oM⟩;rw[hk,aSA aM aM]
     rw[hwl];exact .one (.dU (t:=25) rfl)
    ·refine⟨((i+1,(w.iI s).of),[s]),dM,⟨dM,sM,?_⟩,?_⟩
     ·dsimp only;rw[<-hQ];obtain⟨k,hk⟩:∃k,w.aT4.length+1 -i=k+1:=⟨w.aT4.length -i,oM⟩;rw[hk,aUS aM aM,show w.aT4.length+1 -(i+1)=k by omega];rfl
     ·dsimp only[iR,List.map_cons,List.map_nil,lv,lm];exact mv 2168 900
      all_goals exact cO rfl rfl
   ·refine⟨[],?_,mZ⟩;rw[<-hQ,show w.aT4.length+1 -i=0 by omega];rfl
  |cons q0 Q=>
   show vc _ _ _ _ _ [(900,dU 25 1 (iR (q0::Q)))] _ _
   repeat'(first|refine bl ?_|refine bS (λh=>?_) (λh=>?_)|refine aF (zP w s hw.len) (bw ?_))
   ·have hwl:w.CT r=q0::Q:=by
     rw[<-hQ];obtain⟨k,hk⟩:∃k,w.aT4.length+1 -i=k+1:=⟨w.aT4.length -i,oM⟩;rw[hk,aUT aM,dS]
    rw[hwl];exact .one (.dU (t:=25) rfl)
   ·refine n8 (by simp only[cE,aS,aB,bE];omega) kK ?_;conv=>whnf
    repeat'(first|refine bl ?_|refine bS (λh=>?_) (λh=>?_)|refine aF (aH5 (w.iI s).kind) (bw ?_))
    ·have hwl:w.CT r=q0::(Q++[s]):=by
      rw[<-hQ];obtain⟨k,hk⟩:∃k,w.aT4.length+1 -i=k+1:=⟨w.aT4.length -i,oM⟩;rw[hk,aSA aM aM];rfl
     rw[hwl];exact .one (Rd.UN (t:=25) rfl (gG (q0::Q) [s]))
    ·refine⟨((i+1,(w.iI s).of),q0::(Q++[s])),dM,⟨dM,by simp at hQl⊢;omega,?_⟩,?_⟩
     ·dsimp only;rw[<-hQ];obtain⟨k,hk⟩:∃k,w.aT4.length+1 -i=k+1:=⟨w.aT4.length -i,oM⟩;rw[hk,aUS aM aM,show w.aT4.length+1 -(i+1)=k by omega];simp
     ·dsimp only[iR,List.map_cons,List.map_nil,lv,lm];refine mq 2168 900 ?_
      all_goals exact cO rfl (gG (q0::Q) [s])
   ·refine⟨q0::Q,?_,cN.freeze [900] tV ⟨.rd (.dU (eX rfl rfl)),tV⟩ tV ⟨tV,tV⟩ tV⟩;rw[<-hQ,show w.aT4.length+1 -i=0 by omega];simp[R4.pX]
 ·rintro Q hQ;cases Q with
  |nil=>
   refine bl ?_;rw[<-hQ];exact .one (.nz _ _)
  |cons q0 Q=>
   refine bl ?_;rw[<-hQ];exact .one (.d _)
def aD8(k set:Int):Int:=if k=1 then 3 else if k=2\/k=3 then 9 else if k=4 then 12 else if k=5\/k=6\/k=8\/k=12 then 16 else if k=9 then 13 else if k=10 then 1 else if k=11 then 8 else if k=13 then 33 else if k=14 then set else 0
def R4.MD(w:R4):Nat->Int->Option Int
 |0,_=>none
 |n+1,r=>match w.find r with
  |none=>some 0
  |some t=>if t.bQ.kind=15\/t.bQ.kind=16 then R4.MD w n t.bQ.of else some (aD8 t.bQ.kind t.bQ.set)
theorem R4.aTG{w:R4}{v:Int}(h:w.MD (n+1) r=some v)(hb:w.mI r=false):v=0:=by
 unfold R4.mI at hb;rw[R4.MD]at h;cases hf:w.find r with
 |none=>rw[hf]at h;exact(eY h).symm
 |some t=>rw[hf]at hb;cases hb
theorem R4.aPV{w:R4}{v:Int}(h:w.MD (n+1) r=some v)(hb:w.mI r=true)(h1:¬(w.iI r).kind=15)(h2:¬(w.iI r).kind=16):v=aD8 (w.iI r).kind (w.iI r).set:=by
 unfold R4.mI at hb;unfold R4.iI at h1 h2⊢;rw[R4.MD]at h;cases hf:w.find r with
 |none=>rw[hf]at hb;cases hb
 |some t=>
  rw[hf]at h h1 h2;simp only[dF,gZ]at h1 h2⊢;simpa [h1,h2]using h.symm
theorem R4.aVX{w:R4}{v:Int}(h:w.MD (n+1) r=some v)(hb:w.mI r=true)(h1:(w.iI r).kind=15\/(w.iI r).kind=16):w.MD n (w.iI r).of=some v:=by
 unfold R4.mI at hb;unfold R4.iI at h1⊢;rw[R4.MD]at h;cases hf:w.find r with
 |none=>rw[hf]at hb;cases hb
 |some t=>
  rw[hf]at h h1;simp only[dF,gZ]at h1⊢;simpa [h1]using h
theorem aOQ(w:R4)(hw:w.wt):∀(n:Nat)(r v:Int),w.MD n r=some v->Pu 155 [.d (.ip w.aT1),.d (ci r)] (.d (.v (.int .u8 v)))
 |0,r,v,hv=>by cases hv
 |n+1,r,v,hv=>by
  obtain⟨hk0,hk1⟩:=R4.AF hw r;refine iC mix Tryz.func155 ?_
  repeat'(first|refine bl ?_|refine bS (λh=>?_) (λh=>?_)|refine aF (zP w r hw.len) (bw ?_)|(refine aF (aOQ w hw n (w.iI r).of v (R4.aVX hv aM (by first|exact .inl aM|exact .inr aM))) ?_;(conv=>whnf)))
  all_goals first
   |(refine CW (R4.aTG hv aM).symm;done)
   |(refine CW ?_
     have hb:=R4.aPV hv aM oM oM;rw[hb];simp_all[aD8]
     done)
   |(refine CW ?_
     have hb:=R4.aPV hv aM oM oM;rw[hb];simp_all[aD8]
     omega)
   |exact CW rfl
theorem aUI(L:List V):Pu 139 [.d (.sl 5 (L.map V.row))] (.d (.agg (V.mk 3 0 ByteArray.empty L 0).aT1)):=by
 refine iC mix Tryz.func139 ?_;refine bl ?_
 all_goals exact .one (.agg (wJ.data _ (V.mk 3 0 ByteArray.empty L 0).aT1))
def W4.refs(x:W4):List Int:=(x.vA.map V.refs).flatten
theorem aHQ(L:List V):((L.map V.refs).flatten).length<=V.dB L:=by
 induction L with
 |nil=>simp
 |cons v r ih=>
  have:=V.EO v;simp only[aG,dL,aU,V.dB];omega
theorem aOR(x:W4)(hx:x.cR<=2^35):Pu 73 [.d (.agg x.aT1)] (.d (.sl 1 (iR x.refs))):=by
 have hvc:=x.aF6;have hvl:=V.eW x.vA;have a2P:∀i,(((x.vA.take i).map V.refs).flatten).length<=2^36:=λi=>by
  have h1:=aHQ (x.vA.take i);have h2:=V.kA x.vA i;omega
 refine iC mix Tryz.func73 ?_
 repeat'(first|refine bl ?_|refine fT (cs:=x.aT1) (aBZ x oM) (bw ?_))
 refine cY mix (λa:Nat×List Int=>a.1<=x.vA.length/\a.2=((x.vA.take a.1).map V.refs).flatten) (I:=λa=>[(3,lv 1 900 (iR a.2)),(4,.d (aF5 x.vA)),(5,.d (ci a.1))])
  (J:=λa=>lm 900 25 1 (iR a.2) []) (μ:=λa=>x.vA.length -a.1) 2000 (0,[]) 0
  (λQ:List Int=>Q=x.refs) (λQ=>[(3,dl Q)]) (λQ=>[]) 4000 ⟨sM,sM⟩ mZ ?_ ?_
 ·rintro⟨i,Q⟩ ⟨hi,hQ⟩;dsimp only at hi hQ⊢;have hlen:Q.length<=2^36:=by
   have h1:=a2P i;rw[hQ];omega
  cases Q with
  |nil=>
   show vc _ _ _ _ _ [] _ _
   repeat'(first|refine bl ?_|refine bS (λh=>?_) (λh=>?_))
   ·refine cD rfl eD h ?_;have hst:((x.vA.take (i+1)).map V.refs).flatten=((x.vA.take i).map V.refs).flatten++V.refs x.vA[i]:=iU V.refs x.vA i h;have hq:=V.EO x.vA[i];have hq2:=V.dG x.vA i h;conv=>whnf
    repeat' refine aF (aPR x.vA[i] oM) (bw ?_)
    refine n8 (by simp only[aB];omega) kK ?_;conv=>whnf
    refine E9.mk (λh1=>?_) (λh1=>?_)
    ·have h1:V.refs x.vA[i]=[]:=by simpa using h1
     conv=>whnf
     refine bl ?_;refine⟨(i+1,[]),dM,⟨dM,by dsimp only;rw[hst,h1,dS,<-hQ]⟩,?_⟩;exact mZ
    ·have h1:V.refs x.vA[i]≠[]:=by simpa using h1
     conv=>whnf
     refine bl ?_;refine⟨(i+1,V.refs x.vA[i]),dM,⟨dM,by dsimp only;rw[hst,<-hQ,bZ]⟩,?_⟩;cases hrr:V.refs x.vA[i]with
     |nil=>exact absurd hrr h1
     |cons r Q=>
      dsimp only[iR,List.map_cons,lv,lm];exact mv 2080 900
      all_goals first|exact cO rfl rfl|exact cO rfl (by rw[hrr];rfl)
   ·rw[aI oM]at hQ;exact⟨[],hQ,mZ⟩
  |cons r Q=>
   show vc _ _ _ _ _ [(900,dU 25 1 (iR (r::Q)))] _ _
   repeat'(first|refine bl ?_|refine bS (λh=>?_) (λh=>?_))
   ·refine cD rfl eD h ?_;have hst:((x.vA.take (i+1)).map V.refs).flatten=((x.vA.take i).map V.refs).flatten++V.refs x.vA[i]:=iU V.refs x.vA i h;have hq:=V.EO x.vA[i];have hq2:=V.dG x.vA i h;conv=>whnf
    repeat' refine aF (aPR x.vA[i] oM) (bw ?_)
    refine n8 (by simp only[aB,bE];omega) kK ?_;conv=>whnf
    refine bl ?_;refine⟨(i+1,r::(Q++V.refs x.vA[i])),dM,⟨dM,by dsimp only;rw[hst,<-hQ];rfl⟩,?_⟩;refine mq 2080 900 ?_
    all_goals exact cO rfl (gG (r::Q) (V.refs x.vA[i]))
   ·rw[aI oM]at hQ;exact⟨r::Q,hQ,cN.freeze [900] tV ⟨.rd (.dU (eX rfl rfl)),tV⟩ tV ⟨tV,tV⟩ tV⟩
 ·rintro Q hQ;cases Q with
  |nil=>
   refine bl ?_;rw[<-hQ];exact .one (.nz _ _)
  |cons q0 Q=>
   refine bl ?_;rw[<-hQ];exact .one (.d _)
def aBY(r k of:Int)(b:Bool)(t:T4):Bool:=decide (t.ref≠r)&&(decide (t.bQ.kind=k)&&(if b=true then decide (t.bQ.by_=of)else decide (t.bQ.of=of)))
def R4.QN(w:R4)(r k of:Int)(b:Bool):Bool:=w.aT4.any (aBY r k of b)
theorem aLI(w:R4)(hw:w.wt)(r k of:Int)(b:Bool):Pu 154 [.d (.ip w.aT1),.d (ci r),.d (ci k),.d (ci of),.d (cb b)] (.d (cb (w.QN r k of b))):=by
 have hlen:=hw.len;have hkd:∀i(h:i<w.aT4.length),0<=w.aT4[i].bQ.kind/\w.aT4[i].bQ.kind<256:=λi h=>hw.kind _ (aY h);refine iC mix Tryz.func154 ?_;refine bl ?_;refine bV mix (λi:Nat=>i<=w.aT4.length/\(w.aT4.take i).any (aBY r k of b)=false) (I:=λi=>[(0,.d (.ip w.aT1)),(1,.d (ci r)),(2,.d (ci k)),(3,.d (ci of)),(4,.d (cb b)),(11,.d (ci i))])
  (J:=λi=>[]) (μ:=λi=>w.aT4.length -i) 1000 0 ⟨oM,rfl⟩ mZ ?_
 rintro i ⟨hi,h0⟩
 repeat'(first|refine bl ?_|refine bS (λh=>?_) (λh=>?_))
 ·refine cD rfl eD aM ?_;have hlt:i<w.aT4.length:=aM;obtain⟨hk0,hk1⟩:=hkd i hlt;conv=>whnf
  repeat'(first|refine bl ?_|refine bS (λh=>?_) (λh=>?_)|refine cD rfl eD hlt (bw ?_))
  all_goals cases b
  all_goals try first
   |(exact dP (dQ.2 ⟨w.aT4[i],aY hlt,by simp_all[aBY]⟩).symm)
  all_goals try(refine⟨i+1,oM,⟨oM,A2 (aBY r k of true) w.aT4 i hlt h0 ?_⟩,mZ⟩)
  all_goals try(refine⟨i+1,oM,⟨oM,A2 (aBY r k of false) w.aT4 i hlt h0 ?_⟩,mZ⟩)
  all_goals try simp_all[aBY]
 ·rw[aI oM]at h0;exact dP h0.symm
abbrev vR(L:List V):List (List C):=L.map V.aT1
def dlV(L:List V):A:=match L with
 |[]=>.d (.nl 5)
 |v::L=>.d (.sl 5 (vR (v::L)))
abbrev zVA:List A:=[.d (.v (.int .u8 0)),.d (ci 0),.d (.v (.string ByteArray.empty)),.d (.nl 5),.d (ci 0)]
theorem aPL(a:List V)(b:V):bE (vR a)++[b.aT1.map A.d]=bE (vR (a++[b])):=by rw[vR,vR,bP,ER];rfl
theorem z7:∀(v:V),v.cR<=2^35->Pu 152 [.d (.agg v.aT1)] (.d (.agg v.aT1)):=by
 intro v hv;have hce:v.cR=1+V.dB v.l:=by cases v;rfl
 have hcl:V.dB v.l<=2^35:=oM;have hll:=V.eW v.l;refine iC mix Tryz.func152 ?_;refine bl ?_;refine cY mix (λa:Nat×List V=>a.1<=v.l.length/\a.2=v.l.take a.1) (I:=λa=>[(1,.lp 1 0),(2,.lp 9 0),(3,lv 5 900 (vR a.2)),(4,.d (ci a.1))])
  (J:=λa=>lm 900 88 5 (vR a.2) [(1,.cells false (v.aT1.map A.d)),(9,.cells false zVA)]) (μ:=λa=>v.l.length -a.1) 2000 (0,[]) 0
  (λQ:List V=>Q=v.l) (λQ=>[(1,.lp 1 0),(2,.lp 9 0),(3,dlV Q)]) (λQ=>[(1,.cells false (v.aT1.map A.d)),(9,.cells false zVA)]) 4000 ⟨sM,sM⟩ mZ ?_ ?_
 ·rintro⟨i,Q⟩ ⟨hi,hQ⟩;dsimp only at hi hQ⊢;cases Q with
  |nil=>
   show vc _ _ _ _ _ [(1,.cells false (v.aT1.map A.d)),(9,.cells false zVA)] _ _
   repeat'(first|refine bl ?_|refine bS (λh=>?_) (λh=>?_))
   ·refine eE V.cP rfl eD h ?_;have hlt:i<v.l.length:=h;have hq:=V.dG v.l i hlt;have a0W:V.cR v.l[i]<v.cR:=oM;conv=>whnf
    repeat' refine aF (z7 v.l[i] oM) (bw ?_)
    refine n8 (by simp only[cE,aS];omega) kK ?_;conv=>whnf
    refine E9.mk (λh1=>absurd h1 sM) (λh1=>?_);conv=>whnf
    refine bl ?_;refine⟨(i+1,[v.l[i]]),dM,⟨dM,by dsimp only;rw[aT hlt,<-hQ];rfl⟩,?_⟩;dsimp only[vR,List.map_cons,List.map_nil,lv,lm];exact mv 2104 900
    all_goals exact cO rfl rfl
   ·rw[aI oM]at hQ;exact⟨[],hQ,mZ⟩
  |cons r Q=>
   show vc _ _ _ _ _ [(900,dU 88 5 (vR (r::Q))),(1,.cells false (v.aT1.map A.d)),(9,.cells false zVA)] _ _
   repeat'(first|refine bl ?_|refine bS (λh=>?_) (λh=>?_))
   ·refine eE V.cP rfl eD h ?_;have hlt:i<v.l.length:=h;have hq:=V.dG v.l i hlt;have a0W:V.cR v.l[i]<v.cR:=oM;have hql:(r::Q).length<=i:=by rw[hQ,cW];omega
    conv=>whnf
    repeat' refine aF (z7 v.l[i] oM) (bw ?_)
    refine n8 (by simp only[cE,aS,aB,bE];omega) kK ?_;conv=>whnf
    refine bl ?_;refine⟨(i+1,r::(Q++[v.l[i]])),dM,⟨dM,by dsimp only;rw[aT hlt,<-hQ];rfl⟩,?_⟩;dsimp only[vR,List.map_cons,List.map_nil,lv,lm];refine mq 2104 900 ?_
    all_goals exact cO rfl (aPL (r::Q) v.l[i])
   ·rw[aI oM]at hQ;exact⟨r::Q,hQ,cN.freeze [900] tV ⟨.same _,.same _,.rd (.dU (eX rfl rfl)),tV⟩ ⟨⟨rfl,_,rfl,.cells (.same _)⟩,⟨rfl,_,rfl,.cells (.same _)⟩,tV⟩ ⟨⟨nofun,tV⟩,⟨nofun,tV⟩,tV,tV⟩ ⟨tV,tV,tV⟩⟩
 ·rintro Q rfl;have e:v.aT1=[.v (.int .u8 v.kind),ci v.n,.v (.string v.s),.sl 5 (v.l.map V.row),ci v.r]:=rfl;have er:V.row=V.aT1:=funext V.cP;rw[e,er];cases hl:v.l with
  |nil=>
   refine bl ?_;exact .one (.agg (.cons (.d _) (.cons (.d _) (.cons (.d _) (.cons (.nz _ _) (.cons (.d _) .nil))))))
  |cons q0 Q=>
   refine bl ?_;exact .one (.agg (wJ.data _ [.v (.int .u8 v.kind),ci v.n,.v (.string v.s),.sl 5 (vR (q0::Q)),ci v.r]))
 termination_by v=>v.cR
abbrev eR(L:List E4):List (List C):=L.map E4.aT1
def dlE(L:List E4):A:=match L with
 |[]=>.d (.nl 4)
 |v::L=>.d (.sl 4 (eR (v::L)))
abbrev zEA:List A:=[.d (.v (.int .u8 0)),.d (ci 0),.d (.v (.string ByteArray.empty)),.d (.nl 4)]
theorem aS5(a:List E4)(b:E4):bE (eR a)++[b.aT1.map A.d]=bE (eR (a++[b])):=by rw[eR,eR,bP,ER];rfl
theorem N3:∀(v:E4),v.cR<=2^35->Pu 185 [.d (.agg v.aT1)] (.d (.agg v.aT1)):=by
 intro v hv;have hce:v.cR=1+E4.dB v.l:=by cases v;rfl
 have hcl:E4.dB v.l<=2^35:=oM;have hll:=E4.eW v.l;refine iC mix Tryz.func185 ?_;refine bl ?_;refine cY mix (λa:Nat×List E4=>a.1<=v.l.length/\a.2=v.l.take a.1) (I:=λa=>[(1,.lp 1 0),(2,.lp 9 0),(3,lv 4 900 (eR a.2)),(4,.d (ci a.1))])
  (J:=λa=>lm 900 207 4 (eR a.2) [(1,.cells false (v.aT1.map A.d)),(9,.cells false zEA)]) (μ:=λa=>v.l.length -a.1) 2000 (0,[]) 0
  (λQ:List E4=>Q=v.l) (λQ=>[(1,.lp 1 0),(2,.lp 9 0),(3,dlE Q)]) (λQ=>[(1,.cells false (v.aT1.map A.d)),(9,.cells false zEA)]) 4000 ⟨sM,sM⟩ mZ ?_ ?_
 ·rintro⟨i,Q⟩ ⟨hi,hQ⟩;dsimp only at hi hQ⊢;cases Q with
  |nil=>
   show vc _ _ _ _ _ [(1,.cells false (v.aT1.map A.d)),(9,.cells false zEA)] _ _
   repeat'(first|refine bl ?_|refine bS (λh=>?_) (λh=>?_))
   ·refine eE E4.cP rfl eD h ?_;have hlt:i<v.l.length:=h;have hq:=E4.dG v.l i hlt;have a0W:E4.cR v.l[i]<v.cR:=oM;conv=>whnf
    repeat' refine aF (N3 v.l[i] oM) (bw ?_)
    refine n8 (by simp only[cE,aS];omega) kK ?_;conv=>whnf
    refine E9.mk (λh1=>absurd h1 sM) (λh1=>?_);conv=>whnf
    refine bl ?_;refine⟨(i+1,[v.l[i]]),dM,⟨dM,by dsimp only;rw[aT hlt,<-hQ];rfl⟩,?_⟩;dsimp only[eR,List.map_cons,List.map_nil,lv,lm];exact mv 2104 900
    all_goals exact cO rfl rfl
   ·rw[aI oM]at hQ;exact⟨[],hQ,mZ⟩
  |cons r Q=>
   show vc _ _ _ _ _ [(900,dU 207 4 (eR (r::Q))),(1,.cells false (v.aT1.map A.d)),(9,.cells false zEA)] _ _
   repeat'(first|refine bl ?_|refine bS (λh=>?_) (λh=>?_))
   ·refine eE E4.cP rfl eD h ?_;have hlt:i<v.l.length:=h;have hq:=E4.dG v.l i hlt;have a0W:E4.cR v.l[i]<v.cR:=oM;have hql:(r::Q).length<=i:=by rw[hQ,cW];omega
    conv=>whnf
    repeat' refine aF (N3 v.l[i] oM) (bw ?_)
    refine n8 (by simp only[cE,aS,aB,bE];omega) kK ?_;conv=>whnf
    refine bl ?_;refine⟨(i+1,r::(Q++[v.l[i]])),dM,⟨dM,by dsimp only;rw[aT hlt,<-hQ];rfl⟩,?_⟩;dsimp only[eR,List.map_cons,List.map_nil,lv,lm];refine mq 2104 900 ?_
    all_goals exact cO rfl (aS5 (r::Q) v.l[i])
   ·rw[aI oM]at hQ;exact⟨r::Q,hQ,cN.freeze [900] tV ⟨.same _,.same _,.rd (.dU (eX rfl rfl)),tV⟩ ⟨⟨rfl,_,rfl,.cells (.same _)⟩,⟨rfl,_,rfl,.cells (.same _)⟩,tV⟩ ⟨⟨nofun,tV⟩,⟨nofun,tV⟩,tV,tV⟩ ⟨tV,tV,tV⟩⟩
 ·rintro Q rfl;have e:v.aT1=[.v (.int .u8 v.kind),ci v.n,.v (.string v.s),.sl 4 (v.l.map E4.row)]:=rfl;have er:E4.row=E4.aT1:=funext E4.cP;rw[e,er];cases hl:v.l with
  |nil=>
   refine bl ?_;exact .one (.agg (.cons (.d _) (.cons (.d _) (.cons (.d _) (.cons (.nz _ _) .nil)))))
  |cons q0 Q=>
   refine bl ?_;exact .one (.agg (wJ.data _ [.v (.int .u8 v.kind),ci v.n,.v (.string v.s),.sl 4 (eR (q0::Q))]))
 termination_by v=>v.cR
abbrev PC(L:List S4):List (List C):=L.map S4.aT1
def dlC(L:List S4):A:=match L with
 |[]=>.d (.nl 17)
 |v::L=>.d (.sl 17 (PC (v::L)))
theorem aS4(a:List S4)(b:S4):bE (PC a)++[b.aT1.map A.d]=bE (PC (a++[b])):=by rw[PC,PC,bP,ER];rfl
theorem aV3{m:Mem}{k es:Nat}{α:Type}{L:List α}{f:α->List C}(h:L=[]):Cv m (.d (.nl k)) (.d (.sl es (L.map f))):=by subst h;exact .rd (.nz _ _)
theorem GP:∀(c:List S4),S4.dB c<=2^35->Pu 153 [.d (.sl 17 (c.map S4.row))] (.d (.sl 17 (c.map S4.row))):=by
 intro c hv;have hll:=S4.eW c;refine iC mix Tryz.func153 ?_;refine bl ?_;refine cY mix (λa:Nat×List S4=>a.1<=c.length/\a.2=c.take a.1) (I:=λa=>[(0,.d (.sl 17 (c.map S4.row))),(3,lv 17 900 (PC a.2)),(4,.d (ci a.1))])
  (J:=λa=>lm 900 210 17 (PC a.2) []) (μ:=λa=>c.length -a.1) 2000 (0,[]) 0
  (λQ:List S4=>Q=c) (λQ=>[(3,dlC Q)]) (λQ=>[]) 4000 ⟨sM,sM⟩ mZ ?_ ?_
 ·rintro⟨i,Q⟩ ⟨hi,hQ⟩;dsimp only at hi hQ⊢;cases Q with
  |nil=>
   show vc _ _ _ _ _ [] _ _
   repeat'(first|refine bl ?_|refine bS (λh=>?_) (λh=>?_))
   ·refine eE S4.cP rfl eD h ?_;have hlt:i<c.length:=h;have hq:=S4.dG c i hlt;have hcd:=c[i].fA;have hdt:S4.dB c[i].t<S4.dB c:=oM;have hde:S4.dB c[i].e<S4.dB c:=oM;have hdc:S4.dB c[i].c<S4.dB c:=oM;conv=>whnf
    repeat'(with_reducible (first|refine w9 ?_|refine nN.mk ?_))
    refine w1 ?_
    repeat'(first|with_reducible refine w9 ?_|((with_reducible refine wu ?_);(conv=>whnf))|with_reducible refine aJH.mk kK ?_|((refine jV (N3 c[i].a oM) (.cons (.agg c[i].a.aT1) .nil) ?_);(conv=>whnf))|((refine jV (N3 c[i].b oM) (.cons (.agg c[i].b.aT1) .nil) ?_);(conv=>whnf)))
    refine w1 ?_
    repeat'(first|with_reducible refine w9 ?_|((with_reducible refine wu ?_);(conv=>whnf))|with_reducible refine aJH.mk kK ?_|((refine cH (GP c[i].t oM) ?_);(conv=>whnf))|((refine cH (GP c[i].e oM) ?_);(conv=>whnf))|((refine cH (GP c[i].c oM) ?_);(conv=>whnf)))
    refine w1 ?_
    repeat'(first|with_reducible (first|refine w9 ?_|refine nN.mk ?_)|((with_reducible refine wr ?_);(conv=>whnf)))
    refine BH (λ_:Unit=>True) (λ_=>[(0,.d (.sl 17 (c.map S4.row))),(3,lv 17 900 (PC ([]))),(4,.d (ci i)),(5,.lp 2064 0)]) (λ_=>(2064,.cells false (c[i].aT1.map A.d))::lm 900 210 17 (PC ([])) []) 5000 ?_ ?_
    ·skip
     repeat'((with_reducible refine wr ?_);(conv=>whnf))
     refine n8 (by simp only[aB];omega) kK ?_;conv=>whnf
     refine E9.mk (λh1=>?_) (λh1=>?_)
     ·have h1:c[i].w=[]:=by simpa using h1
      conv=>whnf
      repeat'(with_reducible (first|refine w9 ?_|refine nN.mk ?_))
      refine⟨(),tV,?_⟩;exact cN.freeze [] tV ⟨.same _,.same _,.same _,.same _,tV⟩ ⟨⟨rfl,_,rfl,.cells (.cons (.same _) (.cons (.same _) (.cons (.same _) (.cons (.same _) (.cons (.same _) (.cons (.same _) (.cons (.same _) (.cons (.same _) (.cons (.same _) (.cons (.same _) (.cons (.same _) (.cons (.same _) (.cons (.same _) (.cons (.same _) (.cons (.same _) (.cons (.same _) (.cons (aV3 h1) (.same []))))))))))))))))))⟩,tV⟩ ⟨tV,tV,tV,⟨nofun,tV⟩,tV⟩ ⟨tV,tV⟩
     ·have h1:c[i].w≠[]:=by simpa using h1
      conv=>whnf
      repeat'(with_reducible (first|refine w9 ?_|refine nN.mk ?_))
      refine⟨(),tV,?_⟩;exact cN.freeze [2312] tV ⟨.same _,.same _,.same _,.same _,tV⟩ ⟨⟨rfl,_,rfl,.cells (.cons (.same _) (.cons (.same _) (.cons (.same _) (.cons (.same _) (.cons (.same _) (.cons (.same _) (.cons (.same _) (.cons (.same _) (.cons (.same _) (.cons (.same _) (.cons (.same _) (.cons (.same _) (.cons (.same _) (.cons (.same _) (.cons (.same _) (.cons (.same _) (.cons (.rd (.dU (eX rfl rfl))) (.same []))))))))))))))))))⟩,tV⟩ ⟨tV,tV,tV,⟨nofun,tV⟩,tV⟩ ⟨tV,tV⟩
    ·rintro _ _
     repeat'((with_reducible refine wr ?_);(conv=>whnf))
     refine n8 (by simp only[cE,aS];omega) kK ?_;conv=>whnf
     refine E9.mk (λh1=>absurd h1 sM) (λh1=>?_);conv=>whnf
     refine bl ?_;refine⟨(i+1,[c[i]]),dM,⟨dM,by dsimp only;rw[aT hlt,<-hQ];rfl⟩,?_⟩;dsimp only[PC,List.map_cons,List.map_nil,lv,lm];exact mv 5024 900
     all_goals exact cO rfl rfl
     all_goals skip
   ·rw[aI oM]at hQ;exact⟨[],hQ,mZ⟩
  |cons r Q=>
   show vc _ _ _ _ _ [(900,dU 210 17 (PC (r::Q)))] _ _
   repeat'(first|refine bl ?_|refine bS (λh=>?_) (λh=>?_))
   ·refine eE S4.cP rfl eD h ?_;have hlt:i<c.length:=h;have hq:=S4.dG c i hlt;have hcd:=c[i].fA;have hdt:S4.dB c[i].t<S4.dB c:=oM;have hde:S4.dB c[i].e<S4.dB c:=oM;have hdc:S4.dB c[i].c<S4.dB c:=oM;have hql:(r::Q).length<=i:=by rw[hQ,cW];omega
    conv=>whnf
    repeat'(with_reducible (first|refine w9 ?_|refine nN.mk ?_))
    refine w1 ?_
    repeat'(first|with_reducible refine w9 ?_|((with_reducible refine wu ?_);(conv=>whnf))|with_reducible refine aJH.mk kK ?_|((refine jV (N3 c[i].a oM) (.cons (.agg c[i].a.aT1) .nil) ?_);(conv=>whnf))|((refine jV (N3 c[i].b oM) (.cons (.agg c[i].b.aT1) .nil) ?_);(conv=>whnf)))
    refine w1 ?_
    repeat'(first|with_reducible refine w9 ?_|((with_reducible refine wu ?_);(conv=>whnf))|with_reducible refine aJH.mk kK ?_|((refine cH (GP c[i].t oM) ?_);(conv=>whnf))|((refine cH (GP c[i].e oM) ?_);(conv=>whnf))|((refine cH (GP c[i].c oM) ?_);(conv=>whnf)))
    refine w1 ?_
    repeat'(first|with_reducible (first|refine w9 ?_|refine nN.mk ?_)|((with_reducible refine wr ?_);(conv=>whnf)))
    refine BH (λ_:Unit=>True) (λ_=>[(0,.d (.sl 17 (c.map S4.row))),(3,lv 17 900 (PC (r::Q))),(4,.d (ci i)),(5,.lp 2064 0)]) (λ_=>(2064,.cells false (c[i].aT1.map A.d))::lm 900 210 17 (PC (r::Q)) []) 5000 ?_ ?_
    ·skip
     repeat'((with_reducible refine wr ?_);(conv=>whnf))
     refine n8 (by simp only[aB];omega) kK ?_;conv=>whnf
     refine E9.mk (λh1=>?_) (λh1=>?_)
     ·have h1:c[i].w=[]:=by simpa using h1
      conv=>whnf
      repeat'(with_reducible (first|refine w9 ?_|refine nN.mk ?_))
      refine⟨(),tV,?_⟩;exact cN.freeze [] tV ⟨.same _,.same _,.same _,.same _,tV⟩ ⟨⟨rfl,_,rfl,.cells (.cons (.same _) (.cons (.same _) (.cons (.same _) (.cons (.same _) (.cons (.same _) (.cons (.same _) (.cons (.same _) (.cons (.same _) (.cons (.same _) (.cons (.same _) (.cons (.same _) (.cons (.same _) (.cons (.same _) (.cons (.same _) (.cons (.same _) (.cons (.same _) (.cons (aV3 h1) (.same []))))))))))))))))))⟩,⟨rfl,_,rfl,.fW (.same _)⟩,tV⟩ ⟨tV,⟨nofun,tV⟩,tV,⟨nofun,tV⟩,tV⟩ ⟨tV,aZ,tV⟩
     ·have h1:c[i].w≠[]:=by simpa using h1
      conv=>whnf
      repeat'(with_reducible (first|refine w9 ?_|refine nN.mk ?_))
      refine⟨(),tV,?_⟩;exact cN.freeze [2312] tV ⟨.same _,.same _,.same _,.same _,tV⟩ ⟨⟨rfl,_,rfl,.cells (.cons (.same _) (.cons (.same _) (.cons (.same _) (.cons (.same _) (.cons (.same _) (.cons (.same _) (.cons (.same _) (.cons (.same _) (.cons (.same _) (.cons (.same _) (.cons (.same _) (.cons (.same _) (.cons (.same _) (.cons (.same _) (.cons (.same _) (.cons (.same _) (.cons (.rd (.dU (eX rfl rfl))) (.same []))))))))))))))))))⟩,⟨rfl,_,rfl,.fW (.same _)⟩,tV⟩ ⟨tV,⟨nofun,tV⟩,tV,⟨nofun,tV⟩,tV⟩ ⟨tV,aZ,tV⟩
    ·rintro _ _
     repeat'((with_reducible refine wr ?_);(conv=>whnf))
     refine n8 (by simp only[cE,aS,aB,aQ,bE];simp only[aQ]at hql;omega) kK ?_;conv=>whnf
     refine bl ?_;refine⟨(i+1,r::(Q++[c[i]])),dM,⟨dM,by dsimp only;rw[aT hlt,<-hQ];rfl⟩,?_⟩;dsimp only[PC,List.map_cons,List.map_nil,lv,lm];refine mq 5024 900 ?_
     all_goals exact cO rfl (aS4 (r::Q) c[i])
     all_goals skip
   ·rw[aI oM]at hQ;exact⟨r::Q,hQ,cN.freeze [900] tV ⟨.rd (.dU (eX rfl rfl)),tV⟩ tV ⟨tV,tV⟩ tV⟩
 ·rintro Q rfl;cases Q with
  |nil=>
   refine bl ?_;exact .one (.nz _ _)
  |cons q0 Q=>
   refine bl ?_;rw[show S4.row=S4.aT1 from funext S4.cP];exact .one (.d _)
 termination_by c=>S4.dB c
end Go.Pv
