import Derived.Test.YtpdcbahjjmooiaaGreatH24
/- A program logic over the model, contracts of the functions that the law reaches: part 25. (Names and blanks were shortened by program.) -/
set_option linter.unusedVariables false
set_option linter.unusedSimpArgs false
set_option linter.constructorNameAsVariable false
set_option linter.unusedSectionVars false
set_option linter.deprecated false
set_option maxRecDepth 100000
set_option maxHeartbeats 8000000
open Go Go.Proofs
namespace Go.Pv
open Go.RowKit
theorem aLT(w:R4)(hw:w.gA)(u:U4)(hu:u.wD):Pu 31 [.d (.ip w.aT1),.d (.agg u.aT1)] (.d (ci (if w.MR u=true then 0 else 190))):=by
 have aY3:=aSU w hw.towt u hu;refine iC mix Tryz.func31 ?_;cases hm:w.MR u with
 |false=>
  rw[hm]at aY3
  repeat'(first|refine bl ?_|refine dR aY3 (.cons (.same _) (.cons (.agg u.aT1) .nil)) (bw ?_))
  exact oF rfl
 |true=>
  rw[hm]at aY3
  repeat'(first|refine bl ?_|refine dR aY3 (.cons (.same _) (.cons (.agg u.aT1) .nil)) (bw ?_))
  exact oF rfl
theorem aGB(w:D4)(hw:w.qV)(u:U4)(hu:u.gA)(hck:w.zE u=true)(h0:jL u.names≠[]):∀(m:Mem)(d:Nat),m d=none->aJ Tryz.prog 28 [.d (.ip w.aT1),.d (.agg u.aT1)] m (.ok (.eL [.h d,.d (ci 0)])) (aX m d (dU 25 1 (iR (oZ (jL u.names))))):=by
 have hn:=hu.names;have E0:=hu.nlen;have aX5:∀i(h:i<[u].length),[u][i].gA:=λi h=>match i,h with
  |0,_=>hu
 have hm:=yG w hw [u] sM aX5;have hme:w.s8 [u]=0:=by unfold D4.s8;simp[hck]
 rw[hme]at hm;have hin:=D0 u.names oM;have uJ:=IG u;have hrw:=WQ (jL u.names) oM h0;refine iW mix (F:=λd=>.eL [.h d,.d (ci 0)]) (r:=dU 25 1 (iR (oZ (jL u.names)))) Tryz.func28 rfl kK (bD rfl) rfl (oJ _ _ _) (λ_ _=>rfl) (λi j hj=>by simpa [A.hs,A.lQ]using hj) (λg=>eT g _ _ _) ?_
 repeat'(first|refine bl ?_|(refine fU (cs:=[.ip w.aT1,.sl 4 [u.aT1]]) hm (.v _) (.cons (.d _) (.cons (.os rfl (D6.data _ [u.aT1])) .nil)) ?_;(conv=>whnf))|refine aF hin (bw ?_)|refine fQ hrw 5000 rfl (bw ?_))
 exact⟨5000,rfl,rfl⟩
theorem aIB(w:D4)(hg:w.gA)(r:Int)(h0:w.nW r≠[]):∀(m:Mem)(d:Nat),m d=none->aJ Tryz.prog 30 [.d (.ip w.aT1),.d (ci r)] m (.ok (.eL [.h d,.d (ci 0)])) (aX m d (dU 25 1 (iR (w.nW r)))):=by
 refine iW mix (F:=λd=>.eL [.h d,.d (ci 0)]) (r:=dU 25 1 (iR (w.nW r))) Tryz.func30 rfl kK (bD rfl) rfl (oJ _ _ _) (λ_ _=>rfl) (λi j hj=>by simpa [A.hs,A.lQ]using hj) (λg=>eT g _ _ _) ?_
 repeat'(first|refine bl ?_|refine bS (λh=>?_) (λh=>?_)|refine aF (SW w hg r) (bw ?_))
 all_goals
  unfold D4.nW at h0⊢
  first
  |(rw[aUF aM]at h0;exact absurd rfl h0)
  |(rw[aT7 oM,aUF oM];exact⟨_,rfl,rfl⟩)
  |(rw[aT7 oM,aT7 oM,aUF oM];exact⟨_,rfl,rfl⟩)
  |(rw[aT7 oM,aT7 oM,aT7 oM]at h0;exact absurd rfl h0)
section
variable{w:D4}{v:R4}
theorem DC.aW4(h:DC w v)(r:Int):w.oE r=v.SV r:=by
 unfold D4.oE R4.SV D4.aDH;rw[h.mI,h.iI];cases hb:w.mI r with
 |false=>simp
 |true=>
  rw[aT7 sM,aUF rfl];have hx:(w.iI r).aAZ:=by
   unfold D4.mI at hb;unfold D4.iI;cases hf:w.find r with
   |none=>rw[hf]at hb;cases hb
   |some t=>exact h.fit t (N0 hf).1
  refine aLV λq=>?_;rw[<-W4.aPJ _ hx];unfold W4.held W4.xB jL;simp only[bN];constructor
  ·rintro((a|a)|a)
   ·exact .inl a
   ·exact .inr (.inr a)
   ·exact .inr (.inl a)
  ·rintro(a|a|a)
   ·exact .inl (.inl a)
   ·exact .inr a
   ·exact .inl (.inr a)
theorem DC.aPA(h:DC w v)(r:Int):w.nW r=v.LY r:=by
 unfold D4.nW R4.LY D4.aDH;rw[h.mI,h.iI];cases hb:w.mI r with
 |false=>simp
 |true=>simp
theorem DC.rE(h:DC w v)(r:Int):w.aDH r=v.rE r:=by
 unfold D4.aDH R4.rE;rw[h.mI]
end
theorem aO2{L:List Int}(h:L=[]):Pu 13 [.d (.sl 1 []),.d (.sl 1 (iR L))] (.d (cb true)):=by subst h;exact aOY
theorem aDN(x:X4)(u:U4)(t:Int)(hJ:aSB x [u]):Pu 7 [.d (.agg x.aT1),.d (.agg u.aT1),.d (ci t)] (.d (cb true)):=by
 refine iC mix Tryz.func7 ?_;have hfi:=aAA x [u] (λt ht=>⟨cL (hJ.cR t ht).1 (bD rfl),(hJ.cR t ht).2⟩) (cL hJ.ll (bD rfl)) (cL hJ.tl (bD rfl));cases hf:CI x [u]with
 |false=>
  rw[hf]at hfi
  repeat'(first|refine bl ?_|(refine fU (cs:=[.agg x.aT1,.sl 4 [u.aT1]]) hfi (.v _) (.cons (.agg (wJ.data _ x.aT1)) (.cons (.os rfl (D6.data _ [u.aT1])) .nil)) ?_;(conv=>whnf))|refine aF D9 (bw ?_))
  exact dP rfl
 |true=>
  rw[hf]at hfi;cases hb:y9 x with
  |false=>
   have hbo:=aV0 hJ hf hb
   repeat'(first|refine bl ?_|(refine fU (cs:=[.agg x.aT1,.sl 4 [u.aT1]]) hfi (.v _) (.cons (.agg (wJ.data _ x.aT1)) (.cons (.os rfl (D6.data _ [u.aT1])) .nil)) ?_;(conv=>whnf))|refine dR hbo (.cons (.agg x.aT1) .nil) (bw ?_)|refine aF D9 (bw ?_))
   all_goals first|(exfalso;omega)|exact dP rfl
  |true=>
   have hR:=aU4 hJ hf hb;have hbo:=aV1 hR;have hug:=hR.gA u sM;have hu9:=hR.wD u sM;have hun:=hR.nm u sM
   repeat'(first|refine bl ?_|(refine fU (cs:=[.agg x.aT1,.sl 4 [u.aT1]]) hfi (.v _) (.cons (.agg (wJ.data _ x.aT1)) (.cons (.os rfl (D6.data _ [u.aT1])) .nil)) ?_;(conv=>whnf))|refine dR hbo (.cons (.agg x.aT1) .nil) (bw ?_))
   all_goals try(exfalso;omega)
   have hBth:=hR.fr.bth;have hwg:=hR.w;have hcm:=hR.fr.ck hug.jR (hR.seen u sM);have hgz:=aH6 (bJ x) hwg u hug;have hgn:=aGB (bJ x) hwg u hug;have hof:=aLT (rW x) hR.v u hu9;have hrh:=aPK u (cL hun (bD rfl)) hu9.nlen;have hla:=aOL (bJ x) hwg.togA t;have hln:=aDZ (bJ x) hwg.togA t;have hka:=AM (bJ x) hwg.togA t;have hkn:=aIB (bJ x) hwg.togA t;have hrl:=aRF (rW x) hR.v t;have hrk:=aQE (rW x) hR.v t;rw[<-hBth.aW4,<-hBth.rE]at hrl;rw[<-hBth.aPA,<-hBth.rE]at hrk;have hH:(∃e:Int,(Pu 28 [.d (.ip (bJ x).aT1),.d (.agg u.aT1)] (.eL [.d (.sl 1 []),.d (ci e)]))/\(if(rW x).MR u=true then(0:Int)else 190)=e/\(e=0->kV (l9 u.names)=[]))\/((∀(m:Mem)(d:Nat),m d=none->aJ Tryz.prog 28 [.d (.ip (bJ x).aT1),.d (.agg u.aT1)] m (.ok (.eL [.h d,.d (ci 0)])) (aX m d (dU 25 1 (iR (kV (l9 u.names))))))/\(if(rW x).MR u=true then(0:Int)else 190)=0):=by
    unfold D4.I9 at hgz;rw[<-hcm];cases hck:(bJ x).zE u with
    |false=>
     rw[hck,aT7 gO,aT7 gO]at hgz;exact .inl ⟨190,hgz,rfl,λh=>oM⟩
    |true=>
     have e:oZ (jL u.names)=kV (l9 u.names):=aLV λq=>by rw[YI (aPZ hck)]
     rw[hck,aUF rfl,aUF rfl,e]at hgz;have hgn:=hgn hck;rw[e]at hgn;by_cases h0:jL u.names=[]
     ·have e0:kV (l9 u.names)=[]:=by rw[<-e,h0];exact AT
      rw[e0]at hgz;exact .inl ⟨0,hgz,rfl,λ_=>e0⟩
     ·exact .inr ⟨hgn h0,rfl⟩
   have hL:((Pu 29 [.d (.ip (bJ x).aT1),.d (ci t)] (.eL [.d (.sl 1 []),.d (ci ((bJ x).aDH t))]))/\(bJ x).oE t=[])\/((∀(m:Mem)(d:Nat),m d=none->aJ Tryz.prog 29 [.d (.ip (bJ x).aT1),.d (ci t)] m (.ok (.eL [.h d,.d (ci ((bJ x).aDH t))])) (aX m d (dU 25 1 (iR ((bJ x).oE t)))))/\True):=by
    by_cases h0:(bJ x).oE t=[]
    ·rw[h0]at hla;exact .inl ⟨hla,h0⟩
    ·have e:(bJ x).aDH t=0:=by
      by_cases he:(bJ x).aDH t=0
      ·exact he
      ·exact absurd (by unfold D4.oE;rw[aUF he]) h0
     rw[e];exact .inr ⟨hln h0,tV⟩
   have hK:((Pu 30 [.d (.ip (bJ x).aT1),.d (ci t)] (.eL [.d (.sl 1 []),.d (ci ((bJ x).aDH t))]))/\(bJ x).nW t=[])\/((∀(m:Mem)(d:Nat),m d=none->aJ Tryz.prog 30 [.d (.ip (bJ x).aT1),.d (ci t)] m (.ok (.eL [.h d,.d (ci ((bJ x).aDH t))])) (aX m d (dU 25 1 (iR ((bJ x).nW t)))))/\True):=by
    by_cases h0:(bJ x).nW t=[]
    ·rw[h0]at hka;exact .inl ⟨hka,h0⟩
    ·have e:(bJ x).aDH t=0:=by
      by_cases he:(bJ x).aDH t=0
      ·exact he
      ·exact absurd (by unfold D4.nW;rw[aUF he]) h0
     rw[e];exact .inr ⟨hkn h0,tV⟩
   have lA:(kV (l9 u.names)).length<=2^38:=by
    have h1:=hR.aSN;have e:xJ [u]=kV (l9 u.names):=by simp[xJ]
    rw[e]at h1;omega
   have lB:((bJ x).oE t).length<=2^38:=cL (AJ _ hwg.togA t) (bD rfl);have lD:((bJ x).nW t).length<=2^38:=cL (tP _ t) (bD rfl);have hfc:=hR.fr.f.snd;unfold D4.sH at hfc;simp only[aE,aUA]at hfc;have htw:=aFY hb;have hcu:xP (bJ x).cut 0=x.aU3:=congrArg X4.aU3 htw;have hcp:=aL2 (bJ x) hwg.togA hwg.pl hwg.ml (cL hwg.cl (bD rfl)) rfl hfc.2.1
   have hsm:=aL9 (bJ x) hwg.togA hwg.EP hwg.pl hwg.ml hwg.cl (by rw[hcu];exact hJ.cl) (λy hy=>⟨hwg.cR y hy,(hwg.may y hy).1,λv hv=>by
    obtain⟨j,hj,rfl⟩:=List.getElem_of_mem hv;exact(hwg.may y hy).2.1 j hj,λn hn=>by
    obtain⟨j,hj,rfl⟩:=List.getElem_of_mem hn
    exact(hwg.may y hy).2.2 j hj⟩)
   have htl:=ZC (bJ x) hwg.togA hwg.EP hwg.pl hwg.ml hwg.cl;rw[htw]at htl;have hrs:=aLX x hJ.pl hJ.cl hJ.ml (cL hJ.tl (bD rfl)) λy hy=>cL (hJ.cR y hy).1 (bD rfl);clear hgz hgn hla hln hka hkn;refine bV mix (λi:Nat=>i<=2) (I:=λi=>[(2,.d (ci t)),(3,.lp 1 0),(4,.lp 9 0),(7,.d (.ip (bJ x).aT1)),(8,.d (.ip (rW x).aT1)),(9,.d (ci i))]) (J:=λi=>[(1,.cells false (x.aT1.map A.d)),(9,.cells false (u.aT1.map A.d))]) (μ:=λi=>2 -i) 20000 0 oM mZ ?_;intro i hi;by_cases cX:i<2
   ·generalize kV (l9 u.names)=La at hH hrh lA;generalize(bJ x).oE t=Lb at hL hrl lB;generalize(bJ x).nW t=Ld at hK hrk lD;generalize(bJ x).aDH t=E at hL hK hrl hrk;rcases hH with⟨e,hH,he,hz⟩|⟨hH,he⟩<;>rcases hL with⟨hL,hb0⟩|⟨hL,_⟩<;>rcases hK with⟨hK,hd0⟩|⟨hK,_⟩<;>rw[he]at hof
    all_goals try subst hb0
    all_goals try subst hd0
    repeat'(first|with_reducible (first|refine w1 ?_|refine w2 ?_|refine w3 ?_|refine w4 ?_|refine w5 ?_|refine w9 ?_|refine wa ?_|refine wb ?_|refine wc ?_|refine wd ?_|refine we ?_|refine nN.mk ?_|refine O8.t rfl ?_|refine O8.f rfl ?_)|((with_reducible (first|refine wr ?_|refine wi ?_|refine wx ?_|refine wg ?_|refine wh ?_));(conv=>whnf))|((with_reducible refine wt eD kK ?_);(conv=>whnf))|((with_reducible refine FC.mk (RG (by(try dsimp only);omega) (by(try dsimp only);omega)) ?_);(conv=>whnf))|((with_reducible refine nQ (λh=>?_) (λh=>?_))<;>(try rw[h])<;>(conv at h=>{simp}))|((refine dR hH (.cons (.same _) (.cons (.agg u.aT1) .nil)) ?_);(conv=>whnf))|((refine fQ (F:=λd=>.eL [.h d,.d (ci 0)]) (λm d hd=>(hH m d hd).mR (.cons (.same _) (.cons (.agg u.aT1) .nil))) 5000 rfl ?_);(conv=>whnf))|((refine dR hof (.cons (.same _) (.cons (.agg u.aT1) .nil)) ?_);(conv=>whnf))|((refine dR hrh (.cons (.agg u.aT1) .nil) ?_);(conv=>whnf))|((refine aF (aO2 (hz aM)) ?_);(conv=>whnf))|((refine lN 5000 (dU 25 1 (iR (over La La.length))) ((aIC La oM).AK (oJ _ _ _) (λg=>eT g _ _ _) (λg=>eT g _ _ _) rfl (by simp[Go.Pv.A.lQ,Go.Pv.A.hs]) (aK _) 5000 rfl) ?_);(conv=>whnf))|((refine aF hL ?_);(conv=>whnf))|((refine fQ (F:=λd=>.eL [.h d,.d (ci E)]) hL 6000 rfl ?_);(conv=>whnf))|((refine aF hrl ?_);(conv=>whnf))|((refine aF hK ?_);(conv=>whnf))|((refine fQ (F:=λd=>.eL [.h d,.d (ci E)]) hK 7000 rfl ?_);(conv=>whnf))|((refine aF hrk ?_);(conv=>whnf))|((refine aF aOY ?_);(conv=>whnf))|((refine lN 6000 (dU 25 1 (iR (over Lb Lb.length))) ((aIC Lb oM).AK (oJ _ _ _) (λg=>eT g _ _ _) (λg=>eT g _ _ _) rfl (by simp[Go.Pv.A.lQ,Go.Pv.A.hs]) (aK _) 6000 rfl) ?_);(conv=>whnf))|((refine lN 7000 (dU 25 1 (iR (over Ld Ld.length))) ((aIC Ld oM).AK (oJ _ _ _) (λg=>eT g _ _ _) (λg=>eT g _ _ _) rfl (by simp[Go.Pv.A.lQ,Go.Pv.A.hs]) (aK _) 7000 rfl) ?_);(conv=>whnf)))
    all_goals try(exfalso;first|omega|contradiction|(simp_all;done))
    all_goals exact⟨i+1,oM,oM,mZ⟩
   ·skip
    refine bl ?_;refine O8.f (aU0 oM) ?_
    repeat'(first|with_reducible (first|refine w1 ?_|refine w3 ?_|refine w4 ?_|refine w9 ?_|refine wa ?_|refine we ?_|refine nN.mk ?_|refine O8.t rfl ?_)|((with_reducible (first|refine wx ?_|refine wg ?_));(conv=>whnf))|((with_reducible refine wt eD kK ?_);(conv=>whnf))|((refine XD.mk _ hcp ?_);(conv=>whnf))|((refine XD.mk _ hsm ?_);(conv=>whnf))|((refine XD.mk _ htl ?_);(conv=>whnf))|((refine XD.mk _ (λm=>(hrs m).mR (.cons (.same _) (.cons (.agg x.aT1) .nil))) ?_);(conv=>whnf))|((refine XD.mk _ D9 ?_);(conv=>whnf)))
    all_goals first|exact dP rfl|trace_state
theorem aJ9{H:Type}{enc:TypeId×Value->H}{w:World}{n n2 n3:Nat}{a b c:List Value}{d1 d2 d3:DataW H}(h1:PB w enc n 27 a d1)(h2:PB w enc n2 33 b d2)(h3:PB w enc n3 25 c d3)(hB:rI d1+rI d2+rI d3<=1048576):
 ∃(x:X4)(u:U4)(t:Int),aSB x [u]/\sL w x.aT1 a/\sL w u.aT1 b/\sL w [ci t] c:=by
 obtain⟨x,g1,p1,p2,p3,p4,p5,p6⟩:=riX h1 oM;obtain⟨u,g2,q1,q2,q3⟩:=aTU h2 oM;obtain⟨t,g3,m3⟩:=kQ W3 h3;exact⟨x,u,t,⟨p1,p2,p3,p4,p5,p6,sM,λy hy=>by rw[aR.1 hy];exact q1,λy hy=>by rw[aR.1 hy];exact q2,λy hy=>by rw[aR.1 hy];exact q3⟩,g1,g2,g3⟩
end Go.Pv
