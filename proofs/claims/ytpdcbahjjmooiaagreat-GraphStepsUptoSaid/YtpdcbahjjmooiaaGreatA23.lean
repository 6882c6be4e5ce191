import Derived.Test.YtpdcbahjjmooiaaGreatA22
/- A program logic over the model, contracts of the functions that the law reaches: part 23. (Names and blanks were shortened by program.) -/
set_option linter.unusedVariables false
set_option linter.unusedSimpArgs false
set_option linter.constructorNameAsVariable false
set_option linter.unusedSectionVars false
set_option linter.deprecated false
set_option maxRecDepth 100000
set_option maxHeartbeats 8000000
open Go Go.Proofs
namespace Go.Pv
open Go.RowKit
variable{w:D4}{F:List ((Int×Int)×Int)}{P:Program}{t:T4}
def l6(F:List ((Int×Int)×Int)):List (Ky×A):=F.map λf=>(kF f.1.1 f.1.2,.d (ci f.2))
def D4.wA(w:D4)(i:Nat):List A:=[.d (.sl 1 (iR w.parents)),.d (.sl 1 (w.cut.map λb=>[cb b])),.d (.im (w.things.map λt=>kI t.ref) (w.things.map λt=>.ip t.bQ.cells)),.h i,.d (ci w.last),.d (.sl 1 (iR w.made))]
def D4.JW(w:D4)(F:List ((Int×Int)×Int)):D4:={w with facets:=F}
theorem X5(F:List ((Int×Int)×Int)):A.lQ ((l6 F).map (·.2))=[]:=by
 have:∀l:List ((Int×Int)×Int),A.lQ (l.map λf=>A.d (ci f.2))=[]:=by
  intro l;induction l with
  |nil=>rfl
  |cons a r ih=>simp only[aG,A.lQ,A.hs,ih,dS]
 unfold l6;rw[bH];exact this F
theorem rdW{m:Mem}{i j:Nat}{fz gz:Bool}{st:List (Ky×Nat)}(h0:m i=some (.cells fz (w.wA j)))(h1:m j=some (.mp gz (l6 F) st)):Rd m (.lp i 0) (.ip (w.JW F).cells):=by
 refine .lp h0 (.cons (.d _) (.cons (.d _) (.cons (.d _) (.cons ?_ (.cons (.d _) (.cons (.d _) .nil))))))
 have:=Rd.mp (m:=m) (vs:=F.map λf=>ci f.2) h1 (by
  have e:(l6 F).map (·.2)=(F.map λf=>ci f.2).map A.d:=by unfold l6;rw[bH,bH];rfl
  rw[e];exact wJ.data _ _)
 have e:(l6 F).map (·.1)=F.map λf=>kF f.1.1 f.1.2:=by unfold l6;rw[bH];rfl
 rw[e]at this;exact this
theorem aL5{kt:TypeId}{r:Int}{k1:A->Prop}{k0:Prop}(hk:KC.fits P kt (.int .i64 0)=true)(h:w.find r=some t)(h1:k1 (.d (.ip t.bQ.cells))):
 LkK (kH P kt (kI r) ((w.things.map λt=>kI t.ref).zip ((w.things.map λt=>.ip t.bQ.cells).map A.d))) (fL (kI r) ((w.things.map λt=>kI t.ref).zip ((w.things.map λt=>.ip t.bQ.cells).map A.d))) k1 k0:=by
 refine EA hk (λt' ht=>?_) (λht=>?_)
 ·have e:t'=t:=eY (ht.symm.trans h);subst e;exact h1
 ·rw[show w.find r=none from ht]at h;cases h
theorem SM(w:D4)(hnd:(w.things.map (·.ref)).Nodup)(t:T4)(h:t∈w.things):w.find t.ref=some t:=by
 unfold D4.find;refine vJ h (by simp) λy hy hp=>?_;have e:y.ref=t.ref:=by simpa using hp
 obtain⟨j1,q1⟩:=dY.1 hy;obtain⟨j2,q2⟩:=dY.1 h;have:j1=j2:=by
  refine(List.getElem?_inj (l:=w.things.map (·.ref)) ?_ hnd).1 ?_
  ·have:=(bA.1 q1).1;simpa using this
  ·simp only[cK,q1,q2,dF,e]
 subst this;rw[q1]at q2;simpa using q2
def D4.ok1(w:D4)(t:T4):Bool:=w.V9 t.bQ&&((!xT t.bQ.kind||w.mI t.bQ.of)&&((!DB t.bQ.kind||w.mI t.bQ.by_)&&(!decide (t.bQ.kind=13)||(decide (t.bQ.of=0)||w.mI t.bQ.of))))
def D4.zF(w:D4):Nat->Int->Bool
 |k,q=>match w.find q with
  |none=>false
  |some t=>if uY t.bQ.kind=true then(match k with
   |0=>false
   |k+1=>if w.mI t.bQ.of=true then D4.zF w k t.bQ.of else false)else true
theorem SE{q:Int}(h:w.find q=some t)(hw:uY t.bQ.kind=true):w.zF 0 q=false:=by
 unfold D4.zF;rw[h];simp[hw]
theorem JR{k:Nat}{q:Int}(h:w.find q=some t)(hw:uY t.bQ.kind=true):w.zF (k+1) q=if w.mI t.bQ.of=true then w.zF k t.bQ.of else false:=by
 rw[D4.zF,h];simp[hw]
theorem aG0{k:Nat}{q:Int}(h:w.find q=some t)(hw:uY t.bQ.kind=false):w.zF k q=true:=by
 unfold D4.zF;rw[h];simp[hw]
def lP(L:List T4):List ((Int×Int)×Int):=(L.filter λt=>decide (t.bQ.kind=14)).map λt=>((t.bQ.of,t.bQ.set),t.ref)
def D4.ok3(w:D4)(t:T4):Bool:=(w.JW (lP w.things)).qJ t.ref t.bQ (w.tY t.bQ.of)
def D4.sH(w:D4):Bool:=w.things.all (λt=>w.ok1 t&&w.zF w.things.length t.ref)&&(decide (((lP w.things).map (·.1)).Nodup)&&w.things.all w.ok3)
theorem FF{α:Type}(p:α->Bool):∀(L:List α)(i:Nat)(h:i<L.length),L.all p=(p L[i]&&(L.eraseIdx i).all p)
 |[],i,h=>by simp at h
 |a::r,0,h=>by simp
 |a::r,i+1,h=>by
  simp only[List.all_cons,cJ,gK];rw[FF p r i (by simpa using h),Bool.and_left_comm]
theorem mem_erase{α:Type}{L:List α}{i:Nat}{x:α}(h:x∈L.eraseIdx i):x∈L:=(List.eraseIdx_sublist L i).subset h
theorem wW{ml:List (Nat×R)}{fz:Bool}:rB ml (R.mp fz (l6 F) []).hs:=by
 show rB _ (A.lQ ((l6 F).map (·.2))++[]);rw[X5];trivial
theorem aD4{ml:List (Nat×R)}{i:Nat}{g:Nat->Nat}{fz:Bool}(h:aK ml i=some (.mp fz (l6 F) [])):(aK ml i).map (R.eZ g)=some (.mp fz (l6 F) []):=by
 rw[h];show some (R.mp fz ((l6 F).map λp=>(p.1,p.2.eZ g)) [])=_;congr 2;unfold l6;rw[bH];rfl
theorem aCQ(F G:List ((Int×Int)×Int)):l6 (F++G)=l6 F++l6 G:=by simp only[l6,bP]
theorem NJ(r s:Int)(F:List ((Int×Int)×Int)):fL (kF r s) (l6 F)=(F.find? λt=>decide (t.1=(r,s))).map λt=>.d (ci t.2):=CO (λt=>t.1) (λt=>A.d (ci t.2)) r s F
theorem SJ{kt:TypeId}{r s:Int}(hk:Ky.fits P kt (kF r s)=true)(F:List ((Int×Int)×Int)):kH P kt (kF r s) (l6 F)=true:=by
 unfold kH;rw[hk,cA,cV];intro p hp;obtain⟨t,_,rfl⟩:=aM.1 hp;rfl
theorem aNG{kt:TypeId}{r s:Int}{k1:A->Prop}{k0:Prop}(hk:Ky.fits P kt (kF r s)=true)(h1:∀t,(F.find? λt=>decide (t.1=(r,s)))=some t->k1 (.d (ci t.2)))(h0:(F.find? λt=>decide (t.1=(r,s)))=none->k0):
 LkK (kH P kt (kF r s) (l6 F)) (fL (kF r s) (l6 F)) k1 k0:=by
 have hf:=SJ hk F;have hg:=NJ r s F;cases h:F.find? λt=>decide (t.1=(r,s))with
 |none=>rw[h]at hg;exact .BP hf hg (h0 h)
 |some t=>rw[h]at hg;exact .CL _ hf hg (h1 t h)
theorem aJ.hP{f:FuncId}{xs:List A}{mb u ml:List (Nat×R)}{v:A}(h:aJ P f xs (aK mb) (.ok v) (aH (aK mb) u))(hhs:rB mb (A.lQ xs))(hm:RN ml mb)(hcl:H9 mb mb)(hfr:FrU ml mb u):aJ P f xs (aK ml) (.ok v) (aH (aK ml) u):=
 aJ.frame h hhs.at hm.at (λi r hi=>hcl.at i r hi) hfr.at
theorem CU{α:Type}:∀(L:List α)(i:Nat)(h:i<L.length),L.Perm (L[i]::L.eraseIdx i)
 |[],i,h=>by simp at h
 |a::r,0,h=>.refl _
 |a::r,i+1,h=>by
  have:=CU r i (by simpa using h);simp only[cJ,gK];exact(this.cons a).trans (.swap _ _ _)
def T4.fc(t:T4):(Int×Int)×Int:=((t.bQ.of,t.bQ.set),t.ref)
theorem Z5{L M:List T4}(h:L.Perm M):(lP L).Perm (lP M):=(h.filter _).map _
theorem HC{L:List T4}(h:t.bQ.kind=14):lP (t::L)=t.fc::lP L:=by
 unfold lP T4.fc;rw[gM (by simpa using h)];rfl
theorem Z4{L:List T4}(h:¬t.bQ.kind=14):lP (t::L)=lP L:=by
 unfold lP;rw[gL (by simpa using h)]
theorem Z7{k:Int×Int}:(F.find? λf=>decide (f.1=k))=none↔k∉F.map (·.1):=by
 rw[mN];constructor
 ·intro h hk;obtain⟨f,hf,rfl⟩:=aM.1 hk;exact h f hf (by simp)
 ·intro h f hf e;exact h (aM.2 ⟨f,hf,by simpa using e⟩)
theorem aAP(w:D4)(r:Int)(t:T4)(ht:w.find r=some t)(hk:t.bQ.kind=14)(F:List ((Int×Int)×Int))(hF:(F.find? λf=>decide (f.1=(t.bQ.of,t.bQ.set)))=none):
 aJ Tryz.prog 81 [.lp 0 0,.d (ci r)] (aK [(0,.cells false (w.wA 1)),(1,.mp false (l6 F) [])]) (.ok (.eL [])) (aH (aK [(0,.cells false (w.wA 1)),(1,.mp false (l6 F) [])]) [(1,.mp false (l6 (F++[((t.bQ.of,t.bQ.set),r)])) [])]):=by
 refine wE mix 100 Tryz.func81 trivial ⟨wW,trivial⟩ ?_
 repeat'(first|refine bl ?_|refine bS (λh=>?_) (λh=>?_)|refine aL5 (by decide) ht (bw ?_))
 ·refine .BP (SJ (by kernel_rfl) F) (by rw[NJ,hF];rfl) ?_;conv=>whnf
  refine bl ?_;refine dA rfl ⟨.inr ?_,.inr rfl,.inl rfl,trivial⟩;rw[aCQ];rfl
 ·exact absurd hk (by assumption)
theorem IA(w:D4)(F:List ((Int×Int)×Int)):∀(n:Nat)(s r:Int),(w.JW F).MD n s r=w.MD n s r
 |0,s,r=>rfl
 |n+1,s,r=>by
  rw[D4.MD,D4.MD];have e:(w.JW F).find r=w.find r:=rfl;rw[e];cases w.find r with
  |none=>rfl
  |some t=>
   dsimp only;rw[IA w F n,IA w F n]
theorem JQ(w:D4):∀(k:Nat)(s q:Int),w.zF k q=true->(w.MD (k+1) s q).isSome=true
 |k,s,q,h=>by
  cases hf:w.find q with
  |none=>unfold D4.zF at h;rw[hf]at h;cases h
  |some t=>
   rw[D4.MD,hf];dsimp only;cases hw:uY t.bQ.kind with
   |false=>
    have:¬t.bQ.kind=14/\¬t.bQ.kind=15/\¬t.bQ.kind=16:=by
     simp only[uY,decide_eq_false_iff_not,not_or]at hw;exact hw
    rw[if_neg this.1,if_neg (by omega)];rfl
   |true=>
    cases k with
    |zero=>rw[SE hf hw]at h;cases h
    |succ k=>
     rw[JR hf hw]at h;split at h
     ·split
      ·exact JQ w k _ _ h
      ·split
       ·exact JQ w k _ _ h
       ·rfl
     ·cases h
theorem XH(w:D4)(h:∀t∈w.things,w.zF w.things.length t.ref=true):w.HY:=by
 intro r;cases hf:w.find r with
 |none=>rw[D4.MD,hf];rfl
 |some t=>
  have hm:=cT hf;have hr:t.ref=r:=by have:=iD hf;exact of_decide_eq_true this
  rw[<-hr];exact JQ w _ _ _ (h t hm)
theorem HY.JW{w:D4}(h:w.HY)(F:List ((Int×Int)×Int)):(w.JW F).HY:=λr=>by
 rw[show(w.JW F).things=w.things from rfl,IA];exact h r
theorem HY.some{w:D4}(h:w.HY)(r:Int):w.MD (w.things.length+1) 63 r=some (w.tY r):=by
 have:=h r;unfold D4.tY;cases hq:w.MD (w.things.length+1) 63 r with
 |none=>rw[hq]at this;cases this
 |some v=>rfl
theorem aFP(w:D4)(hf:w.facets=[])(hcnt:∀t∈w.things,t.bQ.cR<=2^35)(hlen:w.things.length<=2^30)(hnd:(w.things.map (·.ref)).Nodup):
 aJ Tryz.prog 67 [.lp 0 0] (aK [(0,.cells false (w.wA 1)),(1,.mp false [] [])]) (.ok (.d (cb w.sH))) (aH (aK [(0,.cells false (w.wA 1)),(1,.mp false [] [])]) [(1,if w.sH=true then .mp false (l6 (lP w.things)) []else .dead)]):=by
 refine V5 mix (if w.sH=true then []else [1]) 100 Tryz.func67 rfl (by kernel_rfl) (bD rfl) (by cases w.sH<;>trivial) ?_ ?_
 ·refine⟨?_,trivial⟩;cases w.sH
  ·trivial
  ·show rB _ (A.lQ ((l6 (lP w.things)).map (·.2))++[]);rw[X5];trivial
 refine bl ?_;refine xI rfl ?_;conv=>whnf
 refine bl ?_;have hwf:w.JW []=w:=by cases w;simp only[D4.JW]at hf⊢;rw[hf]
 have hw1:∀{ml:List (Nat×R)},aK ml 0=some (.cells false (w.wA 1))->aK ml 1=some (.mp false [] [])->Rd (aK ml) (.lp 0 0) (.ip w.cells):=λ{ml}h0 h1=>by
  have:=rdW (F:=[]) h0 h1
  rwa [hwf]at this
 have fin:w.sH=false->∀(ml:List (Nat×R)),aK ml 0=some (.cells false (w.wA 1))->aK ml 1≠none->aGG (if w.sH=true then []else [1]) [(0,.cells false (w.wA 1)),(1,.mp false [] [])] (.d (cb w.sH)) [(1,if w.sH=true then .mp false (l6 (lP w.things)) []else .dead)] (.d (cb false)) ml:=λhb ml h0 h1=>by
  rw[hb];refine XY rfl ⟨.inr rfl,.inr ?_,.inl rfl,trivial⟩;exact h0
 refine bV mix (λa:Option (Ky×C)×List T4=>(∀t∈a.2,t∈w.things)/\w.things.all (λt=>w.ok1 t&&w.zF w.things.length t.ref)=a.2.all (λt=>w.ok1 t&&w.zF w.things.length t.ref)) (I:=λa=>[(0,.lp 0 0),(17,.h 140)])
  (J:=λa=>[(140,.di a.1 (a.2.map T4.kv)),(0,.cells false (w.wA 1)),(1,.mp false [] [])]) (μ:=λa=>a.2.length) 200 (none,w.things) ⟨λt h=>h,rfl⟩ (by exact mv 5000 5001) ?_
 rintro⟨cur,L⟩ ⟨hsub,hall⟩;dsimp only at hsub hall⊢;refine bl ?_;refine tR (λh0=>?_) (λi hi=>?_)
 ·have hA1:w.things.all (λt=>w.ok1 t&&w.zF w.things.length t.ref)=true:=by rw[hall,h0];rfl
  conv=>whnf
  refine bl ?_;refine xI rfl ?_;conv=>whnf
  refine bl ?_;clear hall hsub;refine bV mix (λa:Option (Ky×C)×List T4×List ((Int×Int)×Int)=>(∀t∈a.2.1,t∈w.things)/\(a.2.2++lP a.2.1).Perm (lP w.things)/\(a.2.2.map (·.1)).Nodup) (I:=λa=>[(0,.lp 0 0),(131,.h 248)])
   (J:=λa=>[(248,.di a.1 (a.2.1.map T4.kv)),(0,.cells false (w.wA 1)),(1,.mp false (l6 a.2.2) [])]) (μ:=λa=>a.2.1.length) 300 (none,w.things,[]) ⟨λt h=>h,by simp,by simp⟩ (by exact mv 5000 5001) ?_
  rintro⟨cur2,L2,F⟩ ⟨hsub,hp,hnF⟩;dsimp only at hsub hp hnF⊢;refine bl ?_;refine tR (λh2=>?_) (λi hi=>?_)
  ·conv=>whnf
   refine bl ?_;refine xI rfl ?_;conv=>whnf
   refine bl ?_;have hpF:(l6 F).Perm (l6 (lP w.things)):=by
    rw[h2]at hp;have:F.Perm (lP w.things):=by simpa [lP]using hp
    exact this.map _
   have hac:w.HY:=XH w λt ht=>by
    have:=cV.1 hA1 t ht;simp only[aE]at this;exact this.2
   have hnd2:((lP w.things).map (·.1)).Nodup:=by
    rw[h2]at hp;have:F.Perm (lP w.things):=by simpa [lP]using hp
    exact(this.map (·.1)).nodup_iff.1 hnF
   refine bV mix (λa:Option (Ky×C)×List T4=>(∀t∈a.2,t∈w.things)/\w.things.all w.ok3=a.2.all w.ok3) (I:=λa=>[(0,.lp 0 0),(167,.h 348)])
    (J:=λa=>[(1,.mp false (l6 (lP w.things)) []),(348,.di a.1 (a.2.map T4.kv)),(0,.cells false (w.wA 1))]) (μ:=λa=>a.2.length) 400 (none,w.things) ⟨λt h=>h,rfl⟩
    (cN.trans (l':=[(0,.lp 0 0),(167,.h 348)]) (ml':=[(1,.mp false (l6 F) []),(348,.di none (w.things.map T4.kv)),(0,.cells false (w.wA 1))]) (by exact mv 5000 5001) (cN.perm 1 hpF)) ?_
   rintro⟨cur3,L3⟩ ⟨hsub3,hall3⟩;dsimp only at hsub3 hall3⊢;refine bl ?_;refine tR (λh3=>?_) (λj hj=>?_)
   ·conv=>whnf
    refine bl ?_;have hb:w.sH=true:=by
     unfold D4.sH;rw[hA1,hall3,h3,decide_eq_true hnd2];rfl
    rw[hb];exact XY rfl ⟨.inr rfl,.inr rfl,.inl rfl,trivial⟩
   ·rw[FF _ L3 j hj]at hall3;have hin3:=hsub3 _ (aY hj);conv=>whnf
    refine bl ?_;refine fU (cs:=[.ip (w.JW (lP w.things)).cells,ci L3[j].ref,.agg L3[j].bQ.cells]) (aG8 (w.JW (lP w.things)) L3[j].ref L3[j].bQ (w.things.length+1) (w.tY L3[j].bQ.of) (λ_=>by rw[IA];exact HY.some hac _)) (.v _) (.cons (rdW rfl rfl) (.cons (.d _) (.cons (.d _) .nil))) ?_;conv=>whnf
    repeat'(first|refine bl ?_|refine bS (λh=>?_) (λh=>?_))
    ·refine fin ?_ _ rfl sn;have hq:w.ok3 L3[j]=false:=by assumption
     unfold D4.sH;rw[hall3,hq];simp
    ·have hq:w.ok3 L3[j]=true:=by assumption
     refine⟨(some (T4.kv L3[j]),L3.eraseIdx j),pR _ _ hj,⟨λt ht=>hsub3 t (mem_erase ht),?_⟩,?_⟩
     ·dsimp only;rw[hall3,hq];rfl
     ·exact mv 5000 5001
  ·have hin:=hsub _ (aY hi);have hpe:=Z5 (CU L2 i hi);have hfd:w.find L2[i].ref=some L2[i]:=SM w hnd _ hin;conv=>whnf
   repeat'(first|refine bl ?_|refine bS (λh=>?_) (λh=>?_))
   ·refine aNG (by kernel_rfl) (λf hff=>?_) (λhff=>?_)
    ·conv=>whnf
     refine bl ?_;refine fin ?_ _ rfl sn;rw[HC (by assumption)]at hpe;have h1:L2[i].fc.1∈F.map (·.1):=aM.2 ⟨f,cT hff,(by have:=iD hff;exact of_decide_eq_true this)⟩;have h3:¬((lP w.things).map (·.1)).Nodup:=by
      intro hq;have h4:=((hp.symm.map (·.1)).nodup_iff.1 hq);rw[bP]at h4;have h5:=(iS.1 h4).2.2 _ h1 L2[i].fc.1 (((hpe.map (·.1)).mem_iff.2 (by simp)));exact h5 rfl
     unfold D4.sH;rw[decide_eq_false h3];simp
    ·conv=>whnf
     refine bl ?_;rw[HC (by assumption)]at hpe;refine dZ.mk (.eL []) [(1,.mp false (l6 (F++[L2[i].fc])) [])] (aJ.hP (aAP w L2[i].ref L2[i] hfd (by assumption) F hff) ⟨sn,trivial⟩ ⟨rfl,rfl,trivial⟩ ⟨⟨sn,trivial⟩,wW,trivial⟩ ⟨.inl sn,trivial⟩) ?_;conv=>whnf
     refine bl ?_;refine⟨(some (T4.kv L2[i]),L2.eraseIdx i,F++[L2[i].fc]),pR _ _ hi,⟨λt ht=>hsub t (mem_erase ht),?_,?_⟩,?_⟩
     ·dsimp only;rw[bG];exact(qX F hpe.symm).trans hp
     ·dsimp only;rw[bP,iS];refine⟨hnF,by simp,λa ha b hb=>?_⟩;simp only[aG,bM,aR]at hb;subst hb;rintro rfl;exact(Z7.1 hff) ha
     ·exact mv 5000 5001
   ·rw[Z4 (by assumption)]at hpe;refine⟨(some (T4.kv L2[i]),L2.eraseIdx i,F),pR _ _ hi,⟨λt ht=>hsub t (mem_erase ht),?_,hnF⟩,?_⟩
    ·dsimp only;exact(qX F hpe.symm).trans hp
    ·exact mv 5000 5001
 ·rw[FF _ L i hi]at hall;have hin:=hsub _ (aY hi);conv=>whnf
  refine bl ?_;refine fU (cs:=[.ip w.cells,.agg L[i].bQ.cells]) (aD6 w L[i].bQ (hcnt _ hin)) (.v _) (.cons (hw1 rfl rfl) (.cons (.d _) .nil)) ?_;conv=>whnf
  repeat'(first|refine bl ?_|refine bS (λh=>?_) (λh=>?_)|refine aF (ZR _) (bw ?_)|refine aF (ZQ _) (bw ?_)|refine fU (cs:=[.ip w.cells,ci _]) (sB w _) (.v _) (.cons (hw1 rfl rfl) (.cons (.d _) .nil)) (bw ?_))
  any_goals(refine fin ?_ _ rfl sn
            have hok:w.ok1 L[i]=false:=by simp_all[D4.ok1]
            unfold D4.sH;rw[hall,hok];rfl)
  all_goals
   have hok:w.ok1 L[i]=true:=by simp_all[D4.ok1]
   have hfd:w.find L[i].ref=some L[i]:=SM w hnd _ hin;refine bV mix (λb:Nat×Int=>b.1<=w.things.length/\w.zF w.things.length L[i].ref=w.zF (w.things.length -b.1) b.2/\(w.find b.2).isSome=true) (I:=λb=>[(0,.lp 0 0),(17,.h 140),(5,.d (ci b.1)),(6,.d (ci b.2))])
    (J:=λb=>[(140,.di (some (T4.kv L[i])) ((L.eraseIdx i).map T4.kv)),(0,.cells false (w.wA 1)),(1,.mp false [] [])]) (μ:=λb=>w.things.length -b.1) 400 (0,L[i].ref) ⟨by simp,rfl,by dsimp only;rw[hfd];rfl⟩ (by exact mv 5000 5001) ?_
   rintro⟨n,q⟩ ⟨hn,he,hs⟩;dsimp only at hn he hs⊢;obtain⟨t,hfq⟩:=eS.1 hs
   repeat'(first|refine bl ?_|refine bS (λh=>?_) (λh=>?_)|refine aF (U1 _) (bw ?_)|refine aL5 (by decide) hfq (bw ?_)|refine fU (cs:=[.ip w.cells,ci _]) (sB w _) (.v _) (.cons (hw1 rfl rfl) (.cons (.d _) .nil)) (bw ?_))
  any_goals(refine fin ?_ _ rfl sn
            have he2:w.zF w.things.length L[i].ref=false:=by
             rw[he]
             first
             |(rw[show w.things.length -n=0 by omega];exact SE hfq (by assumption))
             |(rw[show w.things.length -n=(w.things.length -n -1)+1 by omega,JR hfq (by assumption),if_neg (by simp_all)])
            unfold D4.sH;rw[hall,he2,kL];rfl)
  any_goals(refine⟨(n+1,t.bQ.of),by dsimp only;omega,⟨by dsimp only;omega,?_,?_⟩,?_⟩
            · dsimp only
              rw[he,show w.things.length -n=(w.things.length -(n+1))+1 by omega,JR hfq (by assumption),if_pos (by assumption)]
            · exact(by assumption:w.mI t.bQ.of=true)
            · exact mv 5000 5001)
  any_goals(refine⟨(some (T4.kv L[i]),L.eraseIdx i),pR _ _ hi,⟨λt ht=>hsub t (mem_erase ht),?_⟩,?_⟩
            · dsimp only
              rw[hall,hok,he,aG0 hfq (by assumption)];rfl
            · exact mv 5000 5001)
def okP:List Int->Int->Bool
 |[],_=>true
 |p::r,i=>(decide (0<=p)&&decide (p<=i))&&okP r (i+1)
theorem TQ(L:List Int)(i:Nat)(h:i<L.length):okP (L.drop i) i=((decide (0<=L[i])&&decide (L[i]<=i))&&okP (L.drop (i+1)) ((i+1:Nat):Int)):=by
 rw[dE h];rfl
theorem WH{zl ce b:Nat}{n:Int}{fr:Bool}{X:Prop}(h1:Nat.beq zl ce=true)(h2:Nat.blt 0 ce=true)(h0:0<=n)(hn:n<=2^38)(hb:Nat.ble b 512=true)(hf:fr=true)(hx:X):
 xR (decide (zl=ce/\0<ce/\0<=n/\n<=n/\(b:Int)*n<=281474976710656/\n<=9223372036854775807)&&fr) X:=by
 obtain⟨k,rfl⟩:=lX h0;exact aJB h1 h2 (by omega) hb hf hx
abbrev H5:C:=.v (.pointer none)
theorem aD9(L:List Int)(hL:L.length<=2^38)(hno:¬(L.length<16/\okP L 0=true)):∀m,aJ Tryz.prog 40 [.d (.sl 1 (iR L))] m (.ok (.eL [.d H5,.d (ci 71)])) m:=by
 refine iC mix Tryz.func40 ?_
 repeat'(first|refine bl ?_|refine bS (λh=>?_) (λh=>?_))
 ·exact .eL (cs:=[H5,ci 71]) (.cons (.d _) (.cons (.d _) .nil))
 refine bV mix (λi:Nat=>i<=L.length/\okP (L.drop i) i=okP L 0) (I:=λi=>[(0,.d (.sl 1 (iR L))),(2,.d H5),(10,.d (.sl 1 (iR L))),(11,.d (ci L.length)),(12,.d (ci i))])
  (J:=λi=>[]) (μ:=λi=>L.length -i) 100 0 ⟨by omega,rfl⟩ (by exact mv 5000 5001) ?_
 rintro i ⟨hi,h0⟩
 repeat'(first|refine bl ?_|refine bS (λh=>?_) (λh=>?_))
 ·refine cD rfl (by decide) (by assumption) ?_;conv=>whnf
  repeat'(first|refine bl ?_|refine bS (λh=>?_) (λh=>?_))
  any_goals exact A1.eL (cs:=[H5,ci 71]) (.cons (.d _) (.cons (.d _) .nil))
  refine⟨i+1,by omega,⟨by omega,?_⟩,by exact mv 5000 5001⟩;rw[<-h0,TQ L i (by assumption)];simp_all
 ·exfalso;rw[dT (by omega)]at h0;exact hno ⟨by omega,h0.symm⟩
def aKE(L:List Int):List (Nat×R):=[(212,.cells false [.d (.sl 1 (iR L)),.h 164,.h 188,.h 196,.d (ci 0),.h 180]),(164,dU 4 1 (List.replicate (L.length+1) [cb false])),(180,dU 3 1 (iR (List.replicate (L.length+1) 0))),(188,.mp false [] []),(196,.mp false [] [])]
theorem aKF(L:List Int)(hl:L.length<16)(hp:okP L 0=true):aJ Tryz.prog 40 [.d (.sl 1 (iR L))] (aK []) (.ok (.eL [.lp 212 0,.d (ci 0)])) (aH (aK []) (aKE L)):=by
 refine wE mix 100 Tryz.func40 ?_ ?_ ?_
 ·exact⟨sn,trivial⟩
 ·refine⟨⟨sn,sn,sn,sn,trivial⟩,aZ,aZ,trivial,trivial,trivial⟩
 repeat'(first|refine bl ?_|refine bS (λh=>?_) (λh=>?_))
 ·exfalso;(try simp only[aB]at*);omega
 refine bV mix (λi:Nat=>i<=L.length/\okP (L.drop i) i=true) (I:=λi=>[(0,.d (.sl 1 (iR L))),(2,.d H5),(10,.d (.sl 1 (iR L))),(11,.d (ci L.length)),(12,.d (ci i))])
  (J:=λi=>[]) (μ:=λi=>L.length -i) 100 0 ⟨by omega,hp⟩ (by exact mv 5000 5001) ?_
 rintro i ⟨hi,h0⟩
 repeat'(first|refine bl ?_|refine bS (λh=>?_) (λh=>?_))
 ·refine cD rfl (by decide) (by assumption) ?_;rw[TQ L i (by assumption)]at h0;simp only[aE,decide_eq_true_eq]at h0;conv=>whnf
  repeat'(first|refine bl ?_|refine bS (λh=>?_) (λh=>?_))
  any_goals(exfalso;omega)
  exact⟨i+1,by omega,⟨by omega,h0.2⟩,by exact mv 5000 5001⟩
 ·refine FC.mk (RG (by simp only[aB];omega) (by simp only[aB];omega)) ?_;conv=>whnf
  repeat'(first|refine bl ?_|refine cH (DG (iR L) (by simp only[aB];omega) (by simp)) (bw ?_))
  refine WH (by kernel_rfl) (by kernel_rfl) (by simp only[aB];omega) (by simp only[aB];omega) (by kernel_rfl) rfl ?_;conv=>whnf
  skip
  refine WH (by kernel_rfl) (by kernel_rfl) (by simp only[aB];omega) (by simp only[aB];omega) (by kernel_rfl) rfl ?_;conv=>whnf
  refine bl ?_;refine dA rfl ⟨.inr rfl,.inr rfl,.inr ?_,.inr ?_,.inr rfl,trivial⟩
  ·refine(congrArg (λq=>some (R.fW false 3 1 q)) ?_:some (R.fW false 3 1 _)=some (R.fW false 3 1 _));have e:zc Tryz.prog 8 3=[ci 0]:=by kernel_rfl
   rw[aB,show((iR L).length:Int)=(L.length:Int) by simp,show((L.length:Int)+1).toNat=L.length+1 by omega,e];simp[bE,iR]
  ·refine(congrArg (λq=>some (R.fW false 4 1 q)) ?_:some (R.fW false 4 1 _)=some (R.fW false 4 1 _));have e:zc Tryz.prog 8 4=[cb false]:=by kernel_rfl
   rw[aB,show((iR L).length:Int)=(L.length:Int) by simp,show((L.length:Int)+1).toNat=L.length+1 by omega,e];simp[bE]
def w0(L:List Int)(cut:List Bool):D4:=⟨L,cut,[],[],0,List.replicate (L.length+1) 0⟩
def PR(cut:List Bool):R:=dU 4 1 (cut.map λb=>[cb b])
def w0A(L:List Int):R:=.cells false [.d (.sl 1 (iR L)),.h 164,.h 188,.h 196,.d (ci 0),.d (.sl 1 (iR (List.replicate (L.length+1) 0)))]
def w0M(L:List Int)(cut:List Bool):List (Nat×R):=[(212,w0A L),(164,PR cut),(188,.mp false [] []),(196,.mp false [] [])]
theorem aER{m:Mem}{L:List Int}{cut:List Bool}(h0:m 212=some (w0A L))(h1:m 164=some (PR cut))(h2:m 188=some (.mp false [] []))(h3:m 196=some (.mp false [] [])):Rd m (.lp 212 0) (.ip (w0 L cut).cells):=
 .lp h0 (.cons (.d _) (.cons (.dU h1) (.cons (.mp (vs:=[]) h2 .nil) (.cons (.mp (vs:=[]) h3 .nil) (.cons (.d _) (.cons (.d _) .nil))))))
theorem JF(L:List Int)(cut:List Bool)(n:Int)(hn:(w0 L cut).vF n=false):aJ Tryz.prog 64 [.lp 212 0,.d (ci n)] (aK (w0M L cut)) (.ok (.d (ci 2))) (aH (aK (w0M L cut)) []):=by
 refine wE mix 1000 Tryz.func64 trivial trivial ?_;refine bl ?_;refine fU (cs:=[.ip (w0 L cut).cells]) (vQ (w0 L cut)) (.v _) (.cons (aER rfl rfl rfl rfl) .nil) ?_;conv=>whnf
 refine bl ?_;refine fU (cs:=[.ip (w0 L cut).cells,ci n]) (XW (w0 L cut) n) (.v _) (.cons (aER rfl rfl rfl rfl) (.cons (.d _) .nil)) ?_;rw[hn];conv=>whnf
 refine bl ?_;exact dA rfl ⟨.inr rfl,.inr rfl,.inr rfl,.inr rfl,trivial⟩
theorem VE(L:List Int)(cut:List Bool)(k:Nat)(hc:k<cut.length)(hn:(w0 L cut).vF k=true):aJ Tryz.prog 64 [.lp 212 0,.d (ci k)] (aK (w0M L cut)) (.ok (.d (ci 0))) (aH (aK (w0M L cut)) [(164,PR (cut.set k true))]):=by
 refine wE mix 1000 Tryz.func64 trivial ⟨aZ,trivial⟩ ?_;refine bl ?_;refine fU (cs:=[.ip (w0 L cut).cells]) (vQ (w0 L cut)) (.v _) (.cons (aER rfl rfl rfl rfl) .nil) ?_;conv=>whnf
 refine bl ?_;refine fU (cs:=[.ip (w0 L cut).cells,ci k]) (XW (w0 L cut) k) (.v _) (.cons (aER rfl rfl rfl rfl) (.cons (.d _) .nil)) ?_;rw[hn];conv=>whnf
 refine bl ?_;refine lG.mk k rfl (by simp only[bE,aB];exact hc) ?_;conv=>whnf
 skip
 refine fZ.mk [.d (cb cut[k])] (gB _ _ [cb cut[k]] (by simp)) ?_;conv=>whnf
 refine bl ?_;refine dA rfl ⟨.inr ?_,.inr rfl,.inl rfl,.inr rfl,.inr rfl,trivial⟩;refine(congrArg (λq=>some (R.fW false 4 1 q)) ?_:some (R.fW false 4 1 _)=some (R.fW false 4 1 _));refine(tU _ k [cb true]).trans ?_;rw[<-qS]
theorem S7(k:FuncId)(caps:List C)(p:V->Bool)(L:List V)(hf:∀i(h:i<L.length),∀m,aJ Tryz.prog k ([.d (.agg (V.cells L[i]))]++caps.map A.d) m (.ok (.d (cb (p L[i])))) m)(hL:L.length<=2^40):∀m,aJ Tryz.prog 226 [.d (.sl 5 (L.map V.row)),.d (.fn (.func k) [] caps)] m (.ok (.d (ci (idxOf p L)))) m:=by
 refine iC mix Tryz.func226 ?_;refine bl ?_;refine bV mix (λi:Nat=>i<=L.length/\(L.take i).any p=false) (I:=λi=>[(0,.d (.sl 5 (L.map V.row))),(1,.d (.fn (.func k) [] caps)),(7,.d (ci L.length)),(8,.d (ci i))])
  (J:=λi=>[]) (μ:=λi=>L.length -i) 100 0 ⟨by omega,rfl⟩ (by exact mv 5000 5001) ?_
 rintro i ⟨hi,h0⟩
 repeat'(first|refine bl ?_|refine bS (λh=>?_) (λh=>?_))
 ·refine eE V.cP rfl (by decide) h ?_;conv=>whnf
  skip
  refine aF (hf i h) ?_;conv=>whnf
  repeat'(first|refine bl ?_|refine bS (λh=>?_) (λh=>?_))
  ·exact oF (CN p L i (by assumption) h0 (by assumption)).symm
  ·refine⟨i+1,by omega,⟨by omega,A2 p L i (by assumption) h0 (by assumption)⟩,?_⟩;exact mv 5000 5001
 ·rw[aI (by omega)]at h0;exact oF (CM p L h0).symm
theorem JE(k:FuncId)(caps:List C)(p:V->Bool)(L:List V)(hf:∀i(h:i<L.length),∀m,aJ Tryz.prog k ([.d (.agg (V.cells L[i]))]++caps.map A.d) m (.ok (.d (cb (p L[i])))) m)(hL:L.length<=2^40):∀m,aJ Tryz.prog 203 [.d (.sl 5 (L.map V.row)),.d (.fn (.func k) [] caps)] m (.ok (.d (cb (L.any p)))) m:=by
 refine iC mix Tryz.func203 ?_;refine bl ?_;refine aF (S7 k caps p L hf hL) ?_;conv=>whnf
 refine bl ?_;exact dP (yH p L)
theorem aGJ(v:V)(hv:v.cR<=2^40):∀m,aJ Tryz.prog 204 [.d (.agg v.cells)] m (.ok (.d (cb (!v.may)))) m:=by
 refine iC mix Tryz.func204 ?_;refine bl ?_;refine fT (cs:=v.cells) (rW v (by omega)) ?_;conv=>whnf
 refine bl ?_;exact dP rfl
theorem aGK{α:Type}(p:α->Bool)(L:List α):(!L.any λv=> !p v)=L.all p:=by
 induction L with
 |nil=>rfl
 |cons a r ih=>simp only[List.any_cons,List.all_cons,<-ih];cases p a<;>simp
theorem aJN(L:List V)(hL:V.dB L<=2^40):∀m,aJ Tryz.prog 166 [.d (.sl 5 (L.map V.row))] m (.ok (.d (cb (L.all V.may)))) m:=by
 have hl:=V.eW L;refine iC mix Tryz.func166 ?_;refine bl ?_;refine aF (JE 204 [] (λv=> !v.may) L (λi h=>aGJ L[i] (by have:=V.dG L i h;omega)) (by omega)) ?_;conv=>whnf
 refine bl ?_;exact dP (aGK _ _)
def U5(L:List V):Int:=if L.all V.may=true then(if(V.mk 3 0 ByteArray.empty L 0).may=true then 0 else 4)else 2
def ofC(L:List V):List C:=if L.all V.may=true/\(V.mk 3 0 ByteArray.empty L 0).may=true then(V.mk 3 0 ByteArray.empty L 0).cells else zV
theorem aJA(L:List V)(hL:V.dB L<=2^37):∀m,aJ Tryz.prog 121 [.d (.sl 5 (L.map V.row))] m (.ok (.eL [.d (.agg (ofC L)),.d (ci (U5 L))])) m:=by
 refine iC mix Tryz.func121 ?_
 repeat'(first|refine bl ?_|refine bS (λh=>?_) (λh=>?_)|refine aF (aJN L (by omega)) (bw ?_)|refine fT (cs:=(V.mk 3 0 ByteArray.empty L 0).cells) (rW (V.mk 3 0 ByteArray.empty L 0) (by simp only[V.cR];omega)) (bw ?_))
 ·have hA:L.all V.may=false:=by rw[iA];simpa using‹∃x,x∈L/\x.may=false›
  have e1:ofC L=zV:=by unfold ofC;rw[if_neg (by rw[hA];simp)]
  have e2:U5 L=2:=by unfold U5;rw[if_neg (by rw[hA];simp)]
  rw[e1,e2];exact .eL (cs:=[.agg zV,ci 2]) (.cons (.agg (wJ.data _ zV)) (.cons (.d _) .nil))
 ·have e1:ofC L=zV:=by unfold ofC;rw[if_neg (by simp_all)]
  have e2:U5 L=4:=by unfold U5;rw[if_pos (by simp_all),if_neg (by simp_all)]
  rw[e1,e2];exact .eL (cs:=[.agg zV,ci 4]) (.cons (.agg (wJ.data _ zV)) (.cons (.d _) .nil))
 ·have hm:(V.mk 3 0 ByteArray.empty L 0).may=true:=by assumption
  refine fT (cs:=(V.mk 3 0 ByteArray.empty L 0).cells) (RB (V.mk 3 0 ByteArray.empty L 0) (by simp only[V.cR];omega)) ?_;conv=>whnf
  refine bl ?_;have e1:ofC L=(V.mk 3 0 ByteArray.empty L 0).cells:=by unfold ofC;rw[if_pos (by simp_all)]
  have e2:U5 L=0:=by unfold U5;rw[if_pos (by simp_all),if_pos (by simp_all)]
  rw[e1,e2];exact .eL (cs:=[.agg (V.mk 3 0 ByteArray.empty L 0).cells,ci 0]) (.cons (.agg (wJ.data _ (V.mk 3 0 ByteArray.empty L 0).cells)) (.cons (.d _) .nil))
mutual
def E4.lit:E4->Int->Int->Bool×Int
 |.mk k _ _ l,n,d=>if 512<n+1 then(false,n+1)else if k≠3/\l.length=0 then(true,n+1)else if d=0 then(false,n+1)else E4.oC l (n+1) (d -1)
def E4.oC:List E4->Int->Int->Bool×Int
 |[],n,_=>(true,n)
 |v::r,n,d=>match E4.lit v n d with
  |(false,n')=>(false,n')
  |(true,n')=>E4.oC r n' d
end
theorem E4.QE(v:E4)(n d:Int):v.lit n d=if 512<n+1 then(false,n+1)else if v.kind≠3/\v.l.length=0 then(true,n+1)else if d=0 then(false,n+1)else E4.oC v.l (n+1) (d -1):=by cases v;rw[E4.lit];rfl
mutual
theorem E4.aKA:∀(v:E4)(n d:Int),0<=n->n<=512->0<=(v.lit n d).2/\(v.lit n d).2<=513/\((v.lit n d).1=true->(v.lit n d).2<=512)
 |.mk k m s l,n,d,h0,h1=>by
  rw[E4.lit];by_cases h2:512<n+1
  ·simp[h2];omega
  ·have ih:=E4.QD l (n+1) (d -1) (by omega) (by omega);simp only[h2,if_false]
   repeat' split
   all_goals first|exact ih|(simp;omega)
theorem E4.QD:∀(l:List E4)(n d:Int),0<=n->n<=512->0<=(E4.oC l n d).2/\(E4.oC l n d).2<=513/\((E4.oC l n d).1=true->(E4.oC l n d).2<=512)
 |[],n,d,h0,h1=>by rw[E4.oC];simp;omega
 |v::r,n,d,h0,h1=>by
  rw[E4.oC];have h2:=E4.aKA v n d h0 h1;generalize E4.lit v n d=q at h2⊢;obtain⟨b,m⟩:=q;cases b with
  |false=>simpa using⟨h2.1,h2.2.1⟩
  |true=>exact E4.QD r m d h2.1 (h2.2.2 rfl)
end
def E4.AN:List E4->Int->Int->Int->Int
 |[],_,_,_=>-1
 |v::r,n,d,i=>match E4.lit v n d with
  |(false,_)=>i
  |(true,n')=>E4.AN r n' d (i+1)
theorem E4.N8:∀(l:List E4)(i:Nat)(h:i<l.length)(n d n':Int),E4.oC (l.take i) n d=(true,n')->E4.oC (l.take (i+1)) n d=E4.lit l[i] n' d
 |v::r,0,h,n,d,n',e=>by
  simp only[fD,E4.oC,aD,true_and]at e;subst e;simp only[cC,fD,E4.oC,eK];generalize E4.lit v n d=q;obtain⟨b,x⟩:=q;cases b<;>rfl
 |v::r,i+1,h,n,d,n',e=>by
  simp only[cC,E4.oC,cJ]at e⊢;generalize E4.lit v n d=q at e⊢;obtain⟨b,x⟩:=q;cases b with
  |false=>simp at e
  |true=>exact E4.N8 r i (by simpa using h) x d n' e
theorem E4.KE:∀(l:List E4)(i:Nat)(n d n':Int),E4.oC (l.take i) n d=(false,n')->E4.oC l n d=(false,n')
 |[],i,n,d,n',e=>by simpa using e
 |v::r,0,n,d,n',e=>by simp[E4.oC]at e
 |v::r,i+1,n,d,n',e=>by
  simp only[cC,E4.oC]at e⊢;generalize E4.lit v n d=q at e⊢;obtain⟨b,x⟩:=q;cases b with
  |false=>exact e
  |true=>exact E4.KE r i x d n' e
theorem E4.TH:∀(l:List E4)(i:Nat)(h:i<l.length)(n d n' m k:Int),E4.oC (l.take i) n d=(true,n')->E4.lit l[i] n' d=(false,m)->E4.AN l n d k=k+i
 |v::r,0,h,n,d,n',m,k,e,e2=>by
  simp only[fD,E4.oC,aD,true_and]at e;subst e;simp only[eK]at e2;rw[E4.AN,e2];simp
 |v::r,i+1,h,n,d,n',m,k,e,e2=>by
  simp only[cC,E4.oC,cJ]at e e2;rw[E4.AN];generalize E4.lit v n d=q at e⊢;obtain⟨b,x⟩:=q;cases b with
  |false=>simp at e
  |true=>
   have:=E4.TH r i (by simpa using h) x d n' m (k+1) e e2;simp only[this];omega
theorem E4.TI:∀(l:List E4)(n d n' k:Int),E4.oC l n d=(true,n')->E4.AN l n d k=-1
 |[],n,d,n',k,e=>rfl
 |v::r,n,d,n',k,e=>by
  rw[E4.oC]at e;rw[E4.AN];generalize E4.lit v n d=q at e⊢;obtain⟨b,x⟩:=q;cases b with
  |false=>simp at e
  |true=>exact E4.TI r x d n' (k+1) e
theorem E4.KD:∀(l:List E4)(n d k:Int),0<=k->decide (0<=E4.AN l n d k)=!(E4.oC l n d).1
 |[],n,d,k,hk=>by simp[E4.AN,E4.oC]
 |v::r,n,d,k,hk=>by
  rw[E4.AN,E4.oC];generalize E4.lit v n d=q;obtain⟨b,x⟩:=q;cases b with
  |false=>simpa using hk
  |true=>exact E4.KD r x d (k+1) (by omega)
abbrev fV(n:Int):R:=.cells false [.d (ci n)]
def KJ(n d:Int):List (Nat×R):=[(0,fV n),(108,.cells false [.lp 0 0]),(116,fV d)]
theorem P7(k:FuncId)(L:List E4)(n d:Int)(h0:0<=n)(h1:n<=512)(hf:∀i(h:i<L.length),∀n,0<=n->n<=512->aJ Tryz.prog k [.d (.agg L[i].cells),.lp 108 0,.lp 116 0] (aK (KJ n d)) (.ok (.d (cb (!(L[i].lit n (d -1)).1)))) (aH (aK (KJ n d)) [(0,fV (L[i].lit n (d -1)).2)]))(hL:L.length<=2^40):
 aJ Tryz.prog 227 [.d (.sl 4 (L.map E4.row)),.fn (.func k) [] [.lp 108 0,.lp 116 0]] (aK (KJ n d)) (.ok (.d (ci (E4.AN L n (d -1) 0)))) (aH (aK (KJ n d)) [(0,fV (E4.oC L n (d -1)).2)]):=by
 refine wE mix 200 Tryz.func227 trivial ⟨trivial,trivial⟩ ?_;refine bl ?_;refine bV mix (λa:Nat×Int=>a.1<=L.length/\E4.oC (L.take a.1) n (d -1)=(true,a.2)) (I:=λa=>[(0,.d (.sl 4 (L.map E4.row))),(1,.fn (.func k) [] [.lp 108 0,.lp 116 0]),(7,.d (ci L.length)),(8,.d (ci a.1))])
  (J:=λa=>KJ a.2 d) (μ:=λa=>L.length -a.1) 100 (0,n) ⟨by dsimp only;omega,rfl⟩ (by exact mv 5000 5001) ?_
 rintro⟨i,q⟩ ⟨hi,hq⟩;have hb:=E4.QD (L.take i) n (d -1) h0 h1;rw[hq]at hb;dsimp only at hi hq hb⊢;have hq512:=hb.2.2 rfl
 repeat'(first|refine bl ?_|refine bS (λh=>?_) (λh=>?_))
 ·refine eE E4.cP rfl (by decide) (by assumption) ?_;conv=>whnf
  skip
  have hc:=hf i (by assumption) q hb.1 hq512;have hst:=E4.N8 L i (by assumption) n (d -1) q hq;generalize hz:E4.lit L[i] q (d -1)=z at hc hst;obtain⟨b,m⟩:=z;refine dZ.mk (.d (cb (!b))) [(0,fV m)] (aJ.hP hc ⟨sn,sn,trivial⟩ ⟨rfl,rfl,rfl,trivial⟩ ⟨trivial,⟨sn,trivial⟩,trivial,trivial⟩ ⟨.inl sn,trivial⟩) ?_;conv=>whnf
  cases b with
  |false=>
   refine bl ?_;refine dA ?_ ⟨.inr ?_,.inl rfl,.inr rfl,.inr rfl,trivial⟩
   ·rw[E4.TH L i (by assumption) n (d -1) q m 0 hq hz];simp
   ·rw[E4.KE L (i+1) n (d -1) m hst];rfl
  |true=>
   refine bl ?_;refine⟨(i+1,m),by dsimp only;omega,⟨by dsimp only;omega,hst⟩,?_⟩;exact mv 5000 5001
 ·rw[aI (by omega)]at hq;refine dA ?_ ⟨.inr ?_,.inl rfl,.inr rfl,.inr rfl,trivial⟩
  ·rw[E4.TI L n (d -1) q 0 hq]
  ·rw[hq];rfl
theorem HZ(k:FuncId)(L:List E4)(n d:Int)(h0:0<=n)(h1:n<=512)(hf:∀i(h:i<L.length),∀n,0<=n->n<=512->aJ Tryz.prog k [.d (.agg L[i].cells),.lp 108 0,.lp 116 0] (aK (KJ n d)) (.ok (.d (cb (!(L[i].lit n (d -1)).1)))) (aH (aK (KJ n d)) [(0,fV (L[i].lit n (d -1)).2)]))(hL:L.length<=2^40):
 aJ Tryz.prog 205 [.d (.sl 4 (L.map E4.row)),.fn (.func k) [] [.lp 108 0,.lp 116 0]] (aK (KJ n d)) (.ok (.d (cb (!(E4.oC L n (d -1)).1)))) (aH (aK (KJ n d)) [(0,fV (E4.oC L n (d -1)).2)]):=by
 refine wE mix 200 Tryz.func205 trivial ⟨trivial,trivial⟩ ?_;refine bl ?_;refine dZ.mk (.d (ci (E4.AN L n (d -1) 0))) [(0,fV (E4.oC L n (d -1)).2)] (aJ.hP (P7 k L n d h0 h1 hf hL) ⟨sn,sn,trivial⟩ ⟨rfl,rfl,rfl,trivial⟩ ⟨trivial,⟨sn,trivial⟩,trivial,trivial⟩ ⟨.inl sn,trivial⟩) ?_;conv=>whnf
 refine bl ?_;refine dA ?_ ⟨.inr rfl,.inl rfl,.inr rfl,.inr rfl,trivial⟩;rw[<-E4.KD L n (d -1) 0 (by omega)]
theorem V2(v:E4)(n d:Int)(h0:0<=n)(h1:n<=512)(hd:1<=d)(hd2:d<=100)(hf:aJ Tryz.prog 168 [.d (.agg v.cells),.lp 0 0,.d (ci (d -1))] (aK [(0,fV n)]) (.ok (.d (cb (v.lit n (d -1)).1))) (aH (aK [(0,fV n)]) [(0,fV (v.lit n (d -1)).2)])):
 aJ Tryz.prog 206 [.d (.agg v.cells),.lp 108 0,.lp 116 0] (aK (KJ n d)) (.ok (.d (cb (!(v.lit n (d -1)).1)))) (aH (aK (KJ n d)) [(0,fV (v.lit n (d -1)).2)]):=by
 refine wE mix 200 Tryz.func206 trivial ⟨trivial,trivial⟩ ?_;refine bl ?_;refine dZ.mk (.d (cb (v.lit n (d -1)).1)) [(0,fV (v.lit n (d -1)).2)] ((aJ.hP hf ⟨sn,trivial⟩ ⟨rfl,trivial⟩ ⟨trivial,trivial⟩ ⟨.inl sn,trivial⟩).mR (.cons (.agg v.cells) (.cons (.same _) (.cons (.same _) .nil)))) ?_;conv=>whnf
 refine bl ?_;exact dA rfl ⟨.inr rfl,.inl rfl,.inr rfl,.inr rfl,trivial⟩
theorem F9(v:E4)(hv:v.cR<=2^40)(n d:Int)(h0:0<=n)(h1:n<=512)(hd:0<=d)(hd2:d<=100):
 aJ Tryz.prog 168 [.d (.agg v.cells),.lp 0 0,.d (ci d)] (aK [(0,fV n)]) (.ok (.d (cb (v.lit n d).1))) (aH (aK [(0,fV n)]) [(0,fV (v.lit n d).2)]):=by
 refine wE mix 100 Tryz.func168 trivial ⟨trivial,trivial⟩ ?_
 repeat'(first|refine bl ?_|refine bS (λh=>?_) (λh=>?_))
 any_goals(first
  |(have e:v.lit n d=(false,n+1):=by rw[E4.QE];simp_all;done
    refine dA ?_ ⟨.inr ?_,.inl rfl,trivial⟩<;>rw[e]<;>rfl)
  |(have e:v.lit n d=(true,n+1):=by rw[E4.QE];simp_all;done
    refine dA ?_ ⟨.inr ?_,.inl rfl,trivial⟩<;>rw[e]<;>rfl))
 all_goals
  have e:v.lit n d=E4.oC v.l (n+1) (d -1):=by
   rw[E4.QE,if_neg (by omega),if_neg (by simp_all),if_neg (by assumption)]
  have hcd:=v.fA;have hln:=E4.eW v.l;refine dZ.mk (.d (cb (!(E4.oC v.l (n+1) (d -1)).1))) [(0,fV (E4.oC v.l (n+1) (d -1)).2)] (aJ.hP (HZ 206 v.l (n+1) d (by omega) (by omega) (λi h m hm0 hm1=>have hsz:=v.k7 i h;have hcg:=E4.dG v.l i h;V2 v.l[i] m d hm0 hm1 (by omega) hd2 (F9 v.l[i] (by omega) m (d -1) hm0 hm1 (by omega) (by omega))) (by omega)) ⟨sn,sn,trivial⟩ ⟨rfl,rfl,rfl,trivial⟩ ⟨trivial,⟨sn,trivial⟩,trivial,trivial⟩ ⟨.inl sn,trivial⟩) ?_;conv=>whnf
  refine bl ?_;refine dA ?_ ⟨.inr ?_,.inl rfl,trivial⟩
  ·rw[e];simp;try rfl
  ·rw[e];rfl
 termination_by SizeOf.sizeOf v
mutual
def S4.sm:S4->Int->Bool×Int
 |.mk _ _ _ _ _ a b t e c w,n=>if 512<n+1\/64<(w.length:Int)\/(a.lit 0 16).1=false\/(b.lit 0 16).1=false then(false,n+1)else
  match S4.C4 t (n+1)with
  |(false,m)=>(false,m)
  |(true,m)=>match S4.C4 e m with
   |(false,k)=>(false,k)
   |(true,k)=>S4.C4 c k
def S4.C4:List S4->Int->Bool×Int
 |[],n=>(true,n)
 |v::r,n=>match S4.sm v n with
  |(false,m)=>(false,m)
  |(true,m)=>S4.C4 r m
end
theorem S4.Q3(v:S4)(n:Int):v.sm n=if 512<n+1\/64<(v.w.length:Int)\/(v.a.lit 0 16).1=false\/(v.b.lit 0 16).1=false then(false,n+1)else
 match S4.C4 v.t (n+1)with
 |(false,m)=>(false,m)
 |(true,m)=>match S4.C4 v.e m with
  |(false,k)=>(false,k)
  |(true,k)=>S4.C4 v.c k:=by cases v;rw[S4.sm];rfl
abbrev Bd5(q:Bool×Int):Prop:=0<=q.2/\q.2<=513/\(q.1=true->q.2<=512)
mutual
theorem S4.aMH:∀(v:S4)(n:Int),0<=n->n<=512->Bd5 (v.sm n)
 |.mk _ _ _ _ _ a b t e c w,n,h0,h1=>by
  rw[S4.sm];by_cases hc:512<n+1\/64<(w.length:Int)\/(a.lit 0 16).1=false\/(b.lit 0 16).1=false
  ·rw[if_pos hc];simp[Bd5];omega
  ·rw[if_neg hc];have i1:=S4.C1 t (n+1) (by omega) (by omega);generalize S4.C4 t (n+1)=q at i1⊢;obtain⟨x,m⟩:=q;cases x with
   |false=>exact i1
   |true=>
    have i2:=S4.C1 e m i1.1 (i1.2.2 rfl);dsimp only;generalize S4.C4 e m=q2 at i2⊢;obtain⟨y,k⟩:=q2;cases y with
    |false=>exact i2
    |true=>exact S4.C1 c k i2.1 (i2.2.2 rfl)
theorem S4.C1:∀(l:List S4)(n:Int),0<=n->n<=512->Bd5 (S4.C4 l n)
 |[],n,h0,h1=>by rw[S4.C4];simp[Bd5];omega
 |v::r,n,h0,h1=>by
  rw[S4.C4];have i1:=S4.aMH v n h0 h1;generalize S4.sm v n=q at i1⊢;obtain⟨x,m⟩:=q;cases x with
  |false=>exact i1
  |true=>exact S4.C1 r m i1.1 (i1.2.2 rfl)
end
theorem S4.aFI(l:List S4)(i:Nat)(h:i<l.length)(n:Int):S4.C4 (l.drop i) n=match S4.sm l[i] n with
 |(false,m)=>(false,m)
 |(true,m)=>S4.C4 (l.drop (i+1)) m:=by
 rw[dE h,S4.C4]
theorem EX(l:List S4)(hv:S4.dB l<=2^38)(n:Int)(h0:0<=n)(h1:n<=512):aJ Tryz.prog 122 [.d (nB l),.lp 0 0] (aK [(0,fV n)]) (.ok (.d (cb (S4.C4 l n).1))) (aH (aK [(0,fV n)]) [(0,fV (S4.C4 l n).2)]):=by
 have hl:=S4.eW l;refine wE mix 100 Tryz.func122 trivial ⟨trivial,trivial⟩ ?_;refine bl ?_;refine bV mix (λa:Nat×Int=>a.1<=l.length/\(0<=a.2/\a.2<=512)/\S4.C4 (l.drop a.1) a.2=S4.C4 l n) (I:=λa=>[(1,.lp 0 0),(9,.d (nB l)),(10,.d (ci l.length)),(11,.d (ci a.1))])
  (J:=λa=>[(0,fV a.2)]) (μ:=λa=>l.length -a.1) 100 (0,n) ⟨by dsimp only;omega,⟨h0,h1⟩,rfl⟩ (by exact mv 5000 5001) ?_
 rintro⟨i,q⟩ ⟨hi,hqb,hq⟩;dsimp only at hi hq hqb⊢
 repeat'(first|refine bl ?_|refine bS (λh=>?_) (λh=>?_))
 ·refine eE S4.cP rfl (by decide) (by assumption) ?_;have hdr:=S4.aFI l i (by assumption) q;conv=>whnf
  repeat'(first|refine bl ?_|refine bS (λh=>?_) (λh=>?_))
  any_goals
   have e:S4.C4 l n=(false,q+1):=by rw[<-hq,hdr,S4.Q3,if_pos (by omega)]
   refine dA ?_ ⟨.inr ?_,.inl rfl,trivial⟩<;>rw[e]<;>rfl
  have hcg:=S4.dG l i (by assumption);have hcd:=l[i].fA;have hq1:q+1<=512:=by assumption
  have hc1:=F9 l[i].a (by omega) 0 16 (by omega) (by omega) (by omega) (by omega);generalize hz1:E4.lit l[i].a 0 16=z1 at hc1;obtain⟨b1,m1⟩:=z1;refine lN 188 (fV m1) ((hc1.AK rfl (λg=>rfl) (λg=>rfl) rfl (by simp[A.lQ,A.hs]) (aK _) 188 rfl).mR (.cons (.agg l[i].a.cells) (.cons (.same _) (.cons (.same _) .nil)))) ?_;conv=>whnf
  cases b1 with
  |false=>
   refine bl ?_;have e:S4.C4 l n=(false,q+1):=by rw[<-hq,hdr,S4.Q3,if_pos (by rw[hz1];simp)]
   refine dA ?_ ⟨.inr ?_,.inl rfl,trivial⟩<;>rw[e]<;>rfl
  |true=>
   refine bl ?_;have hc2:=F9 l[i].b (by omega) 0 16 (by omega) (by omega) (by omega) (by omega);generalize hz2:E4.lit l[i].b 0 16=z2 at hc2;obtain⟨b2,m2⟩:=z2;refine lN 196 (fV m2) ((hc2.AK rfl (λg=>rfl) (λg=>rfl) rfl (by simp[A.lQ,A.hs]) (aK _) 196 rfl).mR (.cons (.agg l[i].b.cells) (.cons (.same _) (.cons (.same _) .nil)))) ?_;conv=>whnf
   cases b2 with
   |false=>
    refine bl ?_;have e:S4.C4 l n=(false,q+1):=by rw[<-hq,hdr,S4.Q3,if_pos (by rw[hz2];simp)]
    refine dA ?_ ⟨.inr ?_,.inl rfl,trivial⟩<;>rw[e]<;>rfl
   |true=>
    refine bl ?_;have hng:¬(512<q+1\/64<(l[i].w.length:Int)\/(l[i].a.lit 0 16).1=false\/(l[i].b.lit 0 16).1=false):=by
     rw[hz1,hz2];simp;omega
    rw[S4.Q3,if_neg hng]at hdr;have ht:=EX l[i].t (by omega) (q+1) (by omega) (by omega);have hbt:=S4.C1 l[i].t (q+1) (by omega) (by omega);generalize S4.C4 l[i].t (q+1)=zt at ht hbt hdr;obtain⟨bt,mt⟩:=zt;refine dZ.mk (.d (cb bt)) [(0,fV mt)] (aJ.hP ht ⟨sn,trivial⟩ ⟨rfl,trivial⟩ ⟨trivial,trivial⟩ ⟨.inl sn,trivial⟩) ?_;conv=>whnf
    cases bt with
    |false=>
     refine bl ?_;have e:S4.C4 l n=(false,mt):=by rw[<-hq,hdr]
     refine dA ?_ ⟨.inr ?_,.inl rfl,trivial⟩<;>rw[e]<;>rfl
    |true=>
     refine bl ?_;dsimp only at hdr hbt;have he:=EX l[i].e (by omega) mt hbt.1 (hbt.2.2 rfl);have hbe:=S4.C1 l[i].e mt hbt.1 (hbt.2.2 rfl);generalize S4.C4 l[i].e mt=ze at he hbe hdr;obtain⟨be,me⟩:=ze;refine dZ.mk (.d (cb be)) [(0,fV me)] (aJ.hP he ⟨sn,trivial⟩ ⟨rfl,trivial⟩ ⟨trivial,trivial⟩ ⟨.inl sn,trivial⟩) ?_;conv=>whnf
     cases be with
     |false=>
      refine bl ?_;have e:S4.C4 l n=(false,me):=by rw[<-hq,hdr]
      refine dA ?_ ⟨.inr ?_,.inl rfl,trivial⟩<;>rw[e]<;>rfl
     |true=>
      refine bl ?_;dsimp only at hdr hbe;have hc:=EX l[i].c (by omega) me hbe.1 (hbe.2.2 rfl);have hbc:=S4.C1 l[i].c me hbe.1 (hbe.2.2 rfl);generalize S4.C4 l[i].c me=zc at hc hbc hdr;obtain⟨bc,mc⟩:=zc;refine dZ.mk (.d (cb bc)) [(0,fV mc)] (aJ.hP hc ⟨sn,trivial⟩ ⟨rfl,trivial⟩ ⟨trivial,trivial⟩ ⟨.inl sn,trivial⟩) ?_;conv=>whnf
      cases bc with
      |false=>
       refine bl ?_;have e:S4.C4 l n=(false,mc):=by rw[<-hq,hdr]
       refine dA ?_ ⟨.inr ?_,.inl rfl,trivial⟩<;>rw[e]<;>rfl
      |true=>
       refine bl ?_;dsimp only at hdr hbc;refine⟨(i+1,mc),by dsimp only;omega,⟨by dsimp only;omega,⟨hbc.1,hbc.2.2 rfl⟩,by dsimp only;rw[<-hq,hdr]⟩,?_⟩;exact mv 5000 5001
 ·rw[dT (by omega)]at hq;refine dA ?_ ⟨.inr ?_,.inl rfl,trivial⟩
  ·rw[<-hq];rfl
  ·rw[<-hq];rfl
 termination_by S4.dB l
abbrev V.zero:V:=.mk 0 0 ByteArray.empty [] 0
abbrev W4.base(x:W4):W4:=⟨x.kind,x.home,V.zero,[],0,0,0,0,0,false,[],[]⟩
def W4.bare(x:W4):W4:=
 if x.kind=1 then{x.base with value:=x.value}
 else if x.kind=2\/x.kind=4 then{x.base with values:=x.values}
 else if x.kind=3 then{x.base with n:=x.n}
 else if x.kind=6\/x.kind=11 then{x.base with of:=x.of}
 else if x.kind=7 then{x.base with of:=x.of,value:=x.value}
 else if x.kind=8 then{x.base with n:=x.n,lost:=x.lost}
 else if x.kind=9 then{x.base with of:=x.of,n:=x.n}
 else if x.kind=10 then{x.base with full:=x.full,value:=x.value}
 else if x.kind=12 then{x.base with code:=x.code,names:=x.names}
 else if x.kind=13 then{x.base with full:=x.full,of:=x.of}
 else if x.kind=15\/x.kind=16 then{x.base with of:=x.of,by_:=x.by_}
 else if x.kind=14 then{x.base with home:=0,of:=x.of,set:=x.set}
 else x.base
theorem aGP(x:W4):∀m,aJ Tryz.prog 117 [.d (.agg x.cells)] m (.ok (.d (.agg x.bare.cells))) m:=by
 refine iC mix Tryz.func117 ?_
 repeat'(first|refine bl ?_|refine bS (λh=>?_) (λh=>?_))
 all_goals
  unfold W4.bare
  repeat(first|rw[if_neg (by omega)]|rw[if_pos (by omega)])
  exact .one (.agg (by repeat'(first|exact wJ.nil|refine wJ.cons (Rd.d _) ?_|refine wJ.cons (Rd.nz _ _) ?_)))
end Go.Pv
