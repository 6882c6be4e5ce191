import Derived.Test.YtpdcbahjjmooiaaGreatH19
/- A program logic over the model, contracts of the functions that the law reaches: part 20. (Names and blanks were shortened by program.) -/
set_option linter.unusedVariables false
set_option linter.unusedSimpArgs false
set_option linter.constructorNameAsVariable false
set_option linter.unusedSectionVars false
set_option linter.deprecated false
set_option maxRecDepth 100000
set_option maxHeartbeats 8000000
open Go Go.Proofs
namespace Go.Pv
open Go.RowKit
variable{r:Int}{m:Mem}{x:W4}{t:T4}
def aD8(k set:Int):Int:=if k=1 then 3 else if k=2\/k=3 then 9 else if k=4 then 12 else if k=5\/k=6\/k=8\/k=12 then 16 else if k=9 then 13 else if k=10 then 1 else if k=11 then 8 else if k=13 then 33 else if k=14 then set else 0
def R4.MD(w:R4):Nat->Int->Option Int
 |0,_=>none
 |n+1,r=>match w.find r with
  |none=>some 0
  |some t=>if t.bQ.kind=15\/t.bQ.kind=16 then R4.MD w n t.bQ.of else some (aD8 t.bQ.kind t.bQ.set)
theorem R4.aTG{w:R4}{n:Nat}{v:Int}(h:w.MD (n+1) r=some v)(hb:w.mI r=false):v=0:=by
 unfold R4.mI at hb;rw[R4.MD]at h;cases hf:w.find r with
 |none=>rw[hf]at h;exact(eY h).symm
 |some t=>rw[hf]at hb;cases hb
theorem R4.aPV{w:R4}{n:Nat}{v:Int}(h:w.MD (n+1) r=some v)(hb:w.mI r=true)(h1:¬(w.iI r).kind=15)(h2:¬(w.iI r).kind=16):v=aD8 (w.iI r).kind (w.iI r).set:=by
 unfold R4.mI at hb;unfold R4.iI at h1 h2⊢;rw[R4.MD]at h;cases hf:w.find r with
 |none=>rw[hf]at hb;cases hb
 |some t=>
  rw[hf]at h h1 h2;simp only[dF,gZ]at h1 h2⊢;simpa [h1,h2]using h.symm
theorem R4.aVX{w:R4}{n:Nat}{v:Int}(h:w.MD (n+1) r=some v)(hb:w.mI r=true)(h1:(w.iI r).kind=15\/(w.iI r).kind=16):w.MD n (w.iI r).of=some v:=by
 unfold R4.mI at hb;unfold R4.iI at h1⊢;rw[R4.MD]at h;cases hf:w.find r with
 |none=>rw[hf]at hb;cases hb
 |some t=>
  rw[hf]at h h1;simp only[dF,gZ]at h1⊢;simpa [h1]using h
theorem aOQ(w:R4)(hw:w.wt):∀(n:Nat)(r v:Int),w.MD n r=some v->Pu 155 [.d (.ip w.aT1),.d (ci r)] (.d (.v (.int .u8 v)))
 |0,r,v,hv=>by cases hv
 |n+1,r,v,hv=>by
  obtain⟨hk0,hk1⟩:=R4.AF hw r;refine iC mix Tryz.func155 ?_
  repeat'(first|refine bl ?_|refine bS (λh=>?_) (λh=>?_)|refine aF (zP w r hw.len) (bw ?_)|(refine aF (aOQ w hw n (w.iI r).of v (R4.aVX hv aM (by first|exact .inl aM|exact .inr aM))) ?_;(conv=>whnf)))
  all_goals first
   |(refine CW (R4.aTG hv aM).symm;done)
   |(refine CW ?_
     have hb:=R4.aPV hv aM oM oM;rw[hb];simp_all[aD8]
     done)
   |(refine CW ?_
     have hb:=R4.aPV hv aM oM oM;rw[hb];simp_all[aD8]
     omega)
   |exact CW rfl
theorem aUI(L:List V):Pu 139 [.d (.sl 5 (L.map V.row))] (.d (.agg (V.mk 3 0 ByteArray.empty L 0).aT1)):=by
 refine iC mix Tryz.func139 ?_;refine bl ?_
 all_goals exact .one (.agg (wJ.data _ (V.mk 3 0 ByteArray.empty L 0).aT1))
def W4.refs(x:W4):List Int:=(x.vA.map V.refs).flatten
theorem aHQ(L:List V):((L.map V.refs).flatten).length<=V.dB L:=by
 induction L with
 |nil=>simp
 |cons v r ih=>
  have:=V.EO v;simp only[aG,dL,aU,V.dB];omega
theorem aOR(x:W4)(hx:x.cR<=2^35):Pu 73 [.d (.agg x.aT1)] (.d (.sl 1 (iR x.refs))):=by
 have hvc:=x.aF6;have hvl:=V.eW x.vA;have a2P:∀i,(((x.vA.take i).map V.refs).flatten).length<=2^36:=λi=>by
  have h1:=aHQ (x.vA.take i);have h2:=V.kA x.vA i;omega
 refine iC mix Tryz.func73 ?_
 repeat'(first|refine bl ?_|refine fT (cs:=x.aT1) (aBZ x oM) (bw ?_))
 refine cY mix (λa:Nat×List Int=>a.1<=x.vA.length/\a.2=((x.vA.take a.1).map V.refs).flatten) (I:=λa=>[(3,lv 1 900 (iR a.2)),(4,.d (aF5 x.vA)),(5,.d (ci a.1))])
  (J:=λa=>lm 900 25 1 (iR a.2) []) (μ:=λa=>x.vA.length -a.1) 2000 (0,[]) 0
  (λQ:List Int=>Q=x.refs) (λQ=>[(3,dl Q)]) (λQ=>[]) 4000 ⟨sM,sM⟩ mZ ?_ ?_
 ·rintro⟨i,Q⟩ ⟨hi,hQ⟩;dsimp only at hi hQ⊢;have hlen:Q.length<=2^36:=by
   have h1:=a2P i;rw[hQ];omega
  cases Q with
  |nil=>
   show vc _ _ _ _ _ [] _ _
   repeat'(first|refine bl ?_|refine bS (λh=>?_) (λh=>?_))
   ·refine cD rfl eD h ?_;have eB:((x.vA.take (i+1)).map V.refs).flatten=((x.vA.take i).map V.refs).flatten++V.refs x.vA[i]:=iU V.refs x.vA i h;have hq:=V.EO x.vA[i];have WI:=V.dG x.vA i h;conv=>whnf
    repeat' refine aF (aPR x.vA[i] oM) (bw ?_)
    refine n8 (by simp only[aB];omega) kK ?_;conv=>whnf
    refine E9.mk (λh1=>?_) (λh1=>?_)
    ·have h1:V.refs x.vA[i]=[]:=by simpa using h1
     conv=>whnf
     refine bl ?_;refine⟨(i+1,[]),dM,⟨dM,by dsimp only;rw[eB,h1,dS,<-hQ]⟩,?_⟩;exact mZ
    ·have h1:V.refs x.vA[i]≠[]:=by simpa using h1
     conv=>whnf
     refine bl ?_;refine⟨(i+1,V.refs x.vA[i]),dM,⟨dM,by dsimp only;rw[eB,<-hQ,bZ]⟩,?_⟩;cases wV:V.refs x.vA[i]with
     |nil=>exact absurd wV h1
     |cons r Q=>
      dsimp only[iR,List.map_cons,lv,lm];exact mv 2080 900
      all_goals first|exact cO rfl rfl|exact cO rfl (by rw[wV];rfl)
   ·rw[aI oM]at hQ;exact⟨[],hQ,mZ⟩
  |cons r Q=>
   show vc _ _ _ _ _ [(900,dU 25 1 (iR (r::Q)))] _ _
   repeat'(first|refine bl ?_|refine bS (λh=>?_) (λh=>?_))
   ·refine cD rfl eD h ?_;have eB:((x.vA.take (i+1)).map V.refs).flatten=((x.vA.take i).map V.refs).flatten++V.refs x.vA[i]:=iU V.refs x.vA i h;have hq:=V.EO x.vA[i];have WI:=V.dG x.vA i h;conv=>whnf
    repeat' refine aF (aPR x.vA[i] oM) (bw ?_)
    refine n8 (by simp only[aB,bE];omega) kK ?_;conv=>whnf
    refine bl ?_;refine⟨(i+1,r::(Q++V.refs x.vA[i])),dM,⟨dM,by dsimp only;rw[eB,<-hQ];rfl⟩,?_⟩;refine mq 2080 900 ?_
    all_goals exact cO rfl (gG (r::Q) (V.refs x.vA[i]))
   ·rw[aI oM]at hQ;exact⟨r::Q,hQ,cN.freeze [900] tV ⟨.rd (.dU (eX rfl rfl)),tV⟩ tV ⟨tV,tV⟩ tV⟩
 ·rintro Q hQ;cases Q with
  |nil=>
   refine bl ?_;rw[<-hQ];exact .one (.nz _ _)
  |cons q0 Q=>
   refine bl ?_;rw[<-hQ];exact .one (.d _)
def aBY(r k of:Int)(b:Bool)(t:T4):Bool:=decide (t.ref≠r)&&(decide (t.bQ.kind=k)&&(if b=true then decide (t.bQ.by_=of)else decide (t.bQ.of=of)))
def R4.QN(w:R4)(r k of:Int)(b:Bool):Bool:=w.aT4.any (aBY r k of b)
theorem aLI(w:R4)(hw:w.wt)(r k of:Int)(b:Bool):Pu 154 [.d (.ip w.aT1),.d (ci r),.d (ci k),.d (ci of),.d (cb b)] (.d (cb (w.QN r k of b))):=by
 have hlen:=hw.len;have hkd:∀i(h:i<w.aT4.length),0<=w.aT4[i].bQ.kind/\w.aT4[i].bQ.kind<256:=λi h=>hw.kind _ (aY h);refine iC mix Tryz.func154 ?_;refine bl ?_;refine bV mix (λi:Nat=>i<=w.aT4.length/\(w.aT4.take i).any (aBY r k of b)=false) (I:=λi=>[(0,.d (.ip w.aT1)),(1,.d (ci r)),(2,.d (ci k)),(3,.d (ci of)),(4,.d (cb b)),(11,.d (ci i))])
  (J:=λi=>[]) (μ:=λi=>w.aT4.length -i) 1000 0 ⟨oM,rfl⟩ mZ ?_
 rintro i ⟨hi,h0⟩
 repeat'(first|refine bl ?_|refine bS (λh=>?_) (λh=>?_))
 ·refine cD rfl eD aM ?_;have cX:i<w.aT4.length:=aM;obtain⟨hk0,hk1⟩:=hkd i cX;conv=>whnf
  repeat'(first|refine bl ?_|refine bS (λh=>?_) (λh=>?_)|refine cD rfl eD cX (bw ?_))
  all_goals cases b
  all_goals try first
   |(exact dP (dQ.2 ⟨w.aT4[i],aY cX,by simp_all[aBY]⟩).symm)
  all_goals try(refine⟨i+1,oM,⟨oM,A2 (aBY r k of true) w.aT4 i cX h0 ?_⟩,mZ⟩)
  all_goals try(refine⟨i+1,oM,⟨oM,A2 (aBY r k of false) w.aT4 i cX h0 ?_⟩,mZ⟩)
  all_goals try simp_all[aBY]
 ·rw[aI oM]at h0;exact dP h0.symm
abbrev vR(L:List V):List (List C):=L.map V.aT1
def dlV(L:List V):A:=match L with
 |[]=>.d (.nl 5)
 |v::L=>.d (.sl 5 (vR (v::L)))
abbrev zVA:List A:=[.d (.v (.int .u8 0)),.d (ci 0),.d (.v (.string ByteArray.empty)),.d (.nl 5),.d (ci 0)]
theorem aPL(a:List V)(b:V):bE (vR a)++[b.aT1.map A.d]=bE (vR (a++[b])):=by rw[vR,vR,bP,ER];rfl
theorem z7:∀(v:V),v.cR<=2^35->Pu 152 [.d (.agg v.aT1)] (.d (.agg v.aT1)):=by
 intro v hv;have hce:v.cR=1+V.dB v.l:=by cases v;rfl
 have n0:V.dB v.l<=2^35:=oM;have hll:=V.eW v.l;refine iC mix Tryz.func152 ?_;refine bl ?_;refine cY mix (λa:Nat×List V=>a.1<=v.l.length/\a.2=v.l.take a.1) (I:=λa=>[(1,.lp 1 0),(2,.lp 9 0),(3,lv 5 900 (vR a.2)),(4,.d (ci a.1))])
  (J:=λa=>lm 900 88 5 (vR a.2) [(1,.cells false (v.aT1.map A.d)),(9,.cells false zVA)]) (μ:=λa=>v.l.length -a.1) 2000 (0,[]) 0
  (λQ:List V=>Q=v.l) (λQ=>[(1,.lp 1 0),(2,.lp 9 0),(3,dlV Q)]) (λQ=>[(1,.cells false (v.aT1.map A.d)),(9,.cells false zVA)]) 4000 ⟨sM,sM⟩ mZ ?_ ?_
 ·rintro⟨i,Q⟩ ⟨hi,hQ⟩;dsimp only at hi hQ⊢;cases Q with
  |nil=>
   show vc _ _ _ _ _ [(1,.cells false (v.aT1.map A.d)),(9,.cells false zVA)] _ _
   repeat'(first|refine bl ?_|refine bS (λh=>?_) (λh=>?_))
   ·refine eE V.cP rfl eD h ?_;have cX:i<v.l.length:=h;have hq:=V.dG v.l i cX;have a0W:V.cR v.l[i]<v.cR:=oM;conv=>whnf
    repeat' refine aF (z7 v.l[i] oM) (bw ?_)
    refine n8 (by simp only[cE,aS];omega) kK ?_;conv=>whnf
    refine E9.mk (λh1=>absurd h1 sM) (λh1=>?_);conv=>whnf
    refine bl ?_;refine⟨(i+1,[v.l[i]]),dM,⟨dM,by dsimp only;rw[aT cX,<-hQ];rfl⟩,?_⟩;dsimp only[vR,List.map_cons,List.map_nil,lv,lm];exact mv 2104 900
    all_goals exact cO rfl rfl
   ·rw[aI oM]at hQ;exact⟨[],hQ,mZ⟩
  |cons r Q=>
   show vc _ _ _ _ _ [(900,dU 88 5 (vR (r::Q))),(1,.cells false (v.aT1.map A.d)),(9,.cells false zVA)] _ _
   repeat'(first|refine bl ?_|refine bS (λh=>?_) (λh=>?_))
   ·refine eE V.cP rfl eD h ?_;have cX:i<v.l.length:=h;have hq:=V.dG v.l i cX;have a0W:V.cR v.l[i]<v.cR:=oM;have hql:(r::Q).length<=i:=by rw[hQ,cW];omega
    conv=>whnf
    repeat' refine aF (z7 v.l[i] oM) (bw ?_)
    refine n8 (by simp only[cE,aS,aB,bE];omega) kK ?_;conv=>whnf
    refine bl ?_;refine⟨(i+1,r::(Q++[v.l[i]])),dM,⟨dM,by dsimp only;rw[aT cX,<-hQ];rfl⟩,?_⟩;dsimp only[vR,List.map_cons,List.map_nil,lv,lm];refine mq 2104 900 ?_
    all_goals exact cO rfl (aPL (r::Q) v.l[i])
   ·rw[aI oM]at hQ;exact⟨r::Q,hQ,cN.freeze [900] tV ⟨.same _,.same _,.rd (.dU (eX rfl rfl)),tV⟩ ⟨⟨rfl,_,rfl,.cells (.same _)⟩,⟨rfl,_,rfl,.cells (.same _)⟩,tV⟩ ⟨⟨nofun,tV⟩,⟨nofun,tV⟩,tV,tV⟩ ⟨tV,tV,tV⟩⟩
 ·rintro Q rfl;have e:v.aT1=[.v (.int .u8 v.kind),ci v.n,.v (.string v.s),.sl 5 (v.l.map V.row),ci v.r]:=rfl;have er:V.row=V.aT1:=funext V.cP;rw[e,er];cases hl:v.l with
  |nil=>
   refine bl ?_;exact .one (.agg (.cons (.d _) (.cons (.d _) (.cons (.d _) (.cons (.nz _ _) (.cons (.d _) .nil))))))
  |cons q0 Q=>
   refine bl ?_;exact .one (.agg (wJ.data _ [.v (.int .u8 v.kind),ci v.n,.v (.string v.s),.sl 5 (vR (q0::Q)),ci v.r]))
 termination_by v=>v.cR
abbrev eR(L:List E4):List (List C):=L.map E4.aT1
def dlE(L:List E4):A:=match L with
 |[]=>.d (.nl 4)
 |v::L=>.d (.sl 4 (eR (v::L)))
abbrev zEA:List A:=[.d (.v (.int .u8 0)),.d (ci 0),.d (.v (.string ByteArray.empty)),.d (.nl 4)]
theorem aS5(a:List E4)(b:E4):bE (eR a)++[b.aT1.map A.d]=bE (eR (a++[b])):=by rw[eR,eR,bP,ER];rfl
theorem N3:∀(v:E4),v.cR<=2^35->Pu 185 [.d (.agg v.aT1)] (.d (.agg v.aT1)):=by
 intro v hv;have hce:v.cR=1+E4.dB v.l:=by cases v;rfl
 have n0:E4.dB v.l<=2^35:=oM;have hll:=E4.eW v.l;refine iC mix Tryz.func185 ?_;refine bl ?_;refine cY mix (λa:Nat×List E4=>a.1<=v.l.length/\a.2=v.l.take a.1) (I:=λa=>[(1,.lp 1 0),(2,.lp 9 0),(3,lv 4 900 (eR a.2)),(4,.d (ci a.1))])
  (J:=λa=>lm 900 207 4 (eR a.2) [(1,.cells false (v.aT1.map A.d)),(9,.cells false zEA)]) (μ:=λa=>v.l.length -a.1) 2000 (0,[]) 0
  (λQ:List E4=>Q=v.l) (λQ=>[(1,.lp 1 0),(2,.lp 9 0),(3,dlE Q)]) (λQ=>[(1,.cells false (v.aT1.map A.d)),(9,.cells false zEA)]) 4000 ⟨sM,sM⟩ mZ ?_ ?_
 ·rintro⟨i,Q⟩ ⟨hi,hQ⟩;dsimp only at hi hQ⊢;cases Q with
  |nil=>
   show vc _ _ _ _ _ [(1,.cells false (v.aT1.map A.d)),(9,.cells false zEA)] _ _
   repeat'(first|refine bl ?_|refine bS (λh=>?_) (λh=>?_))
   ·refine eE E4.cP rfl eD h ?_;have cX:i<v.l.length:=h;have hq:=E4.dG v.l i cX;have a0W:E4.cR v.l[i]<v.cR:=oM;conv=>whnf
    repeat' refine aF (N3 v.l[i] oM) (bw ?_)
    refine n8 (by simp only[cE,aS];omega) kK ?_;conv=>whnf
    refine E9.mk (λh1=>absurd h1 sM) (λh1=>?_);conv=>whnf
    refine bl ?_;refine⟨(i+1,[v.l[i]]),dM,⟨dM,by dsimp only;rw[aT cX,<-hQ];rfl⟩,?_⟩;dsimp only[eR,List.map_cons,List.map_nil,lv,lm];exact mv 2104 900
    all_goals exact cO rfl rfl
   ·rw[aI oM]at hQ;exact⟨[],hQ,mZ⟩
  |cons r Q=>
   show vc _ _ _ _ _ [(900,dU 207 4 (eR (r::Q))),(1,.cells false (v.aT1.map A.d)),(9,.cells false zEA)] _ _
   repeat'(first|refine bl ?_|refine bS (λh=>?_) (λh=>?_))
   ·refine eE E4.cP rfl eD h ?_;have cX:i<v.l.length:=h;have hq:=E4.dG v.l i cX;have a0W:E4.cR v.l[i]<v.cR:=oM;have hql:(r::Q).length<=i:=by rw[hQ,cW];omega
    conv=>whnf
    repeat' refine aF (N3 v.l[i] oM) (bw ?_)
    refine n8 (by simp only[cE,aS,aB,bE];omega) kK ?_;conv=>whnf
    refine bl ?_;refine⟨(i+1,r::(Q++[v.l[i]])),dM,⟨dM,by dsimp only;rw[aT cX,<-hQ];rfl⟩,?_⟩;dsimp only[eR,List.map_cons,List.map_nil,lv,lm];refine mq 2104 900 ?_
    all_goals exact cO rfl (aS5 (r::Q) v.l[i])
   ·rw[aI oM]at hQ;exact⟨r::Q,hQ,cN.freeze [900] tV ⟨.same _,.same _,.rd (.dU (eX rfl rfl)),tV⟩ ⟨⟨rfl,_,rfl,.cells (.same _)⟩,⟨rfl,_,rfl,.cells (.same _)⟩,tV⟩ ⟨⟨nofun,tV⟩,⟨nofun,tV⟩,tV,tV⟩ ⟨tV,tV,tV⟩⟩
 ·rintro Q rfl;have e:v.aT1=[.v (.int .u8 v.kind),ci v.n,.v (.string v.s),.sl 4 (v.l.map E4.row)]:=rfl;have er:E4.row=E4.aT1:=funext E4.cP;rw[e,er];cases hl:v.l with
  |nil=>
   refine bl ?_;exact .one (.agg (.cons (.d _) (.cons (.d _) (.cons (.d _) (.cons (.nz _ _) .nil)))))
  |cons q0 Q=>
   refine bl ?_;exact .one (.agg (wJ.data _ [.v (.int .u8 v.kind),ci v.n,.v (.string v.s),.sl 4 (eR (q0::Q))]))
 termination_by v=>v.cR
abbrev PC(L:List S4):List (List C):=L.map S4.aT1
def dlC(L:List S4):A:=match L with
 |[]=>.d (.nl 17)
 |v::L=>.d (.sl 17 (PC (v::L)))
theorem aS4(a:List S4)(b:S4):bE (PC a)++[b.aT1.map A.d]=bE (PC (a++[b])):=by rw[PC,PC,bP,ER];rfl
theorem aV3{k es:Nat}{α:Type}{L:List α}{f:α->List C}(h:L=[]):Cv m (.d (.nl k)) (.d (.sl es (L.map f))):=by subst h;exact .rd (.nz _ _)
theorem GP:∀(c:List S4),S4.dB c<=2^35->Pu 153 [.d (.sl 17 (c.map S4.row))] (.d (.sl 17 (c.map S4.row))):=by
 intro c hv;have hll:=S4.eW c;refine iC mix Tryz.func153 ?_;refine bl ?_;refine cY mix (λa:Nat×List S4=>a.1<=c.length/\a.2=c.take a.1) (I:=λa=>[(0,.d (.sl 17 (c.map S4.row))),(3,lv 17 900 (PC a.2)),(4,.d (ci a.1))])
  (J:=λa=>lm 900 210 17 (PC a.2) []) (μ:=λa=>c.length -a.1) 2000 (0,[]) 0
  (λQ:List S4=>Q=c) (λQ=>[(3,dlC Q)]) (λQ=>[]) 4000 ⟨sM,sM⟩ mZ ?_ ?_
 ·rintro⟨i,Q⟩ ⟨hi,hQ⟩;dsimp only at hi hQ⊢;cases Q with
  |nil=>
   show vc _ _ _ _ _ [] _ _
   repeat'(first|refine bl ?_|refine bS (λh=>?_) (λh=>?_))
   ·refine eE S4.cP rfl eD h ?_;have cX:i<c.length:=h;have hq:=S4.dG c i cX;have AZ:=c[i].fA;have hdt:S4.dB c[i].t<S4.dB c:=oM;have hde:S4.dB c[i].e<S4.dB c:=oM;have hdc:S4.dB c[i].c<S4.dB c:=oM;conv=>whnf
    repeat'(with_reducible (first|refine w9 ?_|refine nN.mk ?_))
    refine w1 ?_
    repeat'(first|with_reducible refine w9 ?_|((with_reducible refine wu ?_);(conv=>whnf))|with_reducible refine aJH.mk kK ?_|((refine jV (N3 c[i].a oM) (.cons (.agg c[i].a.aT1) .nil) ?_);(conv=>whnf))|((refine jV (N3 c[i].b oM) (.cons (.agg c[i].b.aT1) .nil) ?_);(conv=>whnf)))
    refine w1 ?_
    repeat'(first|with_reducible refine w9 ?_|((with_reducible refine wu ?_);(conv=>whnf))|with_reducible refine aJH.mk kK ?_|((refine cH (GP c[i].t oM) ?_);(conv=>whnf))|((refine cH (GP c[i].e oM) ?_);(conv=>whnf))|((refine cH (GP c[i].c oM) ?_);(conv=>whnf)))
    refine w1 ?_
    repeat'(first|with_reducible (first|refine w9 ?_|refine nN.mk ?_)|((with_reducible refine wr ?_);(conv=>whnf)))
    refine BH (λ_:Unit=>True) (λ_=>[(0,.d (.sl 17 (c.map S4.row))),(3,lv 17 900 (PC ([]))),(4,.d (ci i)),(5,.lp 2064 0)]) (λ_=>(2064,.cells false (c[i].aT1.map A.d))::lm 900 210 17 (PC ([])) []) 5000 ?_ ?_
    ·skip
     repeat'((with_reducible refine wr ?_);(conv=>whnf))
     refine n8 (by simp only[aB];omega) kK ?_;conv=>whnf
     refine E9.mk (λh1=>?_) (λh1=>?_)
     ·have h1:c[i].w=[]:=by simpa using h1
      conv=>whnf
      repeat'(with_reducible (first|refine w9 ?_|refine nN.mk ?_))
      refine⟨(),tV,?_⟩;exact cN.freeze [] tV ⟨.same _,.same _,.same _,.same _,tV⟩ ⟨⟨rfl,_,rfl,.cells (.cons (.same _) (.cons (.same _) (.cons (.same _) (.cons (.same _) (.cons (.same _) (.cons (.same _) (.cons (.same _) (.cons (.same _) (.cons (.same _) (.cons (.same _) (.cons (.same _) (.cons (.same _) (.cons (.same _) (.cons (.same _) (.cons (.same _) (.cons (.same _) (.cons (aV3 h1) (.same []))))))))))))))))))⟩,tV⟩ ⟨tV,tV,tV,⟨nofun,tV⟩,tV⟩ ⟨tV,tV⟩
     ·have h1:c[i].w≠[]:=by simpa using h1
      conv=>whnf
      repeat'(with_reducible (first|refine w9 ?_|refine nN.mk ?_))
      refine⟨(),tV,?_⟩;exact cN.freeze [2312] tV ⟨.same _,.same _,.same _,.same _,tV⟩ ⟨⟨rfl,_,rfl,.cells (.cons (.same _) (.cons (.same _) (.cons (.same _) (.cons (.same _) (.cons (.same _) (.cons (.same _) (.cons (.same _) (.cons (.same _) (.cons (.same _) (.cons (.same _) (.cons (.same _) (.cons (.same _) (.cons (.same _) (.cons (.same _) (.cons (.same _) (.cons (.same _) (.cons (.rd (.dU (eX rfl rfl))) (.same []))))))))))))))))))⟩,tV⟩ ⟨tV,tV,tV,⟨nofun,tV⟩,tV⟩ ⟨tV,tV⟩
    ·rintro _ _
     repeat'((with_reducible refine wr ?_);(conv=>whnf))
     refine n8 (by simp only[cE,aS];omega) kK ?_;conv=>whnf
     refine E9.mk (λh1=>absurd h1 sM) (λh1=>?_);conv=>whnf
     refine bl ?_;refine⟨(i+1,[c[i]]),dM,⟨dM,by dsimp only;rw[aT cX,<-hQ];rfl⟩,?_⟩;dsimp only[PC,List.map_cons,List.map_nil,lv,lm];exact mv 5024 900
     all_goals exact cO rfl rfl
     all_goals skip
   ·rw[aI oM]at hQ;exact⟨[],hQ,mZ⟩
  |cons r Q=>
   show vc _ _ _ _ _ [(900,dU 210 17 (PC (r::Q)))] _ _
   repeat'(first|refine bl ?_|refine bS (λh=>?_) (λh=>?_))
   ·refine eE S4.cP rfl eD h ?_;have cX:i<c.length:=h;have hq:=S4.dG c i cX;have AZ:=c[i].fA;have hdt:S4.dB c[i].t<S4.dB c:=oM;have hde:S4.dB c[i].e<S4.dB c:=oM;have hdc:S4.dB c[i].c<S4.dB c:=oM;have hql:(r::Q).length<=i:=by rw[hQ,cW];omega
    conv=>whnf
    repeat'(with_reducible (first|refine w9 ?_|refine nN.mk ?_))
    refine w1 ?_
    repeat'(first|with_reducible refine w9 ?_|((with_reducible refine wu ?_);(conv=>whnf))|with_reducible refine aJH.mk kK ?_|((refine jV (N3 c[i].a oM) (.cons (.agg c[i].a.aT1) .nil) ?_);(conv=>whnf))|((refine jV (N3 c[i].b oM) (.cons (.agg c[i].b.aT1) .nil) ?_);(conv=>whnf)))
    refine w1 ?_
    repeat'(first|with_reducible refine w9 ?_|((with_reducible refine wu ?_);(conv=>whnf))|with_reducible refine aJH.mk kK ?_|((refine cH (GP c[i].t oM) ?_);(conv=>whnf))|((refine cH (GP c[i].e oM) ?_);(conv=>whnf))|((refine cH (GP c[i].c oM) ?_);(conv=>whnf)))
    refine w1 ?_
    repeat'(first|with_reducible (first|refine w9 ?_|refine nN.mk ?_)|((with_reducible refine wr ?_);(conv=>whnf)))
    refine BH (λ_:Unit=>True) (λ_=>[(0,.d (.sl 17 (c.map S4.row))),(3,lv 17 900 (PC (r::Q))),(4,.d (ci i)),(5,.lp 2064 0)]) (λ_=>(2064,.cells false (c[i].aT1.map A.d))::lm 900 210 17 (PC (r::Q)) []) 5000 ?_ ?_
    ·skip
     repeat'((with_reducible refine wr ?_);(conv=>whnf))
     refine n8 (by simp only[aB];omega) kK ?_;conv=>whnf
     refine E9.mk (λh1=>?_) (λh1=>?_)
     ·have h1:c[i].w=[]:=by simpa using h1
      conv=>whnf
      repeat'(with_reducible (first|refine w9 ?_|refine nN.mk ?_))
      refine⟨(),tV,?_⟩;exact cN.freeze [] tV ⟨.same _,.same _,.same _,.same _,tV⟩ ⟨⟨rfl,_,rfl,.cells (.cons (.same _) (.cons (.same _) (.cons (.same _) (.cons (.same _) (.cons (.same _) (.cons (.same _) (.cons (.same _) (.cons (.same _) (.cons (.same _) (.cons (.same _) (.cons (.same _) (.cons (.same _) (.cons (.same _) (.cons (.same _) (.cons (.same _) (.cons (.same _) (.cons (aV3 h1) (.same []))))))))))))))))))⟩,⟨rfl,_,rfl,.fW (.same _)⟩,tV⟩ ⟨tV,⟨nofun,tV⟩,tV,⟨nofun,tV⟩,tV⟩ ⟨tV,aZ,tV⟩
     ·have h1:c[i].w≠[]:=by simpa using h1
      conv=>whnf
      repeat'(with_reducible (first|refine w9 ?_|refine nN.mk ?_))
      refine⟨(),tV,?_⟩;exact cN.freeze [2312] tV ⟨.same _,.same _,.same _,.same _,tV⟩ ⟨⟨rfl,_,rfl,.cells (.cons (.same _) (.cons (.same _) (.cons (.same _) (.cons (.same _) (.cons (.same _) (.cons (.same _) (.cons (.same _) (.cons (.same _) (.cons (.same _) (.cons (.same _) (.cons (.same _) (.cons (.same _) (.cons (.same _) (.cons (.same _) (.cons (.same _) (.cons (.same _) (.cons (.rd (.dU (eX rfl rfl))) (.same []))))))))))))))))))⟩,⟨rfl,_,rfl,.fW (.same _)⟩,tV⟩ ⟨tV,⟨nofun,tV⟩,tV,⟨nofun,tV⟩,tV⟩ ⟨tV,aZ,tV⟩
    ·rintro _ _
     repeat'((with_reducible refine wr ?_);(conv=>whnf))
     refine n8 (by simp only[cE,aS,aB,aQ,bE];simp only[aQ]at hql;omega) kK ?_;conv=>whnf
     refine bl ?_;refine⟨(i+1,r::(Q++[c[i]])),dM,⟨dM,by dsimp only;rw[aT cX,<-hQ];rfl⟩,?_⟩;dsimp only[PC,List.map_cons,List.map_nil,lv,lm];refine mq 5024 900 ?_
     all_goals exact cO rfl (aS4 (r::Q) c[i])
     all_goals skip
   ·rw[aI oM]at hQ;exact⟨r::Q,hQ,cN.freeze [900] tV ⟨.rd (.dU (eX rfl rfl)),tV⟩ tV ⟨tV,tV⟩ tV⟩
 ·rintro Q rfl;cases Q with
  |nil=>
   refine bl ?_;exact .one (.nz _ _)
  |cons q0 Q=>
   refine bl ?_;rw[show S4.row=S4.aT1 from funext S4.cP];exact .one (.d _)
 termination_by c=>S4.dB c
abbrev nR(L:List N4):List (List C):=L.map N4.aT1
def dlN(L:List N4):A:=match L with
 |[]=>.d (.nl 6)
 |v::L=>.d (.sl 6 (nR (v::L)))
theorem aS6(a:List N4)(b:N4):bE (nR a)++[b.aT1.map A.d]=bE (nR (a++[b])):=by rw[nR,nR,bP,ER];rfl
theorem aVF{k es:Nat}{α:Type}{L:List α}{f:α->List C}(h:L=[]):Rd m (.d (.nl k)) (.sl es (L.map f)):=by subst h;exact .nz _ _
theorem aXN{L:List N4}{v:N4}{Q:List N4}(h:L=v::Q):Rd m (.d (.sl 6 (nR (v::Q)))) (.sl 6 (L.map N4.aT1)):=by subst h;exact .d _
theorem aXJ{L:List V}{v:V}{Q:List V}(h:L=v::Q):Cv m (.d (.sl 5 (vR (v::Q)))) (.d (.sl 5 (L.map V.row))):=by subst h;rw[show V.row=V.aT1 from funext V.cP];exact .same _
theorem aR3(x:W4)(hx:x.cR<=2^34):Pu 98 [.d (.agg x.aT1)] (.d (.agg x.aT1)):=by
 have hcc:x.cR=x.value.cR+V.dB x.values+S4.dB x.code+x.names.length+V.dB (x.names.map (·.value)):=rfl;have hll:=V.eW x.values;refine iC mix Tryz.func98 ?_
 repeat'(first|refine bl ?_|refine aF (z7 x.value oM) (bw ?_))
 all_goals skip
 refine cY mix (λa:Nat×List V=>a.1<=x.values.length/\a.2=x.values.take a.1) (I:=λa=>[(1,.lp 1 0),(2,.lp 9 0),(3,lv 5 900 (vR a.2)),(4,.d (ci a.1))])
  (J:=λa=>lm 900 88 5 (vR a.2) [(1,.cells false (x.aT1.map A.d)),(9,.cells false wH)]) (μ:=λa=>x.values.length -a.1) 2000 (0,[]) 0
  (λQ:List V=>Q=x.values) (λQ=>[(1,.lp 1 0),(2,.lp 9 0),(3,dlV Q)]) (λQ=>[(1,.cells false (x.aT1.map A.d)),(9,.cells false wH)]) 4000 ⟨sM,sM⟩ mZ ?_ ?_
 ·rintro⟨i,Q⟩ ⟨hi,hQ⟩;dsimp only at hi hQ⊢;cases Q with
  |nil=>
   show vc _ _ _ _ _ [(1,.cells false (x.aT1.map A.d)),(9,.cells false wH)] _ _
   repeat'(first|refine bl ?_|refine bS (λh=>?_) (λh=>?_))
   ·refine eE V.cP rfl eD h ?_;have cX:i<x.values.length:=h;have hq:=V.dG x.values i cX;conv=>whnf
    repeat' refine aF (z7 x.values[i] oM) (bw ?_)
    refine n8 (by simp only[cE,aS];omega) kK ?_;conv=>whnf
    refine E9.mk (λh1=>absurd h1 sM) (λh1=>?_);conv=>whnf
    refine bl ?_;refine⟨(i+1,[x.values[i]]),dM,⟨dM,by dsimp only;rw[aT cX,<-hQ];rfl⟩,?_⟩;dsimp only[vR,List.map_cons,List.map_nil,lv,lm];exact mv 2104 900
    all_goals exact cO rfl rfl
   ·rw[aI oM]at hQ;exact⟨[],hQ,mZ⟩
  |cons r Q=>
   show vc _ _ _ _ _ [(900,dU 88 5 (vR (r::Q))),(1,.cells false (x.aT1.map A.d)),(9,.cells false wH)] _ _
   repeat'(first|refine bl ?_|refine bS (λh=>?_) (λh=>?_))
   ·refine eE V.cP rfl eD h ?_;have cX:i<x.values.length:=h;have hq:=V.dG x.values i cX;have hql:(r::Q).length<=i:=by rw[hQ,cW];omega
    conv=>whnf
    repeat' refine aF (z7 x.values[i] oM) (bw ?_)
    refine n8 (by simp only[cE,aS,aB,bE];omega) kK ?_;conv=>whnf
    refine bl ?_;refine⟨(i+1,r::(Q++[x.values[i]])),dM,⟨dM,by dsimp only;rw[aT cX,<-hQ];rfl⟩,?_⟩;dsimp only[vR,List.map_cons,List.map_nil,lv,lm];refine mq 2104 900 ?_
    all_goals exact cO rfl (aPL (r::Q) x.values[i])
   ·rw[aI oM]at hQ;exact⟨r::Q,hQ,cN.freeze [900] tV ⟨.same _,.same _,.rd (.dU (eX rfl rfl)),tV⟩ ⟨⟨rfl,_,rfl,.cells (.same _)⟩,⟨rfl,_,rfl,.cells (.same _)⟩,tV⟩ ⟨⟨nofun,tV⟩,⟨nofun,tV⟩,tV,tV⟩ ⟨tV,tV,tV⟩⟩
 ·rintro Q rfl
  repeat'(with_reducible (first|refine w9 ?_|refine we ?_))
  refine BH (λ_:Unit=>True) (λ_=>[(1,.lp 1 0),(2,.lp 9 0)]) (λ_=>[(1,.cells false (x.aT1.map A.d)),(9,.cells false wH)]) 5000 ?_ ?_
  ·cases hl:x.values with
   |nil=>
    dsimp only[dlV]
    repeat'(first|with_reducible (first|refine w9 ?_|refine nN.mk ?_)|((with_reducible refine wr ?_);(conv=>whnf)))
    exact⟨(),tV,cN.freeze [] tV ⟨.same _,.same _,tV⟩ ⟨⟨rfl,_,rfl,.cells (.cons (.same _) (.cons (.same _) (.cons (.same _) (.cons (.same _) (.cons (.same _) (.cons (.same _) (.cons (.same _) (.cons (aV3 hl) (.same _)))))))))⟩,⟨rfl,_,rfl,.cells (.same _)⟩,tV⟩ ⟨⟨nofun,tV⟩,⟨nofun,tV⟩,tV⟩ ⟨tV,tV,tV⟩⟩
   |cons v0 Q=>
    dsimp only[dlV]
    repeat'(first|with_reducible (first|refine w9 ?_|refine nN.mk ?_)|((with_reducible refine wr ?_);(conv=>whnf)))
    exact⟨(),tV,cN.freeze [] tV ⟨.same _,.same _,tV⟩ ⟨⟨rfl,_,rfl,.cells (.cons (.same _) (.cons (.same _) (.cons (.same _) (.cons (.same _) (.cons (.same _) (.cons (.same _) (.cons (.same _) (.cons (aXJ hl) (.same _)))))))))⟩,⟨rfl,_,rfl,.cells (.same _)⟩,tV⟩ ⟨⟨nofun,tV⟩,⟨nofun,tV⟩,tV⟩ ⟨tV,tV,tV⟩⟩
  rintro _ _
  repeat'(first|refine bl ?_|refine aF (GP x.code oM) (bw ?_))
  have E0:x.names.length<=2^34:=oM;have hnb:∀i(h:i<x.names.length),x.names[i].value.cR<=2^34:=λi h=>by
   have:=V.dG (x.names.map (·.value)) i (by simpa using h);rw[fO]at this;omega
  refine cY mix (λa:Nat×List N4=>a.1<=x.names.length/\a.2=x.names.take a.1) (I:=λa=>[(1,.lp 1 0),(2,.lp 9 0),(5,lv 6 900 (nR a.2)),(6,.d (ci a.1))])
   (J:=λa=>lm 900 100 6 (nR a.2) [(1,.cells false (x.aT1.map A.d)),(9,.cells false wH)]) (μ:=λa=>x.names.length -a.1) 2000 (0,[]) 2
   (λQ:List N4=>Q=x.names) (λQ=>[(1,.lp 1 0),(2,.lp 9 0),(5,dlN Q)]) (λQ=>[(1,.cells false (x.aT1.map A.d)),(9,.cells false wH)]) 4000 ⟨sM,sM⟩ mZ ?_ ?_
  ·rintro⟨i,Q⟩ ⟨hi,hQ⟩;dsimp only at hi hQ⊢;cases Q with
   |nil=>
    show vc _ _ _ _ _ [(1,.cells false (x.aT1.map A.d)),(9,.cells false wH)] _ _
    repeat'(first|refine bl ?_|refine bS (λh=>?_) (λh=>?_)|refine cD rfl eD h (bw ?_)|refine cH (z7 x.names[i].value (by have:=hnb i h;omega)) (bw ?_))
    ·have cX:i<x.names.length:=h;refine n8 (by simp only[cE,aS];omega) kK ?_;conv=>whnf
     refine E9.mk (λh1=>absurd h1 sM) (λh1=>?_);conv=>whnf
     refine bl ?_;refine⟨(i+1,[x.names[i]]),dM,⟨dM,by dsimp only;rw[aT cX,<-hQ];rfl⟩,?_⟩;dsimp only[nR,List.map_cons,List.map_nil,lv,lm];exact mv 2168 900
     all_goals exact cO rfl rfl
    ·rw[aI oM]at hQ;exact⟨[],hQ,mZ⟩
   |cons r Q=>
    show vc _ _ _ _ _ [(900,dU 100 6 (nR (r::Q))),(1,.cells false (x.aT1.map A.d)),(9,.cells false wH)] _ _
    repeat'(first|refine bl ?_|refine bS (λh=>?_) (λh=>?_)|refine cD rfl eD h (bw ?_)|refine cH (z7 x.names[i].value (by have:=hnb i h;omega)) (bw ?_))
    ·have cX:i<x.names.length:=h;have hql:(r::Q).length<=i:=by rw[hQ,cW];omega
     refine n8 (by simp only[cE,aS,aB,aQ,bE];simp only[aQ]at hql;omega) kK ?_;conv=>whnf
     refine bl ?_;refine⟨(i+1,r::(Q++[x.names[i]])),dM,⟨dM,by dsimp only;rw[aT cX,<-hQ];rfl⟩,?_⟩;dsimp only[nR,List.map_cons,List.map_nil,lv,lm];refine mq 2168 900 ?_
     all_goals exact cO rfl (aS6 (r::Q) x.names[i])
    ·rw[aI oM]at hQ;exact⟨r::Q,hQ,cN.freeze [900] tV ⟨.same _,.same _,.rd (.dU (eX rfl rfl)),tV⟩ ⟨⟨rfl,_,rfl,.cells (.same _)⟩,⟨rfl,_,rfl,.cells (.same _)⟩,tV⟩ ⟨⟨nofun,tV⟩,⟨nofun,tV⟩,tV,tV⟩ ⟨tV,tV,tV⟩⟩
  ·rintro Q rfl;cases hl:x.names with
   |nil=>
    dsimp only[dlN];refine bl ?_;exact .one (.agg (.cons (.d _) (.cons (.d _) (.cons (.d _) (.cons (.d _) (.cons (.d _) (.cons (.d _) (.cons (.d _) (.cons (.d _) (.cons (.d _) (.cons (.d _) (.cons (.d _) (.cons (.d _) (.cons (.d _) (.cons (.d _) (.cons (.d _) (.cons (aVF hl) .nil)))))))))))))))))
   |cons q0 Q=>
    dsimp only[dlN];refine bl ?_;exact .one (.agg (.cons (.d _) (.cons (.d _) (.cons (.d _) (.cons (.d _) (.cons (.d _) (.cons (.d _) (.cons (.d _) (.cons (.d _) (.cons (.d _) (.cons (.d _) (.cons (.d _) (.cons (.d _) (.cons (.d _) (.cons (.d _) (.cons (.d _) (.cons (aXN hl) .nil)))))))))))))))))
theorem aEL(L:List Int)(r:Int)(hL:L.length<=2^38):Pu 59 [.d (.sl 1 (iR L)),.d (ci r)] (.d (cb (L.any λx=>decide (x=r)))):=by
 refine iC mix Tryz.func59 ?_;refine bl ?_;refine bV mix (λi:Nat=>i<=L.length/\(L.take i).any (λx=>decide (x=r))=false) (I:=λi=>[(0,.d (.sl 1 (iR L))),(1,.d (ci r)),(5,.d (ci i))])
  (J:=λi=>[]) (μ:=λi=>L.length -i) 100 0 ⟨oM,rfl⟩ mZ ?_
 rintro i ⟨hi,h0⟩
 repeat'(first|refine bl ?_|refine bS (λh=>?_) (λh=>?_)|refine cD rfl eD aM (bw ?_))
 ·have cX:i<L.length:=aM;refine dP ?_;exact(dQ.2 ⟨L[i],aY cX,by simpa using‹L[i]=r›⟩).symm
 ·have cX:i<L.length:=aM;refine⟨i+1,oM,⟨oM,A2 (λx=>decide (x=r)) L i cX h0 (by simpa using‹¬L[i]=r›)⟩,?_⟩;exact mZ
 ·rw[aI oM]at h0;rw[h0];exact dP rfl
theorem aPI(v:V)(hv:v.cR<=2^40):Pu 111 [.d (.agg (V.aT1 v))] (.d (aR1 (V.refs v))):=by
 have AZ:=v.fA;have hl:=V.eW v.l;have ih:∀i(h:i<v.l.length),Pu 111 [.d (.agg (V.aT1 v.l[i]))] (.d (aR1 (V.refs v.l[i]))):=λi h=>
  have:=v.gM i h
  aPI v.l[i] (by have:=V.dG v.l i h;omega)
 refine iC mix Tryz.func111 ?_;rw[V.sF]
 repeat'(first|refine bl ?_|refine bS (λh=>?_) (λh=>?_))
 ·rw[aUF aM];exact .one (.dU (t:=25) (l:=[[ci v.r]]) rfl)
 rw[aT7 aM];refine bV mix (λi:Nat=>i<=v.l.length) (I:=λi=>[(1,.lp 1 0),(4,.d (ci i)),(3,lv 1 7 (iR (V.aP (v.l.take i))))])
  (J:=λi=>lm 7 25 1 (iR (V.aP (v.l.take i))) [(1,.cells false (v.aT1.map A.d))]) (μ:=λi=>v.l.length -i) 20 0 oM (cN.U0 ⟨rfl,rfl,rfl,tV⟩ rfl) ?_
 intro i hi;have hk:=V.uQ v.l i;have hB:=V.tT (v.l.take i);have hB2:=V.kA v.l i;generalize hR:V.aP (v.l.take i)=R at hk hB⊢;have fin:v.l.length<=i->V.aP v.l=R:=λh=>by rw[<-hR,aI h]
 cases R with
 |nil=>
  repeat'(first|refine bl ?_|refine bS (λh=>?_) (λh=>?_))
  ·have h:i<v.l.length:=oM;refine eE V.cP rfl eD h ?_;conv=>whnf
   refine aF (ih i h) ?_;have hn:=V.dG v.l i h;have hm:=V.EO v.l[i];have hk:=hk h;conv=>whnf
   refine⟨by simp only[aB];rw[show Tryz.prog.bytesOf 25=8 from kK];omega,?_⟩;refine⟨λh0=>?_,λh0=>?_⟩
   ·conv=>whnf
    refine bl ?_;have h0:V.refs v.l[i]=[]:=by simpa using h0
    rw[h0,dS]at hk;refine⟨i+1,oM,oM,cN.U0 ⟨rfl,rfl,by rw[hk];rfl,tV⟩ (by rw[hk])⟩
   ·conv=>whnf
    refine bl ?_;have h0:V.refs v.l[i]≠[]:=by simpa using h0
    rw[bZ]at hk;refine⟨i+1,oM,oM,?_⟩;rw[hk];exact cN.aVK 116 7 (t:=25) (es:=1) (by simpa using h0) tV (by obtain⟨x,xs,hx⟩:=nL h0;rw[hx];exact⟨rfl,rfl,rfl,tV⟩) rfl ⟨rfl,tV⟩ (by obtain⟨x,xs,hx⟩:=nL h0;rw[hx];exact⟨⟨nofun,tV⟩,tV,⟨nofun,tV⟩,tV⟩) ⟨tV,tV⟩
  ·rw[fin oM];exact .one (.nl 1)
 |cons r0 R=>
  repeat'(first|refine bl ?_|refine bS (λh=>?_) (λh=>?_))
  ·have h:i<v.l.length:=oM;refine eE V.cP rfl eD h ?_;conv=>whnf
   refine aF (ih i h) ?_;have hn:=V.dG v.l i h;have hm:=V.EO v.l[i];have hk:=hk h;conv=>whnf
   refine⟨by simp only[aB,bE];rw[show Tryz.prog.bytesOf 25=8 from kK];simp only[aB,aQ]at hB⊢;omega,?_⟩;conv=>whnf
   refine bl ?_;refine⟨i+1,oM,oM,?_⟩;rw[hk];exact cN.aVK 116 7 (t:=25) (es:=1) sM tV ⟨rfl,rfl,rfl,tV⟩ (by rw[show iR (r0::R++v.l[i].refs)=iR (r0::R)++iR v.l[i].refs from bP,<-Y1];rfl) ⟨rfl,tV⟩ ⟨⟨nofun,tV⟩,tV,⟨nofun,tV⟩,tV⟩ ⟨tV,tV⟩
  ·rw[fin oM];exact .one (.lv (id:=7) (rows:=iR (r0::R)))
 termination_by SizeOf.sizeOf v
def R4.HU(w:R4)(s:Int):Bool:=decide (0<=s)&&decide (s<=w.parents.length)
theorem aRK(w:R4)(s:Int)(h1:-9223372036854775808<=s)(h2:s<=9223372036854775807):Pu 108 [.d (.ip w.aT1),.d (ci s)] (.d (cb (w.HU s))):=by
 refine iC mix Tryz.func108 ?_
 repeat'(first|refine bl ?_|refine bS (λh=>?_) (λh=>?_))
 all_goals(refine dP ?_;simp_all[R4.HU];try(intros;omega))
def aOB(out:List Int)(x:Int):Nat:=(out.takeWhile λy=>decide (y<x)).length
def aBV(out:List Int)(x:Int):List Int:=if(out.any λy=>decide (y=x))=true then out else out.take (aOB out x)++x::out.drop (aOB out x)
def kV(l:List Int):List Int:=l.foldl aBV []
theorem aTZ(out:List Int)(x:Int):(aBV out x).length<=out.length+1:=by
 unfold aBV;split
 ·omega
 ·have:=gJ (aOB out x) out;have h2:=congrArg List.length this;simp only[aU,aQ]at h2⊢;omega
theorem aL6:∀(l out:List Int),(l.foldl aBV out).length<=out.length+l.length
 |[],out=>sM
 |x::l,out=>by
  have h1:=aL6 l (aBV out x);have h2:=aTZ out x;simp only[fX,aQ];omega
theorem aU2(out:List Int)(x:Int):aOB out x<=out.length:=by unfold aOB;exact(List.takeWhile_prefix _).length_le
theorem aRT{out:List Int}{x:Int}{k:Nat}(h1:k<=out.length)(h2:∀j(h:j<k)(h':j<out.length),out[j]<x)(h3:∀h:k<out.length,¬out[k]<x):aOB out x=k:=by
 unfold aOB;induction out generalizing k with
 |nil=>simp at h1;simp[h1]
 |cons a out ih=>
  cases k with
  |zero=>
   have:=h3 sM;simp only[eK]at this;rw[List.takeWhile_cons_of_neg (by simpa using this)];rfl
  |succ k=>
   have h0:=h2 0 oM sM;simp only[eK]at h0;rw[List.takeWhile_cons_of_pos (by simpa using h0),aQ,ih (by simpa using h1) (λj hj QB=>by have:=h2 (j+1) oM (by simpa using QB);rw[cJ]at this;exact this) (λh=>by have:=h3 (by simpa using h);rw[cJ]at this;exact this)]
theorem aTR{L:List Int}(h:L≠[]):dl L=.d (.sl 1 (iR L)):=by
 cases L with
 |nil=>exact absurd rfl h
 |cons _ _=>rfl
theorem aQO(O:List Int)(k:Nat)(x:Int):((iR O).take k).map (λr=>r.map A.d)++[[A.d (ci x)]]++((iR O).drop k).map (λr=>r.map A.d)=bE (iR (O.take k++x::O.drop k)):=by
 unfold iR bE;simp only[bP,aG,bM,List.map_take,List.map_drop,bG,bW,bZ]
theorem aS8(O:List Int)(k:Nat)(x:Int)(h:k=0\/O=[]):[[A.d (ci x)]]++((iR O).drop k).map (λr=>r.map A.d)=bE (iR (O.take k++x::O.drop k)):=by
 rw[<-aQO];rcases h with rfl|rfl
 ·simp
 ·simp[iR]
theorem aH2(l:List Int)(hl:l.length<=2^30):Pu 62 [.d (.sl 1 (iR l))] (.d (.sl 1 (iR (kV l)))):=by
 refine iC mix Tryz.func62 ?_;refine bl ?_;refine bV mix (λi:Nat=>i<=l.length) (I:=λi=>[(0,.d (.sl 1 (iR l))),(3,dl (kV (l.take i))),(4,.d (ci i))])
  (J:=λi=>[]) (μ:=λi=>l.length -i) 1000 0 oM mZ ?_
 intro i hi;have hQl:=aL6 (l.take i) [];rw[cW]at hQl;have aX1:∀h:i<l.length,kV (l.take (i+1))=aBV (kV (l.take i)) l[i]:=λh=>by unfold kV;rw[aT h,iB];rfl
 change(kV (l.take i)).length<=_ at hQl;generalize hQ:kV (l.take i)=Q at hQl aX1⊢;cases Q with
 |nil=>
  repeat'(first|refine bl ?_|refine bS (λh=>?_) (λh=>?_)|refine cD rfl eD aM (bw ?_)|refine dR (aEL [] (l[i]' aM) eD) (.cons (.nl _ _) (.cons (.same _) .nil)) (bw ?_))
  ·have cX:i<l.length:=aM;refine cY mix (λk:Nat=>k=0) (I:=λk=>[(0,.d (.sl 1 (iR l))),(3,.d (.nl 1)),(4,.d (ci i)),(5,.d (ci k))]) (J:=λk=>[]) (μ:=λk=>0) 2000 0 2
    (λk:Nat=>k=0) (λk=>[(0,.d (.sl 1 (iR l))),(3,.d (.nl 1)),(4,.d (ci i)),(5,.d (ci k))]) (λk=>[]) 4000 rfl mZ ?_ ?_
   ·rintro k rfl
    repeat'(first|with_reducible (first|refine w1 ?_|refine w3 ?_|refine w9 ?_|refine wa ?_|refine wk ?_|refine nN.mk ?_|refine O8.f rfl ?_)|((with_reducible (first|refine wi ?_|refine wg ?_));(conv=>whnf))|((with_reducible refine wt eD kK ?_);(conv=>whnf)))
    exact⟨0,rfl,mZ⟩
   ·rintro k rfl;refine bl ?_;refine xV (by simp;exact Nat.lt_of_lt_of_eq (by decide:0<1) kK) ?_;conv=>whnf
    skip
    refine n8 sM kK ?_;conv=>whnf
    refine E9.mk (λh1=>?_) (λh1=>absurd rfl h1);conv=>whnf
    repeat'(first|refine bl ?_|refine cD rfl eD cX (bw ?_))
    refine n8 (by simp only[cE,aS];omega) kK ?_;conv=>whnf
    refine E9.mk (λh2=>absurd h2 sM) (λh2=>?_);conv=>whnf
    refine bl ?_;refine xV (by simp;exact Nat.lt_of_lt_of_eq (by decide:0<1) kK) ?_;conv=>whnf
    skip
    refine n8 sM kK ?_;conv=>whnf
    refine bl ?_;have e:kV (l.take (i+1))=[l[i]]:=by rw[aX1 cX];rfl
    refine⟨i+1,oM,oM,?_⟩;rw[e,aTR (L:=[l[i]]) sM];exact cN.freeze [4152] tV ⟨.same _,.rd (Rd.UN (t:=25) (eX rfl rfl) rfl),.same _,tV⟩ tV ⟨tV,tV,tV,tV⟩ trivial
  ·rw[aI oM]at hQ;rw[hQ];exact .one (.nz _ _)
 |cons q0 Q=>
  repeat'(first|refine bl ?_|refine bS (λh=>?_) (λh=>?_)|refine cD rfl eD aM (bw ?_)|refine aF (aEL (q0::Q) (l[i]' aM) (by simp at hQl⊢;omega)) (bw ?_))
  ·have cX:i<l.length:=aM;refine⟨i+1,oM,oM,?_⟩;have e:kV (l.take (i+1))=q0::Q:=by
    rw[aX1 cX];unfold aBV;rw[aUF (by simpa using h)]
   rw[e];exact mZ
  ·have cX:i<l.length:=aM;have pG:((q0::Q).any λy=>decide (y=l[i]))=false:=by simpa using h
   refine cY mix (λk:Nat=>k<=(q0::Q).length/\∀j(h:j<k)(h':j<(q0::Q).length),(q0::Q)[j]<l[i]) (I:=λk=>[(0,.d (.sl 1 (iR l))),(3,dl (q0::Q)),(4,.d (ci i)),(5,.d (ci k))]) (J:=λk=>[]) (μ:=λk=>(q0::Q).length -k) 2000 0 2
    (λk:Nat=>k=aOB (q0::Q) l[i]) (λk=>[(0,.d (.sl 1 (iR l))),(3,dl (q0::Q)),(4,.d (ci i)),(5,.d (ci k))]) (λk=>[]) 4000 ⟨sM,λj h=>absurd h oM⟩ mZ ?_ ?_
   ·rintro k ⟨g1,g2⟩;have g1':k<=Q.length+1:=g1;have hb:Q.length+1<=i:=by simp at hQl;omega
    repeat'(first|with_reducible (first|refine w1 ?_|refine w2 ?_|refine w3 ?_|refine w5 ?_|refine w9 ?_|refine wa ?_|refine wc ?_|refine wj ?_|refine wk ?_|refine nN.mk ?_|refine O8.t rfl ?_|refine O8.f rfl ?_)|((with_reducible (first|refine wr ?_|refine wi ?_|refine wg ?_));(conv=>whnf))|((with_reducible refine wt eD kK ?_);(conv=>whnf))|((with_reducible refine FC.mk (RG (by(try dsimp only);omega) (by(try dsimp only);omega)) ?_);(conv=>whnf))|((with_reducible refine nQ (λh=>?_) (λh=>?_))<;>(try rw[h])<;>(conv at h=>{simp}))|((refine cD rfl eD cX ?_);(conv=>whnf))|((refine cD rfl eD (L:=q0::Q) (by simp only[aQ];omega) ?_);(conv=>whnf)))
    ·have hk1:k<(q0::Q).length:=by simp only[aQ];omega
     refine⟨k+1,by simp only[aQ];omega,⟨by simp only[aQ];omega,λj h1 h2=>?_⟩,mZ⟩;rcases eQ j k with h3|h3
     ·exact g2 j h3 h2
     ·have:j=k:=oM;subst this;assumption
    ·have hk1:k<(q0::Q).length:=by simp only[aQ];omega
     refine⟨k,(aRT g1 g2 λ_=>oM).symm,mZ⟩
    ·refine⟨k,(aRT g1 g2 λh5=>?_).symm,mZ⟩;simp only[aQ]at h5;omega
   ·rintro k hk;have hkl:k<=Q.length+1:=by rw[hk];exact aU2 (q0::Q) l[i]
    have hb:Q.length+1<=i:=by simp at hQl;omega
    have hle:(iR (q0::Q)).length=Q.length+1:=sM;refine bl ?_;refine xV ⟨.inl rfl,kK,oM,oM,oM,by simp only[aB,aQ];omega,sM⟩ ?_;have ek:((k:Int)-0).toNat=k:=oM;rw[ek];conv=>whnf
    skip
    refine n8 (by simp only[aB,cW];omega) kK ?_;conv=>whnf
    refine E9.mk (λh1=>?_) (λh1=>?_)
    ·conv=>whnf
     repeat'(first|refine bl ?_|refine cD rfl eD cX (bw ?_))
     refine n8 (by simp only[cE,aS];omega) kK ?_;conv=>whnf
     refine E9.mk (λh2=>absurd h2 sM) (λh2=>?_);conv=>whnf
     refine bl ?_;refine xV ⟨.inr rfl,kK,oM,oM,by simp only[aB,aQ];omega,by simp only[aB,aQ];omega,sM⟩ ?_;conv=>whnf
     skip
     rw[hP,aI (i:=(_ -_:Int).toNat) (by simp only[aB,l4,aQ];omega)];refine n8 (by simp only[aU,cE,aS,aB,cW,l4,aQ];omega) kK ?_;conv=>whnf
     refine bl ?_;have e:kV (l.take (i+1))=(q0::Q).take k++l[i]::(q0::Q).drop k:=by
      rw[aX1 cX,hk];unfold aBV;rw[aT7 (by rw[pG];simp)]
     refine⟨i+1,oM,oM,?_⟩;rw[e,aTR (L:=(q0::Q).take k++l[i]::(q0::Q).drop k) sM];exact cN.freeze [4152] tV ⟨.same _,.rd (Rd.UN (t:=25) (eX rfl rfl) (aS8 (q0::Q) k l[i] (by simpa using h1))),.same _,tV⟩ tV ⟨tV,tV,tV,tV⟩ trivial
    ·conv=>whnf
     repeat'(first|refine bl ?_|refine cD rfl eD cX (bw ?_))
     refine n8 (by simp only[cE,aS,aB,cW];omega) kK ?_;conv=>whnf
     refine bl ?_;refine xV ⟨.inr rfl,kK,oM,oM,by simp only[aB,aQ];omega,by simp only[aB,aQ];omega,sM⟩ ?_;conv=>whnf
     skip
     rw[hP,aI (i:=(_ -_:Int).toNat) (by simp only[aB,l4,aQ];omega)];refine n8 (by simp only[aU,cE,aS,aB,cW,l4,aQ];omega) kK ?_;conv=>whnf
     refine bl ?_;have e:kV (l.take (i+1))=(q0::Q).take k++l[i]::(q0::Q).drop k:=by
      rw[aX1 cX,hk];unfold aBV;rw[aT7 (by rw[pG];simp)]
     refine⟨i+1,oM,oM,?_⟩;rw[e,aTR (L:=(q0::Q).take k++l[i]::(q0::Q).drop k) sM];exact cN.freeze [4152] tV ⟨.same _,.rd (Rd.UN (t:=25) (eX rfl rfl) (aQO (q0::Q) k l[i])),.same _,tV⟩ tV ⟨tV,tV,tV,tV⟩ trivial
  ·have hz:i=l.length:=oM;rw[aI oM]at hQ;rw[hQ];exact .one (.d _)
mutual
def V.same:V->V->Bool
 |.mk k n s l r,b=>(decide (k=b.kind)&&(decide (n=b.n)&&(decide (s=b.s)&&(decide (r=b.r)&&decide (l.length=b.l.length)))))&&V.mC l b.l
def V.mC:List V->List V->Bool
 |a::r,b::q=>V.same a b&&V.mC r q
 |_,_=>true
end
theorem V.aUK(a b:V):a.same b=((decide (a.kind=b.kind)&&(decide (a.n=b.n)&&(decide (a.s=b.s)&&(decide (a.r=b.r)&&decide (a.l.length=b.l.length)))))&&V.mC a.l b.l):=by cases a;rw[V.same];rfl
theorem V.LG(a b:List V)(i:Nat)(h:i<a.length)(h2:i<b.length):V.mC (a.drop i) (b.drop i)=(V.same a[i] b[i]&&V.mC (a.drop (i+1)) (b.drop (i+1))):=by
 rw[dE h,dE h2,V.mC]
theorem V.aTD(b:List V):V.mC [] b=true:=by cases b<;>rfl
mutual
theorem V.aOZ:∀(a b:V),V.same a b=true↔a=b
 |.mk k n s l r,.mk k2 n2 s2 l2 r2=>by
  rw[V.same];show((decide (k=k2)&&(decide (n=n2)&&(decide (s=s2)&&(decide (r=r2)&&decide (l.length=l2.length)))))&&V.mC l l2)=true↔_;simp only[aE,aUA,V.mk.injEq];constructor
  ·rintro⟨⟨h1,h2,h3,h4,h5⟩,h6⟩;exact⟨h1,h2,h3,(V.aN8 l l2 h5).1 h6,h4⟩
  ·rintro⟨h1,h2,h3,h4,h5⟩;exact⟨⟨h1,h2,h3,h5,by rw[h4]⟩,(V.aN8 l l2 (by rw[h4])).2 h4⟩
theorem V.aN8:∀(a b:List V),a.length=b.length->(V.mC a b=true↔a=b)
 |[],[],_=>by simp[V.mC]
 |[],b::q,h=>by cases h
 |a::r,[],h=>by cases h
 |a::r,b::q,h=>by
  rw[V.mC,aE,V.aOZ a b,V.aN8 r q (by simpa using h)];simp
end
theorem aQQ(a b:V)(ha:a.cR<=2^38)(hb:b.cR<=2^38):Pu 138 [.d (.agg a.aT1),.d (.agg b.aT1)] (.d (cb (a.same b))):=by
 have hca:=a.fA;have hcb:=b.fA;have hla:=V.eW a.l;have hlb:=V.eW b.l;have ih:∀i(h:i<a.l.length)(h2:i<b.l.length),Pu 138 [.d (.agg (V.aT1 a.l[i])),.d (.agg (V.aT1 b.l[i]))] (.d (cb (a.l[i].same b.l[i]))):=λi h h2=>
  have:=a.gM i h
  aQQ a.l[i] b.l[i] (by have:=V.dG a.l i h;omega) (by have:=V.dG b.l i h2;omega)
 refine iC mix Tryz.func138 ?_;rw[V.aUK]
 repeat'(first|refine bl ?_|refine bS (λh=>?_) (λh=>?_))
 all_goals try(refine dP ?_;first|(simp_all;done)|(rw[aU0 (by omega:¬a.l.length=b.l.length)];simp;done))
 have he:a.l.length=b.l.length:=by
  omega
 have hd:(decide (a.kind=b.kind)&&(decide (a.n=b.n)&&(decide (a.s=b.s)&&(decide (a.r=b.r)&&decide (a.l.length=b.l.length)))))=true:=by simp_all
 rw[hd,cA];refine bV mix (λi:Nat=>i<=a.l.length/\V.mC (a.l.drop i) (b.l.drop i)=V.mC a.l b.l) (I:=λi=>[(2,.lp 1 0),(3,.lp 9 0),(5,.d (ci i))])
  (J:=λi=>[(1,.cells false (a.aT1.map A.d)),(9,.cells false (b.aT1.map A.d))]) (μ:=λi=>a.l.length -i) 100 0 ⟨oM,rfl⟩ mZ ?_
 rintro i ⟨hi,ht⟩
 repeat'(first|with_reducible (first|refine w1 ?_|refine w2 ?_|refine w3 ?_|refine w4 ?_|refine w5 ?_|refine w9 ?_|refine wa ?_|refine wb ?_|refine wc ?_|refine wd ?_|refine we ?_|refine nN.mk ?_)|((with_reducible (first|refine wr ?_|refine wi ?_|refine wx ?_));(conv=>whnf))|((with_reducible refine wt eD kK ?_);(conv=>whnf))|((with_reducible refine FC.mk (RG (by(try dsimp only);omega) (by(try dsimp only);omega)) ?_);(conv=>whnf))|((with_reducible refine nQ (λh=>?_) (λh=>?_))<;>(try rw[h])<;>(conv at h=>{simp}))|((refine eE V.cP rfl eD oM ?_);(conv=>whnf))|((refine XD.mk _ (ih i oM oM) ?_);(conv=>whnf)))
 ·have h1:i<a.l.length:=oM;have h2:i<b.l.length:=oM;have hs:=V.LG a.l b.l i h1 h2;have h:a.l[i].same b.l[i]=false:=aM;rw[<-ht,hs,h,c0];exact .one (.d _)
 ·have h1:i<a.l.length:=oM;have h2:i<b.l.length:=oM;have hs:=V.LG a.l b.l i h1 h2;have h:a.l[i].same b.l[i]=true:=aM;rw[h,cA]at hs;exact⟨i+1,oM,⟨oM,by rw[<-hs,ht]⟩,mZ⟩
 ·rw[dT oM,V.aTD]at ht;rw[<-ht];exact .one (.d _)
 termination_by SizeOf.sizeOf a
def W4.rb(x:W4):W4:={x.bare with values:=[],code:=[],names:=[]}
def W4.vB(x:W4):Bool:=decide (x.kind=2\/x.kind=4)
def W4.nB(x:W4):Bool:=decide (x.kind=12)
theorem W4.aXO(h:x.kind=2\/x.kind=4):x.vB=true:=aUZ h
theorem W4.aXF(h:¬(x.kind=2\/x.kind=4)):x.vB=false:=aU0 h
theorem W4.aW6(h:x.kind=12):x.nB=true:=aUZ h
theorem W4.aXL(h:¬x.kind=12):x.nB=false:=aU0 h
def W4.kM(x:W4)(n:Int):Bool:=decide (1<=x.kind/\x.kind<=16/\(x.kind=14\/0<=x.home/\x.home<n))
def W4.EV(x:W4):Bool:=
 if x.kind=2\/x.kind=4 then decide (x.values.length<=512)&&(V.mk 3 0 ByteArray.empty x.values 0).nI
 else if x.kind=8 then decide (0<=x.lost/\x.lost<=x.n)
 else if x.kind=10 then x.full||decide (x.value.kind=0)
 else if x.kind=12 then decide (x.names.length<=64/\S4.nF x.code 0<=512)&&(S4.jD x.code&&x.names.all λn=>n.value.nI)
 else true
def W4.rtl(x:W4):Bool:=decide (0<=x.n/\x.n<=9007199254740992)&&x.value.nI
def W4.req(x y:W4):Bool:=decide (x.home=y.home)&&(x.value.same y.value&&(decide (x.n=y.n)&&(decide (x.lost=y.lost)&&(decide (x.of=y.of)&&(decide (x.by_=y.by_)&&(decide (x.set=y.set)&&(decide (x.full=y.full)&&((x.vB||decide (x.values.length=0))&&((x.nB||decide (x.names.length=0))&&(x.nB||decide (x.code.length=0)))))))))))
theorem W4.aR0(x:W4):x.rb.home=if x.kind=14 then 0 else x.home:=by
 show x.bare.home=_;unfold W4.bare;by_cases h0:x.kind=1
 ·rw[aUF h0,aT7 oM]
 rw[aT7 h0];by_cases h1:x.kind=2\/x.kind=4
 ·rw[aUF h1,aT7 oM]
 rw[aT7 h1];by_cases h2:x.kind=3
 ·rw[aUF h2,aT7 oM]
 rw[aT7 h2];by_cases h3:x.kind=6\/x.kind=11
 ·rw[aUF h3,aT7 oM]
 rw[aT7 h3];by_cases h4:x.kind=7
 ·rw[aUF h4,aT7 oM]
 rw[aT7 h4];by_cases h5:x.kind=8
 ·rw[aUF h5,aT7 oM]
 rw[aT7 h5];by_cases h6:x.kind=9
 ·rw[aUF h6,aT7 oM]
 rw[aT7 h6];by_cases h7:x.kind=10
 ·rw[aUF h7,aT7 oM]
 rw[aT7 h7];by_cases h8:x.kind=12
 ·rw[aUF h8,aT7 oM]
 rw[aT7 h8];by_cases h9:x.kind=13
 ·rw[aUF h9,aT7 oM]
 rw[aT7 h9];by_cases h10:x.kind=15\/x.kind=16
 ·rw[aUF h10,aT7 oM]
 rw[aT7 h10];by_cases h11:x.kind=14
 ·rw[aUF h11,aUF h11]
 rw[aT7 h11,aT7 h11]
theorem W4.aUD(x:W4):x.rb.value=x.value\/x.rb.value=V.zero:=by
 show x.bare.value=_\/x.bare.value=_;unfold W4.bare;by_cases h0:x.kind=1
 ·rw[aUF h0];first|exact .inl rfl|exact .inr rfl
 rw[aT7 h0];by_cases h1:x.kind=2\/x.kind=4
 ·rw[aUF h1];first|exact .inl rfl|exact .inr rfl
 rw[aT7 h1];by_cases h2:x.kind=3
 ·rw[aUF h2];first|exact .inl rfl|exact .inr rfl
 rw[aT7 h2];by_cases h3:x.kind=6\/x.kind=11
 ·rw[aUF h3];first|exact .inl rfl|exact .inr rfl
 rw[aT7 h3];by_cases h4:x.kind=7
 ·rw[aUF h4];first|exact .inl rfl|exact .inr rfl
 rw[aT7 h4];by_cases h5:x.kind=8
 ·rw[aUF h5];first|exact .inl rfl|exact .inr rfl
 rw[aT7 h5];by_cases h6:x.kind=9
 ·rw[aUF h6];first|exact .inl rfl|exact .inr rfl
 rw[aT7 h6];by_cases h7:x.kind=10
 ·rw[aUF h7];first|exact .inl rfl|exact .inr rfl
 rw[aT7 h7];by_cases h8:x.kind=12
 ·rw[aUF h8];first|exact .inl rfl|exact .inr rfl
 rw[aT7 h8];by_cases h9:x.kind=13
 ·rw[aUF h9];first|exact .inl rfl|exact .inr rfl
 rw[aT7 h9];by_cases h10:x.kind=15\/x.kind=16
 ·rw[aUF h10];first|exact .inl rfl|exact .inr rfl
 rw[aT7 h10];by_cases h11:x.kind=14
 ·rw[aUF h11];first|exact .inl rfl|exact .inr rfl
 rw[aT7 h11];exact .inr rfl
abbrev aW0(x:W4)(k:Int):List A:=[.d (.v (.int .u8 x.kind)),.d (ci k),.d (.v (.int .u8 0)),.d (ci 0),.d (.v (.string ByteArray.empty)),.d (.nl 5),.d (ci 0),.d (.nl 5),.d (ci 0),.d (ci 0),.d (ci 0),.d (ci 0),.d (.v (.int .u8 0)),.d (cb false),.d (.nl 17),.d (.nl 6)]
def W4.tB(x:W4)(n:Int):Bool:=x.kM n&&(x.EV&&(x.rtl&&x.req x.rb))
theorem aQK(x:W4)(hx:x.cR<=2^34)(hw:x.wt)(n:Int)(hh:-9223372036854775808<=x.home/\x.home<=9223372036854775807):Pu 97 [.d (.agg x.aT1),.d (ci n)] (.d (cb (x.tB n))):=by
 have hcc:x.cR=x.value.cR+V.dB x.values+S4.dB x.code+x.names.length+V.dB (x.names.map (·.value)):=rfl;have hk:=hw.kind;have hrv:x.rb.value.cR<=2^38:=by
  rcases x.aUD with e|e
  ·rw[e];omega
  ·rw[e];exact bD rfl
 have pG:x.kM n=false->x.tB n=false:=λh=>by unfold W4.tB;rw[h,c0]
 refine iC mix Tryz.func97 ?_
 repeat'(first|with_reducible (first|refine tG ?_|refine w9 ?_|refine nN.mk ?_)|((with_reducible refine wr ?_);(conv=>whnf))|((with_reducible refine FC.mk (RG (by(try dsimp only);omega) (by(try dsimp only);omega)) ?_);(conv=>whnf)))
 refine QH ?_
 repeat'(first|with_reducible (first|refine tG ?_|refine w2 ?_|refine w4 ?_|refine w9 ?_|refine wb ?_|refine nN.mk ?_|refine O8.t rfl ?_|refine O8.f rfl ?_)|((with_reducible (first|refine wr ?_|refine wi ?_|refine wx ?_|refine wh ?_));(conv=>whnf))|((with_reducible refine nQ (λh=>?_) (λh=>?_))<;>(try rw[h])<;>(conv at h=>{simp})))
 ·rw[pG (by unfold W4.kM;simp;omega)];exact .one (.d _)
 ·rw[pG (by unfold W4.kM;simp;omega)];exact .one (.d _)
 refine BH (λ_:Unit=>x.kM n=true) (λ_=>[(1,.d (ci n)),(2,.lp 1 0),(5,.lp 41 0),(6,.d (ci x.kind))]) (λ_=>[(1,.cells false (x.aT1.map A.d)),(41,.cells false (aW0 x x.rb.home))]) 2000 ?_ ?_
 ·skip
  repeat'(first|refine bl ?_|refine bS (λh=>?_) (λh=>?_))
  ·rw[pG (by unfold W4.kM;simp;omega)];exact .one (.d _)
  ·rw[pG (by unfold W4.kM;simp;omega)];exact .one (.d _)
  ·refine⟨(),by unfold W4.kM;simp;omega,?_⟩;rw[x.aR0,aT7 aM];exact mZ
  ·refine⟨(),by unfold W4.kM;simp;omega,?_⟩;rw[x.aR0,aUF aM];exact mZ
 rintro _ hhd;have aZV:x.EV=false->x.tB n=false:=λh=>by unfold W4.tB;rw[h];simp
 have hfo:x.EV=true->x.tB n=(x.rtl&&x.req x.rb):=λh=>by unfold W4.tB;rw[h,hhd];rfl
 repeat'(first|with_reducible (first|refine tG ?_|refine w9 ?_|refine nN.mk ?_)|((with_reducible refine wr ?_);(conv=>whnf)))
 refine BH (λ_:Unit=>x.EV=true) (λ_=>[(1,.d (ci n)),(2,.lp 1 0),(5,.lp 41 0),(7,.d (cb x.vB)),(8,.d (cb x.nB)),(9,.d (cb x.nB))]) (λ_=>[(1,.cells false (x.aT1.map A.d)),(41,.cells false (x.rb.aT1.map A.d))]) 5000 ?_ ?_
 ·have hml:(V.mk 3 0 ByteArray.empty x.values 0).cR<=2^40:=by rw[V.fA];show 1+V.dB x.values<=_;omega
  have hmw:(V.mk 3 0 ByteArray.empty x.values 0).wt:=⟨eD,eD,hw.values⟩
  repeat'(first|refine bl ?_|refine bS (λh=>?_) (λh=>?_)|refine aF (aHR (V.mk 3 0 ByteArray.empty x.values 0) hml hmw) (bw ?_)|refine aF (aUI x.values) (bw ?_)|refine aF (IS x.code oM) (bw ?_)|refine aF (vD x.code oM hw.code) (bw ?_))
  all_goals try((with_reducible show A1 _ _ _);rw[aZV (by(unfold W4.EV;repeat(first|rw[aT7 oM]|rw[aUF oM]));first|(simp_all;done)|(simp_all;omega))];exact .one (.d _))
  all_goals try(refine⟨(),by(unfold W4.EV;repeat(first|rw[aT7 oM]|rw[aUF oM]));all_goals first|rfl|(simp_all;done)|(simp_all;omega),?_⟩)
  all_goals try((with_reducible show cN _ _ _ _ _ _);(first|rw[W4.aXO oM]|rw[W4.aXF oM]);(first|rw[W4.aW6 oM]|rw[W4.aXL oM]);unfold W4.rb W4.bare;(repeat(first|rw[aT7 oM]|rw[aUF oM]));exact cN.freeze [] aW ⟨.same _,.same _,.same _,.same _,.same _,.same _,aW⟩ ⟨⟨rfl,_,rfl,.cells (.same _)⟩,⟨rfl,_,rfl,.cells (by repeat'(first|exact IX.same _|refine IX.cons (by first|exact Cv.same _|exact Cv.rd (.nz _ _)) ?_))⟩,aW⟩ ⟨tV,⟨nofun,tV⟩,⟨nofun,tV⟩,tV,tV,tV,tV⟩ ⟨tV,tV,tV⟩)
  have hnb:∀i(h:i<x.names.length),x.names[i].value.cR<=2^34:=λi h=>by
   have:=V.dG (x.names.map (·.value)) i (by simpa using h);rw[fO]at this;omega
  have hnw:∀i(h:i<x.names.length),x.names[i].value.wt:=λi h=>by
   have:=V.nH _ hw.names i (by simpa using h)
   rwa [fO]at this
  have hrs:x.EV=(x.names.all λn=>n.value.nI):=by
   unfold W4.EV;repeat(first|rw[aT7 oM]|rw[aUF oM])
   rw[aUZ ⟨oM,oM⟩,‹S4.jD x.code=true›];rfl
  refine bV mix (λi:Nat=>i<=x.names.length/\(x.names.take i).all (λn=>n.value.nI)=true) (I:=λi=>[(1,.d (ci n)),(2,.lp 1 0),(5,.lp 41 0),(7,.d (cb false)),(8,.d (cb true)),(9,.d (cb true)),(10,.d (ci i))])
   (J:=λi=>[(1,.cells false (x.aT1.map A.d)),(41,.cells false (aW0 x x.rb.home))]) (μ:=λi=>x.names.length -i) 20 0 ⟨oM,rfl⟩ mZ ?_
  rintro i ⟨hi,ht⟩
  repeat'(first|refine bl ?_|refine bS (λh=>?_) (λh=>?_)|refine cD rfl eD oM (bw ?_)|refine aF (aHR x.names[i].value (by have:=hnb i oM;omega) (hnw i oM)) (bw ?_))
  ·rw[aZV (by rw[hrs,iA];exact⟨_,aY aM,by simp[‹_=false›]⟩)];exact .one (.d _)
  ·exact⟨i+1,oM,⟨oM,ZO _ _ i oM ht aM⟩,mZ⟩
  ·rw[aI oM]at ht;refine⟨(),by rw[hrs];exact ht,?_⟩;rw[W4.aXF oM,W4.aW6 oM];unfold W4.rb W4.bare
   (repeat(first|rw[aT7 oM]|rw[aUF oM]))
   exact cN.freeze [] aW ⟨.same _,.same _,.same _,.same _,.same _,.same _,aW⟩ ⟨⟨rfl,_,rfl,.cells (.same _)⟩,⟨rfl,_,rfl,.cells (by repeat'(first|exact IX.same _|refine IX.cons (by first|exact Cv.same _|exact Cv.rd (.nz _ _)) ?_))⟩,aW⟩ ⟨tV,⟨nofun,tV⟩,⟨nofun,tV⟩,tV,tV,tV,tV⟩ ⟨tV,tV,tV⟩
 rintro _ hs;rw[hfo hs]
 repeat'(first|refine bl ?_|refine bS (λh=>?_) (λh=>?_)|refine fT (cs:=x.value.aT1) (aHR x.value oM hw.value) (bw ?_)|refine dR (aQQ x.value x.rb.value oM hrv) (.cons (.agg x.value.aT1) (.cons (.agg x.rb.value.aT1) .nil)) (bw ?_))
 all_goals try((with_reducible show A1 _ _ _);refine dP ?_;(try unfold W4.rtl W4.req);first|(simp_all;done)|(simp_all;omega))
 all_goals skip
theorem aOG{α:Type}{p:α->Bool}{L:List α}{i:Nat}(h:(L.take i).all p=false):L.all p=false:=by
 cases hh:L.all p with
 |false=>rfl
 |true=>
  rw[cV]at hh;have:(L.take i).all p=true:=cV.2 λy hy=>hh y (dJ hy);rw[this]at h;cases h
theorem aQY{α:Type}(p:α->Bool)(L:List α)(i:Nat)(h:i<L.length):(L.take (i+1)).all p=((L.take i).all p&&p L[i]):=by
 rw[aT h,gQ];simp
theorem aOH{α:Type}{a:Bool}{p:α->Bool}{L:List α}{i:Nat}(h:false=(a&&(L.take i).all p)):false=(a&&L.all p):=by
 cases a with
 |false=>rfl
 |true=>rw[cA]at h⊢;exact(aOG h.symm).symm
def W4.aR9(x:W4):Bool:=decide (x.kind=6\/x.kind=7\/x.kind=9\/x.kind=11\/x.kind=14\/x.kind=15\/x.kind=16\/x.kind=13/\x.of≠0)
def R4.aA5(w:R4)(x:W4):Bool:=(x.aR9&& !w.mI x.of)||(decide (x.kind=15\/x.kind=16)&& !w.mI x.by_)
def R4.n4(w:R4)(x:W4)(of k:Int):Bool:=decide ((w.iI of).kind=k)&&decide ((w.iI of).home=x.home)
def FX(r:Int)(x:W4)(t:T4):Bool:=decide (t.ref=r)||(decide (t.bQ.kind≠14)||(decide (t.bQ.of≠x.of)||decide (t.bQ.set≠x.set)))
theorem aV5(h:t.ref=r):true=FX r x t:=by unfold FX;rw[aUZ h];rfl
theorem aV6(h:¬t.bQ.kind=14):true=FX r x t:=by unfold FX;rw[aUZ (p:=t.bQ.kind≠14) h];simp
theorem aV7(h:¬t.bQ.of=x.of):true=FX r x t:=by unfold FX;rw[aUZ (p:=t.bQ.of≠x.of) h];simp
theorem aV8(h:¬t.ref=r)(h2:t.bQ.kind=14)(h3:t.bQ.of=x.of):(!decide (t.bQ.set=x.set))=FX r x t:=by
 unfold FX;rw[aU0 h,aU0 (p:=t.bQ.kind≠14) (λk=>k h2),aU0 (p:=t.bQ.of≠x.of) (λk=>k h3)];simp
def R4.EK(w:R4)(r:Int)(x:W4)(v:Int):Bool:=
 if x.kind=6 then w.n4 x x.of 5&& !w.QN r 6 x.of false
 else if x.kind=7 then w.n4 x x.of 5
 else if x.kind=9 then w.n4 x x.of 8
 else if x.kind=11 then w.n4 x x.of 10&& !w.QN r 11 x.of false
 else if x.kind=13 then decide (x.of=0)||(decide ((w.iI x.of).kind=15)&&decide ((w.iI x.of).by_=r))
 else if x.kind=15 then(w.n4 x x.by_ 13&& !w.QN r 15 x.by_ true)&&(decide (r=0)||decide ((w.iI x.by_).of=r))
 else if x.kind=16 then w.n4 x x.by_ 3
 else if x.kind=14 then(decide ((w.iI x.of).kind≠14)&&(decide (pO .andNot .u8 x.set v=0)&&decide (x.set≠v)))&&w.aT4.all (FX r x)
 else true
def R4.WO(w:R4)(x:W4):Bool:=x.refs.all λr=>decide (w.zB r≠0)
def R4.RV(w:R4)(r:Int)(x:W4)(v:Int):Int:=if w.WO x=false then 5 else if w.aA5 x=true then 5 else if w.EK r x v=true then 0 else 70
theorem aSX(w:R4)(hw:w.wt)(r:Int)(x:W4)(hx:x.cR<=2^34)(hk:0<=x.kind/\x.kind<256)(n:Nat)(v:Int)(hv:x.kind=14->w.MD n x.of=some v):
 Pu 102 [.d (.ip w.aT1),.d (ci r),.d (.agg x.aT1)] (.d (ci (w.RV r x v))):=by
 have hrl:x.refs.length<=2^36:=by
  have h1:=aHQ x.vA;have h2:=x.aF6;unfold W4.refs;omega
 have hwl:=hw.len;have QS:=R4.AF hw x.of;have hkb:=R4.AF hw x.by_;refine iC mix Tryz.func102 ?_
 repeat'(first|refine bl ?_|refine fT (cs:=x.aT1) (aOR x oM) (bw ?_))
 refine cY mix (λi:Nat=>i<=x.refs.length/\(x.refs.take i).all (λr=>decide (w.zB r≠0))=true) (I:=λi=>[(0,.d (.ip w.aT1)),(1,.d (ci r)),(5,.lp 1 0),(7,.d (.sl 1 (iR x.refs))),(8,.d (ci i))])
  (J:=λi=>[(1,.cells false (x.aT1.map A.d))]) (μ:=λi=>x.refs.length -i) 1000 0 0
  (λ_:Unit=>w.WO x=true) (λ_=>[(0,.d (.ip w.aT1)),(1,.d (ci r)),(5,.lp 1 0)]) (λ_=>[(1,.cells false (x.aT1.map A.d))]) 2000 ⟨oM,rfl⟩ mZ ?_ ?_
 ·rintro i ⟨hi,h0⟩
  repeat'(first|refine bl ?_|refine bS (λh=>?_) (λh=>?_)|refine cD rfl eD aM (bw ?_)|refine aF (aQI w x.refs[i] hw) (bw ?_))
  ·have hf:w.WO x=false:=by
    unfold R4.WO;rw[iA];exact⟨_,aY aM,by simpa using‹w.zB _=0›⟩
   unfold R4.RV;rw[aUF hf];exact .one (.d _)
  ·exact⟨i+1,oM,⟨oM,ZO _ _ i aM h0 (aUZ aM)⟩,mZ⟩
  ·rw[aI oM]at h0;exact⟨(),h0,mZ⟩
 rintro _ wB
 repeat'(with_reducible (first|refine w9 ?_|refine we ?_))
 refine tG ?_
 repeat'(first|with_reducible (first|refine w9 ?_|refine nN.mk ?_)|((with_reducible refine wr ?_);(conv=>whnf))|((with_reducible refine FC.mk (RG (by(try dsimp only);omega) (by(try dsimp only);omega)) ?_);(conv=>whnf)))
 refine tG ?_
 repeat'(first|with_reducible (first|refine w9 ?_|refine nN.mk ?_)|((with_reducible refine wr ?_);(conv=>whnf))|((refine aF (zP w x.of hwl) ?_);(conv=>whnf)))
 refine tG ?_
 repeat'(first|with_reducible (first|refine w9 ?_|refine nN.mk ?_)|((with_reducible refine wr ?_);(conv=>whnf))|((refine aF (zP w x.by_ hwl) ?_);(conv=>whnf)))
 refine BH (λb:Bool=>b=x.aR9) (λb=>[(0,.d (.ip w.aT1)),(1,.d (ci r)),(5,.lp 1 0),(9,.d (ci x.kind)),(10,.lp 2088 0),(11,.d (cb (w.mI x.of))),(12,.lp 2168 0),(13,.d (cb (w.mI x.by_))),(14,.d (cb b))]) (λ_=>[(1,.cells false (x.aT1.map A.d)),(2088,.cells false ((w.iI x.of).aT1.map A.d)),(2168,.cells false ((w.iI x.by_).aT1.map A.d))]) 3000 ?_ ?_
 ·skip
  repeat'(first|with_reducible (first|refine w9 ?_|refine nN.mk ?_|refine O8.t rfl ?_|refine O8.f rfl ?_)|((with_reducible (first|refine wr ?_|refine wg ?_|refine wh ?_));(conv=>whnf))|((with_reducible refine nQ (λh=>?_) (λh=>?_))<;>(try rw[h])<;>(conv at h=>{simp}))|((refine aF (aH5 x.kind) ?_);(conv=>whnf)))
  all_goals(apply vT;apply bI;rotate_left;exact mZ;unfold W4.aR9;first|(simp_all[y5];done)|(simp_all[y5];omega))
  all_goals skip
 rintro b rfl;refine BH (λ_:Unit=>w.aA5 x=false) (λ_=>[(0,.d (.ip w.aT1)),(1,.d (ci r)),(5,.lp 1 0),(9,.d (ci x.kind)),(10,.lp 2088 0),(11,.d (cb (w.mI x.of))),(12,.lp 2168 0),(13,.d (cb (w.mI x.by_)))]) (λ_=>[(1,.cells false (x.aT1.map A.d)),(2088,.cells false ((w.iI x.of).aT1.map A.d)),(2168,.cells false ((w.iI x.by_).aT1.map A.d))]) 4000 ?_ ?_
 ·skip
  repeat'(first|refine bl ?_|refine bS (λh=>?_) (λh=>?_))
  all_goals first
   |((with_reducible show A1 _ _ _)
     have hf:w.aA5 x=true:=by unfold R4.aA5;first|(simp_all;done)|(simp_all;omega)
     unfold R4.RV;rw[aT7 (by rw[wB];decide),aUF hf];exact .one (.d _))
   |exact⟨(),by unfold R4.aA5;first|(simp_all;done)|(simp_all;omega),mZ⟩
 rintro _ hla
 repeat'(first|with_reducible (first|refine tG ?_|refine w9 ?_|refine nN.mk ?_)|((with_reducible refine wr ?_);(conv=>whnf)))
 refine BH (λb:Bool=>b=w.EK r x v) (λb=>[(15,.d (cb b))]) (λ_=>[]) 6000 ?_ ?_
 ·skip
  repeat'(first|refine bl ?_|refine bS (λh=>?_) (λh=>?_)|refine aF (aLI w hw r 6 x.of false) (bw ?_)|refine aF (aLI w hw r 11 x.of false) (bw ?_)|refine aF (aLI w hw r 15 x.by_ true) (bw ?_)|refine aF (aOQ w hw n x.of v (hv aM)) (bw ?_))
  all_goals try(apply vT;apply bI;rotate_left;exact mZ;unfold R4.EK;(repeat(first|rw[aT7 oM]|rw[aUF oM]));all_goals((try unfold R4.n4);first|(simp_all;done)|(simp_all;omega)))
  ·refine bV mix (λa:Nat×Bool=>a.1<=w.aT4.length/\a.2=((!decide (x.set=v))&&(w.aT4.take a.1).all (FX r x))) (I:=λa=>[(0,.d (.ip w.aT1)),(1,.d (ci r)),(5,.lp 1 0),(15,.d (cb a.2)),(17,.d (ci a.1))])
    (J:=λa=>[(1,.cells false (x.aT1.map A.d))]) (μ:=λa=>w.aT4.length -a.1) 7000 (0,!decide (x.set=v)) ⟨dM,sM⟩ mZ ?_
   rintro⟨i,b⟩ ⟨hi,hb⟩;dsimp only at hi hb⊢;have aWW:∀b:Bool,b=((!decide (x.set=v))&&w.aT4.all (FX r x))->b=w.EK r x v:=λb e=>by
    rw[e];unfold R4.EK;(repeat(first|rw[aT7 oM]|rw[aUF oM]));simp_all
   by_cases cX:i<w.aT4.length
   ·obtain⟨hk0,hk1⟩:=hw.kind _ (aY cX);have hs:=aQY (FX r x) w.aT4 i cX;cases b with
    |true=>
     repeat'(first|refine bl ?_|refine bS (λh=>?_) (λh=>?_)|refine cD rfl eD aM (bw ?_))
     all_goals try(exfalso;omega)
     all_goals
      have hb2:∀c:Bool,c=FX r x w.aT4[i]->c=(!decide (x.set=v)&&(w.aT4.take (i+1)).all (FX r x)):=λc e=>by
       rw[hs,<-Bool.and_assoc,<-hb,e];simp
      first
      |exact⟨(i+1,true),dM,⟨dM,hb2 _ (by first|exact aV5 aM|exact aV6 aM|exact aV7 aM)⟩,mZ⟩
      |exact⟨(i+1,!decide (w.aT4[i].bQ.set=x.set)),dM,⟨dM,hb2 _ (aV8 aM aM aM)⟩,mZ⟩
    |false=>
     repeat'(first|refine bl ?_|refine bS (λh=>?_) (λh=>?_))
     all_goals try(exfalso;omega)
     all_goals(apply vT;apply bI;rotate_left;exact mZ;exact aWW _ (aOH hb))
   ·rw[aI oM]at hb
    repeat'(first|refine bl ?_|refine bS (λh=>?_) (λh=>?_))
    all_goals try(exfalso;omega)
    all_goals(apply vT;apply bI;rotate_left;exact mZ;exact aWW _ hb)
  ·refine bV mix (λa:Nat×Bool=>a.1<=w.aT4.length/\a.2=((false)&&(w.aT4.take a.1).all (FX r x))) (I:=λa=>[(0,.d (.ip w.aT1)),(1,.d (ci r)),(5,.lp 1 0),(15,.d (cb a.2)),(17,.d (ci a.1))])
    (J:=λa=>[(1,.cells false (x.aT1.map A.d))]) (μ:=λa=>w.aT4.length -a.1) 7000 (0,false) ⟨dM,sM⟩ mZ ?_
   rintro⟨i,b⟩ ⟨hi,hb⟩;dsimp only at hi hb⊢;have aWW:∀b:Bool,b=((false)&&w.aT4.all (FX r x))->b=w.EK r x v:=λb e=>by
    rw[e];unfold R4.EK;(repeat(first|rw[aT7 oM]|rw[aUF oM]));simp_all
   obtain rfl:b=false:=by simpa using hb
   repeat'(first|refine bl ?_|refine bS (λh=>?_) (λh=>?_))
   all_goals(apply vT;apply bI;rotate_left;exact mZ;exact aWW _ rfl)
  ·refine bV mix (λa:Nat×Bool=>a.1<=w.aT4.length/\a.2=((false)&&(w.aT4.take a.1).all (FX r x))) (I:=λa=>[(0,.d (.ip w.aT1)),(1,.d (ci r)),(5,.lp 1 0),(15,.d (cb a.2)),(17,.d (ci a.1))])
    (J:=λa=>[(1,.cells false (x.aT1.map A.d))]) (μ:=λa=>w.aT4.length -a.1) 7000 (0,false) ⟨dM,sM⟩ mZ ?_
   rintro⟨i,b⟩ ⟨hi,hb⟩;dsimp only at hi hb⊢;have aWW:∀b:Bool,b=((false)&&w.aT4.all (FX r x))->b=w.EK r x v:=λb e=>by
    rw[e];unfold R4.EK;(repeat(first|rw[aT7 oM]|rw[aUF oM]));simp_all
   obtain rfl:b=false:=by simpa using hb
   repeat'(first|refine bl ?_|refine bS (λh=>?_) (λh=>?_))
   all_goals(apply vT;apply bI;rotate_left;exact mZ;exact aWW _ rfl)
 rintro b rfl
 repeat'(first|refine bl ?_|refine bS (λh=>?_) (λh=>?_))
 ·unfold R4.RV;rw[aT7 (by rw[wB];decide),aT7 (by rw[hla];decide),aT7 (by rw[h];decide)];exact .one (.d _)
 ·unfold R4.RV;rw[aT7 (by rw[wB];decide),aT7 (by rw[hla];decide),aUF aM];exact .one (.d _)
end Go.Pv
