import Derived.Test.YtpdcbahjjmooiaaGreatP20
/- A program logic over the model, contracts of the functions that the law reaches: part 21. (Names and blanks were shortened by program.) -/
set_option linter.unusedVariables false
set_option linter.unusedSimpArgs false
set_option linter.constructorNameAsVariable false
set_option linter.unusedSectionVars false
set_option linter.deprecated false
set_option maxRecDepth 100000
set_option maxHeartbeats 8000000
open Go Go.Proofs
namespace Go.Pv
open Go.RowKit
variable{x:W4}{r:Int}{t:T4}
abbrev nR(L:List N4):List (List C):=L.map N4.aT1
def dlN(L:List N4):A:=match L with
 |[]=>.d (.nl 6)
 |v::L=>.d (.sl 6 (nR (v::L)))
theorem aS6(a:List N4)(b:N4):bE (nR a)++[b.aT1.map A.d]=bE (nR (a++[b])):=by rw[nR,nR,bP,ER];rfl
theorem aVF{m:Mem}{k es:Nat}{α:Type}{L:List α}{f:α->List C}(h:L=[]):Rd m (.d (.nl k)) (.sl es (L.map f)):=by subst h;exact .nz _ _
theorem aXN{m:Mem}{L:List N4}{v:N4}{Q:List N4}(h:L=v::Q):Rd m (.d (.sl 6 (nR (v::Q)))) (.sl 6 (L.map N4.aT1)):=by subst h;exact .d _
theorem aXJ{m:Mem}{L:List V}{v:V}{Q:List V}(h:L=v::Q):Cv m (.d (.sl 5 (vR (v::Q)))) (.d (.sl 5 (L.map V.row))):=by subst h;rw[show V.row=V.aT1 from funext V.cP];exact .same _
theorem aR3(x:W4)(hx:x.cR<=2^34):Pu 98 [.d (.agg x.aT1)] (.d (.agg x.aT1)):=by
 have hcc:x.cR=x.value.cR+V.dB x.values+S4.dB x.code+x.names.length+V.dB (x.names.map (·.value)):=rfl;have hll:=V.eW x.values;refine iC mix Tryz.func98 ?_
 repeat'(first|refine bl ?_|refine aF (z7 x.value oM) (bw ?_))
 all_goals skip
 refine cY mix (λa:Nat×List V=>a.1<=x.values.length/\a.2=x.values.take a.1) (I:=λa=>[(1,.lp 1 0),(2,.lp 9 0),(3,lv 5 900 (vR a.2)),(4,.d (ci a.1))])
  (J:=λa=>lm 900 88 5 (vR a.2) [(1,.cells false (x.aT1.map A.d)),(9,.cells false wH)]) (μ:=λa=>x.values.length -a.1) 2000 (0,[]) 0
  (λQ:List V=>Q=x.values) (λQ=>[(1,.lp 1 0),(2,.lp 9 0),(3,dlV Q)]) (λQ=>[(1,.cells false (x.aT1.map A.d)),(9,.cells false wH)]) 4000 ⟨sM,sM⟩ mZ ?_ ?_
 ·rintro⟨i,Q⟩ ⟨hi,hQ⟩;dsimp only at hi hQ⊢;cases Q with
  |nil=>
   show vc _ _ _ _ _ [(1,.cells false (x.aT1.map A.d)),(9,.cells false wH)] _ _
   repeat'(first|refine bl ?_|refine bS (λh=>?_) (λh=>?_))
   ·refine eE V.cP rfl eD h ?_;have hlt:i<x.values.length:=h;have hq:=V.dG x.values i hlt;conv=>whnf
    repeat' refine aF (z7 x.values[i] oM) (bw ?_)
    refine n8 (by simp only[cE,aS];omega) kK ?_;conv=>whnf
    refine E9.mk (λh1=>absurd h1 sM) (λh1=>?_);conv=>whnf
    refine bl ?_;refine⟨(i+1,[x.values[i]]),dM,⟨dM,by dsimp only;rw[aT hlt,<-hQ];rfl⟩,?_⟩;dsimp only[vR,List.map_cons,List.map_nil,lv,lm];exact mv 2104 900
    all_goals exact cO rfl rfl
   ·rw[aI oM]at hQ;exact⟨[],hQ,mZ⟩
  |cons r Q=>
   show vc _ _ _ _ _ [(900,dU 88 5 (vR (r::Q))),(1,.cells false (x.aT1.map A.d)),(9,.cells false wH)] _ _
   repeat'(first|refine bl ?_|refine bS (λh=>?_) (λh=>?_))
   ·refine eE V.cP rfl eD h ?_;have hlt:i<x.values.length:=h;have hq:=V.dG x.values i hlt;have hql:(r::Q).length<=i:=by rw[hQ,cW];omega
    conv=>whnf
    repeat' refine aF (z7 x.values[i] oM) (bw ?_)
    refine n8 (by simp only[cE,aS,aB,bE];omega) kK ?_;conv=>whnf
    refine bl ?_;refine⟨(i+1,r::(Q++[x.values[i]])),dM,⟨dM,by dsimp only;rw[aT hlt,<-hQ];rfl⟩,?_⟩;dsimp only[vR,List.map_cons,List.map_nil,lv,lm];refine mq 2104 900 ?_
    all_goals exact cO rfl (aPL (r::Q) x.values[i])
   ·rw[aI oM]at hQ;exact⟨r::Q,hQ,cN.freeze [900] tV ⟨.same _,.same _,.rd (.dU (eX rfl rfl)),tV⟩ ⟨⟨rfl,_,rfl,.cells (.same _)⟩,⟨rfl,_,rfl,.cells (.same _)⟩,tV⟩ ⟨⟨nofun,tV⟩,⟨nofun,tV⟩,tV,tV⟩ ⟨tV,tV,tV⟩⟩
 ·rintro Q rfl
  repeat'(with_reducible (first|refine w9 ?_|refine we ?_))
  refine BH (λ_:Unit=>True) (λ_=>[(1,.lp 1 0),(2,.lp 9 0)]) (λ_=>[(1,.cells false (x.aT1.map A.d)),(9,.cells false wH)]) 5000 ?_ ?_
  ·cases hl:x.values with
   |nil=>
    dsimp only[dlV]
    repeat'(first|with_reducible (first|refine w9 ?_|refine nN.mk ?_)|((with_reducible refine wr ?_);(conv=>whnf)))
    exact⟨(),tV,cN.freeze [] tV ⟨.same _,.same _,tV⟩ ⟨⟨rfl,_,rfl,.cells (.cons (.same _) (.cons (.same _) (.cons (.same _) (.cons (.same _) (.cons (.same _) (.cons (.same _) (.cons (.same _) (.cons (aV3 hl) (.same _)))))))))⟩,⟨rfl,_,rfl,.cells (.same _)⟩,tV⟩ ⟨⟨nofun,tV⟩,⟨nofun,tV⟩,tV⟩ ⟨tV,tV,tV⟩⟩
   |cons v0 Q=>
    dsimp only[dlV]
    repeat'(first|with_reducible (first|refine w9 ?_|refine nN.mk ?_)|((with_reducible refine wr ?_);(conv=>whnf)))
    exact⟨(),tV,cN.freeze [] tV ⟨.same _,.same _,tV⟩ ⟨⟨rfl,_,rfl,.cells (.cons (.same _) (.cons (.same _) (.cons (.same _) (.cons (.same _) (.cons (.same _) (.cons (.same _) (.cons (.same _) (.cons (aXJ hl) (.same _)))))))))⟩,⟨rfl,_,rfl,.cells (.same _)⟩,tV⟩ ⟨⟨nofun,tV⟩,⟨nofun,tV⟩,tV⟩ ⟨tV,tV,tV⟩⟩
  rintro _ _
  repeat'(first|refine bl ?_|refine aF (GP x.code oM) (bw ?_))
  have hnl:x.names.length<=2^34:=oM;have hnb:∀i(h:i<x.names.length),x.names[i].value.cR<=2^34:=λi h=>by
   have:=V.dG (x.names.map (·.value)) i (by simpa using h);rw[fO]at this;omega
  refine cY mix (λa:Nat×List N4=>a.1<=x.names.length/\a.2=x.names.take a.1) (I:=λa=>[(1,.lp 1 0),(2,.lp 9 0),(5,lv 6 900 (nR a.2)),(6,.d (ci a.1))])
   (J:=λa=>lm 900 100 6 (nR a.2) [(1,.cells false (x.aT1.map A.d)),(9,.cells false wH)]) (μ:=λa=>x.names.length -a.1) 2000 (0,[]) 2
   (λQ:List N4=>Q=x.names) (λQ=>[(1,.lp 1 0),(2,.lp 9 0),(5,dlN Q)]) (λQ=>[(1,.cells false (x.aT1.map A.d)),(9,.cells false wH)]) 4000 ⟨sM,sM⟩ mZ ?_ ?_
  ·rintro⟨i,Q⟩ ⟨hi,hQ⟩;dsimp only at hi hQ⊢;cases Q with
   |nil=>
    show vc _ _ _ _ _ [(1,.cells false (x.aT1.map A.d)),(9,.cells false wH)] _ _
    repeat'(first|refine bl ?_|refine bS (λh=>?_) (λh=>?_)|refine cD rfl eD h (bw ?_)|refine cH (z7 x.names[i].value (by have:=hnb i h;omega)) (bw ?_))
    ·have hlt:i<x.names.length:=h;refine n8 (by simp only[cE,aS];omega) kK ?_;conv=>whnf
     refine E9.mk (λh1=>absurd h1 sM) (λh1=>?_);conv=>whnf
     refine bl ?_;refine⟨(i+1,[x.names[i]]),dM,⟨dM,by dsimp only;rw[aT hlt,<-hQ];rfl⟩,?_⟩;dsimp only[nR,List.map_cons,List.map_nil,lv,lm];exact mv 2168 900
     all_goals exact cO rfl rfl
    ·rw[aI oM]at hQ;exact⟨[],hQ,mZ⟩
   |cons r Q=>
    show vc _ _ _ _ _ [(900,dU 100 6 (nR (r::Q))),(1,.cells false (x.aT1.map A.d)),(9,.cells false wH)] _ _
    repeat'(first|refine bl ?_|refine bS (λh=>?_) (λh=>?_)|refine cD rfl eD h (bw ?_)|refine cH (z7 x.names[i].value (by have:=hnb i h;omega)) (bw ?_))
    ·have hlt:i<x.names.length:=h;have hql:(r::Q).length<=i:=by rw[hQ,cW];omega
     refine n8 (by simp only[cE,aS,aB,aQ,bE];simp only[aQ]at hql;omega) kK ?_;conv=>whnf
     refine bl ?_;refine⟨(i+1,r::(Q++[x.names[i]])),dM,⟨dM,by dsimp only;rw[aT hlt,<-hQ];rfl⟩,?_⟩;dsimp only[nR,List.map_cons,List.map_nil,lv,lm];refine mq 2168 900 ?_
     all_goals exact cO rfl (aS6 (r::Q) x.names[i])
    ·rw[aI oM]at hQ;exact⟨r::Q,hQ,cN.freeze [900] tV ⟨.same _,.same _,.rd (.dU (eX rfl rfl)),tV⟩ ⟨⟨rfl,_,rfl,.cells (.same _)⟩,⟨rfl,_,rfl,.cells (.same _)⟩,tV⟩ ⟨⟨nofun,tV⟩,⟨nofun,tV⟩,tV,tV⟩ ⟨tV,tV,tV⟩⟩
  ·rintro Q rfl;cases hl:x.names with
   |nil=>
    dsimp only[dlN];refine bl ?_;exact .one (.agg (.cons (.d _) (.cons (.d _) (.cons (.d _) (.cons (.d _) (.cons (.d _) (.cons (.d _) (.cons (.d _) (.cons (.d _) (.cons (.d _) (.cons (.d _) (.cons (.d _) (.cons (.d _) (.cons (.d _) (.cons (.d _) (.cons (.d _) (.cons (aVF hl) .nil)))))))))))))))))
   |cons q0 Q=>
    dsimp only[dlN];refine bl ?_;exact .one (.agg (.cons (.d _) (.cons (.d _) (.cons (.d _) (.cons (.d _) (.cons (.d _) (.cons (.d _) (.cons (.d _) (.cons (.d _) (.cons (.d _) (.cons (.d _) (.cons (.d _) (.cons (.d _) (.cons (.d _) (.cons (.d _) (.cons (.d _) (.cons (aXN hl) .nil)))))))))))))))))
theorem aEL(L:List Int)(r:Int)(hL:L.length<=2^38):Pu 59 [.d (.sl 1 (iR L)),.d (ci r)] (.d (cb (L.any λx=>decide (x=r)))):=by
 refine iC mix Tryz.func59 ?_;refine bl ?_;refine bV mix (λi:Nat=>i<=L.length/\(L.take i).any (λx=>decide (x=r))=false) (I:=λi=>[(0,.d (.sl 1 (iR L))),(1,.d (ci r)),(5,.d (ci i))])
  (J:=λi=>[]) (μ:=λi=>L.length -i) 100 0 ⟨oM,rfl⟩ mZ ?_
 rintro i ⟨hi,h0⟩
 repeat'(first|refine bl ?_|refine bS (λh=>?_) (λh=>?_)|refine cD rfl eD aM (bw ?_))
 ·have hlt:i<L.length:=aM;refine dP ?_;exact(dQ.2 ⟨L[i],aY hlt,by simpa using‹L[i]=r›⟩).symm
 ·have hlt:i<L.length:=aM;refine⟨i+1,oM,⟨oM,A2 (λx=>decide (x=r)) L i hlt h0 (by simpa using‹¬L[i]=r›)⟩,?_⟩;exact mZ
 ·rw[aI oM]at h0;rw[h0];exact dP rfl
theorem aPI(v:V)(hv:v.cR<=2^40):Pu 111 [.d (.agg (V.aT1 v))] (.d (aR1 (V.refs v))):=by
 have hcd:=v.fA;have hl:=V.eW v.l;have ih:∀i(h:i<v.l.length),Pu 111 [.d (.agg (V.aT1 v.l[i]))] (.d (aR1 (V.refs v.l[i]))):=λi h=>
  have:=v.lA i h
  aPI v.l[i] (by have:=V.dG v.l i h;omega)
 refine iC mix Tryz.func111 ?_;rw[V.sF]
 repeat'(first|refine bl ?_|refine bS (λh=>?_) (λh=>?_))
 ·rw[aUF aM];exact .one (.dU (t:=25) (l:=[[ci v.r]]) rfl)
 rw[aT7 aM];refine bV mix (λi:Nat=>i<=v.l.length) (I:=λi=>[(1,.lp 1 0),(4,.d (ci i)),(3,lv 1 7 (iR (V.aP (v.l.take i))))])
  (J:=λi=>lm 7 25 1 (iR (V.aP (v.l.take i))) [(1,.cells false (v.aT1.map A.d))]) (μ:=λi=>v.l.length -i) 20 0 oM (cN.U0 ⟨rfl,rfl,rfl,tV⟩ rfl) ?_
 intro i hi;have hk:=V.uQ v.l i;have hB:=V.tT (v.l.take i);have hB2:=V.kA v.l i;generalize hR:V.aP (v.l.take i)=R at hk hB⊢;have fin:v.l.length<=i->V.aP v.l=R:=λh=>by rw[<-hR,aI h]
 cases R with
 |nil=>
  repeat'(first|refine bl ?_|refine bS (λh=>?_) (λh=>?_))
  ·have h:i<v.l.length:=oM;refine eE V.cP rfl eD h ?_;conv=>whnf
   refine aF (ih i h) ?_;have hn:=V.dG v.l i h;have hm:=V.EO v.l[i];have hk:=hk h;conv=>whnf
   refine⟨by simp only[aB];rw[show Tryz.prog.bytesOf 25=8 from kK];omega,?_⟩;refine⟨λh0=>?_,λh0=>?_⟩
   ·conv=>whnf
    refine bl ?_;have h0:V.refs v.l[i]=[]:=by simpa using h0
    rw[h0,dS]at hk;refine⟨i+1,oM,oM,cN.U0 ⟨rfl,rfl,by rw[hk];rfl,tV⟩ (by rw[hk])⟩
   ·conv=>whnf
    refine bl ?_;have h0:V.refs v.l[i]≠[]:=by simpa using h0
    rw[bZ]at hk;refine⟨i+1,oM,oM,?_⟩;rw[hk];exact cN.aVK 116 7 (t:=25) (es:=1) (by simpa using h0) tV (by obtain⟨x,xs,hx⟩:=nL h0;rw[hx];exact⟨rfl,rfl,rfl,tV⟩) rfl ⟨rfl,tV⟩ (by obtain⟨x,xs,hx⟩:=nL h0;rw[hx];exact⟨⟨nofun,tV⟩,tV,⟨nofun,tV⟩,tV⟩) ⟨tV,tV⟩
  ·rw[fin oM];exact .one (.nl 1)
 |cons r0 R=>
  repeat'(first|refine bl ?_|refine bS (λh=>?_) (λh=>?_))
  ·have h:i<v.l.length:=oM;refine eE V.cP rfl eD h ?_;conv=>whnf
   refine aF (ih i h) ?_;have hn:=V.dG v.l i h;have hm:=V.EO v.l[i];have hk:=hk h;conv=>whnf
   refine⟨by simp only[aB,bE];rw[show Tryz.prog.bytesOf 25=8 from kK];simp only[aB,aQ]at hB⊢;omega,?_⟩;conv=>whnf
   refine bl ?_;refine⟨i+1,oM,oM,?_⟩;rw[hk];exact cN.aVK 116 7 (t:=25) (es:=1) sM tV ⟨rfl,rfl,rfl,tV⟩ (by rw[show iR (r0::R++v.l[i].refs)=iR (r0::R)++iR v.l[i].refs from bP,<-Y1];rfl) ⟨rfl,tV⟩ ⟨⟨nofun,tV⟩,tV,⟨nofun,tV⟩,tV⟩ ⟨tV,tV⟩
  ·rw[fin oM];exact .one (.lv (id:=7) (rows:=iR (r0::R)))
 termination_by SizeOf.sizeOf v
def R4.HU(w:R4)(s:Int):Bool:=decide (0<=s)&&decide (s<=w.parents.length)
theorem aRK(w:R4)(s:Int)(h1:-9223372036854775808<=s)(h2:s<=9223372036854775807):Pu 108 [.d (.ip w.aT1),.d (ci s)] (.d (cb (w.HU s))):=by
 refine iC mix Tryz.func108 ?_
 repeat'(first|refine bl ?_|refine bS (λh=>?_) (λh=>?_))
 all_goals(refine dP ?_;simp_all[R4.HU];try(intros;omega))
def aOB(out:List Int)(x:Int):Nat:=(out.takeWhile λy=>decide (y<x)).length
def aBV(out:List Int)(x:Int):List Int:=if(out.any λy=>decide (y=x))=true then out else out.take (aOB out x)++x::out.drop (aOB out x)
def kV(l:List Int):List Int:=l.foldl aBV []
theorem aTZ(out:List Int)(x:Int):(aBV out x).length<=out.length+1:=by
 unfold aBV;split
 ·omega
 ·have:=gJ (aOB out x) out;have h2:=congrArg List.length this;simp only[aU,aQ]at h2⊢;omega
theorem aL6:∀(l out:List Int),(l.foldl aBV out).length<=out.length+l.length
 |[],out=>sM
 |x::l,out=>by
  have h1:=aL6 l (aBV out x);have h2:=aTZ out x;simp only[fX,aQ];omega
theorem aU2(out:List Int)(x:Int):aOB out x<=out.length:=by unfold aOB;exact(List.takeWhile_prefix _).length_le
theorem aRT{out:List Int}{x:Int}{k:Nat}(h1:k<=out.length)(h2:∀j(h:j<k)(h':j<out.length),out[j]<x)(h3:∀h:k<out.length,¬out[k]<x):aOB out x=k:=by
 unfold aOB;induction out generalizing k with
 |nil=>simp at h1;simp[h1]
 |cons a out ih=>
  cases k with
  |zero=>
   have:=h3 sM;simp only[eK]at this;rw[List.takeWhile_cons_of_neg (by simpa using this)];rfl
  |succ k=>
   have h0:=h2 0 oM sM;simp only[eK]at h0;rw[List.takeWhile_cons_of_pos (by simpa using h0),aQ,ih (by simpa using h1) (λj hj hj'=>by have:=h2 (j+1) oM (by simpa using hj');rw[cJ]at this;exact this) (λh=>by have:=h3 (by simpa using h);rw[cJ]at this;exact this)]
theorem aTR{L:List Int}(h:L≠[]):dl L=.d (.sl 1 (iR L)):=by
 cases L with
 |nil=>exact absurd rfl h
 |cons _ _=>rfl
theorem aQO(O:List Int)(k:Nat)(x:Int):((iR O).take k).map (λr=>r.map A.d)++[[A.d (ci x)]]++((iR O).drop k).map (λr=>r.map A.d)=bE (iR (O.take k++x::O.drop k)):=by
 unfold iR bE;simp only[bP,aG,bM,List.map_take,List.map_drop,bG,bW,bZ]
theorem aS8(O:List Int)(k:Nat)(x:Int)(h:k=0\/O=[]):[[A.d (ci x)]]++((iR O).drop k).map (λr=>r.map A.d)=bE (iR (O.take k++x::O.drop k)):=by
 rw[<-aQO];rcases h with rfl|rfl
 ·simp
 ·simp[iR]
theorem aH2(l:List Int)(hl:l.length<=2^30):Pu 62 [.d (.sl 1 (iR l))] (.d (.sl 1 (iR (kV l)))):=by
 refine iC mix Tryz.func62 ?_;refine bl ?_;refine bV mix (λi:Nat=>i<=l.length) (I:=λi=>[(0,.d (.sl 1 (iR l))),(3,dl (kV (l.take i))),(4,.d (ci i))])
  (J:=λi=>[]) (μ:=λi=>l.length -i) 1000 0 oM mZ ?_
 intro i hi;have hQl:=aL6 (l.take i) [];rw[cW]at hQl;have aX1:∀h:i<l.length,kV (l.take (i+1))=aBV (kV (l.take i)) l[i]:=λh=>by unfold kV;rw[aT h,iB];rfl
 change(kV (l.take i)).length<=_ at hQl;generalize hQ:kV (l.take i)=Q at hQl aX1⊢;cases Q with
 |nil=>
  repeat'(first|refine bl ?_|refine bS (λh=>?_) (λh=>?_)|refine cD rfl eD aM (bw ?_)|refine dR (aEL [] (l[i]' aM) eD) (.cons (.nl _ _) (.cons (.same _) .nil)) (bw ?_))
  ·have hlt:i<l.length:=aM;refine cY mix (λk:Nat=>k=0) (I:=λk=>[(0,.d (.sl 1 (iR l))),(3,.d (.nl 1)),(4,.d (ci i)),(5,.d (ci k))]) (J:=λk=>[]) (μ:=λk=>0) 2000 0 2
    (λk:Nat=>k=0) (λk=>[(0,.d (.sl 1 (iR l))),(3,.d (.nl 1)),(4,.d (ci i)),(5,.d (ci k))]) (λk=>[]) 4000 rfl mZ ?_ ?_
   ·rintro k rfl
    repeat'(first|with_reducible (first|refine w1 ?_|refine w3 ?_|refine w9 ?_|refine wa ?_|refine wk ?_|refine nN.mk ?_|refine O8.f rfl ?_)|((with_reducible (first|refine wi ?_|refine wg ?_));(conv=>whnf))|((with_reducible refine wt eD kK ?_);(conv=>whnf)))
    exact⟨0,rfl,mZ⟩
   ·rintro k rfl;refine bl ?_;refine xV (by simp;exact Nat.lt_of_lt_of_eq (by decide:0<1) kK) ?_;conv=>whnf
    skip
    refine n8 sM kK ?_;conv=>whnf
    refine E9.mk (λh1=>?_) (λh1=>absurd rfl h1);conv=>whnf
    repeat'(first|refine bl ?_|refine cD rfl eD hlt (bw ?_))
    refine n8 (by simp only[cE,aS];omega) kK ?_;conv=>whnf
    refine E9.mk (λh2=>absurd h2 sM) (λh2=>?_);conv=>whnf
    refine bl ?_;refine xV (by simp;exact Nat.lt_of_lt_of_eq (by decide:0<1) kK) ?_;conv=>whnf
    skip
    refine n8 sM kK ?_;conv=>whnf
    refine bl ?_;have e:kV (l.take (i+1))=[l[i]]:=by rw[aX1 hlt];rfl
    refine⟨i+1,oM,oM,?_⟩;rw[e,aTR (L:=[l[i]]) sM];exact cN.freeze [4152] tV ⟨.same _,.rd (Rd.UN (t:=25) (eX rfl rfl) rfl),.same _,tV⟩ tV ⟨tV,tV,tV,tV⟩ trivial
  ·rw[aI oM]at hQ;rw[hQ];exact .one (.nz _ _)
 |cons q0 Q=>
  repeat'(first|refine bl ?_|refine bS (λh=>?_) (λh=>?_)|refine cD rfl eD aM (bw ?_)|refine aF (aEL (q0::Q) (l[i]' aM) (by simp at hQl⊢;omega)) (bw ?_))
  ·have hlt:i<l.length:=aM;refine⟨i+1,oM,oM,?_⟩;have e:kV (l.take (i+1))=q0::Q:=by
    rw[aX1 hlt];unfold aBV;rw[aUF (by simpa using h)]
   rw[e];exact mZ
  ·have hlt:i<l.length:=aM;have hno:((q0::Q).any λy=>decide (y=l[i]))=false:=by simpa using h
   refine cY mix (λk:Nat=>k<=(q0::Q).length/\∀j(h:j<k)(h':j<(q0::Q).length),(q0::Q)[j]<l[i]) (I:=λk=>[(0,.d (.sl 1 (iR l))),(3,dl (q0::Q)),(4,.d (ci i)),(5,.d (ci k))]) (J:=λk=>[]) (μ:=λk=>(q0::Q).length -k) 2000 0 2
    (λk:Nat=>k=aOB (q0::Q) l[i]) (λk=>[(0,.d (.sl 1 (iR l))),(3,dl (q0::Q)),(4,.d (ci i)),(5,.d (ci k))]) (λk=>[]) 4000 ⟨sM,λj h=>absurd h oM⟩ mZ ?_ ?_
   ·rintro k ⟨g1,g2⟩;have g1':k<=Q.length+1:=g1;have hb:Q.length+1<=i:=by simp at hQl;omega
    repeat'(first|with_reducible (first|refine w1 ?_|refine w2 ?_|refine w3 ?_|refine w5 ?_|refine w9 ?_|refine wa ?_|refine wc ?_|refine wj ?_|refine wk ?_|refine nN.mk ?_|refine O8.t rfl ?_|refine O8.f rfl ?_)|((with_reducible (first|refine wr ?_|refine wi ?_|refine wg ?_));(conv=>whnf))|((with_reducible refine wt eD kK ?_);(conv=>whnf))|((with_reducible refine FC.mk (RG (by(try dsimp only);omega) (by(try dsimp only);omega)) ?_);(conv=>whnf))|((with_reducible refine nQ (λh=>?_) (λh=>?_))<;>(try rw[h])<;>(conv at h=>{simp}))|((refine cD rfl eD hlt ?_);(conv=>whnf))|((refine cD rfl eD (L:=q0::Q) (by simp only[aQ];omega) ?_);(conv=>whnf)))
    ·have hk1:k<(q0::Q).length:=by simp only[aQ];omega
     refine⟨k+1,by simp only[aQ];omega,⟨by simp only[aQ];omega,λj h1 h2=>?_⟩,mZ⟩;rcases eQ j k with h3|h3
     ·exact g2 j h3 h2
     ·have:j=k:=oM;subst this;assumption
    ·have hk1:k<(q0::Q).length:=by simp only[aQ];omega
     refine⟨k,(aRT g1 g2 λ_=>oM).symm,mZ⟩
    ·refine⟨k,(aRT g1 g2 λh5=>?_).symm,mZ⟩;simp only[aQ]at h5;omega
   ·rintro k hk;have hkl:k<=Q.length+1:=by rw[hk];exact aU2 (q0::Q) l[i]
    have hb:Q.length+1<=i:=by simp at hQl;omega
    have hle:(iR (q0::Q)).length=Q.length+1:=sM;refine bl ?_;refine xV ⟨.inl rfl,kK,oM,oM,oM,by simp only[aB,aQ];omega,sM⟩ ?_;have ek:((k:Int)-0).toNat=k:=oM;rw[ek];conv=>whnf
    skip
    refine n8 (by simp only[aB,cW];omega) kK ?_;conv=>whnf
    refine E9.mk (λh1=>?_) (λh1=>?_)
    ·conv=>whnf
     repeat'(first|refine bl ?_|refine cD rfl eD hlt (bw ?_))
     refine n8 (by simp only[cE,aS];omega) kK ?_;conv=>whnf
     refine E9.mk (λh2=>absurd h2 sM) (λh2=>?_);conv=>whnf
     refine bl ?_;refine xV ⟨.inr rfl,kK,oM,oM,by simp only[aB,aQ];omega,by simp only[aB,aQ];omega,sM⟩ ?_;conv=>whnf
     skip
     rw[lB,aI (i:=(_ -_:Int).toNat) (by simp only[aB,l4,aQ];omega)];refine n8 (by simp only[aU,cE,aS,aB,cW,l4,aQ];omega) kK ?_;conv=>whnf
     refine bl ?_;have e:kV (l.take (i+1))=(q0::Q).take k++l[i]::(q0::Q).drop k:=by
      rw[aX1 hlt,hk];unfold aBV;rw[aT7 (by rw[hno];simp)]
     refine⟨i+1,oM,oM,?_⟩;rw[e,aTR (L:=(q0::Q).take k++l[i]::(q0::Q).drop k) sM];exact cN.freeze [4152] tV ⟨.same _,.rd (Rd.UN (t:=25) (eX rfl rfl) (aS8 (q0::Q) k l[i] (by simpa using h1))),.same _,tV⟩ tV ⟨tV,tV,tV,tV⟩ trivial
    ·conv=>whnf
     repeat'(first|refine bl ?_|refine cD rfl eD hlt (bw ?_))
     refine n8 (by simp only[cE,aS,aB,cW];omega) kK ?_;conv=>whnf
     refine bl ?_;refine xV ⟨.inr rfl,kK,oM,oM,by simp only[aB,aQ];omega,by simp only[aB,aQ];omega,sM⟩ ?_;conv=>whnf
     skip
     rw[lB,aI (i:=(_ -_:Int).toNat) (by simp only[aB,l4,aQ];omega)];refine n8 (by simp only[aU,cE,aS,aB,cW,l4,aQ];omega) kK ?_;conv=>whnf
     refine bl ?_;have e:kV (l.take (i+1))=(q0::Q).take k++l[i]::(q0::Q).drop k:=by
      rw[aX1 hlt,hk];unfold aBV;rw[aT7 (by rw[hno];simp)]
     refine⟨i+1,oM,oM,?_⟩;rw[e,aTR (L:=(q0::Q).take k++l[i]::(q0::Q).drop k) sM];exact cN.freeze [4152] tV ⟨.same _,.rd (Rd.UN (t:=25) (eX rfl rfl) (aQO (q0::Q) k l[i])),.same _,tV⟩ tV ⟨tV,tV,tV,tV⟩ trivial
  ·have hz:i=l.length:=oM;rw[aI oM]at hQ;rw[hQ];exact .one (.d _)
mutual
def V.same:V->V->Bool
 |.mk k n s l r,b=>(decide (k=b.kind)&&(decide (n=b.n)&&(decide (s=b.s)&&(decide (r=b.r)&&decide (l.length=b.l.length)))))&&V.mC l b.l
def V.mC:List V->List V->Bool
 |a::r,b::q=>V.same a b&&V.mC r q
 |_,_=>true
end
theorem V.aUK(a b:V):a.same b=((decide (a.kind=b.kind)&&(decide (a.n=b.n)&&(decide (a.s=b.s)&&(decide (a.r=b.r)&&decide (a.l.length=b.l.length)))))&&V.mC a.l b.l):=by cases a;rw[V.same];rfl
theorem V.LG(a b:List V)(i:Nat)(h:i<a.length)(h2:i<b.length):V.mC (a.drop i) (b.drop i)=(V.same a[i] b[i]&&V.mC (a.drop (i+1)) (b.drop (i+1))):=by
 rw[dE h,dE h2,V.mC]
theorem V.aTD(b:List V):V.mC [] b=true:=by cases b<;>rfl
mutual
theorem V.aOZ:∀(a b:V),V.same a b=true↔a=b
 |.mk k n s l r,.mk k2 n2 s2 l2 r2=>by
  rw[V.same];show((decide (k=k2)&&(decide (n=n2)&&(decide (s=s2)&&(decide (r=r2)&&decide (l.length=l2.length)))))&&V.mC l l2)=true↔_;simp only[aE,aUA,V.mk.injEq];constructor
  ·rintro⟨⟨h1,h2,h3,h4,h5⟩,h6⟩;exact⟨h1,h2,h3,(V.aN8 l l2 h5).1 h6,h4⟩
  ·rintro⟨h1,h2,h3,h4,h5⟩;exact⟨⟨h1,h2,h3,h5,by rw[h4]⟩,(V.aN8 l l2 (by rw[h4])).2 h4⟩
theorem V.aN8:∀(a b:List V),a.length=b.length->(V.mC a b=true↔a=b)
 |[],[],_=>by simp[V.mC]
 |[],b::q,h=>by cases h
 |a::r,[],h=>by cases h
 |a::r,b::q,h=>by
  rw[V.mC,aE,V.aOZ a b,V.aN8 r q (by simpa using h)];simp
end
theorem aQQ(a b:V)(ha:a.cR<=2^38)(hb:b.cR<=2^38):Pu 138 [.d (.agg a.aT1),.d (.agg b.aT1)] (.d (cb (a.same b))):=by
 have hca:=a.fA;have hcb:=b.fA;have hla:=V.eW a.l;have hlb:=V.eW b.l;have ih:∀i(h:i<a.l.length)(h2:i<b.l.length),Pu 138 [.d (.agg (V.aT1 a.l[i])),.d (.agg (V.aT1 b.l[i]))] (.d (cb (a.l[i].same b.l[i]))):=λi h h2=>
  have:=a.lA i h
  aQQ a.l[i] b.l[i] (by have:=V.dG a.l i h;omega) (by have:=V.dG b.l i h2;omega)
 refine iC mix Tryz.func138 ?_;rw[V.aUK]
 repeat'(first|refine bl ?_|refine bS (λh=>?_) (λh=>?_))
 all_goals try(refine dP ?_;first|(simp_all;done)|(rw[aU0 (by omega:¬a.l.length=b.l.length)];simp;done))
 have he:a.l.length=b.l.length:=by
  omega
 have hd:(decide (a.kind=b.kind)&&(decide (a.n=b.n)&&(decide (a.s=b.s)&&(decide (a.r=b.r)&&decide (a.l.length=b.l.length)))))=true:=by simp_all
 rw[hd,cA];refine bV mix (λi:Nat=>i<=a.l.length/\V.mC (a.l.drop i) (b.l.drop i)=V.mC a.l b.l) (I:=λi=>[(2,.lp 1 0),(3,.lp 9 0),(5,.d (ci i))])
  (J:=λi=>[(1,.cells false (a.aT1.map A.d)),(9,.cells false (b.aT1.map A.d))]) (μ:=λi=>a.l.length -i) 100 0 ⟨oM,rfl⟩ mZ ?_
 rintro i ⟨hi,ht⟩
 repeat'(first|with_reducible (first|refine w1 ?_|refine w2 ?_|refine w3 ?_|refine w4 ?_|refine w5 ?_|refine w9 ?_|refine wa ?_|refine wb ?_|refine wc ?_|refine wd ?_|refine we ?_|refine nN.mk ?_)|((with_reducible (first|refine wr ?_|refine wi ?_|refine wx ?_));(conv=>whnf))|((with_reducible refine wt eD kK ?_);(conv=>whnf))|((with_reducible refine FC.mk (RG (by(try dsimp only);omega) (by(try dsimp only);omega)) ?_);(conv=>whnf))|((with_reducible refine nQ (λh=>?_) (λh=>?_))<;>(try rw[h])<;>(conv at h=>{simp}))|((refine eE V.cP rfl eD oM ?_);(conv=>whnf))|((refine XD.mk _ (ih i oM oM) ?_);(conv=>whnf)))
 ·have h1:i<a.l.length:=oM;have h2:i<b.l.length:=oM;have hs:=V.LG a.l b.l i h1 h2;have h:a.l[i].same b.l[i]=false:=aM;rw[<-ht,hs,h,c0];exact .one (.d _)
 ·have h1:i<a.l.length:=oM;have h2:i<b.l.length:=oM;have hs:=V.LG a.l b.l i h1 h2;have h:a.l[i].same b.l[i]=true:=aM;rw[h,cA]at hs;exact⟨i+1,oM,⟨oM,by rw[<-hs,ht]⟩,mZ⟩
 ·rw[dT oM,V.aTD]at ht;rw[<-ht];exact .one (.d _)
 termination_by SizeOf.sizeOf a
def W4.rb(x:W4):W4:={x.bare with values:=[],code:=[],names:=[]}
def W4.vB(x:W4):Bool:=decide (x.kind=2\/x.kind=4)
def W4.nB(x:W4):Bool:=decide (x.kind=12)
theorem W4.aXO(h:x.kind=2\/x.kind=4):x.vB=true:=aUZ h
theorem W4.aXF(h:¬(x.kind=2\/x.kind=4)):x.vB=false:=aU0 h
theorem W4.aW6(h:x.kind=12):x.nB=true:=aUZ h
theorem W4.aXL(h:¬x.kind=12):x.nB=false:=aU0 h
def W4.kM(x:W4)(n:Int):Bool:=decide (1<=x.kind/\x.kind<=16/\(x.kind=14\/0<=x.home/\x.home<n))
def W4.EV(x:W4):Bool:=
 if x.kind=2\/x.kind=4 then decide (x.values.length<=512)&&(V.mk 3 0 ByteArray.empty x.values 0).nI
 else if x.kind=8 then decide (0<=x.lost/\x.lost<=x.n)
 else if x.kind=10 then x.full||decide (x.value.kind=0)
 else if x.kind=12 then decide (x.names.length<=64/\S4.nF x.code 0<=512)&&(S4.jD x.code&&x.names.all λn=>n.value.nI)
 else true
def W4.rtl(x:W4):Bool:=decide (0<=x.n/\x.n<=9007199254740992)&&x.value.nI
def W4.req(x y:W4):Bool:=decide (x.home=y.home)&&(x.value.same y.value&&(decide (x.n=y.n)&&(decide (x.lost=y.lost)&&(decide (x.of=y.of)&&(decide (x.by_=y.by_)&&(decide (x.set=y.set)&&(decide (x.full=y.full)&&((x.vB||decide (x.values.length=0))&&((x.nB||decide (x.names.length=0))&&(x.nB||decide (x.code.length=0)))))))))))
theorem W4.aR0(x:W4):x.rb.home=if x.kind=14 then 0 else x.home:=by
 show x.bare.home=_;unfold W4.bare;by_cases h0:x.kind=1
 ·rw[aUF h0,aT7 oM]
 rw[aT7 h0];by_cases h1:x.kind=2\/x.kind=4
 ·rw[aUF h1,aT7 oM]
 rw[aT7 h1];by_cases h2:x.kind=3
 ·rw[aUF h2,aT7 oM]
 rw[aT7 h2];by_cases h3:x.kind=6\/x.kind=11
 ·rw[aUF h3,aT7 oM]
 rw[aT7 h3];by_cases h4:x.kind=7
 ·rw[aUF h4,aT7 oM]
 rw[aT7 h4];by_cases h5:x.kind=8
 ·rw[aUF h5,aT7 oM]
 rw[aT7 h5];by_cases h6:x.kind=9
 ·rw[aUF h6,aT7 oM]
 rw[aT7 h6];by_cases h7:x.kind=10
 ·rw[aUF h7,aT7 oM]
 rw[aT7 h7];by_cases h8:x.kind=12
 ·rw[aUF h8,aT7 oM]
 rw[aT7 h8];by_cases h9:x.kind=13
 ·rw[aUF h9,aT7 oM]
 rw[aT7 h9];by_cases h10:x.kind=15\/x.kind=16
 ·rw[aUF h10,aT7 oM]
 rw[aT7 h10];by_cases h11:x.kind=14
 ·rw[aUF h11,aUF h11]
 rw[aT7 h11,aT7 h11]
theorem W4.aUD(x:W4):x.rb.value=x.value\/x.rb.value=V.zero:=by
 show x.bare.value=_\/x.bare.value=_;unfold W4.bare;by_cases h0:x.kind=1
 ·rw[aUF h0];first|exact .inl rfl|exact .inr rfl
 rw[aT7 h0];by_cases h1:x.kind=2\/x.kind=4
 ·rw[aUF h1];first|exact .inl rfl|exact .inr rfl
 rw[aT7 h1];by_cases h2:x.kind=3
 ·rw[aUF h2];first|exact .inl rfl|exact .inr rfl
 rw[aT7 h2];by_cases h3:x.kind=6\/x.kind=11
 ·rw[aUF h3];first|exact .inl rfl|exact .inr rfl
 rw[aT7 h3];by_cases h4:x.kind=7
 ·rw[aUF h4];first|exact .inl rfl|exact .inr rfl
 rw[aT7 h4];by_cases h5:x.kind=8
 ·rw[aUF h5];first|exact .inl rfl|exact .inr rfl
 rw[aT7 h5];by_cases h6:x.kind=9
 ·rw[aUF h6];first|exact .inl rfl|exact .inr rfl
 rw[aT7 h6];by_cases h7:x.kind=10
 ·rw[aUF h7];first|exact .inl rfl|exact .inr rfl
 rw[aT7 h7];by_cases h8:x.kind=12
 ·rw[aUF h8];first|exact .inl rfl|exact .inr rfl
 rw[aT7 h8];by_cases h9:x.kind=13
 ·rw[aUF h9];first|exact .inl rfl|exact .inr rfl
 rw[aT7 h9];by_cases h10:x.kind=15\/x.kind=16
 ·rw[aUF h10];first|exact .inl rfl|exact .inr rfl
 rw[aT7 h10];by_cases h11:x.kind=14
 ·rw[aUF h11];first|exact .inl rfl|exact .inr rfl
 rw[aT7 h11];exact .inr rfl
abbrev aW0(x:W4)(k:Int):List A:=[.d (.v (.int .u8 x.kind)),.d (ci k),.d (.v (.int .u8 0)),.d (ci 0),.d (.v (.string ByteArray.empty)),.d (.nl 5),.d (ci 0),.d (.nl 5),.d (ci 0),.d (ci 0),.d (ci 0),.d (ci 0),.d (.v (.int .u8 0)),.d (cb false),.d (.nl 17),.d (.nl 6)]
def W4.tB(x:W4)(n:Int):Bool:=x.kM n&&(x.EV&&(x.rtl&&x.req x.rb))
theorem aQK(x:W4)(hx:x.cR<=2^34)(hw:x.wt)(n:Int)(hh:-9223372036854775808<=x.home/\x.home<=9223372036854775807):Pu 97 [.d (.agg x.aT1),.d (ci n)] (.d (cb (x.tB n))):=by
 have hcc:x.cR=x.value.cR+V.dB x.values+S4.dB x.code+x.names.length+V.dB (x.names.map (·.value)):=rfl;have hk:=hw.kind;have hrv:x.rb.value.cR<=2^38:=by
  rcases x.aUD with e|e
  ·rw[e];omega
  ·rw[e];exact bD rfl
 have hno:x.kM n=false->x.tB n=false:=λh=>by unfold W4.tB;rw[h,c0]
 refine iC mix Tryz.func97 ?_
 repeat'(first|with_reducible (first|refine tG ?_|refine w9 ?_|refine nN.mk ?_)|((with_reducible refine wr ?_);(conv=>whnf))|((with_reducible refine FC.mk (RG (by(try dsimp only);omega) (by(try dsimp only);omega)) ?_);(conv=>whnf)))
 refine QH ?_
 repeat'(first|with_reducible (first|refine tG ?_|refine w2 ?_|refine w4 ?_|refine w9 ?_|refine wb ?_|refine nN.mk ?_|refine O8.t rfl ?_|refine O8.f rfl ?_)|((with_reducible (first|refine wr ?_|refine wi ?_|refine wx ?_|refine wh ?_));(conv=>whnf))|((with_reducible refine nQ (λh=>?_) (λh=>?_))<;>(try rw[h])<;>(conv at h=>{simp})))
 ·rw[hno (by unfold W4.kM;simp;omega)];exact .one (.d _)
 ·rw[hno (by unfold W4.kM;simp;omega)];exact .one (.d _)
 refine BH (λ_:Unit=>x.kM n=true) (λ_=>[(1,.d (ci n)),(2,.lp 1 0),(5,.lp 41 0),(6,.d (ci x.kind))]) (λ_=>[(1,.cells false (x.aT1.map A.d)),(41,.cells false (aW0 x x.rb.home))]) 2000 ?_ ?_
 ·skip
  repeat'(first|refine bl ?_|refine bS (λh=>?_) (λh=>?_))
  ·rw[hno (by unfold W4.kM;simp;omega)];exact .one (.d _)
  ·rw[hno (by unfold W4.kM;simp;omega)];exact .one (.d _)
  ·refine⟨(),by unfold W4.kM;simp;omega,?_⟩;rw[x.aR0,aT7 aM];exact mZ
  ·refine⟨(),by unfold W4.kM;simp;omega,?_⟩;rw[x.aR0,aUF aM];exact mZ
 rintro _ hhd;have aZV:x.EV=false->x.tB n=false:=λh=>by unfold W4.tB;rw[h];simp
 have hfo:x.EV=true->x.tB n=(x.rtl&&x.req x.rb):=λh=>by unfold W4.tB;rw[h,hhd];rfl
 repeat'(first|with_reducible (first|refine tG ?_|refine w9 ?_|refine nN.mk ?_)|((with_reducible refine wr ?_);(conv=>whnf)))
 refine BH (λ_:Unit=>x.EV=true) (λ_=>[(1,.d (ci n)),(2,.lp 1 0),(5,.lp 41 0),(7,.d (cb x.vB)),(8,.d (cb x.nB)),(9,.d (cb x.nB))]) (λ_=>[(1,.cells false (x.aT1.map A.d)),(41,.cells false (x.rb.aT1.map A.d))]) 5000 ?_ ?_
 ·have hml:(V.mk 3 0 ByteArray.empty x.values 0).cR<=2^40:=by rw[V.fA];show 1+V.dB x.values<=_;omega
  have hmw:(V.mk 3 0 ByteArray.empty x.values 0).wt:=⟨eD,eD,hw.values⟩
  repeat'(first|refine bl ?_|refine bS (λh=>?_) (λh=>?_)|refine aF (aHR (V.mk 3 0 ByteArray.empty x.values 0) hml hmw) (bw ?_)|refine aF (aUI x.values) (bw ?_)|refine aF (IS x.code oM) (bw ?_)|refine aF (vD x.code oM hw.code) (bw ?_))
  all_goals try((with_reducible show A1 _ _ _);rw[aZV (by(unfold W4.EV;repeat(first|rw[aT7 oM]|rw[aUF oM]));first|(simp_all;done)|(simp_all;omega))];exact .one (.d _))
  all_goals try(refine⟨(),by(unfold W4.EV;repeat(first|rw[aT7 oM]|rw[aUF oM]));all_goals first|rfl|(simp_all;done)|(simp_all;omega),?_⟩)
  all_goals try((with_reducible show cN _ _ _ _ _ _);(first|rw[W4.aXO oM]|rw[W4.aXF oM]);(first|rw[W4.aW6 oM]|rw[W4.aXL oM]);unfold W4.rb W4.bare;(repeat(first|rw[aT7 oM]|rw[aUF oM]));exact cN.freeze [] aW ⟨.same _,.same _,.same _,.same _,.same _,.same _,aW⟩ ⟨⟨rfl,_,rfl,.cells (.same _)⟩,⟨rfl,_,rfl,.cells (by repeat'(first|exact IX.same _|refine IX.cons (by first|exact Cv.same _|exact Cv.rd (.nz _ _)) ?_))⟩,aW⟩ ⟨tV,⟨nofun,tV⟩,⟨nofun,tV⟩,tV,tV,tV,tV⟩ ⟨tV,tV,tV⟩)
  have hnb:∀i(h:i<x.names.length),x.names[i].value.cR<=2^34:=λi h=>by
   have:=V.dG (x.names.map (·.value)) i (by simpa using h);rw[fO]at this;omega
  have hnw:∀i(h:i<x.names.length),x.names[i].value.wt:=λi h=>by
   have:=V.nH _ hw.names i (by simpa using h)
   rwa [fO]at this
  have hrs:x.EV=(x.names.all λn=>n.value.nI):=by
   unfold W4.EV;repeat(first|rw[aT7 oM]|rw[aUF oM])
   rw[aUZ ⟨oM,oM⟩,‹S4.jD x.code=true›];rfl
  refine bV mix (λi:Nat=>i<=x.names.length/\(x.names.take i).all (λn=>n.value.nI)=true) (I:=λi=>[(1,.d (ci n)),(2,.lp 1 0),(5,.lp 41 0),(7,.d (cb false)),(8,.d (cb true)),(9,.d (cb true)),(10,.d (ci i))])
   (J:=λi=>[(1,.cells false (x.aT1.map A.d)),(41,.cells false (aW0 x x.rb.home))]) (μ:=λi=>x.names.length -i) 20 0 ⟨oM,rfl⟩ mZ ?_
  rintro i ⟨hi,ht⟩
  repeat'(first|refine bl ?_|refine bS (λh=>?_) (λh=>?_)|refine cD rfl eD oM (bw ?_)|refine aF (aHR x.names[i].value (by have:=hnb i oM;omega) (hnw i oM)) (bw ?_))
  ·rw[aZV (by rw[hrs,iA];exact⟨_,aY aM,by simp[‹_=false›]⟩)];exact .one (.d _)
  ·exact⟨i+1,oM,⟨oM,ZO _ _ i oM ht aM⟩,mZ⟩
  ·rw[aI oM]at ht;refine⟨(),by rw[hrs];exact ht,?_⟩;rw[W4.aXF oM,W4.aW6 oM];unfold W4.rb W4.bare
   (repeat(first|rw[aT7 oM]|rw[aUF oM]))
   exact cN.freeze [] aW ⟨.same _,.same _,.same _,.same _,.same _,.same _,aW⟩ ⟨⟨rfl,_,rfl,.cells (.same _)⟩,⟨rfl,_,rfl,.cells (by repeat'(first|exact IX.same _|refine IX.cons (by first|exact Cv.same _|exact Cv.rd (.nz _ _)) ?_))⟩,aW⟩ ⟨tV,⟨nofun,tV⟩,⟨nofun,tV⟩,tV,tV,tV,tV⟩ ⟨tV,tV,tV⟩
 rintro _ hs;rw[hfo hs]
 repeat'(first|refine bl ?_|refine bS (λh=>?_) (λh=>?_)|refine fT (cs:=x.value.aT1) (aHR x.value oM hw.value) (bw ?_)|refine dR (aQQ x.value x.rb.value oM hrv) (.cons (.agg x.value.aT1) (.cons (.agg x.rb.value.aT1) .nil)) (bw ?_))
 all_goals try((with_reducible show A1 _ _ _);refine dP ?_;(try unfold W4.rtl W4.req);first|(simp_all;done)|(simp_all;omega))
 all_goals skip
theorem aOG{α:Type}{p:α->Bool}{L:List α}{i:Nat}(h:(L.take i).all p=false):L.all p=false:=by
 cases hh:L.all p with
 |false=>rfl
 |true=>
  rw[cV]at hh;have:(L.take i).all p=true:=cV.2 λy hy=>hh y (dJ hy);rw[this]at h;cases h
theorem aQY{α:Type}(p:α->Bool)(L:List α)(i:Nat)(h:i<L.length):(L.take (i+1)).all p=((L.take i).all p&&p L[i]):=by
 rw[aT h,gQ];simp
theorem aOH{α:Type}{a:Bool}{p:α->Bool}{L:List α}{i:Nat}(h:false=(a&&(L.take i).all p)):false=(a&&L.all p):=by
 cases a with
 |false=>rfl
 |true=>rw[cA]at h⊢;exact(aOG h.symm).symm
def W4.aR9(x:W4):Bool:=decide (x.kind=6\/x.kind=7\/x.kind=9\/x.kind=11\/x.kind=14\/x.kind=15\/x.kind=16\/x.kind=13/\x.of≠0)
def R4.aA5(w:R4)(x:W4):Bool:=(x.aR9&& !w.mI x.of)||(decide (x.kind=15\/x.kind=16)&& !w.mI x.by_)
def R4.n4(w:R4)(x:W4)(of k:Int):Bool:=decide ((w.iI of).kind=k)&&decide ((w.iI of).home=x.home)
def FX(r:Int)(x:W4)(t:T4):Bool:=decide (t.ref=r)||(decide (t.bQ.kind≠14)||(decide (t.bQ.of≠x.of)||decide (t.bQ.set≠x.set)))
theorem aV5(h:t.ref=r):true=FX r x t:=by unfold FX;rw[aUZ h];rfl
theorem aV6(h:¬t.bQ.kind=14):true=FX r x t:=by unfold FX;rw[aUZ (p:=t.bQ.kind≠14) h];simp
theorem aV7(h:¬t.bQ.of=x.of):true=FX r x t:=by unfold FX;rw[aUZ (p:=t.bQ.of≠x.of) h];simp
theorem aV8(h:¬t.ref=r)(h2:t.bQ.kind=14)(h3:t.bQ.of=x.of):(!decide (t.bQ.set=x.set))=FX r x t:=by
 unfold FX;rw[aU0 h,aU0 (p:=t.bQ.kind≠14) (λk=>k h2),aU0 (p:=t.bQ.of≠x.of) (λk=>k h3)];simp
def R4.EK(w:R4)(r:Int)(x:W4)(v:Int):Bool:=
 if x.kind=6 then w.n4 x x.of 5&& !w.QN r 6 x.of false
 else if x.kind=7 then w.n4 x x.of 5
 else if x.kind=9 then w.n4 x x.of 8
 else if x.kind=11 then w.n4 x x.of 10&& !w.QN r 11 x.of false
 else if x.kind=13 then decide (x.of=0)||(decide ((w.iI x.of).kind=15)&&decide ((w.iI x.of).by_=r))
 else if x.kind=15 then(w.n4 x x.by_ 13&& !w.QN r 15 x.by_ true)&&(decide (r=0)||decide ((w.iI x.by_).of=r))
 else if x.kind=16 then w.n4 x x.by_ 3
 else if x.kind=14 then(decide ((w.iI x.of).kind≠14)&&(decide (pO .andNot .u8 x.set v=0)&&decide (x.set≠v)))&&w.aT4.all (FX r x)
 else true
def R4.WO(w:R4)(x:W4):Bool:=x.refs.all λr=>decide (w.zB r≠0)
def R4.RV(w:R4)(r:Int)(x:W4)(v:Int):Int:=if w.WO x=false then 5 else if w.aA5 x=true then 5 else if w.EK r x v=true then 0 else 70
theorem aSX(w:R4)(hw:w.wt)(r:Int)(x:W4)(hx:x.cR<=2^34)(hk:0<=x.kind/\x.kind<256)(n:Nat)(v:Int)(hv:x.kind=14->w.MD n x.of=some v):
 Pu 102 [.d (.ip w.aT1),.d (ci r),.d (.agg x.aT1)] (.d (ci (w.RV r x v))):=by
 have hrl:x.refs.length<=2^36:=by
  have h1:=aHQ x.vA;have h2:=x.aF6;unfold W4.refs;omega
 have hwl:=hw.len;have hko:=R4.AF hw x.of;have hkb:=R4.AF hw x.by_;refine iC mix Tryz.func102 ?_
 repeat'(first|refine bl ?_|refine fT (cs:=x.aT1) (aOR x oM) (bw ?_))
 refine cY mix (λi:Nat=>i<=x.refs.length/\(x.refs.take i).all (λr=>decide (w.zB r≠0))=true) (I:=λi=>[(0,.d (.ip w.aT1)),(1,.d (ci r)),(5,.lp 1 0),(7,.d (.sl 1 (iR x.refs))),(8,.d (ci i))])
  (J:=λi=>[(1,.cells false (x.aT1.map A.d))]) (μ:=λi=>x.refs.length -i) 1000 0 0
  (λ_:Unit=>w.WO x=true) (λ_=>[(0,.d (.ip w.aT1)),(1,.d (ci r)),(5,.lp 1 0)]) (λ_=>[(1,.cells false (x.aT1.map A.d))]) 2000 ⟨oM,rfl⟩ mZ ?_ ?_
 ·rintro i ⟨hi,h0⟩
  repeat'(first|refine bl ?_|refine bS (λh=>?_) (λh=>?_)|refine cD rfl eD aM (bw ?_)|refine aF (aQI w x.refs[i] hw) (bw ?_))
  ·have hf:w.WO x=false:=by
    unfold R4.WO;rw[iA];exact⟨_,aY aM,by simpa using‹w.zB _=0›⟩
   unfold R4.RV;rw[aUF hf];exact .one (.d _)
  ·exact⟨i+1,oM,⟨oM,ZO _ _ i aM h0 (aUZ aM)⟩,mZ⟩
  ·rw[aI oM]at h0;exact⟨(),h0,mZ⟩
 rintro _ hro
 repeat'(with_reducible (first|refine w9 ?_|refine we ?_))
 refine tG ?_
 repeat'(first|with_reducible (first|refine w9 ?_|refine nN.mk ?_)|((with_reducible refine wr ?_);(conv=>whnf))|((with_reducible refine FC.mk (RG (by(try dsimp only);omega) (by(try dsimp only);omega)) ?_);(conv=>whnf)))
 refine tG ?_
 repeat'(first|with_reducible (first|refine w9 ?_|refine nN.mk ?_)|((with_reducible refine wr ?_);(conv=>whnf))|((refine aF (zP w x.of hwl) ?_);(conv=>whnf)))
 refine tG ?_
 repeat'(first|with_reducible (first|refine w9 ?_|refine nN.mk ?_)|((with_reducible refine wr ?_);(conv=>whnf))|((refine aF (zP w x.by_ hwl) ?_);(conv=>whnf)))
 refine BH (λb:Bool=>b=x.aR9) (λb=>[(0,.d (.ip w.aT1)),(1,.d (ci r)),(5,.lp 1 0),(9,.d (ci x.kind)),(10,.lp 2088 0),(11,.d (cb (w.mI x.of))),(12,.lp 2168 0),(13,.d (cb (w.mI x.by_))),(14,.d (cb b))]) (λ_=>[(1,.cells false (x.aT1.map A.d)),(2088,.cells false ((w.iI x.of).aT1.map A.d)),(2168,.cells false ((w.iI x.by_).aT1.map A.d))]) 3000 ?_ ?_
 ·skip
  repeat'(first|with_reducible (first|refine w9 ?_|refine nN.mk ?_|refine O8.t rfl ?_|refine O8.f rfl ?_)|((with_reducible (first|refine wr ?_|refine wg ?_|refine wh ?_));(conv=>whnf))|((with_reducible refine nQ (λh=>?_) (λh=>?_))<;>(try rw[h])<;>(conv at h=>{simp}))|((refine aF (aH5 x.kind) ?_);(conv=>whnf)))
  all_goals(apply vT;apply bI;rotate_left;exact mZ;unfold W4.aR9;first|(simp_all[y5];done)|(simp_all[y5];omega))
  all_goals skip
 rintro b rfl;refine BH (λ_:Unit=>w.aA5 x=false) (λ_=>[(0,.d (.ip w.aT1)),(1,.d (ci r)),(5,.lp 1 0),(9,.d (ci x.kind)),(10,.lp 2088 0),(11,.d (cb (w.mI x.of))),(12,.lp 2168 0),(13,.d (cb (w.mI x.by_)))]) (λ_=>[(1,.cells false (x.aT1.map A.d)),(2088,.cells false ((w.iI x.of).aT1.map A.d)),(2168,.cells false ((w.iI x.by_).aT1.map A.d))]) 4000 ?_ ?_
 ·skip
  repeat'(first|refine bl ?_|refine bS (λh=>?_) (λh=>?_))
  all_goals first
   |((with_reducible show A1 _ _ _)
     have hf:w.aA5 x=true:=by unfold R4.aA5;first|(simp_all;done)|(simp_all;omega)
     unfold R4.RV;rw[aT7 (by rw[hro];decide),aUF hf];exact .one (.d _))
   |exact⟨(),by unfold R4.aA5;first|(simp_all;done)|(simp_all;omega),mZ⟩
 rintro _ hla
 repeat'(first|with_reducible (first|refine tG ?_|refine w9 ?_|refine nN.mk ?_)|((with_reducible refine wr ?_);(conv=>whnf)))
 refine BH (λb:Bool=>b=w.EK r x v) (λb=>[(15,.d (cb b))]) (λ_=>[]) 6000 ?_ ?_
 ·skip
  repeat'(first|refine bl ?_|refine bS (λh=>?_) (λh=>?_)|refine aF (aLI w hw r 6 x.of false) (bw ?_)|refine aF (aLI w hw r 11 x.of false) (bw ?_)|refine aF (aLI w hw r 15 x.by_ true) (bw ?_)|refine aF (aOQ w hw n x.of v (hv aM)) (bw ?_))
  all_goals try(apply vT;apply bI;rotate_left;exact mZ;unfold R4.EK;(repeat(first|rw[aT7 oM]|rw[aUF oM]));all_goals((try unfold R4.n4);first|(simp_all;done)|(simp_all;omega)))
  ·refine bV mix (λa:Nat×Bool=>a.1<=w.aT4.length/\a.2=((!decide (x.set=v))&&(w.aT4.take a.1).all (FX r x))) (I:=λa=>[(0,.d (.ip w.aT1)),(1,.d (ci r)),(5,.lp 1 0),(15,.d (cb a.2)),(17,.d (ci a.1))])
    (J:=λa=>[(1,.cells false (x.aT1.map A.d))]) (μ:=λa=>w.aT4.length -a.1) 7000 (0,!decide (x.set=v)) ⟨dM,sM⟩ mZ ?_
   rintro⟨i,b⟩ ⟨hi,hb⟩;dsimp only at hi hb⊢;have aWW:∀b:Bool,b=((!decide (x.set=v))&&w.aT4.all (FX r x))->b=w.EK r x v:=λb e=>by
    rw[e];unfold R4.EK;(repeat(first|rw[aT7 oM]|rw[aUF oM]));simp_all
   by_cases hlt:i<w.aT4.length
   ·obtain⟨hk0,hk1⟩:=hw.kind _ (aY hlt);have hs:=aQY (FX r x) w.aT4 i hlt;cases b with
    |true=>
     repeat'(first|refine bl ?_|refine bS (λh=>?_) (λh=>?_)|refine cD rfl eD aM (bw ?_))
     all_goals try(exfalso;omega)
     all_goals
      have hb2:∀c:Bool,c=FX r x w.aT4[i]->c=(!decide (x.set=v)&&(w.aT4.take (i+1)).all (FX r x)):=λc e=>by
       rw[hs,<-Bool.and_assoc,<-hb,e];simp
      first
      |exact⟨(i+1,true),dM,⟨dM,hb2 _ (by first|exact aV5 aM|exact aV6 aM|exact aV7 aM)⟩,mZ⟩
      |exact⟨(i+1,!decide (w.aT4[i].bQ.set=x.set)),dM,⟨dM,hb2 _ (aV8 aM aM aM)⟩,mZ⟩
    |false=>
     repeat'(first|refine bl ?_|refine bS (λh=>?_) (λh=>?_))
     all_goals try(exfalso;omega)
     all_goals(apply vT;apply bI;rotate_left;exact mZ;exact aWW _ (aOH hb))
   ·rw[aI oM]at hb
    repeat'(first|refine bl ?_|refine bS (λh=>?_) (λh=>?_))
    all_goals try(exfalso;omega)
    all_goals(apply vT;apply bI;rotate_left;exact mZ;exact aWW _ hb)
  ·refine bV mix (λa:Nat×Bool=>a.1<=w.aT4.length/\a.2=((false)&&(w.aT4.take a.1).all (FX r x))) (I:=λa=>[(0,.d (.ip w.aT1)),(1,.d (ci r)),(5,.lp 1 0),(15,.d (cb a.2)),(17,.d (ci a.1))])
    (J:=λa=>[(1,.cells false (x.aT1.map A.d))]) (μ:=λa=>w.aT4.length -a.1) 7000 (0,false) ⟨dM,sM⟩ mZ ?_
   rintro⟨i,b⟩ ⟨hi,hb⟩;dsimp only at hi hb⊢;have aWW:∀b:Bool,b=((false)&&w.aT4.all (FX r x))->b=w.EK r x v:=λb e=>by
    rw[e];unfold R4.EK;(repeat(first|rw[aT7 oM]|rw[aUF oM]));simp_all
   obtain rfl:b=false:=by simpa using hb
   repeat'(first|refine bl ?_|refine bS (λh=>?_) (λh=>?_))
   all_goals(apply vT;apply bI;rotate_left;exact mZ;exact aWW _ rfl)
  ·refine bV mix (λa:Nat×Bool=>a.1<=w.aT4.length/\a.2=((false)&&(w.aT4.take a.1).all (FX r x))) (I:=λa=>[(0,.d (.ip w.aT1)),(1,.d (ci r)),(5,.lp 1 0),(15,.d (cb a.2)),(17,.d (ci a.1))])
    (J:=λa=>[(1,.cells false (x.aT1.map A.d))]) (μ:=λa=>w.aT4.length -a.1) 7000 (0,false) ⟨dM,sM⟩ mZ ?_
   rintro⟨i,b⟩ ⟨hi,hb⟩;dsimp only at hi hb⊢;have aWW:∀b:Bool,b=((false)&&w.aT4.all (FX r x))->b=w.EK r x v:=λb e=>by
    rw[e];unfold R4.EK;(repeat(first|rw[aT7 oM]|rw[aUF oM]));simp_all
   obtain rfl:b=false:=by simpa using hb
   repeat'(first|refine bl ?_|refine bS (λh=>?_) (λh=>?_))
   all_goals(apply vT;apply bI;rotate_left;exact mZ;exact aWW _ rfl)
 rintro b rfl
 repeat'(first|refine bl ?_|refine bS (λh=>?_) (λh=>?_))
 ·unfold R4.RV;rw[aT7 (by rw[hro];decide),aT7 (by rw[hla];decide),aT7 (by rw[h];decide)];exact .one (.d _)
 ·unfold R4.RV;rw[aT7 (by rw[hro];decide),aT7 (by rw[hla];decide),aUF aM];exact .one (.d _)
theorem rU8{n:Int}(h:0<=n)(h':n<=255):MN .u8 n:=by
 simp[MN,IntKind.min,IntKind.max,IntKind.signed,IntKind.bits];omega
def aW8:Nat->Int->Nat
 |0,_=>0
 |n+1,a=>if a<=0 then 0 else aW8 n (aB8 a (a -1))+1
def aAK(a:Int):Nat:=aW8 9 a
theorem aRZ:((List.range 256).all λk=>decide (aAK k<=8)&&(Nat.beq k 0||(decide (aAK k=aAK (aB8 k (k -1))+1)&&(decide (0<=aB8 k (k -1))&&decide (aB8 k (k -1)<k)))))=true:=kK
theorem aQ9(a:Int)(h0:0<=a)(h1:a<=255):aAK a<=8:=by
 have hx:((a.toNat:Nat):Int)=a:=oM;have:=cV.1 aRZ a.toNat (jI.2 oM);rw[hx,aE]at this;exact aUL this.1
theorem aWH(a:Int)(h0:0<a)(h1:a<=255):aAK a=aAK (aB8 a (a -1))+1/\0<=aB8 a (a -1)/\aB8 a (a -1)<a:=by
 have hx:((a.toNat:Nat):Int)=a:=oM;have:=cV.1 aRZ a.toNat (jI.2 oM);have hz:Nat.beq a.toNat 0=false:=by
  cases h:Nat.beq a.toNat 0 with
  |false=>rfl
  |true=>have:=bB h;omega
 rw[hz,hx]at this;simp only[Bool.false_or,aE,aUA]at this;exact this.2
theorem aW9:aAK 0=0:=rfl
def R4.tY(w:R4)(r:Int):Int:=(w.MD (w.aT4.length+1) r).getD 0
theorem aTL(k s:Int)(h0:0<=s)(h1:s<256):0<=aD8 k s/\aD8 k s<=255:=by
 unfold aD8
 repeat(first|(split;omega))
 omega
theorem R4.VA{w:R4}(hs:∀t∈w.aT4,0<=t.bQ.set/\t.bQ.set<256):∀(n:Nat)(r v:Int),w.MD n r=some v->0<=v/\v<=255
 |0,r,v,h=>by cases h
 |n+1,r,v,h=>by
  rw[R4.MD]at h;cases hf:w.find r with
  |none=>rw[hf]at h;have:=eY h;omega
  |some t=>
   rw[hf]at h;have hm:=hs t (cT hf);dsimp only at h;split at h
   ·exact R4.VA hs n _ v h
   ·rw[<-Option.some.inj h];exact aTL _ _ hm.1 hm.2
def R4.term(w:R4)(t:T4):Int:=if t.bQ.kind=14 then -1 else 2^aAK (w.tY t.ref)-1
def R4.oL(w:R4):List T4->Int
 |[]=>0
 |t::L=>w.term t+R4.oL w L
theorem R4.aQR(w:R4)(L:List T4)(i:Nat)(h:i<L.length):w.oL (L.take (i+1))=w.oL (L.take i)+w.term L[i]:=by
 have a1Y:∀(a b:List T4),w.oL (a++b)=w.oL a+w.oL b:=λa b=>by
  induction a with
  |nil=>simp[R4.oL]
  |cons t a ih=>simp only[bW,R4.oL,ih];omega
 rw[aT h,a1Y];simp[R4.oL]
theorem aWI(n:Nat)(h:n<=8):1<=(2:Int)^n/\(2:Int)^n<=256:=by
 have h1:(2:Nat)^n<=2^8:=Nat.pow_le_pow_right oM h;have h2:0<(2:Nat)^n:=Nat.pos_of_ne_zero sM;have e:((2:Nat)^n:Int)=(2:Int)^n:=sM;omega
structure R4.ends(w:R4):Prop extends w.wt where
 set:∀t∈w.aT4,0<=t.bQ.set/\t.bQ.set<256
 jR:∀t∈w.aT4,t.bQ.kind≠14->(w.MD (w.aT4.length+1) t.ref).isSome=true
theorem R4.ends.MD{w:R4}(h:w.ends){t:T4}(ht:t∈w.aT4)(hk:t.bQ.kind≠14):w.MD (w.aT4.length+1) t.ref=some (w.tY t.ref):=by
 have:=h.jR t ht hk;unfold R4.tY;cases e:w.MD (w.aT4.length+1) t.ref with
 |none=>rw[e]at this;cases this
 |some v=>rfl
theorem R4.ends.bd{w:R4}(h:w.ends){t:T4}(ht:t∈w.aT4)(hk:t.bQ.kind≠14):0<=w.tY t.ref/\w.tY t.ref<=255:=R4.VA h.set _ _ _ (h.MD ht hk)
theorem R4.ends.term{w:R4}(h:w.ends){t:T4}(ht:t∈w.aT4):-1<=w.term t/\w.term t<=255:=by
 unfold R4.term;by_cases hk:t.bQ.kind=14
 ·rw[aUF hk];omega
 ·rw[aT7 hk];have hb:=h.bd ht hk;have:=aWI _ (aQ9 _ hb.1 hb.2);omega
theorem R4.ends.spare{w:R4}(h:w.ends):∀(L:List T4),(∀t∈L,t∈w.aT4)->-(L.length:Int)<=w.oL L/\w.oL L<=255*L.length
 |[],_=>by simp[R4.oL]
 |t::L,hL=>by
  have h1:=h.term (hL t sM);have h2:=h.spare L λt ht=>hL t (by simp[ht]);simp only[R4.oL,aQ];omega
theorem aS9(w:R4)(hw:w.ends):Pu 103 [.d (.ip w.aT1)] (.d (ci (w.oL w.aT4))):=by
 have hlen:=hw.len;refine iC mix Tryz.func103 ?_;refine bl ?_;refine bV mix (λi:Nat=>i<=w.aT4.length) (I:=λi=>[(0,.d (.ip w.aT1)),(3,.d (ci (w.oL (w.aT4.take i)))),(4,.d (ci i))])
  (J:=λi=>[]) (μ:=λi=>w.aT4.length -i) 1000 0 (Nat.zero_le _) mZ ?_
 rintro i hi;have hsb:=hw.spare (w.aT4.take i) λt ht=>dJ ht;rw[cW]at hsb;by_cases hlt:i<w.aT4.length
 ·obtain⟨hk0,hk1⟩:=hw.kind _ (aY hlt);have hst:=w.aQR w.aT4 i hlt;have aWE:=aY hlt;by_cases h14:w.aT4[i].bQ.kind=14
  ·have ht:w.term w.aT4[i]=-1:=by unfold R4.term;rw[aUF h14]
   repeat'(first|refine bl ?_|refine bS (λh=>?_) (λh=>?_)|refine cD rfl eD hlt (bw ?_))
   all_goals try(exfalso;omega)
   exact⟨i+1,oM,oM,mZ⟩
  ·have ht:w.term w.aT4[i]=2^aAK (w.tY w.aT4[i].ref)-1:=by unfold R4.term;rw[aT7 h14]
   have hb:=hw.bd aWE h14;have hpl:=aQ9 _ hb.1 hb.2;have hpw:=aWI _ hpl;have hab:=hw.MD aWE h14
   repeat'(first|refine bl ?_|refine bS (λh=>?_) (λh=>?_)|refine cD rfl eD hlt (bw ?_)|refine aF (aOQ w hw.towt _ w.aT4[i].ref _ hab) (bw ?_))
   all_goals try(exfalso;omega)
   clear hab;generalize w.tY w.aT4[i].ref=v at ht hb hpl hpw⊢;refine cY mix (λa:Int×Int=>(0<=a.1/\a.1<=255)/\(1<=a.2/\a.2<=256)/\a.2*2^aAK a.1=2^aAK v) (I:=λa=>[(0,.d (.ip w.aT1)),(3,.d (ci (w.oL (w.aT4.take i)))),(4,.d (ci i)),(6,.d (ci a.2)),(7,.d (.v (.int .u8 a.1)))])
    (J:=λa=>[]) (μ:=λa=>a.1.toNat) 2000 (v,1) 2
    (λ_:Unit=>True) (λ_=>[(0,.d (.ip w.aT1)),(3,.d (ci (w.oL (w.aT4.take i)))),(4,.d (ci i)),(6,.d (ci (2^aAK v)))]) (λ_=>[]) 4000 ⟨hb,dM,sM⟩ mZ ?_ ?_
   ·rintro⟨a,z⟩ ⟨ha,hz,he⟩;dsimp only at ha hz he⊢
    repeat'(first|refine bl ?_|refine bS (λh=>?_) (λh=>?_))
    ·refine FC.mk (rU8 oM oM) ?_;conv=>whnf
     refine bl ?_;obtain⟨g1,g2,g3⟩:=aWH a oM ha.2;have g4:2*z*2^aAK (aB8 a (a -1))=2^aAK v:=by rw[<-he,g1,Int.pow_succ];rw[Int.mul_comm 2 z,Int.mul_assoc,Int.mul_comm 2]
     have g5:=aWI _ (aQ9 (aB8 a (a -1)) g2 oM);have g6:2*z*1<=2*z*2^aAK (aB8 a (a -1)):=Int.mul_le_mul_of_nonneg_left g5.1 oM;exact⟨(aB8 a (a -1),2*z),dM,⟨dM,dM,g4⟩,mZ⟩
    ·have h0:a=0:=oM;subst h0;rw[aW9,Int.pow_zero,Int.mul_one]at he;subst he;exact⟨(),tV,mZ⟩
   ·rintro _ _;refine bl ?_;exact⟨i+1,oM,oM,mZ⟩
 ·skip
  repeat'(first|refine bl ?_|refine bS (λh=>?_) (λh=>?_))
  all_goals try(exfalso;omega)
  rw[aI oM];exact oF rfl
abbrev qM(L:List Bool):List (List C):=L.map λb=>[cb b]
theorem aVH(L:List Int)(hll:L.length<=2^38)(hn:¬(L.length<16/\zD L 0=true)):Pu 96 [.d (.sl 1 (iR L))] (.eL [.d H5,.d (ci 71)]):=by
 refine iC mix Tryz.func96 ?_
 repeat'(first|refine bl ?_|refine bS (λh=>?_) (λh=>?_))
 ·exact .eL (cs:=[H5,ci 71]) (.cons (.d _) (.cons (.d _) .nil))
 have hn:zD L 0=false:=by
  cases h:zD L 0 with
  |false=>rfl
  |true=>exact absurd ⟨oM,h⟩ hn
 refine FC.mk (RG (by simp only[aB];omega) (by simp only[aB];omega)) ?_;conv=>whnf
 skip
 refine WH kK kK (by simp only[aB];omega) (by simp only[aB];omega) kK rfl ?_;conv=>whnf
 skip
 refine WH kK kK (by simp only[aB];omega) (by simp only[aB];omega) kK rfl ?_;conv=>whnf
 refine bl ?_;have e1:List.replicate (((List.map (λx=>List.map A.d x) (iR L)).length:Int)+1).toNat (List.map A.d (zc Tryz.prog 8 3))=bE (iR (List.replicate (L.length+1) 0)):=by
  have e:zc Tryz.prog 8 3=[ci 0]:=kK;rw[e,aB,aB,show((L.length:Int)+1).toNat=L.length+1 by omega];simp[bE,iR]
 have e2:List.replicate ((List.map (λx=>List.map A.d x) (iR L)).length:Int).toNat (List.map A.d (zc Tryz.prog 8 4))=bE (qM (List.replicate L.length false)):=by
  have e:zc Tryz.prog 8 4=[cb false]:=kK;rw[e,aB,aB,lB];simp[bE]
 rw[e1,e2];refine bV mix (λa:Nat×List Int=>a.1<=L.length/\a.2=L.take a.1/\zD (L.drop a.1) a.1=false) (I:=λa=>[(0,.d (.sl 1 (iR L))),(4,.lp 105 0),(5,.d (ci a.1))])
  (J:=λa=>(105,.cells false [lv 1 900 (iR a.2),.h 89,.d (.nl 17),.d (ci 0),.h 65])::lm 900 3 1 (iR a.2) [(89,dU 4 1 (qM (List.replicate L.length false))),(65,dU 3 1 (iR (List.replicate (L.length+1) 0)))]) (μ:=λa=>L.length -a.1) 1000 (0,[]) ⟨dM,rfl,hn⟩ mZ ?_
 rintro⟨i,Q⟩ ⟨hi,hQ,hk⟩;dsimp only at hi hQ hk⊢;by_cases hlt:i<L.length
 ·rw[TQ L i hlt]at hk;have hk2:(decide (0<=L[i])&&decide (L[i]<=(i:Int))&&zD (L.drop (i+1)) ((i+1:Nat):Int))=false->0<=L[i]->L[i]<=(i:Int)->zD (L.drop (i+1)) ((i+1:Nat):Int)=false:=λh a b=>by rw[aUZ a,aUZ b]at h;simpa using h
  cases Q with
  |nil=>
   show vc _ _ _ _ _ [(105,.cells false [.d (.nl 1),.h 89,.d (.nl 17),.d (ci 0),.h 65]),(89,dU 4 1 (qM (List.replicate L.length false))),(65,dU 3 1 (iR (List.replicate (L.length+1) 0)))] _ _
   repeat'(first|refine bl ?_|refine bS (λh=>?_) (λh=>?_)|refine cD rfl eD hlt (bw ?_))
   all_goals first
    |(exfalso;omega)
    |exact .eL (cs:=[H5,ci 71]) (.cons (.d _) (.cons (.d _) .nil))
    |skip
   ·refine n8 (by simp only[cE,aS];omega) kK ?_;conv=>whnf
    refine E9.mk (λh1=>absurd h1 sM) (λh1=>?_);conv=>whnf
    refine bl ?_;refine⟨(i+1,[L[i]]),dM,⟨dM,by dsimp only;rw[aT hlt,<-hQ];rfl,hk2 hk oM oM⟩,?_⟩;dsimp only[iR,List.map_cons,List.map_nil,lv,lm];exact mv 1216 900
    all_goals exact cO rfl rfl
  |cons r Q=>
   show vc _ _ _ _ _ [(105,.cells false [.h 900,.h 89,.d (.nl 17),.d (ci 0),.h 65]),(900,dU 3 1 (iR (r::Q))),(89,dU 4 1 (qM (List.replicate L.length false))),(65,dU 3 1 (iR (List.replicate (L.length+1) 0)))] _ _;have hql:(r::Q).length<=i:=by rw[hQ,cW];omega
   repeat'(first|refine bl ?_|refine bS (λh=>?_) (λh=>?_)|refine cD rfl eD hlt (bw ?_))
   all_goals first
    |(exfalso;omega)
    |exact .eL (cs:=[H5,ci 71]) (.cons (.d _) (.cons (.d _) .nil))
    |skip
   ·refine n8 (by simp only[cE,aS,aB,aQ,bE];simp only[aQ]at hql;omega) kK ?_;conv=>whnf
    refine bl ?_;refine⟨(i+1,r::(Q++[L[i]])),dM,⟨dM,by dsimp only;rw[aT hlt,<-hQ];rfl,hk2 hk oM oM⟩,?_⟩;dsimp only[iR,List.map_cons,List.map_nil,lv,lm];refine mq 1216 900 ?_
    all_goals exact cO rfl (gG (r::Q) [L[i]])
 ·rw[dT oM]at hk;rw[aI oM]at hQ;cases hk
def aVP(L:List Int):List (Nat×R):=[(204,.cells false [.d (.sl 1 (iR L)),.h 188,.d (.nl 17),.d (ci 0),.h 164]),(188,dU 4 1 (qM (List.replicate L.length false))),(164,dU 3 1 (iR (List.replicate (L.length+1) 0)))]
theorem aVI(L:List Int)(hll:L.length<16)(hp:zD L 0=true):aJ Tryz.prog 96 [.d (.sl 1 (iR L))] (aK []) (.ok (.eL [.lp 204 0,.d (ci 0)])) (aH (aK []) (aVP L)):=by
 refine wE mix 100 Tryz.func96 ?_ ?_ ?_
 ·exact⟨sn,tV⟩
 ·exact⟨⟨sn,sn,tV⟩,aZ,aZ,tV⟩
 repeat'(first|refine bl ?_|refine bS (λh=>?_) (λh=>?_))
 ·exfalso;(try simp only[aB]at*);omega
 refine FC.mk (RG (by simp only[aB];omega) (by simp only[aB];omega)) ?_;conv=>whnf
 skip
 refine WH kK kK (by simp only[aB];omega) (by simp only[aB];omega) kK rfl ?_;conv=>whnf
 skip
 refine WH kK kK (by simp only[aB];omega) (by simp only[aB];omega) kK rfl ?_;conv=>whnf
 refine bl ?_;have e1:List.replicate (((List.map (λx=>List.map A.d x) (iR L)).length:Int)+1).toNat (List.map A.d (zc Tryz.prog 8 3))=bE (iR (List.replicate (L.length+1) 0)):=by
  have e:zc Tryz.prog 8 3=[ci 0]:=kK;rw[e,aB,aB,show((L.length:Int)+1).toNat=L.length+1 by omega];simp[bE,iR]
 have e2:List.replicate ((List.map (λx=>List.map A.d x) (iR L)).length:Int).toNat (List.map A.d (zc Tryz.prog 8 4))=bE (qM (List.replicate L.length false)):=by
  have e:zc Tryz.prog 8 4=[cb false]:=kK;rw[e,aB,aB,lB];simp[bE]
 rw[e1,e2];refine cY mix (λa:Nat×List Int=>a.1<=L.length/\a.2=L.take a.1/\zD (L.drop a.1) a.1=true) (I:=λa=>[(0,.d (.sl 1 (iR L))),(4,.lp 204 0),(5,.d (ci a.1))])
  (J:=λa=>(204,.cells false [lv 1 900 (iR a.2),.h 188,.d (.nl 17),.d (ci 0),.h 164])::lm 900 3 1 (iR a.2) [(188,dU 4 1 (qM (List.replicate L.length false))),(164,dU 3 1 (iR (List.replicate (L.length+1) 0)))]) (μ:=λa=>L.length -a.1) 1000 (0,[]) 0
  (λQ:List Int=>Q=L) (λ_=>[(4,.lp 204 0)]) (λ_=>[(204,.cells false [.d (.sl 1 (iR L)),.h 188,.d (.nl 17),.d (ci 0),.h 164]),(188,dU 4 1 (qM (List.replicate L.length false))),(164,dU 3 1 (iR (List.replicate (L.length+1) 0)))]) 2000 ⟨dM,rfl,hp⟩ mZ ?_ ?_
 ·rintro⟨i,Q⟩ ⟨hi,hQ,hk⟩;dsimp only at hi hQ hk⊢;by_cases hlt:i<L.length
  ·rw[TQ L i hlt]at hk;simp only[aE,aUA]at hk;cases Q with
   |nil=>
    show vc _ _ _ _ _ [(204,.cells false [.d (.nl 1),.h 188,.d (.nl 17),.d (ci 0),.h 164]),(188,dU 4 1 (qM (List.replicate L.length false))),(164,dU 3 1 (iR (List.replicate (L.length+1) 0)))] _ _
    repeat'(first|refine bl ?_|refine bS (λh=>?_) (λh=>?_)|refine cD rfl eD hlt (bw ?_))
    all_goals first
     |(exfalso;omega)
     |(exfalso;omega)
     |skip
    ·refine n8 (by simp only[cE,aS];omega) kK ?_;conv=>whnf
     refine E9.mk (λh1=>absurd h1 sM) (λh1=>?_);conv=>whnf
     refine bl ?_;refine⟨(i+1,[L[i]]),dM,⟨dM,by dsimp only;rw[aT hlt,<-hQ];rfl,hk.2⟩,?_⟩;dsimp only[iR,List.map_cons,List.map_nil,lv,lm];exact mv 1216 900
     all_goals exact cO rfl rfl
   |cons r Q=>
    show vc _ _ _ _ _ [(204,.cells false [.h 900,.h 188,.d (.nl 17),.d (ci 0),.h 164]),(900,dU 3 1 (iR (r::Q))),(188,dU 4 1 (qM (List.replicate L.length false))),(164,dU 3 1 (iR (List.replicate (L.length+1) 0)))] _ _;have hql:(r::Q).length<=i:=by rw[hQ,cW];omega
    repeat'(first|refine bl ?_|refine bS (λh=>?_) (λh=>?_)|refine cD rfl eD hlt (bw ?_))
    all_goals first
     |(exfalso;omega)
     |(exfalso;omega)
     |skip
    ·refine n8 (by simp only[cE,aS,aB,aQ,bE];simp only[aQ]at hql;omega) kK ?_;conv=>whnf
     refine bl ?_;refine⟨(i+1,r::(Q++[L[i]])),dM,⟨dM,by dsimp only;rw[aT hlt,<-hQ];rfl,hk.2⟩,?_⟩;dsimp only[iR,List.map_cons,List.map_nil,lv,lm];refine mq 1216 900 ?_
     all_goals exact cO rfl (gG (r::Q) [L[i]])
  ·rw[dT oM]at hk;rw[aI oM]at hQ;cases Q with
   |nil=>
    show vc _ _ _ _ _ [(204,.cells false [.d (.nl 1),.h 188,.d (.nl 17),.d (ci 0),.h 164]),(188,dU 4 1 (qM (List.replicate L.length false))),(164,dU 3 1 (iR (List.replicate (L.length+1) 0)))] _ _
    repeat'(first|refine bl ?_|refine bS (λh=>?_) (λh=>?_)|refine cD rfl eD aM (bw ?_))
    all_goals try(exfalso;omega)
    exact⟨[],hQ,cN.freeze [] tV ⟨.same _,tV⟩ ⟨⟨rfl,_,rfl,.cells (.cons (.rd (aVF hQ.symm)) (.same _))⟩,⟨rfl,_,rfl,.fW (.same _)⟩,⟨rfl,_,rfl,.fW (.same _)⟩,tV⟩ ⟨⟨nofun,tV⟩,tV⟩ ⟨⟨nofun,nofun,tV⟩,aZ,aZ,tV⟩⟩
   |cons r Q=>
    show vc _ _ _ _ _ [(204,.cells false [.h 900,.h 188,.d (.nl 17),.d (ci 0),.h 164]),(900,dU 3 1 (iR (r::Q))),(188,dU 4 1 (qM (List.replicate L.length false))),(164,dU 3 1 (iR (List.replicate (L.length+1) 0)))] _ _
    repeat'(first|refine bl ?_|refine bS (λh=>?_) (λh=>?_)|refine cD rfl eD aM (bw ?_))
    all_goals try(exfalso;omega)
    exact⟨r::Q,hQ,by rw[<-hQ];exact cN.freeze [900] tV ⟨.same _,tV⟩ ⟨⟨rfl,_,rfl,.cells (.cons (.rd (.dU (eX rfl rfl))) (.same _))⟩,⟨rfl,_,rfl,.fW (.same _)⟩,⟨rfl,_,rfl,.fW (.same _)⟩,tV⟩ ⟨⟨nofun,tV⟩,tV⟩ ⟨⟨nofun,nofun,tV⟩,aZ,aZ,tV⟩⟩
 ·rintro Q rfl;refine bl ?_;exact dA rfl ⟨.inr rfl,.inr rfl,.inr rfl,tV⟩
end Go.Pv
