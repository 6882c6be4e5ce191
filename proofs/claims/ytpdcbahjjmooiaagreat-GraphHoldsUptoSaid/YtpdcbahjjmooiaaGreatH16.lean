import Derived.Test.YtpdcbahjjmooiaaGreatH15
/- A program logic over the model, contracts of the functions that the law reaches: part 16. (Names and blanks were shortened by program.) -/
set_option linter.unusedVariables false
set_option linter.unusedSimpArgs false
set_option linter.constructorNameAsVariable false
set_option linter.unusedSectionVars false
set_option linter.deprecated false
set_option maxRecDepth 100000
set_option maxHeartbeats 8000000
open Go Go.Proofs
namespace Go.Pv
open Go.RowKit
variable{P:Program}{kt:TypeId}{r:Int}{w:D4}{F:List ((Int×Int)×Int)}{t:T4}
mutual
theorem OV:∀(v:V)(p d:Int),(mQ v p d).1=true->v.NX
 |.mk k n s l r,p,d,h=>by
  rw[mQ]at h;split at h
  ·cases h
  ·split at h
   ·rename_i hk;simp only[aUA]at h;have:l=[]:=bL oM;subst this;exact⟨λ_=>rfl,tV⟩
   ·split at h
    ·simp only[aUA]at h;have:l=[]:=bL oM;subst this;exact⟨λ_=>rfl,tV⟩
    ·split at h
     ·split at h
      ·cases h
      ·simp only[aUA]at h;have:l=[]:=bL oM;subst this;exact⟨λ_=>rfl,tV⟩
     ·split at h
      ·split at h
       ·cases h
       ·simp only[aUA]at h;have:l=[]:=bL oM;subst this;exact⟨λ_=>rfl,tV⟩
      ·split at h
       ·rename_i hk4 hk3;split at h
        ·cases h
        ·refine⟨λe=>absurd e oM,?_⟩;cases hq:nG l (p -1) (d -1)with
         |mk b q=>
          obtain⟨q1,q2⟩:=q;rw[hq]at h;cases b with
          |false=>cases h
          |true=>exact OU l (p -1) (d -1) (by rw[hq])
       ·cases h
theorem OU:∀(l:List V)(p d:Int),(nG l p d).1=true->V.aEB l
 |[],p,d,h=>trivial
 |v::r,p,d,h=>by
  rw[nG]at h;cases hq:mQ v p d with
  |mk b q=>
   obtain⟨q1,q2⟩:=q;rw[hq]at h;cases b with
   |false=>cases h
   |true=>exact⟨OV v p d (by rw[hq]),OU r q1 q2 h⟩
end
theorem V.QG(v:V)(h:v.may=true):v.NX:=by
 refine OV v 512 16 ?_;unfold V.may V.aHT at h;cases hq:mQ v 512 16 with
 |mk b q=>
  obtain⟨q1,q2⟩:=q;rw[hq]at h;cases b with
  |false=>simp at h
  |true=>rfl
def V.eI(v:V):List Int:=if v.may=true then v.refs else []
theorem V.iY(v:V):v.eI.length<=v.cR:=by
 unfold V.eI;split
 ·exact V.EO v
 ·simp
theorem jG(v:V)(hv:v.cR<=2^35):Pu 72 [.d (.agg v.aT1)] (.d (.sl 1 (iR v.eI))):=by
 refine iC mix Tryz.func72 ?_;refine bl ?_;refine fT (cs:=v.aT1) (AL v oM) ?_;conv=>whnf
 repeat'(first|refine bl ?_|refine bS (λh=>?_) (λh=>?_))
 ·have mS:=v.QG h;by_cases hr:v.refs=[]
  ·refine dR (rL v oM hr [] (by simp only[cS];omega)) (.cons (.agg v.aT1) (.cons (.nl 0 1) (.cons (.fn .nil (.cons (.x _) .nil)) .nil))) ?_;conv=>whnf
   refine bl ?_;rw[show v.eI=[] by unfold V.eI;rw[aUF h,hr]];exact .one (.nz _ _)
  ·refine dZ.mk (.d (cb true)) [(17,.cells false [.h 2]),(2,dU 25 1 (iR v.refs))] ?_ ?_
   ·refine(aJ.UU (W6 v oM mS hr [] (by simp only[cS];omega)) (.v _) (g:=swp 0 17) (gi:=swp 0 17) (fH _ _) (fH _ _) (mb':=[(17,.cells false [.d (.nl 1)])]) ?_ ?_ [] (xs':=[.d (.agg v.aT1),.d (.sl 1 []),.fn (.func 131) [] [.lp 17 0]]) (.same _) ?_ ?_ ?_ ?_ ?_ ?_ ?_).mR (.cons (.agg v.aT1) (.cons (.nl 0 1) (.cons (.same _) .nil)))
    ·simp only[lH,aG,bM,eT];rfl
    ·simp only[lH,aG,bM,eT];rfl
    all_goals(repeat'(first|exact aW|exact rfl|exact sn|exact rS sn|exact eV rfl|exact vL _ _|exact nY rfl|refine bI ?_ ?_))
   ·conv=>whnf
    refine bl ?_;rw[show v.eI=v.refs by unfold V.eI;rw[aUF h]];exact .one (.dU (t:=25) rfl)
 ·rw[show v.eI=[] by unfold V.eI;rw[aT7 (by rw[h];simp)]];exact .one (.nz _ _)
theorem O4(v:V)(hv:v.cR<=2^35)(h0:v.eI=[]):Pu 72 [.d (.agg v.aT1)] (.d (.nl 1)):=by
 refine iC mix Tryz.func72 ?_;refine bl ?_;refine fT (cs:=v.aT1) (AL v oM) ?_;conv=>whnf
 repeat'(first|refine bl ?_|refine bS (λh=>?_) (λh=>?_))
 ·have mS:=v.QG h;have hr:v.refs=[]:=by unfold V.eI at h0;rwa [aUF h]at h0
  refine dR (rL v oM hr [] (by simp only[cS];omega)) (.cons (.agg v.aT1) (.cons (.nl 0 1) (.cons (.fn .nil (.cons (.x _) .nil)) .nil))) ?_;conv=>whnf
  refine bl ?_;exact .one (.d _)
 ·exact .one (.d _)
theorem O3(v:V)(hv:v.cR<=2^35)(h0:v.eI≠[]):∀(m:Mem)(d:Nat),m d=none->aJ Tryz.prog 72 [.d (.agg v.aT1)] m (.ok (.h d)) (aX m d (dU 25 1 (iR v.eI))):=by
 refine iW mix (F:=A.h) (r:=dU 25 1 (iR v.eI)) Tryz.func72 rfl kK (bD rfl) rfl (oJ _ _ _) (λ_ _=>rfl) (λi j hj=>by simpa [A.hs]using hj) (λg=>eT g _ _ _) ?_;refine bl ?_;refine fT (cs:=v.aT1) (AL v oM) ?_;conv=>whnf
 repeat'(first|refine bl ?_|refine bS (λh=>?_) (λh=>?_))
 ·have mS:=v.QG h;have e:v.eI=v.refs:=by unfold V.eI;rw[aUF h]
  have hr:v.refs≠[]:=by rwa [e]at h0
  refine dZ.mk (.d (cb true)) [(17,.cells false [.h 2]),(2,dU 25 1 (iR v.refs))] ?_ ?_
  ·refine(aJ.UU (W6 v oM mS hr [] (by simp only[cS];omega)) (.v _) (g:=swp 0 17) (gi:=swp 0 17) (fH _ _) (fH _ _) (mb':=[(17,.cells false [.d (.nl 1)])]) ?_ ?_ [] (xs':=[.d (.agg v.aT1),.d (.sl 1 []),.fn (.func 131) [] [.lp 17 0]]) (.same _) ?_ ?_ ?_ ?_ ?_ ?_ ?_).mR (.cons (.agg v.aT1) (.cons (.nl 0 1) (.cons (.same _) .nil)))
   ·simp only[lH,aG,bM,eT];rfl
   ·simp only[lH,aG,bM,eT];rfl
   all_goals(repeat'(first|exact aW|exact rfl|exact sn|exact rS sn|exact eV rfl|exact vL _ _|exact nY rfl|refine bI ?_ ?_))
  ·conv=>whnf
   refine bl ?_;exact⟨_,rfl,by rw[e];rfl⟩
 ·exfalso;unfold V.eI at h0;rw[aT7 (by rw[h];simp)]at h0;exact h0 rfl
theorem iU{α:Type}(f:α->List Int)(L:List α)(i:Nat)(h:i<L.length):((L.take (i+1)).map f).flatten=((L.take i).map f).flatten++f L[i]:=by
 rw[iT,bP,fJ];simp[aC h]
theorem qN(L:List V):((L.map V.eI).flatten).length<=V.dB L:=by
 induction L with
 |nil=>simp
 |cons v r ih=>have:=V.iY v;simp only[aG,dL,aU,V.dB];omega
theorem gG(a b:List Int):bE (iR a)++(iR b).map (λx=>x.map A.d)=bE (iR (a++b)):=by rw[<-aDK,ER];rfl
def W4.held(x:W4):List Int:=x.value.eI++((x.values.map V.eI).flatten++(x.names.map λn=>n.value.eI).flatten)
theorem aHG(x:W4)(hx:x.cR<=2^35):Pu 146 [.d (.agg x.aT1)] (.d (.sl 1 (iR x.held))):=by
 have hc:x.cR=x.value.cR+V.dB x.values+S4.dB x.code+x.names.length+V.dB (x.names.map (·.value)):=rfl;have wF:∀i(h:i<x.values.length),x.values[i].cR<=2^35:=λi h=>by have:=V.dG x.values i h;omega
 have SU:∀i(h:i<x.names.length),x.names[i].value.cR<=2^35:=λi h=>by
  have:=V.dG (x.names.map (·.value)) i (by simpa using h);simp only[fO]at this;omega
 have hr0:=x.value.iY;have hr1:∀i,(((x.values.take i).map V.eI).flatten).length<=V.dB x.values:=λi=>cL (qN _) (V.kA _ _);have hr2:∀i,(((x.names.take i).map λn=>n.value.eI).flatten).length<=V.dB (x.names.map (·.value)):=λi=>by
  have h1:=qN ((x.names.map (·.value)).take i);have h2:=V.kA (x.names.map (·.value)) i;have e:((x.names.take i).map λn=>n.value.eI)=((x.names.map (·.value)).take i).map V.eI:=by rw[<-List.map_take,bH];rfl
  rw[e];omega
 refine iC mix Tryz.func146 ?_;refine bl ?_;have hlv:=V.eW x.values;have hlv:=V.eW x.values;by_cases h0:x.value.eI=[]
 ·refine dR (O4 x.value oM h0) (.cons (.agg x.value.aT1) .nil) ?_;conv=>whnf
  refine bl ?_;refine bV mix (λa:Nat×List Int=>a.1<=x.values.length/\a.2=x.value.eI++((x.values.take a.1).map V.eI).flatten) (I:=λa=>[(1,.lp 1 0),(12,.d (.sl 5 (x.values.map V.row))),(13,.d (ci x.values.length)),(3,lv 1 900 (iR a.2)),(14,.d (ci a.1))])
   (J:=λa=>lm 900 25 1 (iR a.2) [(1,.cells false (x.aT1.map A.d))]) (μ:=λa=>x.values.length -a.1) 1000 (0,[]) ⟨sM,by simp[h0]⟩ mZ ?_
  rintro⟨i,Q⟩ ⟨hi,hQ⟩;dsimp only at hi hQ⊢;have hlen:Q.length<=2^36:=by
   have:=hr1 i;rw[hQ,aU];omega
  cases Q with
  |nil=>
   show vc _ _ _ _ _ [(1,.cells false (x.aT1.map A.d))] _ _
   repeat'(first|refine bl ?_|refine bS (λh=>?_) (λh=>?_))
   ·refine eE V.cP rfl eD h ?_;have eB:x.value.eI++((x.values.take (i+1)).map V.eI).flatten=x.value.eI++((x.values.take i).map V.eI).flatten++x.values[i].eI:=by rw[iU V.eI x.values i h,<-List.append_assoc]
    conv=>whnf
    refine bl ?_;refine dR (jG x.values[i] (wF i h)) (.cons (.agg x.values[i].aT1) .nil) ?_;have hq:=x.values[i].iY;have WI:=wF i h;conv=>whnf
    skip
    refine n8 (by simp only[aB];omega) kK ?_;conv=>whnf
    refine E9.mk (λh1=>?_) (λh1=>?_)
    ·have h1:x.values[i].eI=[]:=by simpa using h1
     conv=>whnf
     refine bl ?_;refine⟨(i+1,[]),dM,⟨dM,by dsimp only;rw[eB,h1,dS,<-hQ]⟩,?_⟩;exact mZ
    ·have h1:x.values[i].eI≠[]:=by simpa using h1
     conv=>whnf
     refine bl ?_;refine⟨(i+1,x.values[i].eI),dM,⟨dM,by dsimp only;rw[eB,<-hQ,bZ]⟩,?_⟩;cases wV:x.values[i].eI with
     |nil=>exact absurd wV h1
     |cons r Q=>
      dsimp only[iR,List.map_cons,lv,lm];exact mv 1064 900
      all_goals exact cO rfl (by rw[wV];rfl)
   ·have e:x.values.take i=x.values:=aI oM;rw[e]at hQ;clear hi;refine bV mix (λa:Nat×List Int=>a.1<=x.names.length/\a.2=(x.value.eI++(x.values.map V.eI).flatten)++((x.names.take a.1).map λn=>n.value.eI).flatten) (I:=λa=>[(1,.lp 1 0),(24,.d (.sl 6 (x.names.map N4.aT1))),(25,.d (ci x.names.length)),(3,lv 1 900 (iR a.2)),(26,.d (ci a.1))])
     (J:=λa=>lm 900 25 1 (iR a.2) [(1,.cells false (x.aT1.map A.d))]) (μ:=λa=>x.names.length -a.1) 1000 (0,[]) ⟨sM,by dsimp only;rw[<-hQ];simp⟩ mZ ?_
    rintro⟨i,Q⟩ ⟨hi,hQ⟩;dsimp only at hi hQ⊢;have hlen:Q.length<=2^36:=by
     have h1:=hr2 i;have h2:=hr1 x.values.length;rw[gX]at h2;rw[hQ,aU,aU];omega
    cases Q with
    |nil=>
     show vc _ _ _ _ _ [(1,.cells false (x.aT1.map A.d))] _ _
     repeat'(first|refine bl ?_|refine bS (λh=>?_) (λh=>?_))
     ·refine cD rfl eD h ?_;have eB:(x.value.eI++(x.values.map V.eI).flatten)++((x.names.take (i+1)).map λn=>n.value.eI).flatten=(x.value.eI++(x.values.map V.eI).flatten)++((x.names.take i).map λn=>n.value.eI).flatten++x.names[i].value.eI:=by rw[iU (λn:N4=>n.value.eI) x.names i h,<-List.append_assoc]
      conv=>whnf
      refine bl ?_;refine dR (jG x.names[i].value (SU i h)) (.cons (.agg x.names[i].value.aT1) .nil) ?_;have hq:=x.names[i].value.iY;have WI:=SU i h;conv=>whnf
      skip
      refine n8 (by simp only[aB];omega) kK ?_;conv=>whnf
      refine E9.mk (λh1=>?_) (λh1=>?_)
      ·have h1:x.names[i].value.eI=[]:=by simpa using h1
       conv=>whnf
       refine bl ?_;refine⟨(i+1,[]),dM,⟨dM,by dsimp only;rw[eB,h1,dS,<-hQ]⟩,?_⟩;exact mZ
      ·have h1:x.names[i].value.eI≠[]:=by simpa using h1
       conv=>whnf
       refine bl ?_;refine⟨(i+1,x.names[i].value.eI),dM,⟨dM,by dsimp only;rw[eB,<-hQ,bZ]⟩,?_⟩;cases wV:x.names[i].value.eI with
       |nil=>exact absurd wV h1
       |cons r Q=>
        dsimp only[iR,List.map_cons,lv,lm];exact mv 1072 900
        all_goals exact cO rfl (by rw[wV];rfl)
     ·have e:x.names.take i=x.names:=aI oM;rw[e,bG]at hQ;rw[show x.held=_ from hQ.symm];exact .one (.nz _ _)
    |cons r Q=>
     show vc _ _ _ _ _ [(900,dU 25 1 (iR (r::Q))),(1,.cells false (x.aT1.map A.d))] _ _
     repeat'(first|refine bl ?_|refine bS (λh=>?_) (λh=>?_))
     ·refine cD rfl eD h ?_;have eB:(x.value.eI++(x.values.map V.eI).flatten)++((x.names.take (i+1)).map λn=>n.value.eI).flatten=(x.value.eI++(x.values.map V.eI).flatten)++((x.names.take i).map λn=>n.value.eI).flatten++x.names[i].value.eI:=by rw[iU (λn:N4=>n.value.eI) x.names i h,<-List.append_assoc]
      conv=>whnf
      refine bl ?_;refine dR (jG x.names[i].value (SU i h)) (.cons (.agg x.names[i].value.aT1) .nil) ?_;have hq:=x.names[i].value.iY;have WI:=SU i h;conv=>whnf
      skip
      refine n8 (by simp only[aB,bE];omega) kK ?_;conv=>whnf
      refine bl ?_;refine⟨(i+1,r::(Q++x.names[i].value.eI)),dM,⟨dM,by dsimp only;rw[eB,<-hQ];rfl⟩,?_⟩;refine mq 1072 900 ?_
      all_goals exact cO rfl (gG (r::Q) x.names[i].value.eI)
     ·have e:x.names.take i=x.names:=aI oM;rw[e,bG]at hQ;rw[show x.held=_ from hQ.symm];exact .one (.dU (t:=25) rfl)
  |cons r Q=>
   show vc _ _ _ _ _ [(900,dU 25 1 (iR (r::Q))),(1,.cells false (x.aT1.map A.d))] _ _
   repeat'(first|refine bl ?_|refine bS (λh=>?_) (λh=>?_))
   ·refine eE V.cP rfl eD h ?_;have eB:x.value.eI++((x.values.take (i+1)).map V.eI).flatten=x.value.eI++((x.values.take i).map V.eI).flatten++x.values[i].eI:=by rw[iU V.eI x.values i h,<-List.append_assoc]
    conv=>whnf
    refine bl ?_;refine dR (jG x.values[i] (wF i h)) (.cons (.agg x.values[i].aT1) .nil) ?_;have hq:=x.values[i].iY;have WI:=wF i h;conv=>whnf
    skip
    refine n8 (by simp only[aB,bE];omega) kK ?_;conv=>whnf
    refine bl ?_;refine⟨(i+1,r::(Q++x.values[i].eI)),dM,⟨dM,by dsimp only;rw[eB,<-hQ];rfl⟩,?_⟩;refine mq 1064 900 ?_
    all_goals exact cO rfl (gG (r::Q) x.values[i].eI)
   ·have e:x.values.take i=x.values:=aI oM;rw[e]at hQ;clear hi;refine bV mix (λa:Nat×List Int=>a.1<=x.names.length/\a.2=(x.value.eI++(x.values.map V.eI).flatten)++((x.names.take a.1).map λn=>n.value.eI).flatten) (I:=λa=>[(1,.lp 1 0),(24,.d (.sl 6 (x.names.map N4.aT1))),(25,.d (ci x.names.length)),(3,lv 1 900 (iR a.2)),(26,.d (ci a.1))])
     (J:=λa=>lm 900 25 1 (iR a.2) [(1,.cells false (x.aT1.map A.d))]) (μ:=λa=>x.names.length -a.1) 1000 (0,r::Q) ⟨sM,by dsimp only;rw[<-hQ];simp⟩ mZ ?_
    rintro⟨i,Q⟩ ⟨hi,hQ⟩;dsimp only at hi hQ⊢;have hlen:Q.length<=2^36:=by
     have h1:=hr2 i;have h2:=hr1 x.values.length;rw[gX]at h2;rw[hQ,aU,aU];omega
    cases Q with
    |nil=>
     show vc _ _ _ _ _ [(1,.cells false (x.aT1.map A.d))] _ _
     repeat'(first|refine bl ?_|refine bS (λh=>?_) (λh=>?_))
     ·refine cD rfl eD h ?_;have eB:(x.value.eI++(x.values.map V.eI).flatten)++((x.names.take (i+1)).map λn=>n.value.eI).flatten=(x.value.eI++(x.values.map V.eI).flatten)++((x.names.take i).map λn=>n.value.eI).flatten++x.names[i].value.eI:=by rw[iU (λn:N4=>n.value.eI) x.names i h,<-List.append_assoc]
      conv=>whnf
      refine bl ?_;refine dR (jG x.names[i].value (SU i h)) (.cons (.agg x.names[i].value.aT1) .nil) ?_;have hq:=x.names[i].value.iY;have WI:=SU i h;conv=>whnf
      skip
      refine n8 (by simp only[aB];omega) kK ?_;conv=>whnf
      refine E9.mk (λh1=>?_) (λh1=>?_)
      ·have h1:x.names[i].value.eI=[]:=by simpa using h1
       conv=>whnf
       refine bl ?_;refine⟨(i+1,[]),dM,⟨dM,by dsimp only;rw[eB,h1,dS,<-hQ]⟩,?_⟩;exact mZ
      ·have h1:x.names[i].value.eI≠[]:=by simpa using h1
       conv=>whnf
       refine bl ?_;refine⟨(i+1,x.names[i].value.eI),dM,⟨dM,by dsimp only;rw[eB,<-hQ,bZ]⟩,?_⟩;cases wV:x.names[i].value.eI with
       |nil=>exact absurd wV h1
       |cons r Q=>
        dsimp only[iR,List.map_cons,lv,lm];exact mv 1072 900
        all_goals exact cO rfl (by rw[wV];rfl)
     ·have e:x.names.take i=x.names:=aI oM;rw[e,bG]at hQ;rw[show x.held=_ from hQ.symm];exact .one (.nz _ _)
    |cons r Q=>
     show vc _ _ _ _ _ [(900,dU 25 1 (iR (r::Q))),(1,.cells false (x.aT1.map A.d))] _ _
     repeat'(first|refine bl ?_|refine bS (λh=>?_) (λh=>?_))
     ·refine cD rfl eD h ?_;have eB:(x.value.eI++(x.values.map V.eI).flatten)++((x.names.take (i+1)).map λn=>n.value.eI).flatten=(x.value.eI++(x.values.map V.eI).flatten)++((x.names.take i).map λn=>n.value.eI).flatten++x.names[i].value.eI:=by rw[iU (λn:N4=>n.value.eI) x.names i h,<-List.append_assoc]
      conv=>whnf
      refine bl ?_;refine dR (jG x.names[i].value (SU i h)) (.cons (.agg x.names[i].value.aT1) .nil) ?_;have hq:=x.names[i].value.iY;have WI:=SU i h;conv=>whnf
      skip
      refine n8 (by simp only[aB,bE];omega) kK ?_;conv=>whnf
      refine bl ?_;refine⟨(i+1,r::(Q++x.names[i].value.eI)),dM,⟨dM,by dsimp only;rw[eB,<-hQ];rfl⟩,?_⟩;refine mq 1072 900 ?_
      all_goals exact cO rfl (gG (r::Q) x.names[i].value.eI)
     ·have e:x.names.take i=x.names:=aI oM;rw[e,bG]at hQ;rw[show x.held=_ from hQ.symm];exact .one (.dU (t:=25) rfl)
 ·refine fQ (λm d hd=>(O3 x.value oM h0 m d hd).mR (.cons (.agg x.value.aT1) .nil)) 900 rfl ?_;conv=>whnf
  refine bl ?_;refine bV mix (λa:Nat×List Int=>a.1<=x.values.length/\a.2=x.value.eI++((x.values.take a.1).map V.eI).flatten) (I:=λa=>[(1,.lp 1 0),(12,.d (.sl 5 (x.values.map V.row))),(13,.d (ci x.values.length)),(3,lv 1 900 (iR a.2)),(14,.d (ci a.1))])
   (J:=λa=>lm 900 25 1 (iR a.2) [(1,.cells false (x.aT1.map A.d))]) (μ:=λa=>x.values.length -a.1) 1000 (0,x.value.eI) ⟨sM,sM⟩ (by cases wV:x.value.eI with|nil=>exact absurd wV h0|cons r Q=>(dsimp only[iR,List.map_cons,lv,lm];exact mZ;all_goals exact cO rfl (by rw[wV];rfl))) ?_
  rintro⟨i,Q⟩ ⟨hi,hQ⟩;dsimp only at hi hQ⊢;have hlen:Q.length<=2^36:=by
   have:=hr1 i;rw[hQ,aU];omega
  cases Q with
  |nil=>
   show vc _ _ _ _ _ [(1,.cells false (x.aT1.map A.d))] _ _
   repeat'(first|refine bl ?_|refine bS (λh=>?_) (λh=>?_))
   ·refine eE V.cP rfl eD h ?_;have eB:x.value.eI++((x.values.take (i+1)).map V.eI).flatten=x.value.eI++((x.values.take i).map V.eI).flatten++x.values[i].eI:=by rw[iU V.eI x.values i h,<-List.append_assoc]
    conv=>whnf
    refine bl ?_;refine dR (jG x.values[i] (wF i h)) (.cons (.agg x.values[i].aT1) .nil) ?_;have hq:=x.values[i].iY;have WI:=wF i h;conv=>whnf
    skip
    refine n8 (by simp only[aB];omega) kK ?_;conv=>whnf
    refine E9.mk (λh1=>?_) (λh1=>?_)
    ·have h1:x.values[i].eI=[]:=by simpa using h1
     conv=>whnf
     refine bl ?_;refine⟨(i+1,[]),dM,⟨dM,by dsimp only;rw[eB,h1,dS,<-hQ]⟩,?_⟩;exact mZ
    ·have h1:x.values[i].eI≠[]:=by simpa using h1
     conv=>whnf
     refine bl ?_;refine⟨(i+1,x.values[i].eI),dM,⟨dM,by dsimp only;rw[eB,<-hQ,bZ]⟩,?_⟩;cases wV:x.values[i].eI with
     |nil=>exact absurd wV h1
     |cons r Q=>
      dsimp only[iR,List.map_cons,lv,lm];exact mv 1064 900
      all_goals exact cO rfl (by rw[wV];rfl)
   ·have e:x.values.take i=x.values:=aI oM;rw[e]at hQ;clear hi;refine bV mix (λa:Nat×List Int=>a.1<=x.names.length/\a.2=(x.value.eI++(x.values.map V.eI).flatten)++((x.names.take a.1).map λn=>n.value.eI).flatten) (I:=λa=>[(1,.lp 1 0),(24,.d (.sl 6 (x.names.map N4.aT1))),(25,.d (ci x.names.length)),(3,lv 1 900 (iR a.2)),(26,.d (ci a.1))])
     (J:=λa=>lm 900 25 1 (iR a.2) [(1,.cells false (x.aT1.map A.d))]) (μ:=λa=>x.names.length -a.1) 1000 (0,[]) ⟨sM,by dsimp only;rw[<-hQ];simp⟩ mZ ?_
    rintro⟨i,Q⟩ ⟨hi,hQ⟩;dsimp only at hi hQ⊢;have hlen:Q.length<=2^36:=by
     have h1:=hr2 i;have h2:=hr1 x.values.length;rw[gX]at h2;rw[hQ,aU,aU];omega
    cases Q with
    |nil=>
     show vc _ _ _ _ _ [(1,.cells false (x.aT1.map A.d))] _ _
     repeat'(first|refine bl ?_|refine bS (λh=>?_) (λh=>?_))
     ·refine cD rfl eD h ?_;have eB:(x.value.eI++(x.values.map V.eI).flatten)++((x.names.take (i+1)).map λn=>n.value.eI).flatten=(x.value.eI++(x.values.map V.eI).flatten)++((x.names.take i).map λn=>n.value.eI).flatten++x.names[i].value.eI:=by rw[iU (λn:N4=>n.value.eI) x.names i h,<-List.append_assoc]
      conv=>whnf
      refine bl ?_;refine dR (jG x.names[i].value (SU i h)) (.cons (.agg x.names[i].value.aT1) .nil) ?_;have hq:=x.names[i].value.iY;have WI:=SU i h;conv=>whnf
      skip
      refine n8 (by simp only[aB];omega) kK ?_;conv=>whnf
      refine E9.mk (λh1=>?_) (λh1=>?_)
      ·have h1:x.names[i].value.eI=[]:=by simpa using h1
       conv=>whnf
       refine bl ?_;refine⟨(i+1,[]),dM,⟨dM,by dsimp only;rw[eB,h1,dS,<-hQ]⟩,?_⟩;exact mZ
      ·have h1:x.names[i].value.eI≠[]:=by simpa using h1
       conv=>whnf
       refine bl ?_;refine⟨(i+1,x.names[i].value.eI),dM,⟨dM,by dsimp only;rw[eB,<-hQ,bZ]⟩,?_⟩;cases wV:x.names[i].value.eI with
       |nil=>exact absurd wV h1
       |cons r Q=>
        dsimp only[iR,List.map_cons,lv,lm];exact mv 1072 900
        all_goals exact cO rfl (by rw[wV];rfl)
     ·have e:x.names.take i=x.names:=aI oM;rw[e,bG]at hQ;rw[show x.held=_ from hQ.symm];exact .one (.nz _ _)
    |cons r Q=>
     show vc _ _ _ _ _ [(900,dU 25 1 (iR (r::Q))),(1,.cells false (x.aT1.map A.d))] _ _
     repeat'(first|refine bl ?_|refine bS (λh=>?_) (λh=>?_))
     ·refine cD rfl eD h ?_;have eB:(x.value.eI++(x.values.map V.eI).flatten)++((x.names.take (i+1)).map λn=>n.value.eI).flatten=(x.value.eI++(x.values.map V.eI).flatten)++((x.names.take i).map λn=>n.value.eI).flatten++x.names[i].value.eI:=by rw[iU (λn:N4=>n.value.eI) x.names i h,<-List.append_assoc]
      conv=>whnf
      refine bl ?_;refine dR (jG x.names[i].value (SU i h)) (.cons (.agg x.names[i].value.aT1) .nil) ?_;have hq:=x.names[i].value.iY;have WI:=SU i h;conv=>whnf
      skip
      refine n8 (by simp only[aB,bE];omega) kK ?_;conv=>whnf
      refine bl ?_;refine⟨(i+1,r::(Q++x.names[i].value.eI)),dM,⟨dM,by dsimp only;rw[eB,<-hQ];rfl⟩,?_⟩;refine mq 1072 900 ?_
      all_goals exact cO rfl (gG (r::Q) x.names[i].value.eI)
     ·have e:x.names.take i=x.names:=aI oM;rw[e,bG]at hQ;rw[show x.held=_ from hQ.symm];exact .one (.dU (t:=25) rfl)
  |cons r Q=>
   show vc _ _ _ _ _ [(900,dU 25 1 (iR (r::Q))),(1,.cells false (x.aT1.map A.d))] _ _
   repeat'(first|refine bl ?_|refine bS (λh=>?_) (λh=>?_))
   ·refine eE V.cP rfl eD h ?_;have eB:x.value.eI++((x.values.take (i+1)).map V.eI).flatten=x.value.eI++((x.values.take i).map V.eI).flatten++x.values[i].eI:=by rw[iU V.eI x.values i h,<-List.append_assoc]
    conv=>whnf
    refine bl ?_;refine dR (jG x.values[i] (wF i h)) (.cons (.agg x.values[i].aT1) .nil) ?_;have hq:=x.values[i].iY;have WI:=wF i h;conv=>whnf
    skip
    refine n8 (by simp only[aB,bE];omega) kK ?_;conv=>whnf
    refine bl ?_;refine⟨(i+1,r::(Q++x.values[i].eI)),dM,⟨dM,by dsimp only;rw[eB,<-hQ];rfl⟩,?_⟩;refine mq 1064 900 ?_
    all_goals exact cO rfl (gG (r::Q) x.values[i].eI)
   ·have e:x.values.take i=x.values:=aI oM;rw[e]at hQ;clear hi;refine bV mix (λa:Nat×List Int=>a.1<=x.names.length/\a.2=(x.value.eI++(x.values.map V.eI).flatten)++((x.names.take a.1).map λn=>n.value.eI).flatten) (I:=λa=>[(1,.lp 1 0),(24,.d (.sl 6 (x.names.map N4.aT1))),(25,.d (ci x.names.length)),(3,lv 1 900 (iR a.2)),(26,.d (ci a.1))])
     (J:=λa=>lm 900 25 1 (iR a.2) [(1,.cells false (x.aT1.map A.d))]) (μ:=λa=>x.names.length -a.1) 1000 (0,r::Q) ⟨sM,by dsimp only;rw[<-hQ];simp⟩ mZ ?_
    rintro⟨i,Q⟩ ⟨hi,hQ⟩;dsimp only at hi hQ⊢;have hlen:Q.length<=2^36:=by
     have h1:=hr2 i;have h2:=hr1 x.values.length;rw[gX]at h2;rw[hQ,aU,aU];omega
    cases Q with
    |nil=>
     show vc _ _ _ _ _ [(1,.cells false (x.aT1.map A.d))] _ _
     repeat'(first|refine bl ?_|refine bS (λh=>?_) (λh=>?_))
     ·refine cD rfl eD h ?_;have eB:(x.value.eI++(x.values.map V.eI).flatten)++((x.names.take (i+1)).map λn=>n.value.eI).flatten=(x.value.eI++(x.values.map V.eI).flatten)++((x.names.take i).map λn=>n.value.eI).flatten++x.names[i].value.eI:=by rw[iU (λn:N4=>n.value.eI) x.names i h,<-List.append_assoc]
      conv=>whnf
      refine bl ?_;refine dR (jG x.names[i].value (SU i h)) (.cons (.agg x.names[i].value.aT1) .nil) ?_;have hq:=x.names[i].value.iY;have WI:=SU i h;conv=>whnf
      skip
      refine n8 (by simp only[aB];omega) kK ?_;conv=>whnf
      refine E9.mk (λh1=>?_) (λh1=>?_)
      ·have h1:x.names[i].value.eI=[]:=by simpa using h1
       conv=>whnf
       refine bl ?_;refine⟨(i+1,[]),dM,⟨dM,by dsimp only;rw[eB,h1,dS,<-hQ]⟩,?_⟩;exact mZ
      ·have h1:x.names[i].value.eI≠[]:=by simpa using h1
       conv=>whnf
       refine bl ?_;refine⟨(i+1,x.names[i].value.eI),dM,⟨dM,by dsimp only;rw[eB,<-hQ,bZ]⟩,?_⟩;cases wV:x.names[i].value.eI with
       |nil=>exact absurd wV h1
       |cons r Q=>
        dsimp only[iR,List.map_cons,lv,lm];exact mv 1072 900
        all_goals exact cO rfl (by rw[wV];rfl)
     ·have e:x.names.take i=x.names:=aI oM;rw[e,bG]at hQ;rw[show x.held=_ from hQ.symm];exact .one (.nz _ _)
    |cons r Q=>
     show vc _ _ _ _ _ [(900,dU 25 1 (iR (r::Q))),(1,.cells false (x.aT1.map A.d))] _ _
     repeat'(first|refine bl ?_|refine bS (λh=>?_) (λh=>?_))
     ·refine cD rfl eD h ?_;have eB:(x.value.eI++(x.values.map V.eI).flatten)++((x.names.take (i+1)).map λn=>n.value.eI).flatten=(x.value.eI++(x.values.map V.eI).flatten)++((x.names.take i).map λn=>n.value.eI).flatten++x.names[i].value.eI:=by rw[iU (λn:N4=>n.value.eI) x.names i h,<-List.append_assoc]
      conv=>whnf
      refine bl ?_;refine dR (jG x.names[i].value (SU i h)) (.cons (.agg x.names[i].value.aT1) .nil) ?_;have hq:=x.names[i].value.iY;have WI:=SU i h;conv=>whnf
      skip
      refine n8 (by simp only[aB,bE];omega) kK ?_;conv=>whnf
      refine bl ?_;refine⟨(i+1,r::(Q++x.names[i].value.eI)),dM,⟨dM,by dsimp only;rw[eB,<-hQ];rfl⟩,?_⟩;refine mq 1072 900 ?_
      all_goals exact cO rfl (gG (r::Q) x.names[i].value.eI)
     ·have e:x.names.take i=x.names:=aI oM;rw[e,bG]at hQ;rw[show x.held=_ from hQ.symm];exact .one (.dU (t:=25) rfl)
def idxOf{α:Type}(p:α->Bool)(L:List α):Int:=match L.findIdx? p with
 |some i=>i
 |none=>-1
theorem yH{α:Type}(p:α->Bool)(L:List α):decide (0<=idxOf p L)=L.any p:=by
 unfold idxOf;cases h:L.findIdx? p with
 |none=>
  have:=List.findIdx?_eq_none_iff.1 h;have h2:L.any p=false:=by
   rw[qR];intro x hx;simp[this x hx]
  rw[h2];rfl
 |some i=>
  obtain⟨hi,hp,_⟩:=kP.1 h;have h2:L.any p=true:=dQ.2 ⟨L[i],aY hi,hp⟩;rw[h2];simp
theorem CN{α:Type}(p:α->Bool)(L:List α)(i:Nat)(h:i<L.length)(h0:(L.take i).any p=false)(hp:p L[i]=true):idxOf p L=i:=by
 have:L.findIdx? p=some i:=by
  rw[kP];refine⟨h,hp,λj hj=>?_⟩;rw[qR]at h0;have:=h0 L[j] (by rw[List.mem_take_iff_getElem];exact⟨j,oM,rfl⟩);simpa using this
 unfold idxOf;rw[this]
theorem CM{α:Type}(p:α->Bool)(L:List α)(h0:L.any p=false):idxOf p L=-1:=by
 have:L.findIdx? p=none:=by
  rw[List.findIdx?_eq_none_iff];intro x hx;rw[qR]at h0;simpa using h0 x hx
 unfold idxOf;rw[this]
theorem A2{α:Type}(p:α->Bool)(L:List α)(i:Nat)(h:i<L.length)(h0:(L.take i).any p=false)(hp:p L[i]=false):(L.take (i+1)).any p=false:=by
 rw[iT,List.any_append,h0];simp[aC h,hp]
theorem S5(k:FuncId)(caps:List C)(p:Int->Bool)(hf:∀r m,aJ Tryz.prog k ([.d (ci r)]++caps.map A.d) m (.ok (.d (cb (p r)))) m)(L:List Int)(hL:L.length<=2^38):Pu 183 [.d (.sl 1 (iR L)),.d (.fn (.func k) [] caps)] (.d (ci (idxOf p L))):=by
 refine iC mix Tryz.func183 ?_;refine bl ?_;refine bV mix (λi:Nat=>i<=L.length/\(L.take i).any p=false) (I:=λi=>[(0,.d (.sl 1 (iR L))),(1,.d (.fn (.func k) [] caps)),(7,.d (ci L.length)),(8,.d (ci i))])
  (J:=λi=>[]) (μ:=λi=>L.length -i) 100 0 ⟨oM,rfl⟩ mZ ?_
 rintro i ⟨hi,h0⟩
 repeat'(first|refine bl ?_|refine bS (λh=>?_) (λh=>?_))
 ·refine cD rfl eD h ?_;conv=>whnf
  skip
  refine aF (hf L[i]) ?_;conv=>whnf
  repeat'(first|refine bl ?_|refine bS (λh=>?_) (λh=>?_))
  ·exact oF (CN p L i aM h0 aM).symm
  ·refine⟨i+1,oM,⟨oM,A2 p L i aM h0 aM⟩,?_⟩;exact mZ
 ·rw[aI oM]at h0;exact oF (CM p L h0).symm
theorem JC(k:FuncId)(caps:List C)(p:Int->Bool)(hf:∀r m,aJ Tryz.prog k ([.d (ci r)]++caps.map A.d) m (.ok (.d (cb (p r)))) m)(L:List Int)(hL:L.length<=2^38):Pu 145 [.d (.sl 1 (iR L)),.d (.fn (.func k) [] caps)] (.d (cb (L.any p))):=by
 refine iC mix Tryz.func145 ?_;refine bl ?_;refine aF (S5 k caps p hf L hL) ?_;conv=>whnf
 refine bl ?_;exact dP (yH p L)
theorem aAY(w:D4)(r:Int):Pu 147 [.d (ci r),.d (.ip [.ip w.aT1])] (.d (cb (!w.mI r))):=by
 refine iC mix Tryz.func147 ?_;refine bl ?_;refine aF (sB w r) ?_;conv=>whnf
 refine bl ?_;exact dP rfl
def D4.V9(w:D4)(x:W4):Bool:=!(x.held.any λr=> !w.mI r)
theorem W4.aDG(x:W4):x.held.length<=x.cR:=by
 have hc:x.cR=x.value.cR+V.dB x.values+S4.dB x.code+x.names.length+V.dB (x.names.map (·.value)):=rfl;have h1:=x.value.iY;have h2:=qN x.values;have h3:=qN (x.names.map (·.value));rw[bH]at h3;simp only[W4.held,aU];have h4:((x.names.map (V.eI∘λn=>n.value)).flatten).length=((x.names.map λn=>n.value.eI).flatten).length:=rfl;omega
theorem aD6(w:D4)(x:W4)(hx:x.cR<=2^35):Pu 88 [.d (.ip w.aT1),.d (.agg x.aT1)] (.d (cb (w.V9 x))):=by
 have hl:=x.aDG;refine iC mix Tryz.func88 ?_;refine bl ?_;refine dR (aHG x hx) (.cons (.agg x.aT1) .nil) ?_;conv=>whnf
 skip
 refine fU (cs:=[.sl 1 (iR x.held),.fn (.func 147) [] [.ip [.ip w.aT1]]]) (JC _ _ _ (aAY w) _ oM) (.v _) (.cons (.d _) (.cons (.fn .nil (.cons (.lp rfl (.cons (.d _) .nil)) .nil)) .nil)) ?_;conv=>whnf
 refine bl ?_;exact dP rfl
def D4.aDI(w:D4)(r:Int):Int:=((w.find r).map λt=>t.bQ.home).getD 0
def D4.LA(w:D4)(r:Int):Int:=((w.find r).map λt=>t.bQ.of).getD 0
def D4.SL(w:D4)(r:Int):Int:=((w.find r).map λt=>t.bQ.by_).getD 0
def D4.n4(w:D4)(x:W4)(of k:Int):Bool:=decide (w.zB of=k)&&decide (w.aDI of=x.home)
theorem aF2(w:D4)(x:W4)(of k:Int)(hk:k≠0):Pu 148 [.d (ci of),.d (.v (.int .u8 k)),.d (.ip [.ip w.aT1]),.d (.ip x.aT1)] (.d (cb (w.n4 x of k))):=by
 refine iC mix Tryz.func148 ?_;refine bl ?_;refine cH (P9 w of) ?_;conv=>whnf
 repeat'(first|refine bl ?_|refine bS (λh=>?_) (λh=>?_))
 ·refine EA eD (λt ht=>?_) (λht=>?_)
  ·conv=>whnf
   refine bl ?_;refine dP ?_;have h1:w.aDI of=t.bQ.home:=by unfold D4.aDI D4.find;rw[ht];rfl
   unfold D4.n4;rw[h1];simp[h]
  ·exfalso;have:w.zB of=0:=by unfold D4.zB D4.find;rw[ht];rfl
   omega
 ·refine dP ?_;unfold D4.n4;simp[h]
abbrev kF(a b:Int):Ky:=.agg [.int .i64 a,.int .u8 b]
theorem CO(key:(Int×Int)×Int->Int×Int)(val:(Int×Int)×Int->A)(r s:Int):∀L:List ((Int×Int)×Int),fL (kF r s) (L.map λt=>(kF (key t).1 (key t).2,val t))=(L.find? λt=>decide (key t=(r,s))).map val
 |[]=>rfl
 |t::L=>by
  simp only[aG,fL,eN];by_cases h:key t=(r,s)
  ·simp[h]
  ·have:¬kF r s=kF (key t).1 (key t).2:=by
    simp only[kF,Ky.agg.injEq,iX,KC.int.injEq,true_and,and_true];exact λe=>h (by rw[e.1,e.2])
   simp only[this,if_false,h,decide_false];exact CO key val r s L
theorem aB2(f:(Int×Int)×Int->Ky)(g:(Int×Int)×Int->C)(L:List ((Int×Int)×Int)):(L.map f).zip ((L.map g).map A.d)=L.map λt=>(f t,A.d (g t)):=by
 induction L with
 |nil=>rfl
 |cons a r ih=>simp only[aG,List.zip_cons_cons,ih]
theorem lkF{L:List ((Int×Int)×Int)}{s:Int}{k1:A->Prop}{k0:Prop}(hk:Ky.fits P kt (kF r s)=true)(h1:∀t,(L.find? λt=>decide (t.1=(r,s)))=some t->k1 (.d (ci t.2)))(h0:(L.find? λt=>decide (t.1=(r,s)))=none->k0):
 n5 (kH P kt (kF r s) ((L.map λf=>kF f.1.1 f.1.2).zip ((L.map λf=>ci f.2).map A.d))) (fL (kF r s) ((L.map λf=>kF f.1.1 f.1.2).zip ((L.map λf=>ci f.2).map A.d))) k1 k0:=by
 rw[aB2];have hf:kH P kt (kF r s) (L.map λt=>(kF t.1.1 t.1.2,A.d (ci t.2)))=true:=by
  unfold kH;rw[hk,cA,cV];intro p hp;obtain⟨t,_,rfl⟩:=aA4.1 hp;rfl
 have hg:=CO (λt=>t.1) (λt=>A.d (ci t.2)) r s L;cases h:L.find? λt=>decide (t.1=(r,s))with
 |none=>rw[h]at hg;exact .BP hf hg (h0 h)
 |some t=>rw[h]at hg;exact .CL _ hf hg (h1 t h)
def D4.aCS(w:D4)(x:W4)(r:Int):Bool:=match w.facets.find? λt=>decide (t.1=(x.of,x.set))with
 |some t=>decide (t.2=r)
 |none=>true
def D4.qJ(w:D4)(r:Int)(x:W4)(v:Int):Bool:=
 if x.kind=6 then w.n4 x x.of 5&& !w.QN r 6 x.of
 else if x.kind=7 then w.n4 x x.of 5
 else if x.kind=9 then w.n4 x x.of 8
 else if x.kind=11 then w.n4 x x.of 10&& !w.QN r 11 x.of
 else if x.kind=15 then w.n4 x x.by_ 13&&(w.mI x.of&&decide (w.LA x.by_=r))
 else if x.kind=16 then w.n4 x x.by_ 3&&w.mI x.of
 else if x.kind=13 then decide (x.of=0)||(decide (w.zB x.of=15)&&decide (w.SL x.of=r))
 else if x.kind=14 then w.mI x.of&&(decide (w.zB x.of≠14)&&(decide (x.set≠v)&&(decide (pO .andNot .u8 x.set v=0)&&w.aCS x r)))
 else true
theorem aG8(w:D4)(r:Int)(x:W4)(n:Nat)(v:Int)(hv:x.kind=14->w.MD n 63 x.of=some v):Pu 91 [.d (.ip w.aT1),.d (ci r),.d (.agg x.aT1)] (.d (cb (w.qJ r x v))):=by
 have hth:∀(ml:List (Nat×R))(of k:Int),k≠0->aK ml 1=some (.cells false [.d (.ip w.aT1)])->∀i,aK ml i=some (.cells false (x.aT1.map A.d))->aJ Tryz.prog 148 [.d (ci of),.d (.v (.int .u8 k)),.lp 1 0,.lp i 0] (aK ml) (.ok (.d (cb (w.n4 x of k)))) (aK ml):=λml of k hk h1 i h2=>
  aJ.view (cs:=[ci of,.v (.int .u8 k),.ip [.ip w.aT1],.ip x.aT1]) (aF2 w x of k hk) (.v _) (.cons (.d _) (.cons (.d _) (.cons (.lp h1 (.cons (.d _) .nil)) (.cons (.lp h2 (wJ.data _ _)) .nil))))
 refine iC mix Tryz.func91 ?_
 repeat'(first|refine bl ?_|refine bS (λh=>?_) (λh=>?_))
 ·refine dZ.mk (.d (cb (w.n4 x x.of 5))) [] (hth _ x.of 5 eD rfl 9 rfl) ?_;conv=>whnf
  repeat'(first|refine bl ?_|refine bS (λh=>?_) (λh=>?_))
  ·refine aF (TT w r 6 x.of) ?_;conv=>whnf
   refine bl ?_;refine dP ?_;simp_all[D4.qJ]
  ·refine dP ?_;simp_all[D4.qJ]
 ·refine dZ.mk (.d (cb (w.n4 x x.of 5))) [] (hth _ x.of 5 eD rfl 9 rfl) ?_;conv=>whnf
  refine bl ?_;refine dP ?_;simp_all[D4.qJ]
 ·refine dZ.mk (.d (cb (w.n4 x x.of 8))) [] (hth _ x.of 8 eD rfl 9 rfl) ?_;conv=>whnf
  refine bl ?_;refine dP ?_;simp_all[D4.qJ]
 ·refine dZ.mk (.d (cb (w.n4 x x.of 10))) [] (hth _ x.of 10 eD rfl 9 rfl) ?_;conv=>whnf
  repeat'(first|refine bl ?_|refine bS (λh=>?_) (λh=>?_))
  ·refine aF (TT w r 11 x.of) ?_;conv=>whnf
   refine bl ?_;refine dP ?_;simp_all[D4.qJ]
  ·refine dP ?_;simp_all[D4.qJ]
 ·refine .BL (.d (cb (w.n4 x x.by_ 13))) [] (hth _ x.by_ 13 eD rfl 9 rfl) ?_;conv=>whnf
  repeat'(first|refine bl ?_|refine bS (λh=>?_) (λh=>?_))
  ·refine cH (sB w x.of) ?_;conv=>whnf
   repeat'(first|refine bl ?_|refine bS (λh=>?_) (λh=>?_))
   ·refine EA eD (λt ht=>?_) (λht=>?_)
    ·conv=>whnf
     refine bl ?_;refine dP ?_;have h1:w.LA x.by_=t.bQ.of:=by unfold D4.LA D4.find;rw[ht];rfl
     simp_all[D4.qJ]
    ·exfalso;have h1:w.zB x.by_=0:=by unfold D4.zB D4.find;rw[ht];rfl
     simp_all[D4.n4]
   ·refine dP ?_;simp_all[D4.qJ]
  ·refine dP ?_;simp_all[D4.qJ]
 ·refine dZ.mk (.d (cb (w.n4 x x.by_ 3))) [] (hth _ x.by_ 3 eD rfl 9 rfl) ?_;conv=>whnf
  repeat'(first|refine bl ?_|refine bS (λh=>?_) (λh=>?_))
  ·refine aF (sB w x.of) ?_;conv=>whnf
   refine bl ?_;refine dP ?_;simp_all[D4.qJ]
  ·refine dP ?_;simp_all[D4.qJ]
 ·refine dP ?_;simp_all[D4.qJ]
 ·refine cH (P9 w x.of) ?_;conv=>whnf
  repeat'(first|refine bl ?_|refine bS (λh=>?_) (λh=>?_))
  ·refine EA eD (λt ht=>?_) (λht=>?_)
   ·conv=>whnf
    refine bl ?_;refine dP ?_;have h1:w.SL x.of=t.bQ.by_:=by unfold D4.SL D4.find;rw[ht];rfl
    simp_all[D4.qJ]
   ·exfalso;have h1:w.zB x.of=0:=by unfold D4.zB D4.find;rw[ht];rfl
    simp_all
  ·refine dP ?_;simp_all[D4.qJ]
 ·refine aF (XF w x.of n v (hv aM)) ?_;conv=>whnf
  refine bl ?_;refine lkF kK (λt ht=>?_) (λht=>?_);have hfb:w.aCS x r=decide (t.2=r):=by unfold D4.aCS;rw[ht]
  rotate_left
  have hfb:w.aCS x r=true:=by unfold D4.aCS;rw[ht]
  all_goals
   clear ht;conv=>whnf
   refine bl ?_;refine aF (sB w x.of) ?_;conv=>whnf
   repeat'(first|refine bl ?_|refine bS (λh=>?_) (λh=>?_))
   ·refine aF (P9 w x.of) ?_;conv=>whnf
    repeat'(first|refine bl ?_|refine bS (λh=>?_) (λh=>?_))
    all_goals(refine dP ?_;simp_all[D4.qJ])
   ·refine dP ?_;simp_all[D4.qJ]
 ·refine dP ?_;simp_all[D4.qJ]
def RK(r:Option (List Ot×Nat))(v:A):Bool:=match r with
 |some ([(r,[])],_)=>Y6 r (.ok v)
 |_=>false
theorem zO(aXX:P.follows .mixedOrders=true){f:FuncId}{xs:List A}{v:A}{d nx:Nat}(h:RK (yI P aA0 d (.fn f) xs .nil nx) v=true)(hx:A.lQ xs=[]):∀m,aJ P f xs m (.ok v) m:=by
 intro m;cases he:yI P aA0 d (.fn f) xs .nil nx with
 |none=>rw[he]at h;cases h
 |some p=>
  obtain⟨outs,nx'⟩:=p;rw[he]at h;obtain⟨r,u,rfl,aVN⟩:=(aJ0 aXX aHX d).fn _ _ _ _ _ _ he;unfold RK at h;split at h
  ·rename_i e;simp only[aA,aD,iX,and_true]at e;obtain⟨⟨rfl,rfl⟩,_⟩:=e;have hr:=UA h;subst hr;have hn:(Tr.nil:Tr R).get=λ_=>none:=funext λn=>Tr.get_nil n;rw[hn]at aVN;exact aJ.frame (m:=m) (ups:=[]) aVN (by simp[hx]) sM sM sM
  ·cases h
def H6(x:Int):Int:=[0,1,1,2,1,2,2,3,1,2,2,3,2,3,3,4,1,2,2,3,2,3,3,4,2,3,3,4,3,4,4,5,1,2,2,3,2,3,3,4,2,3,3,4,3,4,4,5,2,3,3,4,3,4,4,5,3,4,4,5,4,5,5,6].getD x.toNat 0
theorem Y2(x:Int):0<=H6 x/\H6 x<=6:=by
 unfold H6;generalize x.toNat=n;rcases eQ n 64 with h|h
 ·have:∀k:Fin 64,0<=([0,1,1,2,1,2,2,3,1,2,2,3,2,3,3,4,1,2,2,3,2,3,3,4,2,3,3,4,3,4,4,5,1,2,2,3,2,3,3,4,2,3,3,4,3,4,4,5,2,3,3,4,3,4,4,5,3,4,4,5,4,5,5,6]:List Int).getD k.val 0/\([0,1,1,2,1,2,2,3,1,2,2,3,2,3,3,4,1,2,2,3,2,3,3,4,2,3,3,4,3,4,4,5,1,2,2,3,2,3,3,4,2,3,3,4,3,4,4,5,2,3,3,4,3,4,4,5,3,4,4,5,4,5,5,6]:List Int).getD k.val 0<=6:=eD;exact this ⟨n,h⟩
 ·rw[bF,c8 (by simpa using h)];simp
theorem aEE:((List.range 64).all λk=>RK (yI Tryz.prog aA0 5 (.fn 129) [.d (.v (.int .u64 k))] .nil 1) (.d (ci (H6 k))))=true:=kK
theorem aHZ(x:Int)(h0:0<=x)(h1:x<=63):Pu 129 [.d (.v (.int .u64 x))] (.d (ci (H6 x))):=by
 have hx:((x.toNat:Nat):Int)=x:=oM;have:=cV.1 aEE x.toNat (jI.2 oM);rw[hx]at this;exact zO mix this rfl
theorem aB9(a b:Int)(h:(0<=a/\a<=63)\/(0<=b/\b<=63)):0<=aB8 a b/\aB8 a b<=63:=by
 unfold aB8 pO;have key:((BitVec.ofInt IntKind.u8.bits a)&&&(BitVec.ofInt IntKind.u8.bits b)).toNat<=63:=by
  rw[BitVec.toNat_and];rcases h with⟨h0,h1⟩|⟨h0,h1⟩
  ·refine cL Nat.and_le_left ?_;rw[u3];simp only[IntKind.bits];omega
  ·refine cL Nat.and_le_right ?_;rw[u3];simp only[IntKind.bits];omega
 dsimp only;generalize((BitVec.ofInt IntKind.u8.bits a)&&&(BitVec.ofInt IntKind.u8.bits b)).toNat=n at key;simp only[IntKind.wrap];simp only[IntKind.signed,IntKind.bits,c0,bY,if_false];omega
theorem D4.VA(w:D4):∀(n:Nat)(set r v:Int),0<=set->set<=63->w.MD n set r=some v->0<=v/\v<=63
 |0,set,r,v,h0,h1,h=>by cases h
 |n+1,set,r,v,h0,h1,h=>by
  rw[D4.MD]at h;have hm:∀y:Int,0<=HN [set,y]/\HN [set,y]<=63:=λy=>aB9 _ _ (.inl (aB9 _ _ (.inr ⟨h0,h1⟩)));split at h
  ·simp only[aA]at h;omega
  ·split at h
   ·exact D4.VA w n _ _ v (hm _).1 (hm _).2 h
   ·split at h
    ·exact D4.VA w n _ _ v h0 h1 h
    ·simp only[aA]at h;rw[<-h];exact hm _
theorem YG{n:Int}(h:0<=n)(h':n<=18446744073709551615):MN .u64 n:=by
 simp[MN,IntKind.min,IntKind.max,IntKind.signed,IntKind.bits];omega
theorem aDO{a b:Int}(h:a=b):A.d (ci a)=A.d (ci b):=by rw[h]
theorem aIK(p:Int)(h0:0<=p)(h1:p<=6):IntKind.i64.wrap (1*2^min p.toNat IntKind.i64.bits)=2^p.toNat:=by
 have:p=0\/p=1\/p=2\/p=3\/p=4\/p=5\/p=6:=oM;rcases this with rfl|rfl|rfl|rfl|rfl|rfl|rfl<;>decide
def D4.tY(w:D4)(r:Int):Int:=(w.MD (w.aT4.length+1) 63 r).getD 0
theorem D4.aB5(w:D4)(r:Int):0<=w.tY r/\w.tY r<=63:=by
 unfold D4.tY;cases h:w.MD (w.aT4.length+1) 63 r with
 |none=>simp
 |some v=>exact w.VA _ 63 r v oM oM h
def D4.HY(w:D4):Prop:=∀r,(w.MD (w.aT4.length+1) 63 r).isSome=true
theorem aB6(w:D4)(hA:w.HY)(r:Int):Pu 93 [.d (.ip w.aT1),.d (ci r)] (.d (.v (.int .u8 (w.tY r)))):=by
 refine XF w r (w.aT4.length+1) _ ?_;have:=hA r;unfold D4.tY;cases h:w.MD (w.aT4.length+1) 63 r with
 |none=>rw[h]at this;cases this
 |some v=>rfl
def D4.term(w:D4)(t:T4):Int:=if t.bQ.kind=14 then -1 else 2^(H6 (w.tY t.ref)).toNat -1
def D4.oL(w:D4):List T4->Int
 |[]=>0
 |t::r=>w.term t+w.oL r
theorem EY(w:D4):∀(L:List T4)(i:Nat)(h:i<L.length),w.oL L=w.term L[i]+w.oL (L.eraseIdx i)
 |[],i,h=>by simp at h
 |a::r,0,h=>rfl
 |a::r,i+1,h=>by
  simp only[D4.oL,cJ,gK];rw[EY w r i (by simpa using h)];omega
theorem D4.ZD(w:D4)(t:T4):-1<=w.term t/\w.term t<=63:=by
 unfold D4.term;have h:=Y2 (w.tY t.ref);generalize H6 (w.tY t.ref)=p at h;split
 ·omega
 ·have:p.toNat=0\/p.toNat=1\/p.toNat=2\/p.toNat=3\/p.toNat=4\/p.toNat=5\/p.toNat=6:=oM;rcases this with e|e|e|e|e|e|e<;>rw[e]<;>decide
theorem D4.GU(w:D4):∀L:List T4,-(L.length:Int)<=w.oL L/\w.oL L<=63*L.length
 |[]=>by simp[D4.oL]
 |t::r=>by
  have h1:=w.ZD t;have h2:=w.GU r;simp only[D4.oL,aQ];omega
theorem aFQ(w:D4)(hA:w.HY)(hl:w.aT4.length<=2^30):Pu 68 [.d (.ip w.aT1)] (.d (ci (w.oL w.aT4))):=by
 refine iC mix Tryz.func68 ?_;refine bl ?_;refine xI rfl ?_;conv=>whnf
 refine bl ?_;refine bV mix (λa:Option (Ky×C)×List T4×Int=>a.2.1.length<=w.aT4.length/\a.2.2+w.oL a.2.1=w.oL w.aT4/\-((w.aT4.length:Int)-a.2.1.length)<=a.2.2/\a.2.2<=63*((w.aT4.length:Int)-a.2.1.length)) (I:=λa=>[(0,.d (.ip w.aT1)),(10,.h 49),(3,.d (ci a.2.2))])
  (J:=λa=>[(49,.di a.1 (a.2.1.map T4.kv))]) (μ:=λa=>a.2.1.length) 100 (none,w.aT4,0) ⟨sM,sM,sM,sM⟩ mZ ?_
 rintro⟨cur,L,n⟩ ⟨h1,h2,h3,h4⟩;dsimp only at h1 h2 h3 h4⊢;refine bl ?_;refine EI (λh0=>?_) (λi hi=>?_)
 ·conv=>whnf
  refine bl ?_;refine oF ?_;subst h0;simpa [D4.oL]using h2
 ·have hs:=EY w L i hi;have ht:=w.ZD L[i];have hp:=Y2 (w.tY L[i].ref);have hab:=w.aB5 L[i].ref;have hle:=List.length_eraseIdx_of_lt hi;conv=>whnf
  repeat'(first|refine bl ?_|refine bS (λh=>?_) (λh=>?_))
  ·have e:w.term L[i]=-1:=by unfold D4.term;rw[aUF aM]
   refine⟨(some (T4.kv L[i]),L.eraseIdx i,n -1),xL _ _ hi,⟨dM,dM,dM,dM⟩,?_⟩;exact mZ
  ·have e:w.term L[i]=2^(H6 (w.tY L[i].ref)).toNat -1:=by unfold D4.term;rw[aT7 aM]
   refine aF (aB6 w hA L[i].ref) ?_;conv=>whnf
   skip
   refine FC.mk (YG oM oM) ?_;conv=>whnf
   skip
   refine aF (aHZ _ hab.1 hab.2) ?_;conv=>whnf
   skip
   rw[aIK _ hp.1 hp.2,<-Int.sub_add_cancel (2^(H6 (w.tY L[i].ref)).toNat) 1,<-e];refine xR.mk (aUZ hp.1) ?_;conv=>whnf
   refine bl ?_;refine⟨(some (T4.kv L[i]),L.eraseIdx i,n+w.term L[i]),xL _ _ hi,⟨dM,dM,dM,dM⟩,?_⟩;exact mZ
def l6(F:List ((Int×Int)×Int)):List (Ky×A):=F.map λf=>(kF f.1.1 f.1.2,.d (ci f.2))
def D4.wA(w:D4)(i:Nat):List A:=[.d (.sl 1 (iR w.parents)),.d (.sl 1 (w.cut.map λb=>[cb b])),.d (.im (w.aT4.map λt=>kI t.ref) (w.aT4.map λt=>.ip t.bQ.aT1)),.h i,.d (ci w.last),.d (.sl 1 (iR w.made))]
def D4.JW(w:D4)(F:List ((Int×Int)×Int)):D4:={w with facets:=F}
theorem X5(F:List ((Int×Int)×Int)):A.lQ ((l6 F).map (·.2))=[]:=by
 have:∀l:List ((Int×Int)×Int),A.lQ (l.map λf=>A.d (ci f.2))=[]:=by
  intro l;induction l with
  |nil=>rfl
  |cons a r ih=>simp only[aG,A.lQ,A.hs,ih,dS]
 unfold l6;rw[bH];exact this F
theorem rdW{m:Mem}{i j:Nat}{fz gz:Bool}{st:List (Ky×Nat)}(h0:m i=some (.cells fz (w.wA j)))(h1:m j=some (.mp gz (l6 F) st)):Rd m (.lp i 0) (.ip (w.JW F).aT1):=by
 refine .lp h0 (.cons (.d _) (.cons (.d _) (.cons (.d _) (.cons ?_ (.cons (.d _) (.cons (.d _) .nil))))))
 have:=Rd.mp (m:=m) (vs:=F.map λf=>ci f.2) h1 (by
  have e:(l6 F).map (·.2)=(F.map λf=>ci f.2).map A.d:=by unfold l6;rw[bH,bH];rfl
  rw[e];exact wJ.data _ _)
 have e:(l6 F).map (·.1)=F.map λf=>kF f.1.1 f.1.2:=by unfold l6;rw[bH];rfl
 rw[e]at this;exact this
theorem aL5{k1:A->Prop}{k0:Prop}(hk:KC.fits P kt (.int .i64 0)=true)(h:w.find r=some t)(h1:k1 (.d (.ip t.bQ.aT1))):
 n5 (kH P kt (kI r) ((w.aT4.map λt=>kI t.ref).zip ((w.aT4.map λt=>.ip t.bQ.aT1).map A.d))) (fL (kI r) ((w.aT4.map λt=>kI t.ref).zip ((w.aT4.map λt=>.ip t.bQ.aT1).map A.d))) k1 k0:=by
 refine EA hk (λt' ht=>?_) (λht=>?_)
 ·have e:t'=t:=eY (ht.symm.trans h);subst e;exact h1
 ·rw[show w.find r=none from ht]at h;cases h
theorem SM(w:D4)(y4:(w.aT4.map (·.ref)).Nodup)(t:T4)(h:t∈w.aT4):w.find t.ref=some t:=by
 unfold D4.find;refine vJ h sM λy hy hp=>?_;have e:y.ref=t.ref:=by simpa using hp
 obtain⟨j1,q1⟩:=dY.1 hy;obtain⟨j2,q2⟩:=dY.1 h;have:j1=j2:=by
  refine(List.getElem?_inj (l:=w.aT4.map (·.ref)) ?_ y4).1 ?_
  ·have:=(bA.1 q1).1;simpa using this
  ·simp only[cK,q1,q2,dF,e]
 subst this;rw[q1]at q2;simpa using q2
def D4.GL(w:D4)(t:T4):Bool:=w.V9 t.bQ&&((!xT t.bQ.kind||w.mI t.bQ.of)&&((!DB t.bQ.kind||w.mI t.bQ.by_)&&(!decide (t.bQ.kind=13)||(decide (t.bQ.of=0)||w.mI t.bQ.of))))
def D4.zF(w:D4):Nat->Int->Bool
 |k,q=>match w.find q with
  |none=>false
  |some t=>if uY t.bQ.kind=true then(match k with
   |0=>false
   |k+1=>if w.mI t.bQ.of=true then D4.zF w k t.bQ.of else false)else true
theorem SE{q:Int}(h:w.find q=some t)(hw:uY t.bQ.kind=true):w.zF 0 q=false:=by
 unfold D4.zF;rw[h];simp[hw]
theorem JR{k:Nat}{q:Int}(h:w.find q=some t)(hw:uY t.bQ.kind=true):w.zF (k+1) q=if w.mI t.bQ.of=true then w.zF k t.bQ.of else false:=by
 rw[D4.zF,h];simp[hw]
theorem aG0{k:Nat}{q:Int}(h:w.find q=some t)(hw:uY t.bQ.kind=false):w.zF k q=true:=by
 unfold D4.zF;rw[h];simp[hw]
def lP(L:List T4):List ((Int×Int)×Int):=(L.filter λt=>decide (t.bQ.kind=14)).map λt=>((t.bQ.of,t.bQ.set),t.ref)
def D4.NV(w:D4)(t:T4):Bool:=(w.JW (lP w.aT4)).qJ t.ref t.bQ (w.tY t.bQ.of)
def D4.sH(w:D4):Bool:=w.aT4.all (λt=>w.GL t&&w.zF w.aT4.length t.ref)&&(decide (((lP w.aT4).map (·.1)).Nodup)&&w.aT4.all w.NV)
theorem FF{α:Type}(p:α->Bool):∀(L:List α)(i:Nat)(h:i<L.length),L.all p=(p L[i]&&(L.eraseIdx i).all p)
 |[],i,h=>by simp at h
 |a::r,0,h=>sM
 |a::r,i+1,h=>by
  simp only[o9,cJ,gK];rw[FF p r i (by simpa using h),Bool.and_left_comm]
theorem mem_erase{α:Type}{L:List α}{i:Nat}{x:α}(h:x∈L.eraseIdx i):x∈L:=(List.eraseIdx_sublist L i).subset h
theorem wW{ml:List (Nat×R)}{fz:Bool}:rB ml (R.mp fz (l6 F) []).hs:=by
 show rB _ (A.lQ ((l6 F).map (·.2))++[]);rw[X5];trivial
theorem aD4{ml:List (Nat×R)}{i:Nat}{g:Nat->Nat}{fz:Bool}(h:aK ml i=some (.mp fz (l6 F) [])):(aK ml i).map (R.eZ g)=some (.mp fz (l6 F) []):=by
 rw[h];show some (R.mp fz ((l6 F).map λp=>(p.1,p.2.eZ g)) [])=_;congr 2;unfold l6;rw[bH];rfl
theorem aCQ(F G:List ((Int×Int)×Int)):l6 (F++G)=l6 F++l6 G:=by simp only[l6,bP]
theorem NJ(r s:Int)(F:List ((Int×Int)×Int)):fL (kF r s) (l6 F)=(F.find? λt=>decide (t.1=(r,s))).map λt=>.d (ci t.2):=CO (λt=>t.1) (λt=>A.d (ci t.2)) r s F
theorem SJ{s:Int}(hk:Ky.fits P kt (kF r s)=true)(F:List ((Int×Int)×Int)):kH P kt (kF r s) (l6 F)=true:=by
 unfold kH;rw[hk,cA,cV];intro p hp;obtain⟨t,_,rfl⟩:=aA4.1 hp;rfl
theorem aNG{s:Int}{k1:A->Prop}{k0:Prop}(hk:Ky.fits P kt (kF r s)=true)(h1:∀t,(F.find? λt=>decide (t.1=(r,s)))=some t->k1 (.d (ci t.2)))(h0:(F.find? λt=>decide (t.1=(r,s)))=none->k0):
 n5 (kH P kt (kF r s) (l6 F)) (fL (kF r s) (l6 F)) k1 k0:=by
 have hf:=SJ hk F;have hg:=NJ r s F;cases h:F.find? λt=>decide (t.1=(r,s))with
 |none=>rw[h]at hg;exact .BP hf hg (h0 h)
 |some t=>rw[h]at hg;exact .CL _ hf hg (h1 t h)
theorem aJ.l8{f:FuncId}{xs:List A}{mb u ml:List (Nat×R)}{v:A}(h:aJ P f xs (aK mb) (.ok v) (aH (aK mb) u))(hhs:rB mb (A.lQ xs))(hm:RN ml mb)(n0:H9 mb mb)(hfr:HH ml mb u):aJ P f xs (aK ml) (.ok v) (aH (aK ml) u):=
 aJ.frame h hhs.at hm.at (λi r hi=>n0.at i r hi) hfr.at
theorem CU{α:Type}:∀(L:List α)(i:Nat)(h:i<L.length),L.Perm (L[i]::L.eraseIdx i)
 |[],i,h=>by simp at h
 |a::r,0,h=>.refl _
 |a::r,i+1,h=>by
  have:=CU r i (by simpa using h);simp only[cJ,gK];exact(this.cons a).trans (.swap _ _ _)
def T4.fc(t:T4):(Int×Int)×Int:=((t.bQ.of,t.bQ.set),t.ref)
theorem Z5{L M:List T4}(h:L.Perm M):(lP L).Perm (lP M):=(h.filter _).map _
theorem HC{L:List T4}(h:t.bQ.kind=14):lP (t::L)=t.fc::lP L:=by
 unfold lP T4.fc;rw[List.filter_cons_of_pos (by simpa using h)];rfl
theorem Z4{L:List T4}(h:¬t.bQ.kind=14):lP (t::L)=lP L:=by
 unfold lP;rw[List.filter_cons_of_neg (by simpa using h)]
theorem Z7{k:Int×Int}:(F.find? λf=>decide (f.1=k))=none↔k∉F.map (·.1):=by
 rw[mN];constructor
 ·intro h hk;obtain⟨f,hf,rfl⟩:=aA4.1 hk;exact h f hf sM
 ·intro h f hf e;exact h (aA4.2 ⟨f,hf,by simpa using e⟩)
theorem aAP(w:D4)(r:Int)(t:T4)(ht:w.find r=some t)(hk:t.bQ.kind=14)(F:List ((Int×Int)×Int))(hF:(F.find? λf=>decide (f.1=(t.bQ.of,t.bQ.set)))=none):
 aJ Tryz.prog 81 [.lp 0 0,.d (ci r)] (aK [(0,.cells false (w.wA 1)),(1,.mp false (l6 F) [])]) (.ok (.eL [])) (aH (aK [(0,.cells false (w.wA 1)),(1,.mp false (l6 F) [])]) [(1,.mp false (l6 (F++[((t.bQ.of,t.bQ.set),r)])) [])]):=by
 refine wE mix 100 Tryz.func81 tV ⟨wW,tV⟩ ?_
 repeat'(first|refine bl ?_|refine bS (λh=>?_) (λh=>?_)|refine aL5 eD ht (bw ?_))
 ·refine .BP (SJ kK F) (by rw[NJ,hF];rfl) ?_;conv=>whnf
  refine bl ?_;refine dA rfl ⟨.inr ?_,.inr rfl,.inl rfl,tV⟩;rw[aCQ];rfl
 ·exact absurd hk aM
theorem IA(w:D4)(F:List ((Int×Int)×Int)):∀(n:Nat)(s r:Int),(w.JW F).MD n s r=w.MD n s r
 |0,s,r=>rfl
 |n+1,s,r=>by
  rw[D4.MD,D4.MD];have e:(w.JW F).find r=w.find r:=rfl;rw[e];cases w.find r with
  |none=>rfl
  |some t=>
   dsimp only;rw[IA w F n,IA w F n]
theorem JQ(w:D4):∀(k:Nat)(s q:Int),w.zF k q=true->(w.MD (k+1) s q).isSome=true
 |k,s,q,h=>by
  cases hf:w.find q with
  |none=>unfold D4.zF at h;rw[hf]at h;cases h
  |some t=>
   rw[D4.MD,hf];dsimp only;cases hw:uY t.bQ.kind with
   |false=>
    have:¬t.bQ.kind=14/\¬t.bQ.kind=15/\¬t.bQ.kind=16:=by
     simp only[uY,aU1,not_or]at hw;exact hw
    rw[aT7 this.1,aT7 oM];rfl
   |true=>
    cases k with
    |zero=>rw[SE hf hw]at h;cases h
    |succ k=>
     rw[JR hf hw]at h;split at h
     ·split
      ·exact JQ w k _ _ h
      ·split
       ·exact JQ w k _ _ h
       ·rfl
     ·cases h
theorem XH(w:D4)(h:∀t∈w.aT4,w.zF w.aT4.length t.ref=true):w.HY:=by
 intro r;cases hf:w.find r with
 |none=>rw[D4.MD,hf];rfl
 |some t=>
  have hm:=cT hf;have hr:t.ref=r:=by have:=iD hf;exact aUL this
  rw[<-hr];exact JQ w _ _ _ (h t hm)
theorem HY.JW{w:D4}(h:w.HY)(F:List ((Int×Int)×Int)):(w.JW F).HY:=λr=>by
 rw[show(w.JW F).aT4=w.aT4 from rfl,IA];exact h r
theorem HY.some{w:D4}(h:w.HY)(r:Int):w.MD (w.aT4.length+1) 63 r=some (w.tY r):=by
 have:=h r;unfold D4.tY;cases hq:w.MD (w.aT4.length+1) 63 r with
 |none=>rw[hq]at this;cases this
 |some v=>rfl
theorem aFP(w:D4)(hf:w.facets=[])(aXR:∀t∈w.aT4,t.bQ.cR<=2^35)(hlen:w.aT4.length<=2^30)(y4:(w.aT4.map (·.ref)).Nodup):
 aJ Tryz.prog 67 [.lp 0 0] (aK [(0,.cells false (w.wA 1)),(1,.mp false [] [])]) (.ok (.d (cb w.sH))) (aH (aK [(0,.cells false (w.wA 1)),(1,.mp false [] [])]) [(1,if w.sH=true then .mp false (l6 (lP w.aT4)) []else .dead)]):=by
 refine V5 mix (if w.sH=true then []else [1]) 100 Tryz.func67 rfl kK (bD rfl) (by cases w.sH<;>trivial) ?_ ?_
 ·refine⟨?_,tV⟩;cases w.sH
  ·trivial
  ·show rB _ (A.lQ ((l6 (lP w.aT4)).map (·.2))++[]);rw[X5];trivial
 refine bl ?_;refine xI rfl ?_;conv=>whnf
 refine bl ?_;have hwf:w.JW []=w:=by cases w;simp only[D4.JW]at hf⊢;rw[hf]
 have sN:∀{ml:List (Nat×R)},aK ml 0=some (.cells false (w.wA 1))->aK ml 1=some (.mp false [] [])->Rd (aK ml) (.lp 0 0) (.ip w.aT1):=λ{ml}h0 h1=>by
  have:=rdW (F:=[]) h0 h1
  rwa [hwf]at this
 have fin:w.sH=false->∀(ml:List (Nat×R)),aK ml 0=some (.cells false (w.wA 1))->aK ml 1≠none->aGG (if w.sH=true then []else [1]) [(0,.cells false (w.wA 1)),(1,.mp false [] [])] (.d (cb w.sH)) [(1,if w.sH=true then .mp false (l6 (lP w.aT4)) []else .dead)] (.d (cb false)) ml:=λhb ml h0 h1=>by
  rw[hb];refine XY rfl ⟨.inr rfl,.inr ?_,.inl rfl,tV⟩;exact h0
 refine bV mix (λa:Option (Ky×C)×List T4=>(∀t∈a.2,t∈w.aT4)/\w.aT4.all (λt=>w.GL t&&w.zF w.aT4.length t.ref)=a.2.all (λt=>w.GL t&&w.zF w.aT4.length t.ref)) (I:=λa=>[(0,.lp 0 0),(17,.h 140)])
  (J:=λa=>[(140,.di a.1 (a.2.map T4.kv)),(0,.cells false (w.wA 1)),(1,.mp false [] [])]) (μ:=λa=>a.2.length) 200 (none,w.aT4) ⟨λt h=>h,rfl⟩ mZ ?_
 rintro⟨cur,L⟩ ⟨aVM,aWV⟩;dsimp only at aVM aWV⊢;refine bl ?_;refine EI (λh0=>?_) (λi hi=>?_)
 ·have hA1:w.aT4.all (λt=>w.GL t&&w.zF w.aT4.length t.ref)=true:=by rw[aWV,h0];rfl
  conv=>whnf
  refine bl ?_;refine xI rfl ?_;conv=>whnf
  refine bl ?_;clear aWV aVM;refine bV mix (λa:Option (Ky×C)×List T4×List ((Int×Int)×Int)=>(∀t∈a.2.1,t∈w.aT4)/\(a.2.2++lP a.2.1).Perm (lP w.aT4)/\(a.2.2.map (·.1)).Nodup) (I:=λa=>[(0,.lp 0 0),(131,.h 248)])
   (J:=λa=>[(248,.di a.1 (a.2.1.map T4.kv)),(0,.cells false (w.wA 1)),(1,.mp false (l6 a.2.2) [])]) (μ:=λa=>a.2.1.length) 300 (none,w.aT4,[]) ⟨λt h=>h,sM,sM⟩ mZ ?_
  rintro⟨cur2,L2,F⟩ ⟨aVM,hp,hnF⟩;dsimp only at aVM hp hnF⊢;refine bl ?_;refine EI (λh2=>?_) (λi hi=>?_)
  ·conv=>whnf
   refine bl ?_;refine xI rfl ?_;conv=>whnf
   refine bl ?_;have hpF:(l6 F).Perm (l6 (lP w.aT4)):=by
    rw[h2]at hp;have:F.Perm (lP w.aT4):=by simpa [lP]using hp
    exact this.map _
   have hac:w.HY:=XH w λt ht=>by
    have:=cV.1 hA1 t ht;simp only[aE]at this;exact this.2
   have a2H:((lP w.aT4).map (·.1)).Nodup:=by
    rw[h2]at hp;have:F.Perm (lP w.aT4):=by simpa [lP]using hp
    exact(this.map (·.1)).nodup_iff.1 hnF
   refine bV mix (λa:Option (Ky×C)×List T4=>(∀t∈a.2,t∈w.aT4)/\w.aT4.all w.NV=a.2.all w.NV) (I:=λa=>[(0,.lp 0 0),(167,.h 348)])
    (J:=λa=>[(1,.mp false (l6 (lP w.aT4)) []),(348,.di a.1 (a.2.map T4.kv)),(0,.cells false (w.wA 1))]) (μ:=λa=>a.2.length) 400 (none,w.aT4) ⟨λt h=>h,rfl⟩
    (cN.trans (l':=[(0,.lp 0 0),(167,.h 348)]) (ml':=[(1,.mp false (l6 F) []),(348,.di none (w.aT4.map T4.kv)),(0,.cells false (w.wA 1))]) mZ (cN.perm 1 hpF)) ?_
   rintro⟨cur3,L3⟩ ⟨aX2,aYS⟩;dsimp only at aX2 aYS⊢;refine bl ?_;refine EI (λh3=>?_) (λj hj=>?_)
   ·conv=>whnf
    refine bl ?_;have hb:w.sH=true:=by
     unfold D4.sH;rw[hA1,aYS,h3,aUZ a2H];rfl
    rw[hb];exact XY rfl ⟨.inr rfl,.inr rfl,.inl rfl,tV⟩
   ·rw[FF _ L3 j hj]at aYS;have a2X:=aX2 _ (aY hj);conv=>whnf
    refine bl ?_;refine fU (cs:=[.ip (w.JW (lP w.aT4)).aT1,ci L3[j].ref,.agg L3[j].bQ.aT1]) (aG8 (w.JW (lP w.aT4)) L3[j].ref L3[j].bQ (w.aT4.length+1) (w.tY L3[j].bQ.of) (λ_=>by rw[IA];exact HY.some hac _)) (.v _) (.cons (rdW rfl rfl) (.cons (.d _) (.cons (.d _) .nil))) ?_;conv=>whnf
    repeat'(first|refine bl ?_|refine bS (λh=>?_) (λh=>?_))
    ·refine fin ?_ _ rfl sn;have hq:w.NV L3[j]=false:=aM;unfold D4.sH;rw[aYS,hq];simp
    ·have hq:w.NV L3[j]=true:=aM;refine⟨(some (T4.kv L3[j]),L3.eraseIdx j),xL _ _ hj,⟨λt ht=>aX2 t (mem_erase ht),?_⟩,?_⟩
     ·dsimp only;rw[aYS,hq];rfl
     ·exact mZ
  ·have hin:=aVM _ (aY hi);have hpe:=Z5 (CU L2 i hi);have hfd:w.find L2[i].ref=some L2[i]:=SM w y4 _ hin;conv=>whnf
   repeat'(first|refine bl ?_|refine bS (λh=>?_) (λh=>?_))
   ·refine aNG kK (λf hff=>?_) (λhff=>?_)
    ·conv=>whnf
     refine bl ?_;refine fin ?_ _ rfl sn;rw[HC aM]at hpe;have h1:L2[i].fc.1∈F.map (·.1):=aA4.2 ⟨f,cT hff,(by have:=iD hff;exact aUL this)⟩;have h3:¬((lP w.aT4).map (·.1)).Nodup:=by
      intro hq;have h4:=((hp.symm.map (·.1)).nodup_iff.1 hq);rw[bP]at h4;have h5:=(iS.1 h4).2.2 _ h1 L2[i].fc.1 (((hpe.map (·.1)).mem_iff.2 sM));exact h5 rfl
     unfold D4.sH;rw[aU0 h3];simp
    ·conv=>whnf
     refine bl ?_;rw[HC aM]at hpe;refine dZ.mk (.eL []) [(1,.mp false (l6 (F++[L2[i].fc])) [])] (aJ.l8 (aAP w L2[i].ref L2[i] hfd aM F hff) ⟨sn,tV⟩ ⟨rfl,rfl,tV⟩ ⟨⟨sn,tV⟩,wW,tV⟩ ⟨.inl sn,tV⟩) ?_;conv=>whnf
     refine bl ?_;refine⟨(some (T4.kv L2[i]),L2.eraseIdx i,F++[L2[i].fc]),xL _ _ hi,⟨λt ht=>aVM t (mem_erase ht),?_,?_⟩,?_⟩
     ·dsimp only;rw[bG];exact(qX F hpe.symm).trans hp
     ·dsimp only;rw[bP,iS];refine⟨hnF,sM,λa ha b hb=>?_⟩;simp only[aG,bM,aR]at hb;subst hb;rintro rfl;exact(Z7.1 hff) ha
     ·exact mZ
   ·rw[Z4 aM]at hpe;refine⟨(some (T4.kv L2[i]),L2.eraseIdx i,F),xL _ _ hi,⟨λt ht=>aVM t (mem_erase ht),?_,hnF⟩,?_⟩
    ·dsimp only;exact(qX F hpe.symm).trans hp
    ·exact mZ
 ·rw[FF _ L i hi]at aWV;have hin:=aVM _ (aY hi);conv=>whnf
  refine bl ?_;refine fU (cs:=[.ip w.aT1,.agg L[i].bQ.aT1]) (aD6 w L[i].bQ (aXR _ hin)) (.v _) (.cons (sN rfl rfl) (.cons (.d _) .nil)) ?_;conv=>whnf
  repeat'(first|refine bl ?_|refine bS (λh=>?_) (λh=>?_)|refine aF (ZR _) (bw ?_)|refine aF (ZQ _) (bw ?_)|refine fU (cs:=[.ip w.aT1,ci _]) (sB w _) (.v _) (.cons (sN rfl rfl) (.cons (.d _) .nil)) (bw ?_))
  any_goals(refine fin ?_ _ rfl sn
            have mS:w.GL L[i]=false:=by simp_all[D4.GL]
            unfold D4.sH;rw[aWV,mS];rfl)
  all_goals
   have mS:w.GL L[i]=true:=by simp_all[D4.GL]
   have hfd:w.find L[i].ref=some L[i]:=SM w y4 _ hin;refine bV mix (λb:Nat×Int=>b.1<=w.aT4.length/\w.zF w.aT4.length L[i].ref=w.zF (w.aT4.length -b.1) b.2/\(w.find b.2).isSome=true) (I:=λb=>[(0,.lp 0 0),(17,.h 140),(5,.d (ci b.1)),(6,.d (ci b.2))])
    (J:=λb=>[(140,.di (some (T4.kv L[i])) ((L.eraseIdx i).map T4.kv)),(0,.cells false (w.wA 1)),(1,.mp false [] [])]) (μ:=λb=>w.aT4.length -b.1) 400 (0,L[i].ref) ⟨sM,rfl,by dsimp only;rw[hfd];rfl⟩ mZ ?_
   rintro⟨n,q⟩ ⟨hn,he,hs⟩;dsimp only at hn he hs⊢;obtain⟨t,hfq⟩:=eS.1 hs
   repeat'(first|refine bl ?_|refine bS (λh=>?_) (λh=>?_)|refine aF (U1 _) (bw ?_)|refine aL5 eD hfq (bw ?_)|refine fU (cs:=[.ip w.aT1,ci _]) (sB w _) (.v _) (.cons (sN rfl rfl) (.cons (.d _) .nil)) (bw ?_))
  any_goals(refine fin ?_ _ rfl sn
            have he2:w.zF w.aT4.length L[i].ref=false:=by
             rw[he]
             first
             |(rw[show w.aT4.length -n=0 by omega];exact SE hfq aM)
             |(rw[show w.aT4.length -n=(w.aT4.length -n -1)+1 by omega,JR hfq aM,aT7 (by simp_all)])
            unfold D4.sH;rw[aWV,he2,kL];rfl)
  any_goals(refine⟨(n+1,t.bQ.of),by dsimp only;omega,⟨by dsimp only;omega,?_,?_⟩,?_⟩
            · dsimp only
              rw[he,show w.aT4.length -n=(w.aT4.length -(n+1))+1 by omega,JR hfq aM,aUF aM]
            · exact(by assumption:w.mI t.bQ.of=true)
            · exact mZ)
  any_goals(refine⟨(some (T4.kv L[i]),L.eraseIdx i),xL _ _ hi,⟨λt ht=>aVM t (mem_erase ht),?_⟩,?_⟩
            · dsimp only
              rw[aWV,mS,he,aG0 hfq aM];rfl
            · exact mZ)
def zD:List Int->Int->Bool
 |[],_=>true
 |p::r,i=>(decide (0<=p)&&decide (p<=i))&&zD r (i+1)
theorem TQ(L:List Int)(i:Nat)(h:i<L.length):zD (L.drop i) i=((decide (0<=L[i])&&decide (L[i]<=i))&&zD (L.drop (i+1)) ((i+1:Nat):Int)):=by
 rw[dE h];rfl
theorem WH{zl ce b:Nat}{n:Int}{fr:Bool}{X:Prop}(h1:Nat.beq zl ce=true)(h2:Nat.blt 0 ce=true)(h0:0<=n)(hn:n<=2^38)(hb:Nat.ble b 512=true)(hf:fr=true)(hx:X):
 xR (decide (zl=ce/\0<ce/\0<=n/\n<=n/\(b:Int)*n<=281474976710656/\n<=9223372036854775807)&&fr) X:=by
 obtain⟨k,rfl⟩:=lX h0;exact aJB h1 h2 oM hb hf hx
abbrev H5:C:=.v (.pointer none)
theorem aD9(L:List Int)(hL:L.length<=2^38)(pG:¬(L.length<16/\zD L 0=true)):Pu 40 [.d (.sl 1 (iR L))] (.eL [.d H5,.d (ci 71)]):=by
 refine iC mix Tryz.func40 ?_
 repeat'(first|refine bl ?_|refine bS (λh=>?_) (λh=>?_))
 ·exact .eL (cs:=[H5,ci 71]) (.cons (.d _) (.cons (.d _) .nil))
 refine bV mix (λi:Nat=>i<=L.length/\zD (L.drop i) i=zD L 0) (I:=λi=>[(0,.d (.sl 1 (iR L))),(2,.d H5),(10,.d (.sl 1 (iR L))),(11,.d (ci L.length)),(12,.d (ci i))])
  (J:=λi=>[]) (μ:=λi=>L.length -i) 100 0 ⟨oM,rfl⟩ mZ ?_
 rintro i ⟨hi,h0⟩
 repeat'(first|refine bl ?_|refine bS (λh=>?_) (λh=>?_))
 ·refine cD rfl eD aM ?_;conv=>whnf
  repeat'(first|refine bl ?_|refine bS (λh=>?_) (λh=>?_))
  any_goals exact A1.eL (cs:=[H5,ci 71]) (.cons (.d _) (.cons (.d _) .nil))
  refine⟨i+1,oM,⟨oM,?_⟩,mZ⟩;rw[<-h0,TQ L i aM];simp_all
 ·exfalso;rw[dT oM]at h0;exact pG ⟨oM,h0.symm⟩
def aKE(L:List Int):List (Nat×R):=[(212,.cells false [.d (.sl 1 (iR L)),.h 164,.h 188,.h 196,.d (ci 0),.h 180]),(164,dU 4 1 (List.replicate (L.length+1) [cb false])),(180,dU 3 1 (iR (List.replicate (L.length+1) 0))),(188,.mp false [] []),(196,.mp false [] [])]
theorem aKF(L:List Int)(hl:L.length<16)(hp:zD L 0=true):aJ Tryz.prog 40 [.d (.sl 1 (iR L))] (aK []) (.ok (.eL [.lp 212 0,.d (ci 0)])) (aH (aK []) (aKE L)):=by
 refine wE mix 100 Tryz.func40 ?_ ?_ ?_
 ·exact⟨sn,tV⟩
 ·refine⟨⟨sn,sn,sn,sn,tV⟩,aZ,aZ,tV,tV,tV⟩
 repeat'(first|refine bl ?_|refine bS (λh=>?_) (λh=>?_))
 ·exfalso;(try simp only[aB]at*);omega
 refine bV mix (λi:Nat=>i<=L.length/\zD (L.drop i) i=true) (I:=λi=>[(0,.d (.sl 1 (iR L))),(2,.d H5),(10,.d (.sl 1 (iR L))),(11,.d (ci L.length)),(12,.d (ci i))])
  (J:=λi=>[]) (μ:=λi=>L.length -i) 100 0 ⟨oM,hp⟩ mZ ?_
 rintro i ⟨hi,h0⟩
 repeat'(first|refine bl ?_|refine bS (λh=>?_) (λh=>?_))
 ·refine cD rfl eD aM ?_;rw[TQ L i aM]at h0;simp only[aE,aUA]at h0;conv=>whnf
  repeat'(first|refine bl ?_|refine bS (λh=>?_) (λh=>?_))
  any_goals(exfalso;omega)
  exact⟨i+1,oM,⟨oM,h0.2⟩,mZ⟩
 ·refine FC.mk (RG (by simp only[aB];omega) (by simp only[aB];omega)) ?_;conv=>whnf
  repeat'(first|refine bl ?_|refine cH (DG (iR L) (by simp only[aB];omega) sM) (bw ?_))
  refine WH kK kK (by simp only[aB];omega) (by simp only[aB];omega) kK rfl ?_;conv=>whnf
  skip
  refine WH kK kK (by simp only[aB];omega) (by simp only[aB];omega) kK rfl ?_;conv=>whnf
  refine bl ?_;refine dA rfl ⟨.inr rfl,.inr rfl,.inr ?_,.inr ?_,.inr rfl,tV⟩
  ·refine(congrArg (λq=>some (R.fW false 3 1 q)) ?_:some (R.fW false 3 1 _)=some (R.fW false 3 1 _));have e:zc Tryz.prog 8 3=[ci 0]:=kK;rw[aB,show((iR L).length:Int)=(L.length:Int) by simp,show((L.length:Int)+1).toNat=L.length+1 by omega,e];simp[bE,iR]
  ·refine(congrArg (λq=>some (R.fW false 4 1 q)) ?_:some (R.fW false 4 1 _)=some (R.fW false 4 1 _));have e:zc Tryz.prog 8 4=[cb false]:=kK;rw[aB,show((iR L).length:Int)=(L.length:Int) by simp,show((L.length:Int)+1).toNat=L.length+1 by omega,e];simp[bE]
def w0(L:List Int)(cut:List Bool):D4:=⟨L,cut,[],[],0,List.replicate (L.length+1) 0⟩
def PR(cut:List Bool):R:=dU 4 1 (cut.map λb=>[cb b])
def w0A(L:List Int):R:=.cells false [.d (.sl 1 (iR L)),.h 164,.h 188,.h 196,.d (ci 0),.d (.sl 1 (iR (List.replicate (L.length+1) 0)))]
def QA(L:List Int)(cut:List Bool):List (Nat×R):=[(212,w0A L),(164,PR cut),(188,.mp false [] []),(196,.mp false [] [])]
theorem aER{m:Mem}{L:List Int}{cut:List Bool}(h0:m 212=some (w0A L))(h1:m 164=some (PR cut))(h2:m 188=some (.mp false [] []))(h3:m 196=some (.mp false [] [])):Rd m (.lp 212 0) (.ip (w0 L cut).aT1):=
 .lp h0 (.cons (.d _) (.cons (.dU h1) (.cons (.mp (vs:=[]) h2 .nil) (.cons (.mp (vs:=[]) h3 .nil) (.cons (.d _) (.cons (.d _) .nil))))))
theorem JF(L:List Int)(cut:List Bool)(n:Int)(hn:(w0 L cut).vF n=false):aJ Tryz.prog 64 [.lp 212 0,.d (ci n)] (aK (QA L cut)) (.ok (.d (ci 2))) (aH (aK (QA L cut)) []):=by
 refine wE mix 1000 Tryz.func64 tV tV ?_;refine bl ?_;refine fU (cs:=[.ip (w0 L cut).aT1]) (vQ (w0 L cut)) (.v _) (.cons (aER rfl rfl rfl rfl) .nil) ?_;conv=>whnf
 refine bl ?_;refine fU (cs:=[.ip (w0 L cut).aT1,ci n]) (XW (w0 L cut) n) (.v _) (.cons (aER rfl rfl rfl rfl) (.cons (.d _) .nil)) ?_;rw[hn];conv=>whnf
 refine bl ?_;exact dA rfl ⟨.inr rfl,.inr rfl,.inr rfl,.inr rfl,tV⟩
theorem VE(L:List Int)(cut:List Bool)(k:Nat)(hc:k<cut.length)(hn:(w0 L cut).vF k=true):aJ Tryz.prog 64 [.lp 212 0,.d (ci k)] (aK (QA L cut)) (.ok (.d (ci 0))) (aH (aK (QA L cut)) [(164,PR (cut.set k true))]):=by
 refine wE mix 1000 Tryz.func64 tV ⟨aZ,tV⟩ ?_;refine bl ?_;refine fU (cs:=[.ip (w0 L cut).aT1]) (vQ (w0 L cut)) (.v _) (.cons (aER rfl rfl rfl rfl) .nil) ?_;conv=>whnf
 refine bl ?_;refine fU (cs:=[.ip (w0 L cut).aT1,ci k]) (XW (w0 L cut) k) (.v _) (.cons (aER rfl rfl rfl rfl) (.cons (.d _) .nil)) ?_;rw[hn];conv=>whnf
 refine bl ?_;refine lG.mk k rfl (by simp only[bE,aB];exact hc) ?_;conv=>whnf
 skip
 refine fZ.mk [.d (cb cut[k])] (gB _ _ [cb cut[k]] sM) ?_;conv=>whnf
 refine bl ?_;refine dA rfl ⟨.inr ?_,.inr rfl,.inl rfl,.inr rfl,.inr rfl,tV⟩;refine(congrArg (λq=>some (R.fW false 4 1 q)) ?_:some (R.fW false 4 1 _)=some (R.fW false 4 1 _));refine(tU _ k [cb true]).trans ?_;rw[<-List.map_set]
end Go.Pv
