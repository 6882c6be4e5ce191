import Derived.Test.YtpdcbahjjmooiaaGreatA21
/- A program logic over the model, contracts of the functions that the law reaches: part 22. (Names and blanks were shortened by program.) -/
set_option linter.unusedVariables false
set_option linter.unusedSimpArgs false
set_option linter.constructorNameAsVariable false
set_option linter.unusedSectionVars false
set_option linter.deprecated false
set_option maxRecDepth 100000
set_option maxHeartbeats 8000000
open Go Go.Proofs
namespace Go.Pv
open Go.RowKit
mutual
theorem OV:∀(v:V)(p d:Int),(mQ v p d).1=true->v.okR
 |.mk k n s l r,p,d,h=>by
  rw[mQ]at h;split at h
  ·cases h
  ·split at h
   ·rename_i hk;simp only[decide_eq_true_eq]at h;have:l=[]:=bL (by omega);subst this;exact⟨λ_=>rfl,trivial⟩
   ·split at h
    ·simp only[decide_eq_true_eq]at h;have:l=[]:=bL (by omega);subst this;exact⟨λ_=>rfl,trivial⟩
    ·split at h
     ·split at h
      ·cases h
      ·simp only[decide_eq_true_eq]at h;have:l=[]:=bL (by omega);subst this;exact⟨λ_=>rfl,trivial⟩
     ·split at h
      ·split at h
       ·cases h
       ·simp only[decide_eq_true_eq]at h;have:l=[]:=bL (by omega);subst this;exact⟨λ_=>rfl,trivial⟩
      ·split at h
       ·rename_i hk4 hk3;split at h
        ·cases h
        ·refine⟨λe=>absurd e (by omega),?_⟩;cases hq:nG l (p -1) (d -1)with
         |mk b q=>
          obtain⟨q1,q2⟩:=q;rw[hq]at h;cases b with
          |false=>cases h
          |true=>exact OU l (p -1) (d -1) (by rw[hq])
       ·cases h
theorem OU:∀(l:List V)(p d:Int),(nG l p d).1=true->V.aEB l
 |[],p,d,h=>trivial
 |v::r,p,d,h=>by
  rw[nG]at h;cases hq:mQ v p d with
  |mk b q=>
   obtain⟨q1,q2⟩:=q;rw[hq]at h;cases b with
   |false=>cases h
   |true=>exact⟨OV v p d (by rw[hq]),OU r q1 q2 h⟩
end
theorem V.QG(v:V)(h:v.may=true):v.okR:=by
 refine OV v 512 16 ?_;unfold V.may V.aHT at h;cases hq:mQ v 512 16 with
 |mk b q=>
  obtain⟨q1,q2⟩:=q;rw[hq]at h;cases b with
  |false=>simp at h
  |true=>rfl
def V.eI(v:V):List Int:=if v.may=true then v.refs else []
theorem V.iY(v:V):v.eI.length<=v.cR:=by
 unfold V.eI;split
 ·exact V.EO v
 ·simp
theorem jG(v:V)(hv:v.cR<=2^35):∀m,aJ Tryz.prog 72 [.d (.agg v.cells)] m (.ok (.d (.sl 1 (iR v.eI)))) m:=by
 refine iC mix Tryz.func72 ?_;refine bl ?_;refine fT (cs:=v.cells) (rW v (by omega)) ?_;conv=>whnf
 repeat'(first|refine bl ?_|refine bS (λh=>?_) (λh=>?_))
 ·have hok:=v.QG h;by_cases hr:v.refs=[]
  ·refine dR (rL v (by omega) hr [] (by simp only[cS];omega)) (.cons (.agg v.cells) (.cons (.nl 0 1) (.cons (.fn .nil (.cons (.x _) .nil)) .nil))) ?_;conv=>whnf
   refine bl ?_;rw[show v.eI=[] by unfold V.eI;rw[if_pos h,hr]];exact .one (.nz _ _)
  ·refine dZ.mk (.d (cb true)) [(17,.cells false [.h 2]),(2,dU 25 1 (iR v.refs))] ?_ ?_
   ·refine(aJ.UU (W6 v (by omega) hok hr [] (by simp only[cS];omega)) (.v _) (g:=swp 0 17) (gi:=swp 0 17) (fH _ _) (fH _ _) (mb':=[(17,.cells false [.d (.nl 1)])]) ?_ ?_ [] (xs':=[.d (.agg v.cells),.d (.sl 1 []),.fn (.func 131) [] [.lp 17 0]]) (.same _) ?_ ?_ ?_ ?_ ?_ ?_ ?_).mR (.cons (.agg v.cells) (.cons (.nl 0 1) (.cons (.same _) .nil)))
    ·simp only[lH,aG,bM,eT];rfl
    ·simp only[lH,aG,bM,eT];rfl
    all_goals(repeat'(first|exact aW|exact rfl|exact sn|exact rS sn|exact eV rfl|exact vL _ _|exact nY rfl|refine bI ?_ ?_))
   ·conv=>whnf
    refine bl ?_;rw[show v.eI=v.refs by unfold V.eI;rw[if_pos h]];exact .one (.dU (t:=25) rfl)
 ·rw[show v.eI=[] by unfold V.eI;rw[if_neg (by rw[h];simp)]];exact .one (.nz _ _)
theorem O4(v:V)(hv:v.cR<=2^35)(h0:v.eI=[]):∀m,aJ Tryz.prog 72 [.d (.agg v.cells)] m (.ok (.d (.nl 1))) m:=by
 refine iC mix Tryz.func72 ?_;refine bl ?_;refine fT (cs:=v.cells) (rW v (by omega)) ?_;conv=>whnf
 repeat'(first|refine bl ?_|refine bS (λh=>?_) (λh=>?_))
 ·have hok:=v.QG h;have hr:v.refs=[]:=by unfold V.eI at h0;rwa [if_pos h]at h0
  refine dR (rL v (by omega) hr [] (by simp only[cS];omega)) (.cons (.agg v.cells) (.cons (.nl 0 1) (.cons (.fn .nil (.cons (.x _) .nil)) .nil))) ?_;conv=>whnf
  refine bl ?_;exact .one (.d _)
 ·exact .one (.d _)
theorem O3(v:V)(hv:v.cR<=2^35)(h0:v.eI≠[]):∀(m:Mem)(d:Nat),m d=none->aJ Tryz.prog 72 [.d (.agg v.cells)] m (.ok (.h d)) (aX m d (dU 25 1 (iR v.eI))):=by
 refine iW mix (F:=A.h) (r:=dU 25 1 (iR v.eI)) Tryz.func72 rfl (by kernel_rfl) (bD rfl) rfl (oJ _ _ _) (λ_ _=>rfl) (λi j hj=>by simpa [A.hs]using hj) (λg=>eT g _ _ _) ?_;refine bl ?_;refine fT (cs:=v.cells) (rW v (by omega)) ?_;conv=>whnf
 repeat'(first|refine bl ?_|refine bS (λh=>?_) (λh=>?_))
 ·have hok:=v.QG h;have e:v.eI=v.refs:=by unfold V.eI;rw[if_pos h]
  have hr:v.refs≠[]:=by rwa [e]at h0
  refine dZ.mk (.d (cb true)) [(17,.cells false [.h 2]),(2,dU 25 1 (iR v.refs))] ?_ ?_
  ·refine(aJ.UU (W6 v (by omega) hok hr [] (by simp only[cS];omega)) (.v _) (g:=swp 0 17) (gi:=swp 0 17) (fH _ _) (fH _ _) (mb':=[(17,.cells false [.d (.nl 1)])]) ?_ ?_ [] (xs':=[.d (.agg v.cells),.d (.sl 1 []),.fn (.func 131) [] [.lp 17 0]]) (.same _) ?_ ?_ ?_ ?_ ?_ ?_ ?_).mR (.cons (.agg v.cells) (.cons (.nl 0 1) (.cons (.same _) .nil)))
   ·simp only[lH,aG,bM,eT];rfl
   ·simp only[lH,aG,bM,eT];rfl
   all_goals(repeat'(first|exact aW|exact rfl|exact sn|exact rS sn|exact eV rfl|exact vL _ _|exact nY rfl|refine bI ?_ ?_))
  ·conv=>whnf
   refine bl ?_;exact⟨_,rfl,by rw[e];rfl⟩
 ·exfalso;unfold V.eI at h0;rw[if_neg (by rw[h];simp)]at h0;exact h0 rfl
theorem iU{α:Type}(f:α->List Int)(L:List α)(i:Nat)(h:i<L.length):((L.take (i+1)).map f).flatten=((L.take i).map f).flatten++f L[i]:=by
 rw[iT,bP,fJ];simp[aC h]
theorem qN(L:List V):((L.map V.eI).flatten).length<=V.dB L:=by
 induction L with
 |nil=>simp
 |cons v r ih=>have:=V.iY v;simp only[aG,dL,aU,V.dB];omega
theorem gG(a b:List Int):bE (iR a)++(iR b).map (λx=>x.map A.d)=bE (iR (a++b)):=by rw[<-aDK,ER];rfl
def W4.held(x:W4):List Int:=x.value.eI++((x.values.map V.eI).flatten++(x.names.map λn=>n.value.eI).flatten)
theorem aHG(x:W4)(hx:x.cR<=2^35):∀m,aJ Tryz.prog 146 [.d (.agg x.cells)] m (.ok (.d (.sl 1 (iR x.held)))) m:=by
 have hc:x.cR=x.value.cR+V.dB x.values+S4.dB x.code+x.names.length+V.dB (x.names.map (·.value)):=rfl;have hc2:∀i(h:i<x.values.length),x.values[i].cR<=2^35:=λi h=>by have:=V.dG x.values i h;omega
 have hc3:∀i(h:i<x.names.length),x.names[i].value.cR<=2^35:=λi h=>by
  have:=V.dG (x.names.map (·.value)) i (by simpa using h);simp only[fO]at this;omega
 have hr0:=x.value.iY;have hr1:∀i,(((x.values.take i).map V.eI).flatten).length<=V.dB x.values:=λi=>cL (qN _) (V.kA _ _);have hr2:∀i,(((x.names.take i).map λn=>n.value.eI).flatten).length<=V.dB (x.names.map (·.value)):=λi=>by
  have h1:=qN ((x.names.map (·.value)).take i);have h2:=V.kA (x.names.map (·.value)) i;have e:((x.names.take i).map λn=>n.value.eI)=((x.names.map (·.value)).take i).map V.eI:=by rw[<-List.map_take,bH];rfl
  rw[e];omega
 refine iC mix Tryz.func146 ?_;refine bl ?_;have hlv:=V.eW x.values;have hlv:=V.eW x.values;by_cases h0:x.value.eI=[]
 ·refine dR (O4 x.value (by omega) h0) (.cons (.agg x.value.cells) .nil) ?_;conv=>whnf
  refine bl ?_;refine bV mix (λa:Nat×List Int=>a.1<=x.values.length/\a.2=x.value.eI++((x.values.take a.1).map V.eI).flatten) (I:=λa=>[(1,.lp 1 0),(12,.d (.sl 5 (x.values.map V.row))),(13,.d (ci x.values.length)),(3,lv 1 900 (iR a.2)),(14,.d (ci a.1))])
   (J:=λa=>lm 900 25 1 (iR a.2) [(1,.cells false (x.cells.map A.d))]) (μ:=λa=>x.values.length -a.1) 1000 (0,[]) ⟨by simp,by simp[h0]⟩ (by exact mv 5000 5001) ?_
  rintro⟨i,Q⟩ ⟨hi,hQ⟩;dsimp only at hi hQ⊢;have hlen:Q.length<=2^36:=by
   have:=hr1 i;rw[hQ,aU];omega
  cases Q with
  |nil=>
   show vc _ _ _ _ _ [(1,.cells false (x.cells.map A.d))] _ _
   repeat'(first|refine bl ?_|refine bS (λh=>?_) (λh=>?_))
   ·refine eE V.cP rfl (by decide) h ?_;have hst:x.value.eI++((x.values.take (i+1)).map V.eI).flatten=x.value.eI++((x.values.take i).map V.eI).flatten++x.values[i].eI:=by rw[iU V.eI x.values i h,<-bG]
    conv=>whnf
    refine bl ?_;refine dR (jG x.values[i] (hc2 i h)) (.cons (.agg x.values[i].cells) .nil) ?_;have hq:=x.values[i].iY;have hq2:=hc2 i h;conv=>whnf
    skip
    refine n8 (by simp only[aB];omega) (by kernel_rfl) ?_;conv=>whnf
    refine E9.mk (λh1=>?_) (λh1=>?_)
    ·have h1:x.values[i].eI=[]:=by simpa using h1
     conv=>whnf
     refine bl ?_;refine⟨(i+1,[]),by dsimp only;omega,⟨by dsimp only;omega,by dsimp only;rw[hst,h1,dS,<-hQ]⟩,?_⟩;exact mv 5000 5001
    ·have h1:x.values[i].eI≠[]:=by simpa using h1
     conv=>whnf
     refine bl ?_;refine⟨(i+1,x.values[i].eI),by dsimp only;omega,⟨by dsimp only;omega,by dsimp only;rw[hst,<-hQ,bZ]⟩,?_⟩;cases hrr:x.values[i].eI with
     |nil=>exact absurd hrr h1
     |cons r Q=>
      dsimp only[iR,List.map_cons,lv,lm];exact mv 1064 900
      all_goals exact cO rfl (by rw[hrr];rfl)
   ·have e:x.values.take i=x.values:=aI (by omega);rw[e]at hQ;clear hi;refine bV mix (λa:Nat×List Int=>a.1<=x.names.length/\a.2=(x.value.eI++(x.values.map V.eI).flatten)++((x.names.take a.1).map λn=>n.value.eI).flatten) (I:=λa=>[(1,.lp 1 0),(24,.d (.sl 6 (x.names.map N4.cells))),(25,.d (ci x.names.length)),(3,lv 1 900 (iR a.2)),(26,.d (ci a.1))])
     (J:=λa=>lm 900 25 1 (iR a.2) [(1,.cells false (x.cells.map A.d))]) (μ:=λa=>x.names.length -a.1) 1000 (0,[]) ⟨by simp,by dsimp only;rw[<-hQ];simp⟩ (by exact mv 5000 5001) ?_
    rintro⟨i,Q⟩ ⟨hi,hQ⟩;dsimp only at hi hQ⊢;have hlen:Q.length<=2^36:=by
     have h1:=hr2 i;have h2:=hr1 x.values.length;rw[gX]at h2;rw[hQ,aU,aU];omega
    cases Q with
    |nil=>
     show vc _ _ _ _ _ [(1,.cells false (x.cells.map A.d))] _ _
     repeat'(first|refine bl ?_|refine bS (λh=>?_) (λh=>?_))
     ·refine cD rfl (by decide) h ?_;have hst:(x.value.eI++(x.values.map V.eI).flatten)++((x.names.take (i+1)).map λn=>n.value.eI).flatten=(x.value.eI++(x.values.map V.eI).flatten)++((x.names.take i).map λn=>n.value.eI).flatten++x.names[i].value.eI:=by rw[iU (λn:N4=>n.value.eI) x.names i h,<-bG]
      conv=>whnf
      refine bl ?_;refine dR (jG x.names[i].value (hc3 i h)) (.cons (.agg x.names[i].value.cells) .nil) ?_;have hq:=x.names[i].value.iY;have hq2:=hc3 i h;conv=>whnf
      skip
      refine n8 (by simp only[aB];omega) (by kernel_rfl) ?_;conv=>whnf
      refine E9.mk (λh1=>?_) (λh1=>?_)
      ·have h1:x.names[i].value.eI=[]:=by simpa using h1
       conv=>whnf
       refine bl ?_;refine⟨(i+1,[]),by dsimp only;omega,⟨by dsimp only;omega,by dsimp only;rw[hst,h1,dS,<-hQ]⟩,?_⟩;exact mv 5000 5001
      ·have h1:x.names[i].value.eI≠[]:=by simpa using h1
       conv=>whnf
       refine bl ?_;refine⟨(i+1,x.names[i].value.eI),by dsimp only;omega,⟨by dsimp only;omega,by dsimp only;rw[hst,<-hQ,bZ]⟩,?_⟩;cases hrr:x.names[i].value.eI with
       |nil=>exact absurd hrr h1
       |cons r Q=>
        dsimp only[iR,List.map_cons,lv,lm];exact mv 1072 900
        all_goals exact cO rfl (by rw[hrr];rfl)
     ·have e:x.names.take i=x.names:=aI (by omega);rw[e,bG]at hQ;rw[show x.held=_ from hQ.symm];exact .one (.nz _ _)
    |cons r Q=>
     show vc _ _ _ _ _ [(900,dU 25 1 (iR (r::Q))),(1,.cells false (x.cells.map A.d))] _ _
     repeat'(first|refine bl ?_|refine bS (λh=>?_) (λh=>?_))
     ·refine cD rfl (by decide) h ?_;have hst:(x.value.eI++(x.values.map V.eI).flatten)++((x.names.take (i+1)).map λn=>n.value.eI).flatten=(x.value.eI++(x.values.map V.eI).flatten)++((x.names.take i).map λn=>n.value.eI).flatten++x.names[i].value.eI:=by rw[iU (λn:N4=>n.value.eI) x.names i h,<-bG]
      conv=>whnf
      refine bl ?_;refine dR (jG x.names[i].value (hc3 i h)) (.cons (.agg x.names[i].value.cells) .nil) ?_;have hq:=x.names[i].value.iY;have hq2:=hc3 i h;conv=>whnf
      skip
      refine n8 (by simp only[aB,bE];omega) (by kernel_rfl) ?_;conv=>whnf
      refine bl ?_;refine⟨(i+1,r::(Q++x.names[i].value.eI)),by dsimp only;omega,⟨by dsimp only;omega,by dsimp only;rw[hst,<-hQ];rfl⟩,?_⟩;refine mq 1072 900 ?_
      all_goals exact cO rfl (gG (r::Q) x.names[i].value.eI)
     ·have e:x.names.take i=x.names:=aI (by omega);rw[e,bG]at hQ;rw[show x.held=_ from hQ.symm];exact .one (.dU (t:=25) rfl)
  |cons r Q=>
   show vc _ _ _ _ _ [(900,dU 25 1 (iR (r::Q))),(1,.cells false (x.cells.map A.d))] _ _
   repeat'(first|refine bl ?_|refine bS (λh=>?_) (λh=>?_))
   ·refine eE V.cP rfl (by decide) h ?_;have hst:x.value.eI++((x.values.take (i+1)).map V.eI).flatten=x.value.eI++((x.values.take i).map V.eI).flatten++x.values[i].eI:=by rw[iU V.eI x.values i h,<-bG]
    conv=>whnf
    refine bl ?_;refine dR (jG x.values[i] (hc2 i h)) (.cons (.agg x.values[i].cells) .nil) ?_;have hq:=x.values[i].iY;have hq2:=hc2 i h;conv=>whnf
    skip
    refine n8 (by simp only[aB,bE];omega) (by kernel_rfl) ?_;conv=>whnf
    refine bl ?_;refine⟨(i+1,r::(Q++x.values[i].eI)),by dsimp only;omega,⟨by dsimp only;omega,by dsimp only;rw[hst,<-hQ];rfl⟩,?_⟩;refine mq 1064 900 ?_
    all_goals exact cO rfl (gG (r::Q) x.values[i].eI)
   ·have e:x.values.take i=x.values:=aI (by omega);rw[e]at hQ;clear hi;refine bV mix (λa:Nat×List Int=>a.1<=x.names.length/\a.2=(x.value.eI++(x.values.map V.eI).flatten)++((x.names.take a.1).map λn=>n.value.eI).flatten) (I:=λa=>[(1,.lp 1 0),(24,.d (.sl 6 (x.names.map N4.cells))),(25,.d (ci x.names.length)),(3,lv 1 900 (iR a.2)),(26,.d (ci a.1))])
     (J:=λa=>lm 900 25 1 (iR a.2) [(1,.cells false (x.cells.map A.d))]) (μ:=λa=>x.names.length -a.1) 1000 (0,r::Q) ⟨by simp,by dsimp only;rw[<-hQ];simp⟩ (by exact mv 5000 5001) ?_
    rintro⟨i,Q⟩ ⟨hi,hQ⟩;dsimp only at hi hQ⊢;have hlen:Q.length<=2^36:=by
     have h1:=hr2 i;have h2:=hr1 x.values.length;rw[gX]at h2;rw[hQ,aU,aU];omega
    cases Q with
    |nil=>
     show vc _ _ _ _ _ [(1,.cells false (x.cells.map A.d))] _ _
     repeat'(first|refine bl ?_|refine bS (λh=>?_) (λh=>?_))
     ·refine cD rfl (by decide) h ?_;have hst:(x.value.eI++(x.values.map V.eI).flatten)++((x.names.take (i+1)).map λn=>n.value.eI).flatten=(x.value.eI++(x.values.map V.eI).flatten)++((x.names.take i).map λn=>n.value.eI).flatten++x.names[i].value.eI:=by rw[iU (λn:N4=>n.value.eI) x.names i h,<-bG]
      conv=>whnf
      refine bl ?_;refine dR (jG x.names[i].value (hc3 i h)) (.cons (.agg x.names[i].value.cells) .nil) ?_;have hq:=x.names[i].value.iY;have hq2:=hc3 i h;conv=>whnf
      skip
      refine n8 (by simp only[aB];omega) (by kernel_rfl) ?_;conv=>whnf
      refine E9.mk (λh1=>?_) (λh1=>?_)
      ·have h1:x.names[i].value.eI=[]:=by simpa using h1
       conv=>whnf
       refine bl ?_;refine⟨(i+1,[]),by dsimp only;omega,⟨by dsimp only;omega,by dsimp only;rw[hst,h1,dS,<-hQ]⟩,?_⟩;exact mv 5000 5001
      ·have h1:x.names[i].value.eI≠[]:=by simpa using h1
       conv=>whnf
       refine bl ?_;refine⟨(i+1,x.names[i].value.eI),by dsimp only;omega,⟨by dsimp only;omega,by dsimp only;rw[hst,<-hQ,bZ]⟩,?_⟩;cases hrr:x.names[i].value.eI with
       |nil=>exact absurd hrr h1
       |cons r Q=>
        dsimp only[iR,List.map_cons,lv,lm];exact mv 1072 900
        all_goals exact cO rfl (by rw[hrr];rfl)
     ·have e:x.names.take i=x.names:=aI (by omega);rw[e,bG]at hQ;rw[show x.held=_ from hQ.symm];exact .one (.nz _ _)
    |cons r Q=>
     show vc _ _ _ _ _ [(900,dU 25 1 (iR (r::Q))),(1,.cells false (x.cells.map A.d))] _ _
     repeat'(first|refine bl ?_|refine bS (λh=>?_) (λh=>?_))
     ·refine cD rfl (by decide) h ?_;have hst:(x.value.eI++(x.values.map V.eI).flatten)++((x.names.take (i+1)).map λn=>n.value.eI).flatten=(x.value.eI++(x.values.map V.eI).flatten)++((x.names.take i).map λn=>n.value.eI).flatten++x.names[i].value.eI:=by rw[iU (λn:N4=>n.value.eI) x.names i h,<-bG]
      conv=>whnf
      refine bl ?_;refine dR (jG x.names[i].value (hc3 i h)) (.cons (.agg x.names[i].value.cells) .nil) ?_;have hq:=x.names[i].value.iY;have hq2:=hc3 i h;conv=>whnf
      skip
      refine n8 (by simp only[aB,bE];omega) (by kernel_rfl) ?_;conv=>whnf
      refine bl ?_;refine⟨(i+1,r::(Q++x.names[i].value.eI)),by dsimp only;omega,⟨by dsimp only;omega,by dsimp only;rw[hst,<-hQ];rfl⟩,?_⟩;refine mq 1072 900 ?_
      all_goals exact cO rfl (gG (r::Q) x.names[i].value.eI)
     ·have e:x.names.take i=x.names:=aI (by omega);rw[e,bG]at hQ;rw[show x.held=_ from hQ.symm];exact .one (.dU (t:=25) rfl)
 ·refine fQ (λm d hd=>(O3 x.value (by omega) h0 m d hd).mR (.cons (.agg x.value.cells) .nil)) 900 rfl ?_;conv=>whnf
  refine bl ?_;refine bV mix (λa:Nat×List Int=>a.1<=x.values.length/\a.2=x.value.eI++((x.values.take a.1).map V.eI).flatten) (I:=λa=>[(1,.lp 1 0),(12,.d (.sl 5 (x.values.map V.row))),(13,.d (ci x.values.length)),(3,lv 1 900 (iR a.2)),(14,.d (ci a.1))])
   (J:=λa=>lm 900 25 1 (iR a.2) [(1,.cells false (x.cells.map A.d))]) (μ:=λa=>x.values.length -a.1) 1000 (0,x.value.eI) ⟨by simp,by simp⟩ (by cases hrr:x.value.eI with|nil=>exact absurd hrr h0|cons r Q=>(dsimp only[iR,List.map_cons,lv,lm];exact mv 5000 5001;all_goals exact cO rfl (by rw[hrr];rfl))) ?_
  rintro⟨i,Q⟩ ⟨hi,hQ⟩;dsimp only at hi hQ⊢;have hlen:Q.length<=2^36:=by
   have:=hr1 i;rw[hQ,aU];omega
  cases Q with
  |nil=>
   show vc _ _ _ _ _ [(1,.cells false (x.cells.map A.d))] _ _
   repeat'(first|refine bl ?_|refine bS (λh=>?_) (λh=>?_))
   ·refine eE V.cP rfl (by decide) h ?_;have hst:x.value.eI++((x.values.take (i+1)).map V.eI).flatten=x.value.eI++((x.values.take i).map V.eI).flatten++x.values[i].eI:=by rw[iU V.eI x.values i h,<-bG]
    conv=>whnf
    refine bl ?_;refine dR (jG x.values[i] (hc2 i h)) (.cons (.agg x.values[i].cells) .nil) ?_;have hq:=x.values[i].iY;have hq2:=hc2 i h;conv=>whnf
    skip
    refine n8 (by simp only[aB];omega) (by kernel_rfl) ?_;conv=>whnf
    refine E9.mk (λh1=>?_) (λh1=>?_)
    ·have h1:x.values[i].eI=[]:=by simpa using h1
     conv=>whnf
     refine bl ?_;refine⟨(i+1,[]),by dsimp only;omega,⟨by dsimp only;omega,by dsimp only;rw[hst,h1,dS,<-hQ]⟩,?_⟩;exact mv 5000 5001
    ·have h1:x.values[i].eI≠[]:=by simpa using h1
     conv=>whnf
     refine bl ?_;refine⟨(i+1,x.values[i].eI),by dsimp only;omega,⟨by dsimp only;omega,by dsimp only;rw[hst,<-hQ,bZ]⟩,?_⟩;cases hrr:x.values[i].eI with
     |nil=>exact absurd hrr h1
     |cons r Q=>
      dsimp only[iR,List.map_cons,lv,lm];exact mv 1064 900
      all_goals exact cO rfl (by rw[hrr];rfl)
   ·have e:x.values.take i=x.values:=aI (by omega);rw[e]at hQ;clear hi;refine bV mix (λa:Nat×List Int=>a.1<=x.names.length/\a.2=(x.value.eI++(x.values.map V.eI).flatten)++((x.names.take a.1).map λn=>n.value.eI).flatten) (I:=λa=>[(1,.lp 1 0),(24,.d (.sl 6 (x.names.map N4.cells))),(25,.d (ci x.names.length)),(3,lv 1 900 (iR a.2)),(26,.d (ci a.1))])
     (J:=λa=>lm 900 25 1 (iR a.2) [(1,.cells false (x.cells.map A.d))]) (μ:=λa=>x.names.length -a.1) 1000 (0,[]) ⟨by simp,by dsimp only;rw[<-hQ];simp⟩ (by exact mv 5000 5001) ?_
    rintro⟨i,Q⟩ ⟨hi,hQ⟩;dsimp only at hi hQ⊢;have hlen:Q.length<=2^36:=by
     have h1:=hr2 i;have h2:=hr1 x.values.length;rw[gX]at h2;rw[hQ,aU,aU];omega
    cases Q with
    |nil=>
     show vc _ _ _ _ _ [(1,.cells false (x.cells.map A.d))] _ _
     repeat'(first|refine bl ?_|refine bS (λh=>?_) (λh=>?_))
     ·refine cD rfl (by decide) h ?_;have hst:(x.value.eI++(x.values.map V.eI).flatten)++((x.names.take (i+1)).map λn=>n.value.eI).flatten=(x.value.eI++(x.values.map V.eI).flatten)++((x.names.take i).map λn=>n.value.eI).flatten++x.names[i].value.eI:=by rw[iU (λn:N4=>n.value.eI) x.names i h,<-bG]
      conv=>whnf
      refine bl ?_;refine dR (jG x.names[i].value (hc3 i h)) (.cons (.agg x.names[i].value.cells) .nil) ?_;have hq:=x.names[i].value.iY;have hq2:=hc3 i h;conv=>whnf
      skip
      refine n8 (by simp only[aB];omega) (by kernel_rfl) ?_;conv=>whnf
      refine E9.mk (λh1=>?_) (λh1=>?_)
      ·have h1:x.names[i].value.eI=[]:=by simpa using h1
       conv=>whnf
       refine bl ?_;refine⟨(i+1,[]),by dsimp only;omega,⟨by dsimp only;omega,by dsimp only;rw[hst,h1,dS,<-hQ]⟩,?_⟩;exact mv 5000 5001
      ·have h1:x.names[i].value.eI≠[]:=by simpa using h1
       conv=>whnf
       refine bl ?_;refine⟨(i+1,x.names[i].value.eI),by dsimp only;omega,⟨by dsimp only;omega,by dsimp only;rw[hst,<-hQ,bZ]⟩,?_⟩;cases hrr:x.names[i].value.eI with
       |nil=>exact absurd hrr h1
       |cons r Q=>
        dsimp only[iR,List.map_cons,lv,lm];exact mv 1072 900
        all_goals exact cO rfl (by rw[hrr];rfl)
     ·have e:x.names.take i=x.names:=aI (by omega);rw[e,bG]at hQ;rw[show x.held=_ from hQ.symm];exact .one (.nz _ _)
    |cons r Q=>
     show vc _ _ _ _ _ [(900,dU 25 1 (iR (r::Q))),(1,.cells false (x.cells.map A.d))] _ _
     repeat'(first|refine bl ?_|refine bS (λh=>?_) (λh=>?_))
     ·refine cD rfl (by decide) h ?_;have hst:(x.value.eI++(x.values.map V.eI).flatten)++((x.names.take (i+1)).map λn=>n.value.eI).flatten=(x.value.eI++(x.values.map V.eI).flatten)++((x.names.take i).map λn=>n.value.eI).flatten++x.names[i].value.eI:=by rw[iU (λn:N4=>n.value.eI) x.names i h,<-bG]
      conv=>whnf
      refine bl ?_;refine dR (jG x.names[i].value (hc3 i h)) (.cons (.agg x.names[i].value.cells) .nil) ?_;have hq:=x.names[i].value.iY;have hq2:=hc3 i h;conv=>whnf
      skip
      refine n8 (by simp only[aB,bE];omega) (by kernel_rfl) ?_;conv=>whnf
      refine bl ?_;refine⟨(i+1,r::(Q++x.names[i].value.eI)),by dsimp only;omega,⟨by dsimp only;omega,by dsimp only;rw[hst,<-hQ];rfl⟩,?_⟩;refine mq 1072 900 ?_
      all_goals exact cO rfl (gG (r::Q) x.names[i].value.eI)
     ·have e:x.names.take i=x.names:=aI (by omega);rw[e,bG]at hQ;rw[show x.held=_ from hQ.symm];exact .one (.dU (t:=25) rfl)
  |cons r Q=>
   show vc _ _ _ _ _ [(900,dU 25 1 (iR (r::Q))),(1,.cells false (x.cells.map A.d))] _ _
   repeat'(first|refine bl ?_|refine bS (λh=>?_) (λh=>?_))
   ·refine eE V.cP rfl (by decide) h ?_;have hst:x.value.eI++((x.values.take (i+1)).map V.eI).flatten=x.value.eI++((x.values.take i).map V.eI).flatten++x.values[i].eI:=by rw[iU V.eI x.values i h,<-bG]
    conv=>whnf
    refine bl ?_;refine dR (jG x.values[i] (hc2 i h)) (.cons (.agg x.values[i].cells) .nil) ?_;have hq:=x.values[i].iY;have hq2:=hc2 i h;conv=>whnf
    skip
    refine n8 (by simp only[aB,bE];omega) (by kernel_rfl) ?_;conv=>whnf
    refine bl ?_;refine⟨(i+1,r::(Q++x.values[i].eI)),by dsimp only;omega,⟨by dsimp only;omega,by dsimp only;rw[hst,<-hQ];rfl⟩,?_⟩;refine mq 1064 900 ?_
    all_goals exact cO rfl (gG (r::Q) x.values[i].eI)
   ·have e:x.values.take i=x.values:=aI (by omega);rw[e]at hQ;clear hi;refine bV mix (λa:Nat×List Int=>a.1<=x.names.length/\a.2=(x.value.eI++(x.values.map V.eI).flatten)++((x.names.take a.1).map λn=>n.value.eI).flatten) (I:=λa=>[(1,.lp 1 0),(24,.d (.sl 6 (x.names.map N4.cells))),(25,.d (ci x.names.length)),(3,lv 1 900 (iR a.2)),(26,.d (ci a.1))])
     (J:=λa=>lm 900 25 1 (iR a.2) [(1,.cells false (x.cells.map A.d))]) (μ:=λa=>x.names.length -a.1) 1000 (0,r::Q) ⟨by simp,by dsimp only;rw[<-hQ];simp⟩ (by exact mv 5000 5001) ?_
    rintro⟨i,Q⟩ ⟨hi,hQ⟩;dsimp only at hi hQ⊢;have hlen:Q.length<=2^36:=by
     have h1:=hr2 i;have h2:=hr1 x.values.length;rw[gX]at h2;rw[hQ,aU,aU];omega
    cases Q with
    |nil=>
     show vc _ _ _ _ _ [(1,.cells false (x.cells.map A.d))] _ _
     repeat'(first|refine bl ?_|refine bS (λh=>?_) (λh=>?_))
     ·refine cD rfl (by decide) h ?_;have hst:(x.value.eI++(x.values.map V.eI).flatten)++((x.names.take (i+1)).map λn=>n.value.eI).flatten=(x.value.eI++(x.values.map V.eI).flatten)++((x.names.take i).map λn=>n.value.eI).flatten++x.names[i].value.eI:=by rw[iU (λn:N4=>n.value.eI) x.names i h,<-bG]
      conv=>whnf
      refine bl ?_;refine dR (jG x.names[i].value (hc3 i h)) (.cons (.agg x.names[i].value.cells) .nil) ?_;have hq:=x.names[i].value.iY;have hq2:=hc3 i h;conv=>whnf
      skip
      refine n8 (by simp only[aB];omega) (by kernel_rfl) ?_;conv=>whnf
      refine E9.mk (λh1=>?_) (λh1=>?_)
      ·have h1:x.names[i].value.eI=[]:=by simpa using h1
       conv=>whnf
       refine bl ?_;refine⟨(i+1,[]),by dsimp only;omega,⟨by dsimp only;omega,by dsimp only;rw[hst,h1,dS,<-hQ]⟩,?_⟩;exact mv 5000 5001
      ·have h1:x.names[i].value.eI≠[]:=by simpa using h1
       conv=>whnf
       refine bl ?_;refine⟨(i+1,x.names[i].value.eI),by dsimp only;omega,⟨by dsimp only;omega,by dsimp only;rw[hst,<-hQ,bZ]⟩,?_⟩;cases hrr:x.names[i].value.eI with
       |nil=>exact absurd hrr h1
       |cons r Q=>
        dsimp only[iR,List.map_cons,lv,lm];exact mv 1072 900
        all_goals exact cO rfl (by rw[hrr];rfl)
     ·have e:x.names.take i=x.names:=aI (by omega);rw[e,bG]at hQ;rw[show x.held=_ from hQ.symm];exact .one (.nz _ _)
    |cons r Q=>
     show vc _ _ _ _ _ [(900,dU 25 1 (iR (r::Q))),(1,.cells false (x.cells.map A.d))] _ _
     repeat'(first|refine bl ?_|refine bS (λh=>?_) (λh=>?_))
     ·refine cD rfl (by decide) h ?_;have hst:(x.value.eI++(x.values.map V.eI).flatten)++((x.names.take (i+1)).map λn=>n.value.eI).flatten=(x.value.eI++(x.values.map V.eI).flatten)++((x.names.take i).map λn=>n.value.eI).flatten++x.names[i].value.eI:=by rw[iU (λn:N4=>n.value.eI) x.names i h,<-bG]
      conv=>whnf
      refine bl ?_;refine dR (jG x.names[i].value (hc3 i h)) (.cons (.agg x.names[i].value.cells) .nil) ?_;have hq:=x.names[i].value.iY;have hq2:=hc3 i h;conv=>whnf
      skip
      refine n8 (by simp only[aB,bE];omega) (by kernel_rfl) ?_;conv=>whnf
      refine bl ?_;refine⟨(i+1,r::(Q++x.names[i].value.eI)),by dsimp only;omega,⟨by dsimp only;omega,by dsimp only;rw[hst,<-hQ];rfl⟩,?_⟩;refine mq 1072 900 ?_
      all_goals exact cO rfl (gG (r::Q) x.names[i].value.eI)
     ·have e:x.names.take i=x.names:=aI (by omega);rw[e,bG]at hQ;rw[show x.held=_ from hQ.symm];exact .one (.dU (t:=25) rfl)
def idxOf{α:Type}(p:α->Bool)(L:List α):Int:=match L.findIdx? p with
 |some i=>i
 |none=>-1
theorem yH{α:Type}(p:α->Bool)(L:List α):decide (0<=idxOf p L)=L.any p:=by
 unfold idxOf;cases h:L.findIdx? p with
 |none=>
  have:=List.findIdx?_eq_none_iff.1 h;have h2:L.any p=false:=by
   rw[qR];intro x hx;simp[this x hx]
  rw[h2];rfl
 |some i=>
  obtain⟨hi,hp,_⟩:=kP.1 h;have h2:L.any p=true:=dQ.2 ⟨L[i],aY hi,hp⟩;rw[h2];simp
theorem CN{α:Type}(p:α->Bool)(L:List α)(i:Nat)(h:i<L.length)(h0:(L.take i).any p=false)(hp:p L[i]=true):idxOf p L=i:=by
 have:L.findIdx? p=some i:=by
  rw[kP];refine⟨h,hp,λj hj=>?_⟩;rw[qR]at h0;have:=h0 L[j] (by rw[List.mem_take_iff_getElem];exact⟨j,by omega,rfl⟩);simpa using this
 unfold idxOf;rw[this]
theorem CM{α:Type}(p:α->Bool)(L:List α)(h0:L.any p=false):idxOf p L=-1:=by
 have:L.findIdx? p=none:=by
  rw[List.findIdx?_eq_none_iff];intro x hx;rw[qR]at h0;simpa using h0 x hx
 unfold idxOf;rw[this]
theorem A2{α:Type}(p:α->Bool)(L:List α)(i:Nat)(h:i<L.length)(h0:(L.take i).any p=false)(hp:p L[i]=false):(L.take (i+1)).any p=false:=by
 rw[iT,List.any_append,h0];simp[aC h,hp]
theorem S5(k:FuncId)(caps:List C)(p:Int->Bool)(hf:∀r m,aJ Tryz.prog k ([.d (ci r)]++caps.map A.d) m (.ok (.d (cb (p r)))) m)(L:List Int)(hL:L.length<=2^38):∀m,aJ Tryz.prog 183 [.d (.sl 1 (iR L)),.d (.fn (.func k) [] caps)] m (.ok (.d (ci (idxOf p L)))) m:=by
 refine iC mix Tryz.func183 ?_;refine bl ?_;refine bV mix (λi:Nat=>i<=L.length/\(L.take i).any p=false) (I:=λi=>[(0,.d (.sl 1 (iR L))),(1,.d (.fn (.func k) [] caps)),(7,.d (ci L.length)),(8,.d (ci i))])
  (J:=λi=>[]) (μ:=λi=>L.length -i) 100 0 ⟨by omega,rfl⟩ (by exact mv 5000 5001) ?_
 rintro i ⟨hi,h0⟩
 repeat'(first|refine bl ?_|refine bS (λh=>?_) (λh=>?_))
 ·refine cD rfl (by decide) h ?_;conv=>whnf
  skip
  refine aF (hf L[i]) ?_;conv=>whnf
  repeat'(first|refine bl ?_|refine bS (λh=>?_) (λh=>?_))
  ·exact oF (CN p L i (by assumption) h0 (by assumption)).symm
  ·refine⟨i+1,by omega,⟨by omega,A2 p L i (by assumption) h0 (by assumption)⟩,?_⟩;exact mv 5000 5001
 ·rw[aI (by omega)]at h0;exact oF (CM p L h0).symm
theorem JC(k:FuncId)(caps:List C)(p:Int->Bool)(hf:∀r m,aJ Tryz.prog k ([.d (ci r)]++caps.map A.d) m (.ok (.d (cb (p r)))) m)(L:List Int)(hL:L.length<=2^38):∀m,aJ Tryz.prog 145 [.d (.sl 1 (iR L)),.d (.fn (.func k) [] caps)] m (.ok (.d (cb (L.any p)))) m:=by
 refine iC mix Tryz.func145 ?_;refine bl ?_;refine aF (S5 k caps p hf L hL) ?_;conv=>whnf
 refine bl ?_;exact dP (yH p L)
theorem aAY(w:D4)(r:Int):∀m,aJ Tryz.prog 147 [.d (ci r),.d (.ip [.ip w.cells])] m (.ok (.d (cb (!w.mI r)))) m:=by
 refine iC mix Tryz.func147 ?_;refine bl ?_;refine aF (sB w r) ?_;conv=>whnf
 refine bl ?_;exact dP rfl
def D4.V9(w:D4)(x:W4):Bool:=!(x.held.any λr=> !w.mI r)
theorem W4.aDG(x:W4):x.held.length<=x.cR:=by
 have hc:x.cR=x.value.cR+V.dB x.values+S4.dB x.code+x.names.length+V.dB (x.names.map (·.value)):=rfl;have h1:=x.value.iY;have h2:=qN x.values;have h3:=qN (x.names.map (·.value));rw[bH]at h3;simp only[W4.held,aU];have h4:((x.names.map (V.eI∘λn=>n.value)).flatten).length=((x.names.map λn=>n.value.eI).flatten).length:=rfl;omega
theorem aD6(w:D4)(x:W4)(hx:x.cR<=2^35):∀m,aJ Tryz.prog 88 [.d (.ip w.cells),.d (.agg x.cells)] m (.ok (.d (cb (w.V9 x)))) m:=by
 have hl:=x.aDG;refine iC mix Tryz.func88 ?_;refine bl ?_;refine dR (aHG x hx) (.cons (.agg x.cells) .nil) ?_;conv=>whnf
 skip
 refine fU (cs:=[.sl 1 (iR x.held),.fn (.func 147) [] [.ip [.ip w.cells]]]) (JC _ _ _ (aAY w) _ (by omega)) (.v _) (.cons (.d _) (.cons (.fn .nil (.cons (.lp rfl (.cons (.d _) .nil)) .nil)) .nil)) ?_;conv=>whnf
 refine bl ?_;exact dP rfl
def D4.aDI(w:D4)(r:Int):Int:=((w.find r).map λt=>t.bQ.home).getD 0
def D4.ofI(w:D4)(r:Int):Int:=((w.find r).map λt=>t.bQ.of).getD 0
def D4.byI(w:D4)(r:Int):Int:=((w.find r).map λt=>t.bQ.by_).getD 0
def D4.n4(w:D4)(x:W4)(of k:Int):Bool:=decide (w.zB of=k)&&decide (w.aDI of=x.home)
theorem aF2(w:D4)(x:W4)(of k:Int)(hk:k≠0):∀m,aJ Tryz.prog 148 [.d (ci of),.d (.v (.int .u8 k)),.d (.ip [.ip w.cells]),.d (.ip x.cells)] m (.ok (.d (cb (w.n4 x of k)))) m:=by
 refine iC mix Tryz.func148 ?_;refine bl ?_;refine cH (P9 w of) ?_;conv=>whnf
 repeat'(first|refine bl ?_|refine bS (λh=>?_) (λh=>?_))
 ·refine EA (by decide) (λt ht=>?_) (λht=>?_)
  ·conv=>whnf
   refine bl ?_;refine dP ?_;have h1:w.aDI of=t.bQ.home:=by unfold D4.aDI D4.find;rw[ht];rfl
   unfold D4.n4;rw[h1];simp[h]
  ·exfalso;have:w.zB of=0:=by unfold D4.zB D4.find;rw[ht];rfl
   omega
 ·refine dP ?_;unfold D4.n4;simp[h]
abbrev kF(a b:Int):Ky:=.agg [.int .i64 a,.int .u8 b]
theorem CO(key:(Int×Int)×Int->Int×Int)(val:(Int×Int)×Int->A)(r s:Int):∀L:List ((Int×Int)×Int),fL (kF r s) (L.map λt=>(kF (key t).1 (key t).2,val t))=(L.find? λt=>decide (key t=(r,s))).map val
 |[]=>rfl
 |t::L=>by
  simp only[aG,fL,eN];by_cases h:key t=(r,s)
  ·simp[h]
  ·have:¬kF r s=kF (key t).1 (key t).2:=by
    simp only[kF,Ky.agg.injEq,iX,KC.int.injEq,true_and,and_true];exact λe=>h (by rw[e.1,e.2])
   simp only[this,if_false,h,decide_false];exact CO key val r s L
theorem aB2(f:(Int×Int)×Int->Ky)(g:(Int×Int)×Int->C)(L:List ((Int×Int)×Int)):(L.map f).zip ((L.map g).map A.d)=L.map λt=>(f t,A.d (g t)):=by
 induction L with
 |nil=>rfl
 |cons a r ih=>simp only[aG,List.zip_cons_cons,ih]
theorem lkF{P:Program}{L:List ((Int×Int)×Int)}{kt:TypeId}{r s:Int}{k1:A->Prop}{k0:Prop}(hk:Ky.fits P kt (kF r s)=true)(h1:∀t,(L.find? λt=>decide (t.1=(r,s)))=some t->k1 (.d (ci t.2)))(h0:(L.find? λt=>decide (t.1=(r,s)))=none->k0):
 LkK (kH P kt (kF r s) ((L.map λf=>kF f.1.1 f.1.2).zip ((L.map λf=>ci f.2).map A.d))) (fL (kF r s) ((L.map λf=>kF f.1.1 f.1.2).zip ((L.map λf=>ci f.2).map A.d))) k1 k0:=by
 rw[aB2];have hf:kH P kt (kF r s) (L.map λt=>(kF t.1.1 t.1.2,A.d (ci t.2)))=true:=by
  unfold kH;rw[hk,cA,cV];intro p hp;obtain⟨t,_,rfl⟩:=aM.1 hp;rfl
 have hg:=CO (λt=>t.1) (λt=>A.d (ci t.2)) r s L;cases h:L.find? λt=>decide (t.1=(r,s))with
 |none=>rw[h]at hg;exact .BP hf hg (h0 h)
 |some t=>rw[h]at hg;exact .CL _ hf hg (h1 t h)
def D4.aCS(w:D4)(x:W4)(r:Int):Bool:=match w.facets.find? λt=>decide (t.1=(x.of,x.set))with
 |some t=>decide (t.2=r)
 |none=>true
def D4.qJ(w:D4)(r:Int)(x:W4)(v:Int):Bool:=
 if x.kind=6 then w.n4 x x.of 5&& !w.QN r 6 x.of
 else if x.kind=7 then w.n4 x x.of 5
 else if x.kind=9 then w.n4 x x.of 8
 else if x.kind=11 then w.n4 x x.of 10&& !w.QN r 11 x.of
 else if x.kind=15 then w.n4 x x.by_ 13&&(w.mI x.of&&decide (w.ofI x.by_=r))
 else if x.kind=16 then w.n4 x x.by_ 3&&w.mI x.of
 else if x.kind=13 then decide (x.of=0)||(decide (w.zB x.of=15)&&decide (w.byI x.of=r))
 else if x.kind=14 then w.mI x.of&&(decide (w.zB x.of≠14)&&(decide (x.set≠v)&&(decide (pO .andNot .u8 x.set v=0)&&w.aCS x r)))
 else true
theorem aG8(w:D4)(r:Int)(x:W4)(n:Nat)(v:Int)(hv:x.kind=14->w.MD n 63 x.of=some v):∀m,aJ Tryz.prog 91 [.d (.ip w.cells),.d (ci r),.d (.agg x.cells)] m (.ok (.d (cb (w.qJ r x v)))) m:=by
 have hth:∀(ml:List (Nat×R))(of k:Int),k≠0->aK ml 1=some (.cells false [.d (.ip w.cells)])->∀i,aK ml i=some (.cells false (x.cells.map A.d))->aJ Tryz.prog 148 [.d (ci of),.d (.v (.int .u8 k)),.lp 1 0,.lp i 0] (aK ml) (.ok (.d (cb (w.n4 x of k)))) (aK ml):=λml of k hk h1 i h2=>
  aJ.view (cs:=[ci of,.v (.int .u8 k),.ip [.ip w.cells],.ip x.cells]) (aF2 w x of k hk) (.v _) (.cons (.d _) (.cons (.d _) (.cons (.lp h1 (.cons (.d _) .nil)) (.cons (.lp h2 (wJ.data _ _)) .nil))))
 refine iC mix Tryz.func91 ?_
 repeat'(first|refine bl ?_|refine bS (λh=>?_) (λh=>?_))
 ·refine dZ.mk (.d (cb (w.n4 x x.of 5))) [] (hth _ x.of 5 (by decide) rfl 9 rfl) ?_;conv=>whnf
  repeat'(first|refine bl ?_|refine bS (λh=>?_) (λh=>?_))
  ·refine aF (TT w r 6 x.of) ?_;conv=>whnf
   refine bl ?_;refine dP ?_;simp_all[D4.qJ]
  ·refine dP ?_;simp_all[D4.qJ]
 ·refine dZ.mk (.d (cb (w.n4 x x.of 5))) [] (hth _ x.of 5 (by decide) rfl 9 rfl) ?_;conv=>whnf
  refine bl ?_;refine dP ?_;simp_all[D4.qJ]
 ·refine dZ.mk (.d (cb (w.n4 x x.of 8))) [] (hth _ x.of 8 (by decide) rfl 9 rfl) ?_;conv=>whnf
  refine bl ?_;refine dP ?_;simp_all[D4.qJ]
 ·refine dZ.mk (.d (cb (w.n4 x x.of 10))) [] (hth _ x.of 10 (by decide) rfl 9 rfl) ?_;conv=>whnf
  repeat'(first|refine bl ?_|refine bS (λh=>?_) (λh=>?_))
  ·refine aF (TT w r 11 x.of) ?_;conv=>whnf
   refine bl ?_;refine dP ?_;simp_all[D4.qJ]
  ·refine dP ?_;simp_all[D4.qJ]
 ·refine .BL (.d (cb (w.n4 x x.by_ 13))) [] (hth _ x.by_ 13 (by decide) rfl 9 rfl) ?_;conv=>whnf
  repeat'(first|refine bl ?_|refine bS (λh=>?_) (λh=>?_))
  ·refine cH (sB w x.of) ?_;conv=>whnf
   repeat'(first|refine bl ?_|refine bS (λh=>?_) (λh=>?_))
   ·refine EA (by decide) (λt ht=>?_) (λht=>?_)
    ·conv=>whnf
     refine bl ?_;refine dP ?_;have h1:w.ofI x.by_=t.bQ.of:=by unfold D4.ofI D4.find;rw[ht];rfl
     simp_all[D4.qJ]
    ·exfalso;have h1:w.zB x.by_=0:=by unfold D4.zB D4.find;rw[ht];rfl
     simp_all[D4.n4]
   ·refine dP ?_;simp_all[D4.qJ]
  ·refine dP ?_;simp_all[D4.qJ]
 ·refine dZ.mk (.d (cb (w.n4 x x.by_ 3))) [] (hth _ x.by_ 3 (by decide) rfl 9 rfl) ?_;conv=>whnf
  repeat'(first|refine bl ?_|refine bS (λh=>?_) (λh=>?_))
  ·refine aF (sB w x.of) ?_;conv=>whnf
   refine bl ?_;refine dP ?_;simp_all[D4.qJ]
  ·refine dP ?_;simp_all[D4.qJ]
 ·refine dP ?_;simp_all[D4.qJ]
 ·refine cH (P9 w x.of) ?_;conv=>whnf
  repeat'(first|refine bl ?_|refine bS (λh=>?_) (λh=>?_))
  ·refine EA (by decide) (λt ht=>?_) (λht=>?_)
   ·conv=>whnf
    refine bl ?_;refine dP ?_;have h1:w.byI x.of=t.bQ.by_:=by unfold D4.byI D4.find;rw[ht];rfl
    simp_all[D4.qJ]
   ·exfalso;have h1:w.zB x.of=0:=by unfold D4.zB D4.find;rw[ht];rfl
    simp_all
  ·refine dP ?_;simp_all[D4.qJ]
 ·refine aF (XF w x.of n v (hv (by assumption))) ?_;conv=>whnf
  refine bl ?_;refine lkF (by kernel_rfl) (λt ht=>?_) (λht=>?_);have hfb:w.aCS x r=decide (t.2=r):=by unfold D4.aCS;rw[ht]
  rotate_left
  have hfb:w.aCS x r=true:=by unfold D4.aCS;rw[ht]
  all_goals
   clear ht;conv=>whnf
   refine bl ?_;refine aF (sB w x.of) ?_;conv=>whnf
   repeat'(first|refine bl ?_|refine bS (λh=>?_) (λh=>?_))
   ·refine aF (P9 w x.of) ?_;conv=>whnf
    repeat'(first|refine bl ?_|refine bS (λh=>?_) (λh=>?_))
    all_goals(refine dP ?_;simp_all[D4.qJ])
   ·refine dP ?_;simp_all[D4.qJ]
 ·refine dP ?_;simp_all[D4.qJ]
def isR(r:Option (List Ot×Nat))(v:A):Bool:=match r with
 |some ([(r,[])],_)=>Y6 r (.ok v)
 |_=>false
theorem zO{P:Program}(hmix:P.follows .mixedOrders=true){f:FuncId}{xs:List A}{v:A}{d nx:Nat}(h:isR (evH P aA0 d (.fn f) xs .nil nx) v=true)(hx:A.lQ xs=[]):∀m,aJ P f xs m (.ok v) m:=by
 intro m;cases he:evH P aA0 d (.fn f) xs .nil nx with
 |none=>rw[he]at h;cases h
 |some p=>
  obtain⟨outs,nx'⟩:=p;rw[he]at h;obtain⟨r,u,rfl,hcall⟩:=(aJ0 hmix aHX d).fn _ _ _ _ _ _ he;unfold isR at h;split at h
  ·rename_i e;simp only[aA,aD,iX,and_true]at e;obtain⟨⟨rfl,rfl⟩,_⟩:=e;have hr:=UA h;subst hr;have hn:(Tr.nil:Tr R).get=λ_=>none:=funext λn=>Tr.get_nil n;rw[hn]at hcall;exact aJ.frame (m:=m) (ups:=[]) hcall (by simp[hx]) (by simp) (by simp) (by simp)
  ·cases h
def H6(x:Int):Int:=[0,1,1,2,1,2,2,3,1,2,2,3,2,3,3,4,1,2,2,3,2,3,3,4,2,3,3,4,3,4,4,5,1,2,2,3,2,3,3,4,2,3,3,4,3,4,4,5,2,3,3,4,3,4,4,5,3,4,4,5,4,5,5,6].getD x.toNat 0
theorem Y2(x:Int):0<=H6 x/\H6 x<=6:=by
 unfold H6;generalize x.toNat=n;rcases eQ n 64 with h|h
 ·have:∀k:Fin 64,0<=([0,1,1,2,1,2,2,3,1,2,2,3,2,3,3,4,1,2,2,3,2,3,3,4,2,3,3,4,3,4,4,5,1,2,2,3,2,3,3,4,2,3,3,4,3,4,4,5,2,3,3,4,3,4,4,5,3,4,4,5,4,5,5,6]:List Int).getD k.val 0/\([0,1,1,2,1,2,2,3,1,2,2,3,2,3,3,4,1,2,2,3,2,3,3,4,2,3,3,4,3,4,4,5,1,2,2,3,2,3,3,4,2,3,3,4,3,4,4,5,2,3,3,4,3,4,4,5,3,4,4,5,4,5,5,6]:List Int).getD k.val 0<=6:=by decide
  exact this ⟨n,h⟩
 ·rw[bF,c8 (by simpa using h)];simp
theorem aEE:((List.range 64).all λk=>isR (evH Tryz.prog aA0 5 (.fn 129) [.d (.v (.int .u64 k))] .nil 1) (.d (ci (H6 k))))=true:=by kernel_rfl
theorem aHZ(x:Int)(h0:0<=x)(h1:x<=63):∀m,aJ Tryz.prog 129 [.d (.v (.int .u64 x))] m (.ok (.d (ci (H6 x)))) m:=by
 have hx:((x.toNat:Nat):Int)=x:=by omega
 have:=cV.1 aEE x.toNat (jI.2 (by omega));rw[hx]at this;exact zO mix this rfl
theorem aB9(a b:Int)(h:(0<=a/\a<=63)\/(0<=b/\b<=63)):0<=aB8 a b/\aB8 a b<=63:=by
 unfold aB8 pO;have key:((BitVec.ofInt IntKind.u8.bits a)&&&(BitVec.ofInt IntKind.u8.bits b)).toNat<=63:=by
  rw[BitVec.toNat_and];rcases h with⟨h0,h1⟩|⟨h0,h1⟩
  ·refine cL Nat.and_le_left ?_;rw[u3];simp only[IntKind.bits];omega
  ·refine cL Nat.and_le_right ?_;rw[u3];simp only[IntKind.bits];omega
 dsimp only;generalize((BitVec.ofInt IntKind.u8.bits a)&&&(BitVec.ofInt IntKind.u8.bits b)).toNat=n at key;simp only[IntKind.wrap];simp only[IntKind.signed,IntKind.bits,c0,bY,if_false];omega
theorem D4.VA(w:D4):∀(n:Nat)(set r v:Int),0<=set->set<=63->w.MD n set r=some v->0<=v/\v<=63
 |0,set,r,v,h0,h1,h=>by cases h
 |n+1,set,r,v,h0,h1,h=>by
  rw[D4.MD]at h;have hm:∀y:Int,0<=HN [set,y]/\HN [set,y]<=63:=λy=>aB9 _ _ (.inl (aB9 _ _ (.inr ⟨h0,h1⟩)));split at h
  ·simp only[aA]at h;omega
  ·split at h
   ·exact D4.VA w n _ _ v (hm _).1 (hm _).2 h
   ·split at h
    ·exact D4.VA w n _ _ v h0 h1 h
    ·simp only[aA]at h;rw[<-h];exact hm _
theorem YG{n:Int}(h:0<=n)(h':n<=18446744073709551615):MN .u64 n:=by
 simp[MN,IntKind.min,IntKind.max,IntKind.signed,IntKind.bits];omega
theorem aDO{a b:Int}(h:a=b):A.d (ci a)=A.d (ci b):=by rw[h]
theorem aIK(p:Int)(h0:0<=p)(h1:p<=6):IntKind.i64.wrap (1*2^min p.toNat IntKind.i64.bits)=2^p.toNat:=by
 have:p=0\/p=1\/p=2\/p=3\/p=4\/p=5\/p=6:=by omega
 rcases this with rfl|rfl|rfl|rfl|rfl|rfl|rfl<;>decide
def D4.tY(w:D4)(r:Int):Int:=(w.MD (w.things.length+1) 63 r).getD 0
theorem D4.aB5(w:D4)(r:Int):0<=w.tY r/\w.tY r<=63:=by
 unfold D4.tY;cases h:w.MD (w.things.length+1) 63 r with
 |none=>simp
 |some v=>exact w.VA _ 63 r v (by omega) (by omega) h
def D4.HY(w:D4):Prop:=∀r,(w.MD (w.things.length+1) 63 r).isSome=true
theorem aB6(w:D4)(hA:w.HY)(r:Int):∀m,aJ Tryz.prog 93 [.d (.ip w.cells),.d (ci r)] m (.ok (.d (.v (.int .u8 (w.tY r))))) m:=by
 refine XF w r (w.things.length+1) _ ?_;have:=hA r;unfold D4.tY;cases h:w.MD (w.things.length+1) 63 r with
 |none=>rw[h]at this;cases this
 |some v=>rfl
def D4.term(w:D4)(t:T4):Int:=if t.bQ.kind=14 then -1 else 2^(H6 (w.tY t.ref)).toNat -1
def D4.oL(w:D4):List T4->Int
 |[]=>0
 |t::r=>w.term t+w.oL r
theorem EY(w:D4):∀(L:List T4)(i:Nat)(h:i<L.length),w.oL L=w.term L[i]+w.oL (L.eraseIdx i)
 |[],i,h=>by simp at h
 |a::r,0,h=>rfl
 |a::r,i+1,h=>by
  simp only[D4.oL,cJ,gK];rw[EY w r i (by simpa using h)];omega
theorem D4.ZD(w:D4)(t:T4):-1<=w.term t/\w.term t<=63:=by
 unfold D4.term;have h:=Y2 (w.tY t.ref);generalize H6 (w.tY t.ref)=p at h;split
 ·omega
 ·have:p.toNat=0\/p.toNat=1\/p.toNat=2\/p.toNat=3\/p.toNat=4\/p.toNat=5\/p.toNat=6:=by omega
  rcases this with e|e|e|e|e|e|e<;>rw[e]<;>decide
theorem D4.GU(w:D4):∀L:List T4,-(L.length:Int)<=w.oL L/\w.oL L<=63*L.length
 |[]=>by simp[D4.oL]
 |t::r=>by
  have h1:=w.ZD t;have h2:=w.GU r;simp only[D4.oL,aQ];omega
theorem aFQ(w:D4)(hA:w.HY)(hl:w.things.length<=2^30):∀m,aJ Tryz.prog 68 [.d (.ip w.cells)] m (.ok (.d (ci (w.oL w.things)))) m:=by
 refine iC mix Tryz.func68 ?_;refine bl ?_;refine xI rfl ?_;conv=>whnf
 refine bl ?_;refine bV mix (λa:Option (Ky×C)×List T4×Int=>a.2.1.length<=w.things.length/\a.2.2+w.oL a.2.1=w.oL w.things/\-((w.things.length:Int)-a.2.1.length)<=a.2.2/\a.2.2<=63*((w.things.length:Int)-a.2.1.length)) (I:=λa=>[(0,.d (.ip w.cells)),(10,.h 49),(3,.d (ci a.2.2))])
  (J:=λa=>[(49,.di a.1 (a.2.1.map T4.kv))]) (μ:=λa=>a.2.1.length) 100 (none,w.things,0) ⟨by simp,by simp,by simp,by simp⟩ (by exact mv 5000 5001) ?_
 rintro⟨cur,L,n⟩ ⟨h1,h2,h3,h4⟩;dsimp only at h1 h2 h3 h4⊢;refine bl ?_;refine tR (λh0=>?_) (λi hi=>?_)
 ·conv=>whnf
  refine bl ?_;refine oF ?_;subst h0;simpa [D4.oL]using h2
 ·have hs:=EY w L i hi;have ht:=w.ZD L[i];have hp:=Y2 (w.tY L[i].ref);have hab:=w.aB5 L[i].ref;have hle:=List.length_eraseIdx_of_lt hi;conv=>whnf
  repeat'(first|refine bl ?_|refine bS (λh=>?_) (λh=>?_))
  ·have e:w.term L[i]=-1:=by unfold D4.term;rw[if_pos (by assumption)]
   refine⟨(some (T4.kv L[i]),L.eraseIdx i,n -1),pR _ _ hi,⟨by dsimp only;omega,by dsimp only;omega,by dsimp only;omega,by dsimp only;omega⟩,?_⟩;exact mv 5000 5001
  ·have e:w.term L[i]=2^(H6 (w.tY L[i].ref)).toNat -1:=by unfold D4.term;rw[if_neg (by assumption)]
   refine aF (aB6 w hA L[i].ref) ?_;conv=>whnf
   skip
   refine FC.mk (YG (by omega) (by omega)) ?_;conv=>whnf
   skip
   refine aF (aHZ _ hab.1 hab.2) ?_;conv=>whnf
   skip
   rw[aIK _ hp.1 hp.2,<-Int.sub_add_cancel (2^(H6 (w.tY L[i].ref)).toNat) 1,<-e];refine xR.mk (decide_eq_true hp.1) ?_;conv=>whnf
   refine bl ?_;refine⟨(some (T4.kv L[i]),L.eraseIdx i,n+w.term L[i]),pR _ _ hi,⟨by dsimp only;omega,by dsimp only;omega,by dsimp only;omega,by dsimp only;omega⟩,?_⟩;exact mv 5000 5001
end Go.Pv
