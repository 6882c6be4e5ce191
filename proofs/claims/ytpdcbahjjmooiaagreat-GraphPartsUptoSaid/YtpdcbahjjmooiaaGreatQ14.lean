import Derived.Test.YtpdcbahjjmooiaaGreatQ13
/- Contracts of functions that the law reaches, and their logic. No conditions. -/
set_option linter.all false
set_option maxRecDepth 100000
set_option maxHeartbeats 8000000
open Go Go.Proofs
namespace Go.Pv
open Go.RowKit
variable{P:Program}{r u:Int}{K:List Int}{x:X4}{l:List U4}
def aTB(c:List S4)(hv:S4.dB c<=2^36)(hc:c≠[])(d:Int)(q:Bool)(hd0:0<=d)(hd:d+S4.dB c<=2^40):∀(m:Mem)(j:Nat),m j=none->aJ Tryz.prog 221 [.d (jX c),.d (ci d),.d (cb q),.d (.nl 19)] m (.ok (.h j)) (aX m j (wR (S4.eG c d q []))):=by
 have n0:=S4.eW c;have aZL:0<c.length:=by cases c;exact absurd rfl hc;simp
 have ih:∀k:List S4,S4.dB k<S4.dB c->wG k:=λk hk=>aOX k oM;refine iW mix (F:=A.h) (r:=wR (S4.eG c d q [])) Tryz.func221 rfl kK (bD rfl) rfl (oJ _ _ _) (λ_ _=>rfl) (λi j hj=>by simpa [A.hs]using hj) (λg=>aDS g _) ?_;refine bl ?_;refine bV mix (λa:Nat×List M9=>a.1<=c.length/\S4.eG (c.drop a.1) d q a.2=S4.eG c d q []/\a.2.length<=512+S4.dB c/\(a.1=0->a.2=[])) (I:=λa=>[(0,.d (jX c)),(1,.d (ci d)),(2,.d (cb q)),(3,if a.1=0 then .d (.nl 19)else .h 2),(9,.d (ci a.1))])
  (J:=λa=>if a.1=0 then []else [(2,wR a.2)]) (μ:=λa=>c.length -a.1) 1000 (0,[]) ⟨sM,rfl,sM,λ_=>rfl⟩ mZ ?_
 rintro⟨i,Q⟩ ⟨hi,hk,hQl,hQ0⟩;dsimp only at hi hk hQl hQ0⊢;have hlen:=S4.pW;by_cases hi0:i=0
 ·subst hi0;obtain rfl:=hQ0 rfl;have cX:0<c.length:=aZL;have hz:([]:List M9).length=0:=cS;show vc _ _ _ _ [(0,.d (jX c)),(1,.d (ci d)),(2,.d (cb q)),(3,.d (.nl 19)),(9,.d (ci (0:Nat)))] [] _ _;have hq:=S4.dG c 0 cX;have AZ:=c[0].fA;have aW3:0<c.length:=cX;refine QH ?_
  repeat'(first|with_reducible (first|refine tG ?_|refine w2 ?_|refine w3 ?_|refine w4 ?_|refine w9 ?_|refine wa ?_|refine we ?_|refine nN.mk ?_|refine O8.t rfl ?_|refine O8.f rfl ?_)|((with_reducible (first|refine wr ?_|refine wi ?_|refine wx ?_|refine wg ?_));(conv=>whnf))|((with_reducible refine nQ (λh=>?_) (λh=>?_))<;>(try rw[h])<;>(conv at h=>{simp})))
  all_goals try first|exact absurd aM hc|(exfalso;(try simp only[bE,aB]at*);omega)
  refine TA ?_
  repeat'(with_reducible refine w5 ?_)
  refine tG ?_
  repeat'(first|with_reducible (first|refine w9 ?_|refine nN.mk ?_)|((with_reducible refine wr ?_);(conv=>whnf))|((refine eE S4.cP rfl eD aW3 ?_);(conv=>whnf)))
  refine BH (λ_:Unit=>True) (λ_=>[(0,.d (jX c)),(1,.d (ci d)),(2,.d (cb q)),(3,.h 2),(9,.d (ci (0:Nat))),(10,.lp 1104 0)]) (λ_=>[(2,wR ([]++[M9.mk d q c[0]])),(1104,.cells false (c[0].aT1.map A.d))]) 2000 ?_ ?_
  ·skip
   repeat'((with_reducible refine wr ?_);(conv=>whnf))
   refine n8 (by(try simp only[cE,aS,aB,bE]);omega) kK ?_;conv=>whnf
   refine E9.mk (λXN=>absurd XN sM) (λXN=>?_);conv=>whnf
   repeat'(with_reducible (first|refine w9 ?_|refine nN.mk ?_))
   refine⟨(),tV,?_⟩;exact mv 1168 2
   all_goals exact cO rfl rfl
  rintro _ _;have hl0:([]++[M9.mk d q c[0]]).length<=513:=by
   rw[aU,nX];omega
  refine BH (λ_:Unit=>True) (λ_=>[(0,.d (jX c)),(1,.d (ci d)),(2,.d (cb q)),(3,.h 2),(9,.d (ci (0:Nat))),(10,.lp 1104 0)]) (λ_=>[(2,wR (S4.eG c[0].t (d+1) q ([]++[M9.mk d q c[0]]))),(1104,.cells false (c[0].aT1.map A.d))]) 3000 ?_ ?_
  ·skip
   repeat'(first|((with_reducible refine wr ?_);(conv=>whnf))|((with_reducible refine FC.mk (RG (by(try dsimp only);omega) (by(try dsimp only);omega)) ?_);(conv=>whnf)))
   by_cases hx:c[0].t=[]\/512<([]++[M9.mk d q c[0]]).length
   ·have he:S4.eG c[0].t (d+1) q ([]++[M9.mk d q c[0]])=[]++[M9.mk d q c[0]]:=by
     rcases hx with h|h
     ·rw[h,S4.eG]
     ·rw[S4.tN _ _ _ _ h]
    refine dZ.mk (.h 2) [] (mD c[0].t (d+1) q ([]++[M9.mk d q c[0]]) hx oM rfl) ?_;conv=>whnf
    repeat'(with_reducible (first|refine w9 ?_|refine nN.mk ?_))
    refine⟨(),tV,?_⟩;rw[he];exact mZ
   ·have R2:c[0].t≠[]:=λe=>hx (.inl e);have hx2:([]++[M9.mk d q c[0]]).length<=512:=by have:¬512<([]++[M9.mk d q c[0]]).length:=λe=>hx (.inr e);omega
    refine dZ.mk (.h 400) [(400,wR (S4.eG c[0].t (d+1) q ([]++[M9.mk d q c[0]]))),(2,.dead)] (wG.at (ih c[0].t oM) R2 (d:=d+1) (q:=q) oM oM hx2 rfl rfl) ?_;conv=>whnf
    repeat'(with_reducible (first|refine w9 ?_|refine nN.mk ?_))
    refine⟨(),tV,?_⟩;exact mv 400 2
  rintro _ _;have BB:(S4.eG c[0].t (d+1) q ([]++[M9.mk d q c[0]])).length<=513+S4.dB c[0].t:=by
   have:=S4.pW c[0].t (d+1) q ([]++[M9.mk d q c[0]]);omega
  refine BH (λ_:Unit=>True) (λ_=>[(0,.d (jX c)),(1,.d (ci d)),(2,.d (cb q)),(3,.h 2),(9,.d (ci (0:Nat))),(10,.lp 1104 0)]) (λ_=>[(2,wR (S4.eG c[0].e (d+1) q (S4.eG c[0].t (d+1) q ([]++[M9.mk d q c[0]])))),(1104,.cells false (c[0].aT1.map A.d))]) 4000 ?_ ?_
  ·skip
   repeat'(first|((with_reducible refine wr ?_);(conv=>whnf))|((with_reducible refine FC.mk (RG (by(try dsimp only);omega) (by(try dsimp only);omega)) ?_);(conv=>whnf)))
   by_cases hx:c[0].e=[]\/512<(S4.eG c[0].t (d+1) q ([]++[M9.mk d q c[0]])).length
   ·have he:S4.eG c[0].e (d+1) q (S4.eG c[0].t (d+1) q ([]++[M9.mk d q c[0]]))=S4.eG c[0].t (d+1) q ([]++[M9.mk d q c[0]]):=by
     rcases hx with h|h
     ·rw[h,S4.eG]
     ·rw[S4.tN _ _ _ _ h]
    refine dZ.mk (.h 2) [] (mD c[0].e (d+1) q (S4.eG c[0].t (d+1) q ([]++[M9.mk d q c[0]])) hx oM rfl) ?_;conv=>whnf
    repeat'(with_reducible (first|refine w9 ?_|refine nN.mk ?_))
    refine⟨(),tV,?_⟩;rw[he];exact mZ
   ·have R2:c[0].e≠[]:=λe=>hx (.inl e);have hx2:(S4.eG c[0].t (d+1) q ([]++[M9.mk d q c[0]])).length<=512:=by have:¬512<(S4.eG c[0].t (d+1) q ([]++[M9.mk d q c[0]])).length:=λe=>hx (.inr e);omega
    refine dZ.mk (.h 400) [(400,wR (S4.eG c[0].e (d+1) q (S4.eG c[0].t (d+1) q ([]++[M9.mk d q c[0]])))),(2,.dead)] (wG.at (ih c[0].e oM) R2 (d:=d+1) (q:=q) oM oM hx2 rfl rfl) ?_;conv=>whnf
    repeat'(with_reducible (first|refine w9 ?_|refine nN.mk ?_))
    refine⟨(),tV,?_⟩;exact mv 400 2
  rintro _ _;have hl2:(S4.eG c[0].e (d+1) q (S4.eG c[0].t (d+1) q ([]++[M9.mk d q c[0]]))).length<=513+S4.dB c[0].t+S4.dB c[0].e:=by
   have:=S4.pW c[0].e (d+1) q (S4.eG c[0].t (d+1) q ([]++[M9.mk d q c[0]]));omega
  have hk3:S4.eG (c.drop (0+1)) d q (S4.eG c[0].c (d+1) true (S4.eG c[0].e (d+1) q (S4.eG c[0].t (d+1) q ([]++[M9.mk d q c[0]]))))=S4.eG c d q []:=by
   rw[<-hk,S4.aH3 c 0 aW3 d q [] sM,S4.WR]
  have hl3:(S4.eG c[0].c (d+1) true (S4.eG c[0].e (d+1) q (S4.eG c[0].t (d+1) q ([]++[M9.mk d q c[0]])))).length<=512+S4.dB c:=by
   have h1:=S4.aOV c[0] d q [];rw[S4.WR]at h1;omega
  refine bl ?_;by_cases hx:c[0].c=[]\/512<(S4.eG c[0].e (d+1) q (S4.eG c[0].t (d+1) q ([]++[M9.mk d q c[0]]))).length
  ·have he:S4.eG c[0].c (d+1) true (S4.eG c[0].e (d+1) q (S4.eG c[0].t (d+1) q ([]++[M9.mk d q c[0]])))=S4.eG c[0].e (d+1) q (S4.eG c[0].t (d+1) q ([]++[M9.mk d q c[0]])):=by
    rcases hx with h|h
    ·rw[h,S4.eG]
    ·rw[S4.tN _ _ _ _ h]
   refine dZ.mk (.h 2) [] (mD c[0].c (d+1) true (S4.eG c[0].e (d+1) q (S4.eG c[0].t (d+1) q ([]++[M9.mk d q c[0]]))) hx oM rfl) ?_;conv=>whnf
   refine bl ?_;refine⟨(0+1,S4.eG c[0].c (d+1) true (S4.eG c[0].e (d+1) q (S4.eG c[0].t (d+1) q ([]++[M9.mk d q c[0]])))),dM,⟨dM,hk3,hl3,λe=>by cases e⟩,?_⟩;dsimp only;rw[aT7 oM,aT7 oM];rw[he];exact mZ
  ·have R2:c[0].c≠[]:=λe=>hx (.inl e);have hx2:(S4.eG c[0].e (d+1) q (S4.eG c[0].t (d+1) q ([]++[M9.mk d q c[0]]))).length<=512:=by have:¬512<(S4.eG c[0].e (d+1) q (S4.eG c[0].t (d+1) q ([]++[M9.mk d q c[0]]))).length:=λe=>hx (.inr e);omega
   refine dZ.mk (.h 400) [(400,wR (S4.eG c[0].c (d+1) true (S4.eG c[0].e (d+1) q (S4.eG c[0].t (d+1) q ([]++[M9.mk d q c[0]]))))),(2,.dead)] (wG.at (ih c[0].c oM) R2 (d:=d+1) (q:=true) oM oM hx2 rfl rfl) ?_;conv=>whnf
   refine bl ?_;refine⟨(0+1,S4.eG c[0].c (d+1) true (S4.eG c[0].e (d+1) q (S4.eG c[0].t (d+1) q ([]++[M9.mk d q c[0]])))),dM,⟨dM,hk3,hl3,λe=>by cases e⟩,?_⟩;dsimp only;rw[aT7 oM,aT7 oM];exact mv 400 2
 ·rw[aT7 hi0,aT7 hi0];by_cases hgo:i<c.length/\Q.length<=512
  ·obtain⟨cX,hQ5⟩:=hgo;show vc _ _ _ _ [(0,.d (jX c)),(1,.d (ci d)),(2,.d (cb q)),(3,.h 2),(9,.d (ci i))] [(2,wR Q)] _ _;have hq:=S4.dG c i cX;have AZ:=c[i].fA;have aW3:i<c.length:=cX;refine QH ?_
   repeat'(first|with_reducible (first|refine tG ?_|refine w2 ?_|refine w3 ?_|refine w4 ?_|refine w9 ?_|refine wa ?_|refine we ?_|refine nN.mk ?_|refine O8.t rfl ?_|refine O8.f rfl ?_)|((with_reducible (first|refine wr ?_|refine wi ?_|refine wx ?_|refine wg ?_));(conv=>whnf))|((with_reducible refine nQ (λh=>?_) (λh=>?_))<;>(try rw[h])<;>(conv at h=>{simp})))
   all_goals try first|exact absurd aM hc|(exfalso;(try simp only[bE,aB]at*);omega)
   refine TA ?_
   repeat'(with_reducible refine w5 ?_)
   refine tG ?_
   repeat'(first|with_reducible (first|refine w9 ?_|refine nN.mk ?_)|((with_reducible refine wr ?_);(conv=>whnf))|((refine eE S4.cP rfl eD aW3 ?_);(conv=>whnf)))
   refine BH (λ_:Unit=>True) (λ_=>[(0,.d (jX c)),(1,.d (ci d)),(2,.d (cb q)),(3,.h 2),(9,.d (ci i)),(10,.lp 1104 0)]) (λ_=>[(2,wR (Q++[M9.mk d q c[i]])),(1104,.cells false (c[i].aT1.map A.d))]) 2000 ?_ ?_
   ·skip
    repeat'((with_reducible refine wr ?_);(conv=>whnf))
    refine n8 (by(try simp only[cE,aS,aB,bE]);omega) kK ?_;conv=>whnf
    repeat'(with_reducible (first|refine w9 ?_|refine nN.mk ?_))
    refine⟨(),tV,?_⟩;refine mq 1168 2 ?_
    all_goals exact cO rfl (aME Q (M9.mk d q c[i]))
   rintro _ _;have hl0:(Q++[M9.mk d q c[i]]).length<=513:=by
    rw[aU,nX];omega
   refine BH (λ_:Unit=>True) (λ_=>[(0,.d (jX c)),(1,.d (ci d)),(2,.d (cb q)),(3,.h 2),(9,.d (ci i)),(10,.lp 1104 0)]) (λ_=>[(2,wR (S4.eG c[i].t (d+1) q (Q++[M9.mk d q c[i]]))),(1104,.cells false (c[i].aT1.map A.d))]) 3000 ?_ ?_
   ·skip
    repeat'(first|((with_reducible refine wr ?_);(conv=>whnf))|((with_reducible refine FC.mk (RG (by(try dsimp only);omega) (by(try dsimp only);omega)) ?_);(conv=>whnf)))
    by_cases hx:c[i].t=[]\/512<(Q++[M9.mk d q c[i]]).length
    ·have he:S4.eG c[i].t (d+1) q (Q++[M9.mk d q c[i]])=Q++[M9.mk d q c[i]]:=by
      rcases hx with h|h
      ·rw[h,S4.eG]
      ·rw[S4.tN _ _ _ _ h]
     refine dZ.mk (.h 2) [] (mD c[i].t (d+1) q (Q++[M9.mk d q c[i]]) hx oM rfl) ?_;conv=>whnf
     repeat'(with_reducible (first|refine w9 ?_|refine nN.mk ?_))
     refine⟨(),tV,?_⟩;rw[he];exact mZ
    ·have R2:c[i].t≠[]:=λe=>hx (.inl e);have hx2:(Q++[M9.mk d q c[i]]).length<=512:=by have:¬512<(Q++[M9.mk d q c[i]]).length:=λe=>hx (.inr e);omega
     refine dZ.mk (.h 400) [(400,wR (S4.eG c[i].t (d+1) q (Q++[M9.mk d q c[i]]))),(2,.dead)] (wG.at (ih c[i].t oM) R2 (d:=d+1) (q:=q) oM oM hx2 rfl rfl) ?_;conv=>whnf
     repeat'(with_reducible (first|refine w9 ?_|refine nN.mk ?_))
     refine⟨(),tV,?_⟩;exact mv 400 2
   rintro _ _;have BB:(S4.eG c[i].t (d+1) q (Q++[M9.mk d q c[i]])).length<=513+S4.dB c[i].t:=by
    have:=S4.pW c[i].t (d+1) q (Q++[M9.mk d q c[i]]);omega
   refine BH (λ_:Unit=>True) (λ_=>[(0,.d (jX c)),(1,.d (ci d)),(2,.d (cb q)),(3,.h 2),(9,.d (ci i)),(10,.lp 1104 0)]) (λ_=>[(2,wR (S4.eG c[i].e (d+1) q (S4.eG c[i].t (d+1) q (Q++[M9.mk d q c[i]])))),(1104,.cells false (c[i].aT1.map A.d))]) 4000 ?_ ?_
   ·skip
    repeat'(first|((with_reducible refine wr ?_);(conv=>whnf))|((with_reducible refine FC.mk (RG (by(try dsimp only);omega) (by(try dsimp only);omega)) ?_);(conv=>whnf)))
    by_cases hx:c[i].e=[]\/512<(S4.eG c[i].t (d+1) q (Q++[M9.mk d q c[i]])).length
    ·have he:S4.eG c[i].e (d+1) q (S4.eG c[i].t (d+1) q (Q++[M9.mk d q c[i]]))=S4.eG c[i].t (d+1) q (Q++[M9.mk d q c[i]]):=by
      rcases hx with h|h
      ·rw[h,S4.eG]
      ·rw[S4.tN _ _ _ _ h]
     refine dZ.mk (.h 2) [] (mD c[i].e (d+1) q (S4.eG c[i].t (d+1) q (Q++[M9.mk d q c[i]])) hx oM rfl) ?_;conv=>whnf
     repeat'(with_reducible (first|refine w9 ?_|refine nN.mk ?_))
     refine⟨(),tV,?_⟩;rw[he];exact mZ
    ·have R2:c[i].e≠[]:=λe=>hx (.inl e);have hx2:(S4.eG c[i].t (d+1) q (Q++[M9.mk d q c[i]])).length<=512:=by have:¬512<(S4.eG c[i].t (d+1) q (Q++[M9.mk d q c[i]])).length:=λe=>hx (.inr e);omega
     refine dZ.mk (.h 400) [(400,wR (S4.eG c[i].e (d+1) q (S4.eG c[i].t (d+1) q (Q++[M9.mk d q c[i]])))),(2,.dead)] (wG.at (ih c[i].e oM) R2 (d:=d+1) (q:=q) oM oM hx2 rfl rfl) ?_;conv=>whnf
     repeat'(with_reducible (first|refine w9 ?_|refine nN.mk ?_))
     refine⟨(),tV,?_⟩;exact mv 400 2
   rintro _ _;have hl2:(S4.eG c[i].e (d+1) q (S4.eG c[i].t (d+1) q (Q++[M9.mk d q c[i]]))).length<=513+S4.dB c[i].t+S4.dB c[i].e:=by
    have:=S4.pW c[i].e (d+1) q (S4.eG c[i].t (d+1) q (Q++[M9.mk d q c[i]]));omega
   have hk3:S4.eG (c.drop (i+1)) d q (S4.eG c[i].c (d+1) true (S4.eG c[i].e (d+1) q (S4.eG c[i].t (d+1) q (Q++[M9.mk d q c[i]]))))=S4.eG c d q []:=by
    rw[<-hk,S4.aH3 c i aW3 d q Q oM,S4.WR]
   have hl3:(S4.eG c[i].c (d+1) true (S4.eG c[i].e (d+1) q (S4.eG c[i].t (d+1) q (Q++[M9.mk d q c[i]])))).length<=512+S4.dB c:=by
    have h1:=S4.aOV c[i] d q Q;rw[S4.WR]at h1;omega
   refine bl ?_;by_cases hx:c[i].c=[]\/512<(S4.eG c[i].e (d+1) q (S4.eG c[i].t (d+1) q (Q++[M9.mk d q c[i]]))).length
   ·have he:S4.eG c[i].c (d+1) true (S4.eG c[i].e (d+1) q (S4.eG c[i].t (d+1) q (Q++[M9.mk d q c[i]])))=S4.eG c[i].e (d+1) q (S4.eG c[i].t (d+1) q (Q++[M9.mk d q c[i]])):=by
     rcases hx with h|h
     ·rw[h,S4.eG]
     ·rw[S4.tN _ _ _ _ h]
    refine dZ.mk (.h 2) [] (mD c[i].c (d+1) true (S4.eG c[i].e (d+1) q (S4.eG c[i].t (d+1) q (Q++[M9.mk d q c[i]]))) hx oM rfl) ?_;conv=>whnf
    refine bl ?_;refine⟨(i+1,S4.eG c[i].c (d+1) true (S4.eG c[i].e (d+1) q (S4.eG c[i].t (d+1) q (Q++[M9.mk d q c[i]])))),dM,⟨dM,hk3,hl3,λe=>by cases e⟩,?_⟩;dsimp only;rw[aT7 oM,aT7 oM];rw[he];exact mZ
   ·have R2:c[i].c≠[]:=λe=>hx (.inl e);have hx2:(S4.eG c[i].e (d+1) q (S4.eG c[i].t (d+1) q (Q++[M9.mk d q c[i]]))).length<=512:=by have:¬512<(S4.eG c[i].e (d+1) q (S4.eG c[i].t (d+1) q (Q++[M9.mk d q c[i]]))).length:=λe=>hx (.inr e);omega
    refine dZ.mk (.h 400) [(400,wR (S4.eG c[i].c (d+1) true (S4.eG c[i].e (d+1) q (S4.eG c[i].t (d+1) q (Q++[M9.mk d q c[i]]))))),(2,.dead)] (wG.at (ih c[i].c oM) R2 (d:=d+1) (q:=true) oM oM hx2 rfl rfl) ?_;conv=>whnf
    refine bl ?_;refine⟨(i+1,S4.eG c[i].c (d+1) true (S4.eG c[i].e (d+1) q (S4.eG c[i].t (d+1) q (Q++[M9.mk d q c[i]])))),dM,⟨dM,hk3,hl3,λe=>by cases e⟩,?_⟩;dsimp only;rw[aT7 oM,aT7 oM];exact mv 400 2
  ·have aWW:Q=S4.eG c d q []:=by
    rw[<-hk];by_cases h:i<c.length
    ·rw[S4.tN _ _ _ _ oM]
    ·rw[dT oM,S4.eG]
   repeat'(first|refine bl ?_|refine bS (λh=>?_) (λh=>?_))
   all_goals first
    |exact absurd aM hc
    |(exfalso;(try simp only[bE,aB]at*);omega)
    |skip
   all_goals
    rw[<-aWW];exact⟨2,rfl,rfl⟩
mutual
def S4.SZ:S4->Prop
 |.mk op name second FD bQ a b t e c w=>(S4.mk op name second FD bQ a b t e c w).GL/\S4.aO6 t/\S4.aO6 e/\S4.aO6 c
def S4.aO6:List S4->Prop
 |[]=>True
 |v::r=>S4.SZ v/\S4.aO6 r
end
mutual
def S4.aXC:∀(v:S4)(d:Int)(q:Bool)(l:List M9),v.SZ->(∀r∈l,r.stmt.GL)->∀r∈v.rk d q l,r.stmt.GL
 |.mk op name second FD bQ a b t e c w,d,q,l,h,hl=>by
  rw[S4.SZ]at h;obtain⟨h1,ht,he,hc⟩:=h;rw[S4.rk];refine S4.aOU c _ _ _ hc (S4.aOU e _ _ _ he (S4.aOU t _ _ _ ht λr hr=>?_));rcases bN.1 hr with hr|hr
  ·exact hl r hr
  ·rw[aR.1 hr];exact h1
def S4.aOU:∀(c:List S4)(d:Int)(q:Bool)(l:List M9),S4.aO6 c->(∀r∈l,r.stmt.GL)->∀r∈S4.eG c d q l,r.stmt.GL
 |[],d,q,l,h,hl=>by rw[S4.eG];exact hl
 |v::r,d,q,l,h,hl=>by
  rw[S4.aO6]at h;rw[S4.eG];split
  ·exact S4.aOU r d q _ h.2 (S4.aXC v d q l h.1 hl)
  ·exact hl
end
def KZ(c:List S4):List M9:=S4.eG c 0 false []
def aS3:KZ []=[]:=by rw[KZ,S4.eG]
def aS2(c:List S4):(KZ c).length<=S4.dB c:=by
 have:=S4.pW c 0 false [];rw[cS,fF]at this;exact this
def aSW:Pu 200 [.d (jX [])] (.d (.nl 19)):=by
 refine iC mix Tryz.func200 ?_
 repeat'(first|refine bl ?_|refine aF (aTC 0 false) (bw ?_))
 exact .one (.d _)
def aSV(c:List S4)(hv:S4.dB c<=2^36)(hc:c≠[]):∀(m:Mem)(j:Nat),m j=none->aJ Tryz.prog 200 [.d (jX c)] m (.ok (.h j)) (aX m j (wR (KZ c))):=by
 refine iW mix (F:=A.h) (r:=wR (KZ c)) Tryz.func200 rfl kK (bD rfl) rfl (oJ _ _ _) (λ_ _=>rfl) (λi j hj=>by simpa [A.hs]using hj) (λg=>aDS g _) ?_;refine bl ?_;refine fQ (F:=A.h) (r:=wR (KZ c)) (aTB c hv hc 0 false oM oM) 700 rfl ?_;conv=>whnf
 refine bl ?_
 all_goals exact⟨_,rfl,rfl⟩
def HV:List M9->Nat->Int×Int
 |[],_=>(0,0)
 |r::R,i=>if 512<=i then(512,4)else if r.stmt.qP=true then HV R (i+1)else(i,160)
def aTP(L:List M9)(i:Nat)(h:i<L.length)(h2:i<512):HV (L.drop i) i=if L[i].stmt.qP=true then HV (L.drop (i+1)) (i+1)else((i:Int),160):=by
 rw[dE h,HV,aT7 oM]
def aUY(L:List M9)(i:Nat)(h:L.length<=i):HV (L.drop i) i=(0,0):=by
 rw[dT h,HV]
def aUX(L:List M9)(h:512<L.length):HV (L.drop 512) 512=(512,4):=by
 rw[dE h,HV,aUF (bT _)]
def aQD(c:List S4)(hv:S4.dB c<=2^36)(ho:S4.aO6 c):Pu 162 [.d (jX c)] (.eL [.d (ci (HV (KZ c) 0).1),.d (ci (HV (KZ c) 0).2)]):=by
 have hok:∀r∈KZ c,r.stmt.GL:=S4.aOU c 0 false [] ho sM;have hrl:=aS2 c;refine iC mix Tryz.func162 ?_
 skip
 refine tG ?_
 repeat'(first|with_reducible (first|refine w9 ?_|refine nN.mk ?_)|((with_reducible refine wr ?_);(conv=>whnf)))
 refine BH (λ_:Unit=>True) (λ_=>[(4,.d (.sl 19 (OB (KZ c))))]) (λ_=>[]) 1000 ?_ ?_
 ·by_cases hc:c=[]
  ·subst hc
   repeat'(first|with_reducible (first|refine w9 ?_|refine nN.mk ?_)|((with_reducible refine wr ?_);(conv=>whnf))|((refine aF aSW ?_);(conv=>whnf)))
   refine⟨(),tV,?_⟩;exact cN.freeze [] tV ⟨.rd (aVF aS3),tV⟩ tV ⟨tV,tV⟩ trivial
  ·skip
   repeat'((with_reducible refine wr ?_);(conv=>whnf))
   refine fQ (F:=A.h) (r:=wR (KZ c)) (aSV c hv hc) 700 rfl ?_;conv=>whnf
   repeat'(with_reducible (first|refine w9 ?_|refine nN.mk ?_))
   refine⟨(),tV,?_⟩;exact cN.freeze [700] tV ⟨.rd (.dU (eX rfl rfl)),tV⟩ tV ⟨tV,tV⟩ trivial
 rintro _ _;refine bl ?_;generalize KZ c=L at hok hrl⊢;refine bV mix (λi:Nat=>i<=L.length/\i<=512/\HV (L.drop i) i=HV L 0) (I:=λi=>[(4,.d (.sl 19 (OB L))),(5,.d (ci i))])
  (J:=λi=>[]) (μ:=λi=>L.length -i) 2000 0 ⟨oM,oM,rfl⟩ mZ ?_
 rintro i ⟨hi,hi5,h0⟩;by_cases hgo:i<L.length/\i<512
 ·obtain⟨cX,a2G⟩:=hgo;rw[aTP L i cX a2G]at h0;have HG:=aRA L[i].stmt (hok _ (aY cX))
  repeat'(first|refine bl ?_|refine bS (λh=>?_) (λh=>?_)|refine cD rfl eD cX (bw ?_)|refine dR HG (.cons (.same _) .nil) (bw ?_))
  all_goals try(exfalso;(try simp only[aB]at*);omega)
  ·have hf:L[i].stmt.qP=false:=aM;rw[hf,aT7 gO]at h0;rw[<-h0];exact .eL (cs:=[ci i,ci 160]) (.cons (.d _) (.cons (.d _) .nil))
  ·have hf:L[i].stmt.qP=true:=aM;rw[hf,aUF rfl]at h0;exact⟨i+1,oM,⟨oM,oM,h0⟩,mZ⟩
 ·skip
  repeat'(first|refine bl ?_|refine bS (λh=>?_) (λh=>?_)|refine cD rfl eD oM (bw ?_))
  all_goals try(exfalso;(try simp only[aB]at*);omega)
  all_goals first
   |(have hl:512<L.length:=by omega
     have hi':i=512:=oM;subst hi';rw[aUX L hl]at h0;rw[<-h0]
     exact .eL (cs:=[ci 512,ci 4]) (.cons (.d _) (.cons (.d _) .nil)))
   |(have hl:L.length<=i:=by omega
     rw[aUY L i hl]at h0;rw[<-h0]
     exact .eL (cs:=[ci 0,ci 0]) (.cons (.d _) (.cons (.d _) .nil)))
def S2(c:List S4):Bool:=decide ((HV (KZ c) 0).2=0)
def aSS(c:List S4)(hv:S4.dB c<=2^36)(ho:S4.aO6 c):Pu 109 [.d (jX c)] (.d (cb (S2 c))):=by
 refine iC mix Tryz.func109 ?_
 repeat'(first|refine bl ?_|refine aF (aQD c hv ho) (bw ?_))
 all_goals exact dP rfl
def y6(K:List Int):List (Ky×A):=K.map λr=>(kI r,.d (cb true))
def aT2(K:List Int)(r:Int):fL (kI r) (y6 K)=(K.find? λf=>decide (f=r)).map λ_=>.d (cb true):=wZ (λf:Int=>f) (λ_=>A.d (cb true)) r K
def aRQ{kt:TypeId}(hk:KC.fits P kt (.int .i64 0)=true)(K:List Int):kH P kt (kI r) (y6 K)=true:=aJ1 (λf:Int=>f) (λ_=>A.d (cb true)) r K hk
def aPB(K:List Int)(r:Int):(K.find? λf=>decide (f=r)).isSome=decide (r∈K):=by
 cases h:K.find? λf=>decide (f=r)with
 |none=>
  rw[mN]at h;refine(aU0 λhm=>?_).symm;exact h r hm sM
 |some f=>
  have h1:=cT h;have h2:f=r:=by have:=iD h;simpa using this
  exact(aUZ (h2▸h1)).symm
def aW5{kt:TypeId}{k1:A->Prop}{k0:Prop}(hk:KC.fits P kt (.int .i64 0)=true)(h0:k1 (.d (cb false))->k0)(h1:k1 (.d (cb (decide (r∈K))))):n5 (kH P kt (kI r) (y6 K)) (fL (kI r) (y6 K)) k1 k0:=by
 have hf:=aRQ (P:=P) (r:=r) hk K;have hg:=aT2 K r;rw[<-aPB]at h1;cases h:K.find? λf=>decide (f=r)with
 |none=>rw[h]at hg h1;exact .BP hf hg (h0 h1)
 |some f=>rw[h]at hg h1;exact .CL _ hf hg h1
def aXD{kt:TypeId}{X1 X0:Prop}(hk:KC.fits P kt (.int .i64 0)=true)(h1:r∈K->X1)(h0:r∉K->X0):aB4 (kH P kt (kI r) (y6 K)) (fL (kI r) (y6 K)) X1 X0:=by
 have hf:=aRQ (P:=P) (r:=r) hk K;have hg:=aT2 K r;have hm:=aPB K r;cases h:K.find? λf=>decide (f=r)with
 |none=>rw[h]at hg hm;exact .BP hf hg (h0 (of_decide_eq_false hm.symm))
 |some f=>rw[h]at hg hm;exact .CL hf (by rw[hg];simp) (h1 (aUL hm.symm))
def aU7(K:List Int)(r:Int):y6 K++[(kI r,.d (cb true))]=y6 (K++[r]):=by simp[y6]
def aWC(K:List Int):A.lQ ((y6 K).map (·.2))=[]:=by
 have e:(y6 K).map (·.2)=(K.map λ_=>cb true).map A.d:=by unfold y6;rw[bH,bH];rfl
 rw[e,wX]
def F2{ml:List (Nat×R)}{fz:Bool}:rB ml (R.mp fz (y6 K) []).hs:=by
 show rB _ (A.lQ ((y6 K).map (·.2))++[]);rw[aWC];trivial
def aQ7{ml:List (Nat×R)}{i:Nat}{g:Nat->Nat}{fz:Bool}{kv:List (Ky×A)}(h:aK ml i=some (.mp fz kv []))(he:kv=y6 K):(aK ml i).map (R.eZ g)=some (.mp fz (y6 K) []):=by
 rw[h,he];show some (R.mp fz ((y6 K).map λp=>(p.1,p.2.eZ g)) [])=_;congr 2;unfold y6;rw[bH];rfl
def R4.K1(w:R4)(r:Int):Bool:=decide (1<=r)&&decide (r<=w.last)
def R4.aDF(w:R4)(u:U4)(r:Int):Bool:=w.mI r&&decide (r∈u.seen)
def R4.MR(w:R4)(u:U4):Bool:=(w.HU u.side&&(S2 u.code&&(aAT u.names&&decide (u.seen.length<=524288))))&&((u.seen.all w.K1&&decide u.seen.Nodup)&&u.names.all λn=>n.value.refs.all (w.aDF u))
structure U4.wD(u:U4):Prop where
 side:-9223372036854775808<=u.side/\u.side<=9223372036854775807
 code:S4.dB u.code<=2^36
 SZ:S4.aO6 u.code
 names:V.dB (u.names.map (·.value))<=2^34
 nwt:V.B5 (u.names.map (·.value))
 nsz:∀n∈u.names,n.name.size<=2^40
 nlen:u.names.length<=2^34
 seen:u.seen.length<=2^35
def aSU(w:R4)(hw:w.wt)(u:U4)(hu:u.wD):Pu 51 [.d (.ip w.aT1),.d (.agg u.aT1)] (.d (cb (w.MR u))):=by
 have pG:∀m,w.MR u=false->A1 m (.d (cb false)) (.d (cb (w.MR u))):=λm h=>by rw[h];exact dP rfl
 have hsl:=hu.seen;refine iC mix Tryz.func51 ?_
 repeat'(first|refine bl ?_|refine bS (λh=>?_) (λh=>?_)|refine aF (aRK w u.side hu.side.1 hu.side.2) (bw ?_)|refine aF (aSS u.code hu.code hu.SZ) (bw ?_)|refine aF (aPT u.names (by have:=hu.names;omega) (by have:=hu.nlen;omega) hu.nwt hu.nsz) (bw ?_))
 ·exact pG _ (by unfold R4.MR;simp_all)
 ·exact pG _ (by unfold R4.MR;simp_all)
 ·exact pG _ (by unfold R4.MR;simp_all)
 ·exact pG _ (by unfold R4.MR;rw[show decide (u.seen.length<=524288)=false from aU0 oM];simp)
 have hck:w.MR u=((u.seen.all w.K1&&decide u.seen.Nodup)&&u.names.all λn=>n.value.refs.all (w.aDF u)):=by
  unfold R4.MR;rw[‹w.HU u.side=true›,‹S2 u.code=true›,‹aAT u.names=true›,aUZ (by omega:u.seen.length<=524288)];rfl
 refine cY mix (λi:Nat=>i<=u.seen.length/\(u.seen.take i).all w.K1=true/\(u.seen.take i).Nodup) (I:=λi=>[(0,.d (.ip w.aT1)),(3,.lp 1 0),(5,.h 201),(6,.d (ci i))])
  (J:=λi=>[(1,.cells false (u.aT1.map A.d)),(201,.mp false (y6 (u.seen.take i)) [])]) (μ:=λi=>u.seen.length -i) 1000 0 0
  (λ_:Unit=>(u.seen.all w.K1&&decide u.seen.Nodup)=true) (λ_=>[(0,.d (.ip w.aT1)),(3,.lp 1 0),(5,.h 201)]) (λ_=>[(1,.cells false (u.aT1.map A.d)),(201,.mp false (y6 u.seen) [])]) 2000 ⟨oM,sM,sM⟩ mZ ?_ ?_
 ·rintro i ⟨hi,h0,h1⟩;by_cases cX:i<u.seen.length
  ·have aX4:w.K1 u.seen[i]=false->w.MR u=false:=λe=>by
    have:u.seen.all w.K1=false:=by rw[iA];exact⟨_,aY cX,by rw[e];decide⟩
    rw[hck,this];rfl
   have a15:u.seen[i]∈u.seen.take i->w.MR u=false:=λhm=>by
    have hn:¬u.seen.Nodup:=λhn=>((aBX u.seen i cX).1 (aO5 hn (i+1))).2 hm;rw[hck,aU0 hn];simp
   have J3:=aT cX;have y4:=aBX u.seen i cX;have has:=ZO w.K1 u.seen i cX h0
   repeat'(first|refine bl ?_|refine bS (λh=>?_) (λh=>?_)|refine cD rfl eD cX (bw ?_)|refine aW5 eD (λh=>h) (bw ?_))
   ·exact pG _ (aX4 (by unfold R4.K1;rw[show decide (1<=u.seen[i])=false from aU0 oM];rfl))
   ·exact pG _ (aX4 (by unfold R4.K1;rw[show decide (u.seen[i]<=w.last)=false from aU0 oM];simp))
   ·exact pG _ (a15 aM)
   ·have hsb:w.K1 u.seen[i]=true:=by unfold R4.K1;rw[aUZ aM,aUZ aM];rfl
    have hnm:u.seen[i]∉u.seen.take i:=aM;refine aXD eD (λhh=>absurd hh hnm) (λhh=>?_);conv=>whnf
    refine bl ?_;refine⟨i+1,oM,⟨oM,has hsb,y4.2 ⟨h1,hnm⟩⟩,?_⟩;rw[J3];have aZJ:=aU7 (u.seen.take i) u.seen[i]
    (refine cN.swap 5000 5001 ?_ ?_ ?_ ?_ ?_<;>repeat'(first|exact aW|exact rfl|exact sn|refine bI ?_ ?_))
    all_goals first|exact F2|exact aQ7 rfl aZJ
   ·exfalso;omega
  ·skip
   refine bl ?_;refine O8.f (aU0 (by(try simp only[aB]);omega)) ?_;refine bl ?_;rw[aI oM]at h0 h1⊢;refine⟨(),by rw[h0,aUZ h1];rfl,?_⟩
   (refine cN.swap 5000 5001 ?_ ?_ ?_ ?_ ?_<;>repeat'(first|exact aW|exact rfl|exact sn|refine bI ?_ ?_))
   all_goals first|exact F2|exact aQ7 rfl rfl
 rintro _ hsn;rw[hsn,cA]at hck;refine bl ?_;have E0:=hu.nlen;refine bV mix (λi:Nat=>i<=u.names.length/\(u.names.take i).all (λn=>n.value.refs.all (w.aDF u))=true) (I:=λi=>[(0,.d (.ip w.aT1)),(3,.lp 1 0),(5,.h 201),(7,.d (ci i))])
  (J:=λi=>[(1,.cells false (u.aT1.map A.d)),(201,.mp false (y6 u.seen) [])]) (μ:=λi=>u.names.length -i) 3000 0 ⟨oM,sM⟩ ?_ ?_
 ·skip
  (refine cN.swap 5000 5001 ?_ ?_ ?_ ?_ ?_<;>repeat'(first|exact aW|exact rfl|exact sn|refine bI ?_ ?_))
  all_goals first|exact F2|exact aQ7 rfl rfl
 rintro i ⟨hi,h0⟩;by_cases cX:i<u.names.length
 ·have hvb:u.names[i].value.cR<=2^34:=by
   have:=V.dG (u.names.map (·.value)) i (by simpa using cX);rw[fO]at this;have:=hu.names;omega
  have hrl:=V.EO u.names[i].value;have aX4:u.names[i].value.refs.all (w.aDF u)=false->w.MR u=false:=λe=>by
   rw[hck,iA];exact⟨_,aY cX,by rw[e];decide⟩
  have has:=ZO (λn:N4=>n.value.refs.all (w.aDF u)) u.names i cX h0;refine bl ?_;refine O8.t (aUZ (by(try simp only[aB]);omega)) ?_
  repeat'(first|refine bl ?_|refine cD rfl eD cX (bw ?_)|refine dR (aPI u.names[i].value oM) (.cons (.same _) .nil) (bw ?_))
  generalize u.names[i].value.refs=L at hrl aX4 has⊢;refine cY mix (λk:Nat=>k<=L.length/\(L.take k).all (w.aDF u)=true) (I:=λk=>[(0,.d (.ip w.aT1)),(3,.lp 1 0),(5,.h 201),(7,.d (ci i)),(8,.d (.sl 1 (iR L))),(9,.d (ci k))])
   (J:=λk=>[(1,.cells false (u.aT1.map A.d)),(201,.mp false (y6 u.seen) [])]) (μ:=λk=>L.length -k) 4000 0 4
   (λ_:Unit=>L.all (w.aDF u)=true) (λ_=>[(0,.d (.ip w.aT1)),(3,.lp 1 0),(5,.h 201),(7,.d (ci i))]) (λ_=>[(1,.cells false (u.aT1.map A.d)),(201,.mp false (y6 u.seen) [])]) 5000 ⟨oM,sM⟩ ?_ ?_ ?_
  ·skip
   (refine cN.swap 5000 5001 ?_ ?_ ?_ ?_ ?_<;>repeat'(first|exact aW|exact rfl|exact sn|refine bI ?_ ?_))
   all_goals first|exact F2|exact aQ7 rfl rfl
  ·rintro k ⟨hk,h1⟩;by_cases hlk:k<L.length
   ·have aZV:w.aDF u L[k]=false->w.MR u=false:=λe=>aX4 (by rw[iA];exact⟨_,aY hlk,by rw[e];decide⟩);have hs2:=ZO (w.aDF u) L k hlk h1
    repeat'(first|refine bl ?_|refine bS (λh=>?_) (λh=>?_)|refine cD rfl eD hlk (bw ?_)|refine aF (zP w L[k] hw.len) (bw ?_)|refine aW5 eD (λh=>h) (bw ?_))
    ·exact pG _ (aZV (by unfold R4.aDF;rw[‹w.mI _=false›];rfl))
    ·exact pG _ (aZV (by unfold R4.aDF;rw[show decide (L[k]∈u.seen)=false from aU0 aM];simp))
    ·refine⟨k+1,oM,⟨oM,hs2 (by unfold R4.aDF;rw[‹w.mI _=true›,show decide (L[k]∈u.seen)=true from aUZ aM];rfl)⟩,?_⟩
     (refine cN.swap 5000 5001 ?_ ?_ ?_ ?_ ?_<;>repeat'(first|exact aW|exact rfl|exact sn|refine bI ?_ ?_))
     all_goals first|exact F2|exact aQ7 rfl rfl
    ·exfalso;omega
   ·skip
    refine bl ?_;refine O8.f (aU0 (by(try simp only[aB]);omega)) ?_;refine bl ?_;rw[aI oM]at h1;refine⟨(),h1,?_⟩
    (refine cN.swap 5000 5001 ?_ ?_ ?_ ?_ ?_<;>repeat'(first|exact aW|exact rfl|exact sn|refine bI ?_ ?_))
    all_goals first|exact F2|exact aQ7 rfl rfl
  rintro _ aWV;refine bl ?_;refine⟨i+1,oM,⟨oM,has aWV⟩,?_⟩
  (refine cN.swap 5000 5001 ?_ ?_ ?_ ?_ ?_<;>repeat'(first|exact aW|exact rfl|exact sn|refine bI ?_ ?_))
  all_goals first|exact F2|exact aQ7 rfl rfl
 ·rw[aI oM]at h0;rw[h0]at hck;rw[hck];refine bl ?_;refine O8.f (aU0 (by(try simp only[aB]);omega)) ?_;refine bl ?_;exact dP rfl
def aWT{w:World}{M:Nat->Prop}{m:Mem}{ρ:Nat->Value}{l:List A}{cs:List C}(hl:IN l (cs.map A.d)){y:Value}(hy:(A.agg l).Den w M m ρ y):(A.d (.agg cs)).Den w M m ρ y:=by
 refine I3 ?_;simp only[A.Den]at hy⊢;obtain⟨vs,e,h2⟩:=hy;exact⟨vs,e,h2.1,hl.den h2.2⟩
def aQ2{f:FuncId}{l:List A}{cs:List C}{ml:List (Nat×R)}{k:A->List (Nat×R)->Prop}{v:A}(h:∀m,aJ P f [.d (.agg cs)] m (.ok v) m)(hw:IN l (cs.map A.d))(hk:k v []):dZ P f [.agg l] ml k:=
 aF (λm=>(h m).args λw M ρ vs h=>aCK (λy h=>aWT hw h) h) hk
def l9(N:List N4):List Int:=((N.map (·.value)).map V.refs).flatten
def W4.RU(N:List N4):W4:=⟨0,0,V.zero,[],0,0,0,0,0,false,[],N⟩
def aUB(N:List N4):(W4.RU N).refs=l9 N:=by
 unfold W4.refs W4.RU W4.vA l9;rw[aG,dL];have:V.zero.refs=[]:=by rw[V.sF];rfl
 rw[this];rfl
def aU8(N:List N4):(W4.RU N).cR=1+N.length+V.dB (N.map (·.value)):=by
 unfold W4.cR W4.RU;have:V.cR V.zero=1:=rfl;rw[this];simp only[V.dB,S4.dB]
def aPK(u:U4)(hn:V.dB (u.names.map (·.value))<=2^30)(hl:u.names.length<=2^34):Pu 32 [.d (.agg u.aT1)] (.d (.sl 1 (iR (kV (l9 u.names))))):=by
 have hc:=aU8 u.names;have hrf:=aOR (W4.RU u.names) oM;rw[aUB]at hrf;have E0:(l9 u.names).length<=2^30:=cL (aHQ _) hn;refine iC mix Tryz.func32 ?_;refine bl ?_;refine aQ2 (cs:=(W4.RU u.names).aT1) hrf (by repeat'(first|exact IN.nil|refine IN.cons (by first|exact Wa.same _|exact Wa.nl _ _) ?_)) ?_;conv=>whnf
 repeat'(first|refine bl ?_|refine aF (aH2 (l9 u.names) E0) (bw ?_))
 exact .one (.d _)
structure R4.gA(w:R4):Prop extends w.wt where
 sm:∀t∈w.aT4,t.bQ.cR<=2^28
def R4.gA.refs{w:R4}(h:w.gA)(r:Int):(w.iI r).refs.length<=2^28/\(w.iI r).cR<=2^28:=by
 have hc:(w.iI r).cR<=2^28:=by
  unfold R4.iI;cases hf:w.find r with
  |none=>exact bD rfl
  |some t=>exact h.sm t (cT hf)
 refine⟨cL ?_ hc,hc⟩;exact cL (aHQ _) (W4.aF6 _)
def R4.rE(w:R4)(r:Int):Int:=if w.mI r=true then 0 else 5
def R4.SV(w:R4)(r:Int):List Int:=if w.mI r=true then kV (w.iI r).refs else []
def aRF(w:R4)(hw:w.gA)(r:Int):Pu 33 [.d (.ip w.aT1),.d (ci r)] (.eL [.d (.sl 1 (iR (w.SV r))),.d (ci (w.rE r))]):=by
 obtain⟨h1,h2⟩:=hw.refs r;refine iC mix Tryz.func33 ?_
 repeat'(first|refine bl ?_|refine bS (λh=>?_) (λh=>?_)|refine aF (zP w r hw.len) (bw ?_)|refine fT (cs:=(w.iI r).aT1) (aOR (w.iI r) oM) (bw ?_)|refine aF (aH2 (w.iI r).refs oM) (bw ?_))
 ·have hb:w.mI r=false:=aM;unfold R4.SV R4.rE;rw[hb,aT7 gO,aT7 gO];exact .eL (cs:=[.sl 1 (iR []),ci 5]) (.cons (.nz _ _) (.cons (.d _) .nil))
 ·have hb:w.mI r=true:=aM;unfold R4.SV R4.rE;rw[hb,aUF rfl,aUF rfl];exact .eL (cs:=[.sl 1 (iR _),ci 0]) (.cons (.d _) (.cons (.d _) .nil))
def R4.LY(w:R4)(r:Int):List Int:=
 if w.mI r=false then []
 else if(w.iI r).kind=14\/(w.iI r).kind=11 then [(w.iI r).of]
 else if(w.iI r).kind=15\/(w.iI r).kind=16 then [(w.iI r).of,(w.iI r).by_]
 else []
def aQE(w:R4)(hw:w.gA)(r:Int):Pu 34 [.d (.ip w.aT1),.d (ci r)] (.eL [.d (.sl 1 (iR (w.LY r))),.d (ci (w.rE r))]):=by
 obtain⟨k0,k1⟩:=R4.AF hw.towt r;refine iC mix Tryz.func34 ?_
 repeat'(first|refine bl ?_|refine bS (λh=>?_) (λh=>?_)|refine aF (zP w r hw.len) (bw ?_))
 all_goals
  unfold R4.LY R4.rE
  first
  |(rw[aUF aM,aT7 (by simp[‹w.mI r=false›])];exact .eL (cs:=[.sl 1 [],ci 5]) (.cons (.nz _ _) (.cons (.d _) .nil)))
  |(rw[aT7 (by simp[‹w.mI r=true›]),aUF ‹w.mI r=true›]
    first
    |(rw[aUF oM];exact .eL (cs:=[.sl 1 (iR [(w.iI r).of]),ci 0]) (.cons (.dU (t:=25) rfl) (.cons (.d _) .nil)))
    |(rw[aT7 oM,aUF oM];exact .eL (cs:=[.sl 1 (iR [(w.iI r).of,(w.iI r).by_]),ci 0]) (.cons (.dU (t:=25) rfl) (.cons (.d _) .nil)))
    |(rw[aT7 oM,aT7 oM];exact .eL (cs:=[.sl 1 [],ci 0]) (.cons (.nz _ _) (.cons (.d _) .nil))))
def R4.aH7(w:R4)(r:Int):List Int:=w.SV r++w.LY r
def R4.tP(w:R4)(r:Int):(w.LY r).length<=2:=by
 unfold R4.LY
 repeat' split
 all_goals simp
def a64{m:Mem}{i:Nat}{t:TypeId}{a b:List Int}(h:m i=some (.fW false t 1 (bE (iR a)++bE (iR b)))):Rd m (.h i) (.sl 1 (iR (a++b))):=by
 have e:bE (iR a)++bE (iR b)=bE (iR (a++b)):=by simp[bE]
 rw[e]at h;exact .dU h
def RJ(l:List Int):(kV l).length<=l.length:=by
 have:=aL6 l [];simpa [kV]using this
def R4.gA.aW4{w:R4}(h:w.gA)(r:Int):(w.SV r).length<=2^28:=by
 unfold R4.SV;split
 ·exact cL (RJ _) (h.refs r).1
 ·simp
def XK(L:List Int)(r:Int):(L.any λx=>decide (x=r))=decide (r∈L):=by
 cases h:decide (r∈L)with
 |true=>
  rw[dQ];exact⟨r,aUL h,sM⟩
 |false=>
  have:=of_decide_eq_false h;rw[qR];intro x hx e;have:x=r:=by simpa using e
  subst this;contradiction
def aTI(w:R4)(hw:w.gA)(l:List U4)(hl:l.length<=2^30)(hu:∀u∈l,u.wD):Pu 15 [.d (.ip w.aT1),.d (.sl 4 (l.map U4.aT1))] (.d (cb (l.all w.MR))):=by
 refine iC mix Tryz.func15 ?_;refine bl ?_;refine bV mix (λi:Nat=>i<=l.length/\(l.take i).all w.MR=true) (I:=λi=>[(0,.d (.ip w.aT1)),(1,.d (.sl 4 (l.map U4.aT1))),(5,.d (ci i))])
  (J:=λi=>[]) (μ:=λi=>l.length -i) 1000 0 ⟨oM,sM⟩ mZ ?_
 rintro i ⟨hi,h0⟩;by_cases cX:i<l.length
 ·have hui:=hu _ (aY cX)
  repeat'(first|refine bl ?_|refine bS (λh=>?_) (λh=>?_)|refine cD rfl eD cX (bw ?_)|refine dR (aSU w hw.towt l[i] hui) (.cons (.same _) (.cons (.same _) .nil)) (bw ?_))
  ·have hf:l.all w.MR=false:=by rw[iA];exact⟨_,aY cX,by simp[‹w.MR _=false›]⟩
   rw[hf];exact dP rfl
  ·exact⟨i+1,oM,⟨oM,ZO _ _ i cX h0 aM⟩,mZ⟩
  ·exfalso;omega
 ·rw[aI oM]at h0;rw[h0];refine bl ?_;refine O8.f (aU0 (by(try simp only[aB]);omega)) ?_;refine bl ?_;exact dP rfl
def V.aKZ:∀l:List V,0<=V.kE l
 |[]=>by simp[V.kE]
 |v::r=>by have:=V.aKZ r;simp only[V.kE];omega
def V.aTQ(v:V):0<=v.deep:=by
 cases v with
 |mk k n s l r=>have:=V.aKZ l;simp only[V.deep];split<;>omega
def V.aOJ(k n:Int)(s:ByteArray)(l:List V)(r:Int):V.field (.mk k n s l r)=(if k=0 then decide (n=0/\s.size=0/\l.length=0/\r=0)
 else if k=1 then decide (s.size=0/\l.length=0/\r=0)
 else if k=2 then decide (n=0/\(s.size:Int)<=256/\l.length=0/\r=0)
 else if k=3 then decide (n=0/\s.size=0/\r=0)
 else if k=4 then decide (n=0/\s.size=0/\l.length=0/\1<=r)
 else false):=rfl
mutual
def V.aQT:∀(v:V)(p d p' d':Int),0<=p->0<=d->mQ v p d=(true,p',d')->p'=p -v.cR/\0<=p'/\d'=d/\v.deep<=d/\v.u7=true
 |.mk k n s l r,p,d,p',d',hp,hd,h=>by
  have ih:=V.aPN l (p -1) (d -1);rw[mQ]at h;by_cases h0:p=0
  ·rw[aUF h0]at h;simp at h
  rw[aT7 h0]at h;by_cases k0:k=0
  ·rw[aUF k0]at h;simp only[aD,aUA]at h;obtain⟨⟨a1,a2,a3,a4⟩,e1,e2⟩:=h;have:=bL a4;subst this;subst k0;simp[V.cR,V.dB,V.deep,V.kE,V.u7,V.y8,V.field,V.kind,V.n,V.s,V.l,V.r,a1,a2,a3];omega
  rw[aT7 k0]at h;by_cases k1:k=1
  ·rw[aUF k1]at h;simp only[aD,aUA]at h;obtain⟨⟨a2,a3,a4⟩,e1,e2⟩:=h;have:=bL a4;subst this;subst k1;simp[V.cR,V.dB,V.deep,V.kE,V.u7,V.y8,V.field,V.kind,V.n,V.s,V.l,V.r,a2,a3];omega
  rw[aT7 k1]at h;by_cases k2:k=2
  ·rw[aUF k2]at h;by_cases hs:256<(s.size:Int)
   ·rw[aUF hs]at h;simp at h
   rw[aT7 hs]at h;simp only[aD,aUA]at h;obtain⟨⟨a2,a3,a4⟩,e1,e2⟩:=h;have:=bL a4;subst this;subst k2;simp[V.cR,V.dB,V.deep,V.kE,V.u7,V.y8,V.field,V.kind,V.n,V.s,V.l,V.r,a2,a3];omega
  rw[aT7 k2]at h;by_cases k4:k=4
  ·rw[aUF k4]at h;by_cases hs:r<1
   ·rw[aUF hs]at h;simp at h
   rw[aT7 hs]at h;simp only[aD,aUA]at h;obtain⟨⟨a2,a3,a4⟩,e1,e2⟩:=h;have:=bL a4;subst this;subst k4;simp[V.cR,V.dB,V.deep,V.kE,V.u7,V.y8,V.field,V.kind,V.n,V.s,V.l,V.r,a2,a3];omega
  rw[aT7 k4]at h;by_cases k3:k=3
  ·rw[aUF k3]at h;by_cases hs:d=0\/p -1<(l.length:Int)
   ·rw[aUF hs]at h;simp at h
   rw[aT7 hs]at h;generalize nG l (p -1) (d -1)=q at ih h;obtain⟨b,p2,d2⟩:=q;cases b with
   |false=>simp at h
   |true=>
    simp only[aD,aUA]at h;obtain⟨⟨a2,a3,a4⟩,e1,e2⟩:=h;obtain⟨b1,b2,b3,b4,b5⟩:=ih p2 d2 oM oM rfl;subst k3;simp[V.cR,V.deep,V.u7,V.field,V.kind,V.n,V.s,V.l,V.r,a2,a3,a4,b5];omega
  rw[aT7 k3]at h;simp at h
def V.aPN:∀(l:List V)(p d p' d':Int),0<=p->0<=d->nG l p d=(true,p',d')->p'=p -V.dB l/\0<=p'/\d'=d/\V.kE l<=d/\V.y8 l=true
 |[],p,d,p',d',hp,hd,h=>by
  simp only[nG,aD,true_and]at h;simp[V.dB,V.kE,V.y8];omega
 |v::r,p,d,p',d',hp,hd,h=>by
  have h1:=V.aQT v p d;have h2:=V.aPN r;rw[nG]at h;generalize mQ v p d=q at h1 h;obtain⟨b,p2,d2⟩:=q;cases b with
  |false=>simp at h
  |true=>
   obtain⟨b1,b2,b3,b4,b5⟩:=h1 p2 d2 hp hd rfl;subst b3;obtain⟨c1,c2,c3,c4,c5⟩:=h2 p2 d2 p' d' b2 hd h;simp[V.dB,V.kE,V.y8,b5,c5];omega
end
mutual
def V.aQS:∀(v:V)(p d:Int),(v.cR:Int)<=p->v.deep<=d->0<=d->v.u7=true->mQ v p d=(true,p -v.cR,d)
 |.mk k n s l r,p,d,hp,hd,hd0,hf=>by
  have ih:=V.aPM l (p -1) (d -1);have hln:=V.eW l;have hdl:=V.aKZ l;simp only[V.cR]at hp;simp only[V.u7,aE]at hf;obtain⟨hfl,hf⟩:=hf;rw[V.aOJ]at hf;rw[mQ,aT7 oM];by_cases k0:k=0
  ·rw[aUF k0]at hf⊢;simp only[aUA]at hf;obtain⟨a1,a2,a3,a4⟩:=hf;have:=bL (l:=l) oM;subst this;simp[V.cR,V.dB,a1,a2,a4]
  rw[aT7 k0]at hf⊢;by_cases k1:k=1
  ·rw[aUF k1]at hf⊢;simp only[aUA]at hf;obtain⟨a1,a2,a3⟩:=hf;have:=bL (l:=l) oM;subst this;simp[V.cR,V.dB,a1,a2,a3]
  rw[aT7 k1]at hf⊢;by_cases k2:k=2
  ·rw[aUF k2]at hf⊢;simp only[aUA]at hf;obtain⟨a1,a2,a3,a4⟩:=hf;have:=bL (l:=l) oM;subst this;rw[aT7 oM];simp[V.cR,V.dB,a1,a4]
  rw[aT7 k2]at hf⊢;by_cases k3:k=3
  ·have hd2:V.kE l+1<=d:=by simpa [V.deep,k3]using hd
   rw[aUF k3]at hf;simp only[aUA]at hf;obtain⟨a1,a2,a3⟩:=hf;rw[aT7 oM,aUF k3,aT7 oM,ih oM oM oM hfl];simp[V.cR,a1,a2,a3];omega
  rw[aT7 k3]at hf;by_cases k4:k=4
  ·rw[aUF k4]at hf⊢;simp only[aUA]at hf;obtain⟨a1,a2,a3,a4⟩:=hf;have:=bL (l:=l) oM;subst this;rw[aT7 oM];simp[V.cR,V.dB,a1,a2]
  rw[aT7 k4]at hf;cases hf
def V.aPM:∀(l:List V)(p d:Int),(V.dB l:Int)<=p->V.kE l<=d->0<=d->V.y8 l=true->nG l p d=(true,p -V.dB l,d)
 |[],p,d,hp,hd,hd0,hf=>by simp[nG,V.dB]
 |v::r,p,d,hp,hd,hd0,hf=>by
  simp only[V.y8,aE]at hf;simp only[V.dB,V.kE]at hp hd;rw[nG,V.aQS v p d oM oM hd0 hf.1];simp only;rw[V.aPM r (p -v.cR) d oM oM hd0 hf.2];simp[V.dB];omega
end
mutual
def V.aAE:∀(v:V)(d:Int),v.GI d<=512->v.GI d=v.cR
 |.mk k n s l r,d,h=>by
  simp only[V.GI]at h⊢;split at h
  ·omega
  ·rename_i hd;rw[aT7 hd,V.TC l (d+1) 1 oM h];simp[V.cR]
def V.TC:∀(l:List V)(d n:Int),0<=n->V.pH l d n<=512->V.pH l d n=n+V.dB l
 |[],d,n,hn,h=>by simp[V.pH,V.dB]
 |v::r,d,n,hn,h=>by
  have h1:=V.aAE v d;have h2:=V.TC r d (n+V.GI v d);have h3:=(V.K5 v d).1;simp only[V.pH]at h⊢;by_cases h0:n<=512
  ·rw[aUF h0]at h⊢;by_cases h4:n+V.GI v d<=512
   ·rw[h2 oM h,h1 oM];simp[V.dB];omega
   ·rw[V.K4 r d _ oM]at h;omega
  ·rw[aT7 h0]at h;omega
end
mutual
def V.aFL:∀(v:V)(d:Int),(v.cR:Int)<=512->v.deep+d<=16->v.u7=true->v.GI d=v.cR
 |.mk k n s l r,d,hc,hd,hf=>by
  simp only[V.u7,aE]at hf;have hdp:=V.aTQ (.mk k n s l r);simp only[V.GI];rw[aT7 oM];cases l with
  |nil=>simp[V.pH,V.cR,V.dB]
  |cons v r'=>
   have k3:k=3:=by
    have hf:=hf.2;rw[V.aOJ]at hf;simp only[aQ]at hf;by_cases k3:k=3
    ·exact k3
    ·exfalso;rw[aT7 k3]at hf;by_cases k0:k=0
     ·rw[aUF k0]at hf;simp at hf
     rw[aT7 k0]at hf;by_cases k1:k=1
     ·rw[aUF k1]at hf;simp at hf
     rw[aT7 k1]at hf;by_cases k2:k=2
     ·rw[aUF k2]at hf;simp at hf
     rw[aT7 k2]at hf;by_cases k4:k=4
     ·rw[aUF k4]at hf;simp at hf
     rw[aT7 k4]at hf;cases hf
   simp only[V.deep]at hd;rw[aUF k3]at hd;simp only[V.cR]at hc⊢;rw[V.S9 (v::r') (d+1) 1 oM oM oM hf.1];simp
def V.S9:∀(l:List V)(d n:Int),0<=n->n+V.dB l<=512->V.kE l+d<=16->V.y8 l=true->V.pH l d n=n+V.dB l
 |[],d,n,hn,hc,hd,hf=>by simp[V.pH,V.dB]
 |v::r,d,n,hn,hc,hd,hf=>by
  simp only[V.y8,aE]at hf;simp only[V.dB,V.kE]at hc hd;simp only[V.pH];rw[aUF oM,V.aFL v d oM oM hf.1,V.S9 r d _ oM oM oM hf.2];simp[V.dB];omega
end
def V.aOC(v:V):v.nI=true↔(v.cR:Int)<=512/\v.deep<=16/\v.u7=true:=by
 unfold V.nI;simp only[aE,aUA];constructor
 ·rintro⟨h1,h2,h3⟩;have:=V.aAE v 0 h1;exact⟨oM,h2,h3⟩
 ·rintro⟨h1,h2,h3⟩;have:=V.aFL v 0 h1 oM h3;exact⟨oM,h2,h3⟩
def V.aU6(v:V):v.may=true↔(v.cR:Int)<=512/\v.deep<=16/\v.u7=true:=by
 unfold V.may V.aHT;rw[aUA];have hp:=v.PO;constructor
 ·intro h;cases hq:mQ v 512 16 with
  |mk b q=>
   obtain⟨p,d⟩:=q;rw[hq]at h;cases b with
   |false=>simp at h
   |true=>
    obtain⟨a,b,c,d1,e⟩:=V.aQT v 512 16 p d oM oM hq;exact⟨oM,d1,e⟩
 ·rintro⟨h1,h2,h3⟩;rw[V.aQS v 512 16 h1 h2 oM h3];simp only;omega
def V.QI(v:V):v.may=v.nI:=by rw[K0,v.aU6,v.aOC]
mutual
def E4.aAE:∀(v:E4)(d:Int),v.GI d<=512->v.GI d=v.cR
 |.mk k n s l,d,h=>by
  simp only[E4.GI]at h⊢;split at h
  ·omega
  ·rename_i hd;rw[aT7 hd,E4.TC l (d+1) 1 oM h];simp[E4.cR]
def E4.TC:∀(l:List E4)(d n:Int),0<=n->E4.pH l d n<=512->E4.pH l d n=n+E4.dB l
 |[],d,n,hn,h=>by simp[E4.pH,E4.dB]
 |v::r,d,n,hn,h=>by
  have h1:=E4.aAE v d;have h2:=E4.TC r d (n+E4.GI v d);have h3:=(E4.K5 v d).1;simp only[E4.pH]at h⊢;by_cases h0:n<=512
  ·rw[aUF h0]at h⊢;by_cases h4:n+E4.GI v d<=512
   ·rw[h2 oM h,h1 oM];simp[E4.dB];omega
   ·rw[E4.K4 r d _ oM]at h;omega
  ·rw[aT7 h0]at h;omega
end
def E4.aL1(k n:Int)(s:ByteArray)(l:List E4):E4.S3 (.mk k n s l)=(if k=1 then decide (s.size=0)&&decide (l.length=0)
 else if k=2 then decide (n=0)&&(decide (s.size<=256)&&decide (l.length=0))
 else if k=3 then decide (n=0)&&decide (s.size=0)
 else if k=4 then decide (n=0)&&(gN s&&decide (l.length=0))
 else false):=Eq.refl _
def E4.aUG{k n:Int}{s:ByteArray}{v:E4}{l:List E4}(h:E4.S3 (.mk k n s (v::l))=true):k=3:=by
 rw[E4.aL1]at h;simp only[aQ]at h;by_cases k3:k=3
 ·exact k3
 exfalso;rw[aT7 k3]at h;by_cases k1:k=1
 ·rw[aUF k1]at h;simp at h
 rw[aT7 k1]at h;by_cases k2:k=2
 ·rw[aUF k2]at h;simp at h
 rw[aT7 k2]at h;by_cases k4:k=4
 ·rw[aUF k4]at h;simp at h
 rw[aT7 k4]at h;cases h
mutual
def E4.aFL:∀(v:E4)(d:Int),(v.cR:Int)<=512->v.GK+d<=16->v.rfl=true->v.GI d=v.cR
 |.mk k n s l,d,hc,hd,hf=>by
  rw[E4.rfl,aE]at hf;have hdp:=(E4.aUE (.mk k n s l)).1;simp only[E4.GI];rw[aT7 oM];cases l with
  |nil=>simp[E4.pH,E4.cR,E4.dB]
  |cons v r'=>
   have k3:k=3:=E4.aUG hf.2;simp only[E4.GK]at hd;rw[aT7 oM]at hd;simp only[E4.cR]at hc⊢;rw[E4.S9 (v::r') (d+1) 1 oM oM oM hf.1];simp
def E4.S9:∀(l:List E4)(d n:Int),0<=n->n+E4.dB l<=512->E4.GW l+d<=16->E4.aAS l=true->E4.pH l d n=n+E4.dB l
 |[],d,n,hn,hc,hd,hf=>by simp[E4.pH,E4.dB]
 |v::r,d,n,hn,hc,hd,hf=>by
  simp only[E4.aAS,aE]at hf;simp only[E4.dB,E4.GW]at hc hd;simp only[E4.pH];rw[aUF oM,E4.aFL v d oM oM hf.1,E4.S9 r d _ oM oM oM hf.2];simp[E4.dB];omega
end
mutual
def E4.aT6:∀(v:E4)(p d p':Int),0<=d->v.me p d=(true,p')->p'=p -v.cR/\0<=p'/\v.GK<=d/\v.rfl=true
 |.mk k n s l,p,d,p',hd,h=>by
  have ih:=E4.aRY l (p -1) (d -1);rw[E4.me]at h;by_cases h0:p -1<0\/(k≠1/\n≠0)\/(k≠3/\l.length≠0)\/(k≠2/\k≠4/\s.size≠0)
  ·rw[aUF h0]at h;simp at h
  rw[aT7 h0]at h
  have hl:k≠3->l=[]:=λhk=>bL (by
   by_cases e:l.length=0
   · exact e
   · exact absurd (.inr (.inr (.inl ⟨hk,e⟩))) h0)
  have hn:k≠1->n=0:=λhk=>by
   by_cases e:n=0
   ·exact e
   ·exact absurd (.inr (.inl ⟨hk,e⟩)) h0
  have hs:k≠2->k≠4->s.size=0:=λhk EN=>by
   by_cases e:s.size=0
   ·exact e
   ·exact absurd (.inr (.inr (.inr ⟨hk,EN,e⟩))) h0
  have hp0:¬p -1<0:=λe=>absurd (.inl e) h0;by_cases k1:k=1
  ·rw[aUF k1]at h;simp only[aD,true_and]at h;have:=hl oM;subst this;subst k1;have:=hs oM oM;simp[E4.cR,E4.dB,E4.GK,E4.rfl,E4.aAS,E4.aL1,this];omega
  rw[aT7 k1]at h;have hn:=hn k1;subst hn;by_cases k2:k=2
  ·rw[aUF k2]at h;simp only[aD,aUA]at h;have:=hl oM;subst this;subst k2;simp[E4.cR,E4.dB,E4.GK,E4.rfl,E4.aAS,E4.aL1,h.1];omega
  rw[aT7 k2]at h;by_cases k4:k=4
  ·rw[aUF k4]at h;simp only[aD]at h;have:=hl oM;subst this;subst k4;simp[E4.cR,E4.dB,E4.GK,E4.rfl,E4.aAS,E4.aL1,h.1];omega
  rw[aT7 k4]at h;have hs:=hs k2 k4;by_cases k3:k=3/\0<d
  ·rw[aUF k3]at h;obtain⟨b1,b2,b3,b4⟩:=ih p' oM oM h;obtain⟨k3,hd2⟩:=k3;subst k3;simp[E4.cR,E4.GK,E4.rfl,E4.aL1,b4,hs];omega
  rw[aT7 k3]at h;simp at h
def E4.aRY:∀(l:List E4)(p d p':Int),0<=p->0<=d->E4.A9 l p d=(true,p')->p'=p -E4.dB l/\0<=p'/\E4.GW l<=d/\E4.aAS l=true
 |[],p,d,p',hp,hd,h=>by
  simp only[E4.A9,aD,true_and]at h;simp[E4.dB,E4.GW,E4.aAS];omega
 |v::r,p,d,p',hp,hd,h=>by
  have h1:=E4.aT6 v p d;have h2:=E4.aRY r;rw[E4.A9]at h;generalize E4.me v p d=q at h1 h;obtain⟨b,p2⟩:=q;cases b with
  |false=>simp at h
  |true=>
   obtain⟨b1,b2,b4,b5⟩:=h1 p2 hd (Eq.refl _);obtain⟨c1,c2,c4,c5⟩:=h2 p2 d p' b2 hd h;simp[E4.dB,E4.GW,E4.aAS,b5,c5];omega
end
mutual
def E4.aT5:∀(v:E4)(p d:Int),(v.cR:Int)<=p->v.GK<=d->v.rfl=true->v.me p d=(true,p -v.cR)
 |.mk k n s l,p,d,hp,hd,hf=>by
  have ih:=E4.aRX l (p -1) (d -1);have hdl:=(E4.aOD l).1;simp only[E4.cR]at hp;rw[E4.rfl,aE]at hf;obtain⟨hfl,hf⟩:=hf;rw[E4.aL1]at hf;rw[E4.me];by_cases k1:k=1
  ·rw[aUF k1]at hf;simp only[aE,aUA]at hf;have:=bL hf.2;subst this;subst k1;rw[aT7 (by simp[hf.1];omega),aUF (Eq.refl _)];simp[E4.cR,E4.dB]
  rw[aT7 k1]at hf;by_cases k2:k=2
  ·rw[aUF k2]at hf;simp only[aE,aUA]at hf;have:=bL hf.2.2;subst this;subst k2;rw[aT7 (by simp[hf.1];omega),aT7 oM,aUF (Eq.refl _)];simp[E4.cR,E4.dB,hf.2.1]
  rw[aT7 k2]at hf;by_cases k3:k=3
  ·rw[aUF k3]at hf;simp only[aE,aUA]at hf;subst k3;have hd2:E4.GW l+1<=d:=by simpa [E4.GK]using hd
   rw[aT7 (by simp[hf.1,hf.2];omega),aT7 oM,aT7 oM,aT7 oM,aUF ⟨(Eq.refl _),oM⟩,ih oM oM hfl];simp[E4.cR];omega
  rw[aT7 k3]at hf;by_cases k4:k=4
  ·rw[aUF k4]at hf;simp only[aE,aUA]at hf;have:=bL hf.2.2;subst this;subst k4;rw[aT7 (by simp[hf.1];omega),aT7 oM,aT7 oM,aUF (Eq.refl _)];simp[E4.cR,E4.dB,hf.2.1]
  rw[aT7 k4]at hf;cases hf
def E4.aRX:∀(l:List E4)(p d:Int),(E4.dB l:Int)<=p->E4.GW l<=d->E4.aAS l=true->E4.A9 l p d=(true,p -E4.dB l)
 |[],p,d,hp,hd,hf=>by simp[E4.A9,E4.dB]
 |v::r,p,d,hp,hd,hf=>by
  simp only[E4.aAS,aE]at hf;simp only[E4.dB,E4.GW]at hp hd;rw[E4.A9,E4.aT5 v p d oM oM hf.1];simp only;rw[E4.aRX r (p -v.cR) d oM oM hf.2];simp[E4.dB];omega
end
mutual
def E4.aRV:∀(v:E4)(n d:Int),n+v.cR<=512->v.deep<=d->0<=d->v.lit n d=(true,n+v.cR)
 |.mk k n s l,m,d,hc,hd,hd0=>by
  have hdl:=(E4.uD l).1;simp only[E4.cR]at hc⊢;rw[E4.lit,aT7 oM];simp only[E4.deep]at hd;by_cases h0:k≠3/\l.length=0
  ·rw[aUF h0];have:=bL h0.2;subst this;simp[E4.dB]
  ·rw[aT7 h0]at hd⊢;rw[aT7 oM,E4.aP8 l (m+1) (d -1) oM oM oM];simp;omega
def E4.aP8:∀(l:List E4)(n d:Int),n+E4.dB l<=512->E4.kE l<=d->0<=d->E4.oC l n d=(true,n+E4.dB l)
 |[],n,d,hc,hd,hd0=>by simp[E4.oC,E4.dB]
 |v::r,n,d,hc,hd,hd0=>by
  simp only[E4.dB,E4.kE]at hc hd;rw[E4.oC,E4.aRV v n d oM oM hd0];simp only;rw[E4.aP8 r (n+v.cR) d oM oM hd0];simp[E4.dB];omega
end
def E4.aP9(v:E4)(h:v.fits=true):(v.lit 0 16).1=true:=by
 unfold E4.fits at h;simp only[aE,aUA]at h;have:=E4.aAE v 0 h.1;rw[E4.aRV v 0 16 oM h.2 oM]
def E4.aQN(v:E4):v.aQM=true↔(v.cR:Int)<=512/\v.GK<=16/\v.rfl=true:=by
 unfold E4.aQM;simp only[aE,aUA];constructor
 ·rintro⟨h1,h2,h3⟩;have:=E4.aAE v 0 h1;exact⟨oM,h2,h3⟩
 ·rintro⟨h1,h2,h3⟩;have:=E4.aFL v 0 h1 oM h3;exact⟨oM,h2,h3⟩
def E4.aT3(v:E4):v.MR=true↔(v.cR:Int)<=512/\v.GK<=16/\v.rfl=true:=by
 unfold E4.MR;constructor
 ·intro h;cases hq:v.me 512 16 with
  |mk b p=>
   rw[hq]at h;simp only at h;subst h;obtain⟨a,b,c,e⟩:=E4.aT6 v 512 16 p oM hq;exact⟨oM,c,e⟩
 ·rintro⟨h1,h2,h3⟩;rw[E4.aT5 v 512 16 h1 h2 h3]
def E4.aPE(v:E4):v.MR=v.aQM:=by rw[K0,v.aT3,v.aQN]
mutual
def S4.flat:S4->List S4
 |.mk op n1 n2 ab wh a b t e c w=>.mk op n1 n2 ab wh a b t e c w::(S4.l7 t++(S4.l7 e++S4.l7 c))
def S4.l7:List S4->List S4
 |[]=>[]
 |v::r=>S4.flat v++S4.l7 r
end
mutual
def S4.aUP:∀(v:S4)(n:Int),0<=n->v.step n<=512->v.step n=n+v.flat.length
 |.mk op n1 n2 ab wh a b t e c w,n,hn,h=>by
  have h1:=S4.OF t 0 oM;have h2:=S4.OF e 0 oM;have h3:=S4.OF c 0 oM;have b1:=(S4.uU t 0 oM).1;have b2:=(S4.uU e 0 oM).1;have b3:=(S4.uU c 0 oM).1;simp only[S4.step,S4.flat,aQ,aU]at h⊢;generalize S4.nF t 0=x1 at*;generalize S4.nF e 0=x2 at*;generalize S4.nF c 0=x3 at*;have e1:n+1+x1<=512:=by
   by_cases e:n+1+x1<=512
   ·exact e
   ·rw[aT7 e,aT7 e]at h;omega
  rw[aUF e1]at h⊢;have e2:n+1+x1+x2<=512:=by
   by_cases e:n+1+x1+x2<=512
   ·exact e
   ·rw[aT7 e]at h;omega
  rw[aUF e2]at h⊢;rw[h1 oM,h2 oM,h3 oM]
  push_cast;omega
def S4.OF:∀(l:List S4)(n:Int),0<=n->S4.nF l n<=512->S4.nF l n=n+(S4.l7 l).length
 |[],n,hn,h=>by simp[S4.nF,S4.l7]
 |v::r,n,hn,h=>by
  have h1:=S4.aUP v n hn;have h2:=S4.OF r (v.step n);have b1:=(S4.Y9 v n hn).1;have b2:=(S4.uU r (v.step n) oM).1;simp only[S4.nF]at h⊢;by_cases h0:n<=512
  ·rw[aUF h0]at h⊢;rw[h2 oM h,h1 oM];simp only[S4.l7,aU];push_cast;omega
  ·rw[aT7 h0]at h;omega
end
mutual
def S4.aWN:∀(v:S4)(n:Int),0<=n->n+v.flat.length<=512->v.fit=true->v.sm n=(true,n+v.flat.length)
 |.mk op n1 n2 ab wh a b t e c w,n,hn,h,hf=>by
  simp only[S4.flat,aQ,aU]at h⊢;simp only[S4.fit,aE,aUA]at hf;obtain⟨⟨⟨⟨⟨f1,f2⟩,f3⟩,f4⟩,f5⟩,f6⟩:=hf;rw[S4.sm,aT7 (by rw[E4.aP9 a f2,E4.aP9 b f3];simp;omega),S4.aH9 t (n+1) oM oM f4];simp only;rw[S4.aH9 e _ oM oM f5];simp only;rw[S4.aH9 c _ oM oM f6];simp;omega
def S4.aH9:∀(l:List S4)(n:Int),0<=n->n+(S4.l7 l).length<=512->S4.jD l=true->S4.C4 l n=(true,n+(S4.l7 l).length)
 |[],n,hn,h,hf=>by simp[S4.C4,S4.l7]
 |v::r,n,hn,h,hf=>by
  simp only[S4.l7,aU]at h⊢;simp only[S4.jD,aE]at hf;rw[S4.C4,S4.aWN v n hn oM hf.1];simp only;rw[S4.aH9 r _ oM oM hf.2];simp;omega
end
def S4.aUM{l:List S4}(h1:S4.nF l 0<=512)(h2:S4.jD l=true):(S4.C4 l 0).1=true:=by
 have h:=S4.OF l 0 oM h1;rw[S4.aH9 l 0 oM oM h2]
def S4.aVR(v:S4)(n:Int):(n=512/\v.tl n=(false,512,4))\/(n≠512/\v.aKB=true/\v.tl n=(true,0,0))\/(n≠512/\v.aKB≠true/\v.tl n=(false,n,160)):=by
 unfold S4.tl;by_cases h:n=512
 ·exact .inl ⟨h,aUF h⟩
 ·by_cases h2:v.aKB=true
  ·exact .inr (.inl ⟨h,h2,by rw[aT7 h,aUF h2]⟩)
  ·exact .inr (.inr ⟨h,h2,by rw[aT7 h,aT7 h2]⟩)
abbrev Wq(n:Int)(L:List S4)(q:Bool×Int×Int×Int):Prop:=(q.2.2.2=0\/q.1=true)->n+L.length<=512/\q=(true,n+L.length,0,0)/\∀s∈L,s.aKB=true
mutual
def S4.aWR:∀(v:S4)(n:Int),0<=n->n<=512->Wq n v.flat (v.wk n)
 |.mk op n1 n2 ab wh a b t e c w,n,hn,hn2=>by
  have h1:=S4.aJ6 t (n+1) oM;have h2:=S4.aJ6 e;have h3:=S4.aJ6 c;intro h;rw[S4.wk]at h⊢;simp only[S4.flat,aQ,aU,aO,bN];rcases S4.aVR (.mk op n1 n2 ab wh a b t e c w) n with⟨_,e0⟩|⟨hz,hm,e0⟩|⟨_,_,e0⟩
  ·rw[e0]at h;simp at h
  ·rw[e0]at h⊢;simp only at h⊢;generalize S4.vS t (n+1)=q1 at h h1⊢;obtain⟨b1,m1,a1,r1⟩:=q1;cases b1 with
   |false=>
    have:=(h1 oM h).2.1;simp at this
   |true=>
    obtain⟨g1,g2,g3⟩:=h1 oM (.inr rfl);simp only[aD,true_and]at g2;obtain⟨k1,k2,k3⟩:=g2;subst k1;simp only at h⊢;have h2:=h2 (n+1+(S4.l7 t).length) oM oM;generalize S4.vS e (n+1+(S4.l7 t).length)=q2 at h h2⊢;obtain⟨b2,m2,a2,r2⟩:=q2;cases b2 with
    |false=>
     have:=(h2 h).2.1;simp at this
    |true=>
     obtain⟨f1,f2,f3⟩:=h2 (.inr rfl);simp only[aD,true_and]at f2;obtain⟨k4,k5,k6⟩:=f2;subst k4;simp only at h⊢;obtain⟨d1,d2,d3⟩:=h3 (n+1+(S4.l7 t).length+(S4.l7 e).length) oM oM h;rw[d2];refine⟨oM,zM,?_⟩;rintro s (hs|hs|hs|hs)
     ·subst hs;exact hm
     ·exact g3 s hs
     ·exact f3 s hs
     ·exact d3 s hs
  ·rw[e0]at h;simp at h
def S4.aJ6:∀(l:List S4)(n:Int),0<=n->n<=512->Wq n (S4.l7 l) (S4.vS l n)
 |[],n,hn,hn2=>by intro h;simp[S4.vS,S4.l7];omega
 |v::r,n,hn,hn2=>by
  have h1:=S4.aWR v n hn hn2;have h2:=S4.aJ6 r;intro h;rw[S4.vS]at h⊢;simp only[S4.l7,aU,bN];generalize S4.wk v n=q1 at h h1⊢;obtain⟨b1,m1,a1,r1⟩:=q1;cases b1 with
  |false=>
   have:=(h1 h).2.1;simp at this
  |true=>
   obtain⟨g1,g2,g3⟩:=h1 (.inr rfl);simp only[aD,true_and]at g2;obtain⟨k1,k2,k3⟩:=g2;subst k1;simp only at h⊢;obtain⟨d1,d2,d3⟩:=h2 (n+v.flat.length) oM oM h;rw[d2];refine⟨oM,zM,?_⟩;rintro s (hs|hs)
   ·exact g3 s hs
   ·exact d3 s hs
end
mutual
def S4.aWQ:∀(v:S4)(n:Int),0<=n->n+v.flat.length<=512->(∀s∈v.flat,s.aKB=true)->v.wk n=(true,n+v.flat.length,0,0)
 |.mk op n1 n2 ab wh a b t e c w,n,hn,h,hm=>by
  simp only[S4.flat,aQ,aU,aO,bN]at h hm⊢;rcases S4.aVR (.mk op n1 n2 ab wh a b t e c w) n with⟨e1,e0⟩|⟨hz,_,e0⟩|⟨_,e1,e0⟩
  ·omega
  ·rw[S4.wk,e0];simp only;rw[S4.aJ4 t (n+1) oM oM (λs hs=>hm s (.inr (.inl hs)))];simp only;rw[S4.aJ4 e _ oM oM (λs hs=>hm s (.inr (.inr (.inl hs))))];simp only;rw[S4.aJ4 c _ oM oM (λs hs=>hm s (.inr (.inr (.inr hs))))];simp;omega
  ·exact absurd (hm _ (.inl rfl)) e1
def S4.aJ4:∀(l:List S4)(n:Int),0<=n->n+(S4.l7 l).length<=512->(∀s∈S4.l7 l,s.aKB=true)->S4.vS l n=(true,n+(S4.l7 l).length,0,0)
 |[],n,hn,h,hm=>by simp[S4.vS,S4.l7]
 |v::r,n,hn,h,hm=>by
  simp only[S4.l7,aU,bN]at h hm⊢;rw[S4.vS,S4.aWQ v n hn oM (λs hs=>hm s (.inl hs))];simp only;rw[S4.aJ4 r _ oM oM (λs hs=>hm s (.inr hs))];simp;omega
end
def aSE(l:List S4):aI6 l=true↔((S4.l7 l).length:Int)<=512/\∀s∈S4.l7 l,s.aKB=true:=by
 unfold aI6 I9;rw[aUA];constructor
 ·intro h;obtain⟨a,b,c⟩:=S4.aJ6 l 0 oM oM (.inl h);exact⟨oM,c⟩
 ·rintro⟨h1,h2⟩;rw[S4.aJ4 l 0 oM oM h2]
mutual
def S4.aUH:∀(v:S4)(d:Int)(q:Bool)(l:List M9),l.length+v.flat.length<=512->(v.rk d q l).map (·.stmt)=l.map (·.stmt)++v.flat
 |.mk op n1 n2 ab wh a b t e c w,d,q,l,h=>by
  simp only[S4.flat,aQ,aU]at h⊢;rw[S4.rk];have e1:=S4.KH t (d+1) q (l++[⟨d,q,.mk op n1 n2 ab wh a b t e c w⟩]) zM;generalize S4.eG t (d+1) q (l++[⟨d,q,.mk op n1 n2 ab wh a b t e c w⟩])=x1 at*;have l1:=congrArg List.length e1;simp only[aB,aU,aQ,cS]at l1;have e2:=S4.KH e (d+1) q x1 oM;generalize S4.eG e (d+1) q x1=x2 at*;have l2:=congrArg List.length e2;simp only[aB,aU,aQ,cS]at l2;rw[S4.KH c (d+1) true x2 oM,e2,e1];simp
def S4.KH:∀(c:List S4)(d:Int)(q:Bool)(l:List M9),l.length+(S4.l7 c).length<=512->(S4.eG c d q l).map (·.stmt)=l.map (·.stmt)++S4.l7 c
 |[],d,q,l,h=>by simp[S4.eG,S4.l7]
 |v::r,d,q,l,h=>by
  simp only[S4.l7,aU]at h⊢;rw[S4.eG,aUF oM];have e1:=S4.aUH v d q l oM;generalize S4.rk v d q l=x1 at*;have l1:=congrArg List.length e1;simp only[aB,aU]at l1;rw[S4.KH r d q x1 oM,e1];simp
end
mutual
def S4.aWK:∀(v:S4)(d:Int)(q:Bool)(l:List M9),(v.rk d q l).length<=512->l.length+v.flat.length<=512
 |.mk op n1 n2 ab wh a b t e c w,d,q,l,h=>by
  simp only[S4.flat,aQ,aU];rw[S4.rk]at h;have h3:=S4.aH4 c (d+1) true _ h;have h2:=S4.aH4 e (d+1) q _ (cL (R1 _ _) h3);have h1:=S4.aH4 t (d+1) q _ (cL (R1 _ _) h2);have e1:=congrArg List.length (S4.KH t (d+1) q _ h1);have e2:=congrArg List.length (S4.KH e (d+1) q _ h2);simp only[aB,aU,aQ,cS]at e1 e2 h1 h2 h3;omega
def S4.aH4:∀(c:List S4)(d:Int)(q:Bool)(l:List M9),(S4.eG c d q l).length<=512->l.length+(S4.l7 c).length<=512
 |[],d,q,l,h=>by simpa [S4.eG,S4.l7]using h
 |v::r,d,q,l,h=>by
  simp only[S4.l7,aU];rw[S4.eG]at h;by_cases h0:l.length<=512
  ·rw[aUF h0]at h;have h2:=S4.aH4 r d q _ h;have h1:=S4.aWK v d q l (cL (R1 _ _) h2);have e1:=congrArg List.length (S4.aUH v d q l h1);simp only[aB,aU]at e1;omega
  ·rw[aT7 h0]at h;omega
end
def aRO:∀(R:List M9)(i:Nat),i<=512->((HV R i).2=0↔i+R.length<=512/\∀r∈R,r.stmt.qP=true)
 |[],i,hi=>by simp[HV,hi]
 |r::R,i,hi=>by
  rw[HV];by_cases h0:512<=i
  ·rw[aUF h0];simp;omega
  rw[aT7 h0];by_cases h1:r.stmt.qP=true
  ·rw[aUF h1,aRO R (i+1) oM];simp[h1];omega
  ·rw[aT7 h1];simp[h1]
def aVE(l:List S4):S2 l=true↔((S4.l7 l).length:Int)<=512/\∀s∈S4.l7 l,s.qP=true:=by
 unfold S2;rw[aUA,aRO _ 0 oM];unfold KZ;constructor
 ·rintro⟨h1,h2⟩;have h3:=S4.aH4 l 0 false [] oM;have h4:=S4.KH l 0 false [] h3;simp only[cS]at h3;refine⟨oM,λs hs=>?_⟩;rw[bM,bZ]at h4;rw[<-h4]at hs;obtain⟨r,hr,rfl⟩:=aA4.1 hs;exact h2 r hr
 ·rintro⟨h1,h2⟩;have h4:=S4.KH l 0 false [] (by simp only[cS];omega);rw[bM,bZ]at h4;have h5:=congrArg List.length h4;rw[aB]at h5;refine⟨oM,λr hr=>h2 _ ?_⟩;rw[<-h4];exact aA4.2 ⟨r,hr,rfl⟩
def E4.aT9{v:E4}(h:v.sV=true):v.aQM=false:=by
 cases hm:v.aQM with
 |false=>rfl
 |true=>
  have:=((v.aQN).1 hm).2.2;rw[E4.aR2,aE]at this;have h2:=this.2;unfold E4.sV at h;rw[aUA]at h;unfold E4.S3 at h2;rw[aT7 oM,aT7 oM,aT7 oM,aT7 oM]at h2;cases h2
def E4.GY(v:E4):v.hw 0=v.sV:=by
 unfold E4.hw;cases h:v.sV<;>simp
def E4.sN(v:E4):v.hw 1=v.sW:=by
 unfold E4.hw E4.sW;rw[E4.aPE];cases h:v.sV<;>simp
def E4.wM(v:E4):v.hw 2=v.MR:=by
 unfold E4.hw;rw[E4.aPE];cases h:v.sV
 ·simp
 ·simp[E4.aT9 h]
def aAI(s:ByteArray):G4 s 0=decide (s.size=0):=by unfold G4;rw[aUF rfl]
def aAJ(s:ByteArray):G4 s 2=gN s:=by unfold G4;rw[aT7 eD]
def aVB:((List.range 256).all λk=>decide (aKT k=aPQ k)&&decide (TK k=decide ((k:Int)<=63)))=true:=kK
def aUC(x:Int)(h0:0<=x)(h1:x<256):aKT x=aPQ x/\TK x=!decide (63<x):=by
 have h:=cV.1 aVB x.toNat (jI.2 oM);rw[aE,aUA,aUA,DY h0]at h;refine⟨h.1,?_⟩;rw[h.2];by_cases e:x<=63
 ·rw[aUZ e,aU0 oM];rfl
 ·rw[aU0 e,aUZ oM];rfl
def aEW:E4.zero.sV=true:=rfl
def S4.stM_eq(v:S4)(o1:aKT v.FD=aPQ v.FD)(o2:TK v.FD=!decide (63<v.FD)):v.KM v.sU v.okM=v.st v.UM.1 v.UM.2:=by
 unfold S4.sU S4.okM S4.UM;by_cases q0:v.bQ=1
 ·rw[aUF q0,aUF q0,aUF q0];obtain⟨op,name,second,FD,bQ,a,b,t,e,c,w⟩:=v;simp only[S4.FD]at o1 o2;simp only[S4.bQ]at q0;simp only[S4.KM,S4.st,S4.pV,S4.oK,S4.st3,aAI,aAJ,E4.GY,E4.sN,E4.wM,E4.sW];rw[K0];simp only[aE,gP,eC,gI,aUA,aU1,fR,fB];simp only[S4.name,S4.second,S4.FD,S4.bQ,S4.a,S4.b,S4.t,S4.e,S4.c,S4.w,aEW,cS]at*;have z1:name=ByteArray.empty↔name.size=0:=EL;have z2:second=ByteArray.empty↔second.size=0:=EL
  grind
 rw[aT7 q0,aT7 q0,aT7 q0];by_cases q1:v.bQ=2\/v.bQ=3\/v.bQ=4\/v.bQ=8
 ·rw[aUF q1,aUF q1,aUF q1];obtain⟨op,name,second,FD,bQ,a,b,t,e,c,w⟩:=v;simp only[S4.FD]at o1 o2;simp only[S4.bQ]at q1;simp only[S4.KM,S4.st,S4.pV,S4.oK,S4.st3,aAI,aAJ,E4.GY,E4.sN,E4.wM,E4.sW];rw[K0];simp only[aE,gP,eC,gI,aUA,aU1,fR,fB];simp only[S4.name,S4.second,S4.FD,S4.bQ,S4.a,S4.b,S4.t,S4.e,S4.c,S4.w,aEW,cS]at*;have z1:name=ByteArray.empty↔name.size=0:=EL;have z2:second=ByteArray.empty↔second.size=0:=EL
  grind
 rw[aT7 q1,aT7 q1,aT7 q1];by_cases q2:v.bQ=14
 ·rw[aUF q2,aUF q2,aUF q2];obtain⟨op,name,second,FD,bQ,a,b,t,e,c,w⟩:=v;simp only[S4.FD]at o1 o2;simp only[S4.bQ]at q2;simp only[S4.KM,S4.st,S4.pV,S4.oK,S4.st3,aAI,aAJ,E4.GY,E4.sN,E4.wM,E4.sW];rw[K0];simp only[aE,gP,eC,gI,aUA,aU1,fR,fB];simp only[S4.name,S4.second,S4.FD,S4.bQ,S4.a,S4.b,S4.t,S4.e,S4.c,S4.w,aEW,cS]at*;have z1:name=ByteArray.empty↔name.size=0:=EL;have z2:second=ByteArray.empty↔second.size=0:=EL
  grind
 rw[aT7 q2,aT7 q2,aT7 q2];by_cases q3:v.bQ=15\/v.bQ=16
 ·rw[aUF q3,aUF q3,aUF q3];obtain⟨op,name,second,FD,bQ,a,b,t,e,c,w⟩:=v;simp only[S4.FD]at o1 o2;simp only[S4.bQ]at q3;simp only[S4.KM,S4.st,S4.pV,S4.oK,S4.st3,aAI,aAJ,E4.GY,E4.sN,E4.wM,E4.sW];rw[K0];simp only[aE,gP,eC,gI,aUA,aU1,fR,fB];simp only[S4.name,S4.second,S4.FD,S4.bQ,S4.a,S4.b,S4.t,S4.e,S4.c,S4.w,aEW,cS]at*;have z1:name=ByteArray.empty↔name.size=0:=EL;have z2:second=ByteArray.empty↔second.size=0:=EL
  grind
 rw[aT7 q3,aT7 q3,aT7 q3];by_cases q4:v.bQ=5\/v.bQ=10
 ·rw[aUF q4,aUF q4,aUF q4];obtain⟨op,name,second,FD,bQ,a,b,t,e,c,w⟩:=v;simp only[S4.FD]at o1 o2;simp only[S4.bQ]at q4;simp only[S4.KM,S4.st,S4.pV,S4.oK,S4.st3,aAI,aAJ,E4.GY,E4.sN,E4.wM,E4.sW];rw[K0];simp only[aE,gP,eC,gI,aUA,aU1,fR,fB];simp only[S4.name,S4.second,S4.FD,S4.bQ,S4.a,S4.b,S4.t,S4.e,S4.c,S4.w,aEW,cS]at*;have z1:name=ByteArray.empty↔name.size=0:=EL;have z2:second=ByteArray.empty↔second.size=0:=EL
  grind
 rw[aT7 q4,aT7 q4,aT7 q4];by_cases q5:v.bQ=12
 ·rw[aUF q5,aUF q5,aUF q5];obtain⟨op,name,second,FD,bQ,a,b,t,e,c,w⟩:=v;simp only[S4.FD]at o1 o2;simp only[S4.bQ]at q5;simp only[S4.KM,S4.st,S4.pV,S4.oK,S4.st3,aAI,aAJ,E4.GY,E4.sN,E4.wM,E4.sW];rw[K0];simp only[aE,gP,eC,gI,aUA,aU1,fR,fB];simp only[S4.name,S4.second,S4.FD,S4.bQ,S4.a,S4.b,S4.t,S4.e,S4.c,S4.w,aEW,cS]at*;have z1:name=ByteArray.empty↔name.size=0:=EL;have z2:second=ByteArray.empty↔second.size=0:=EL
  grind
 rw[aT7 q5,aT7 q5,aT7 q5];obtain⟨op,name,second,FD,bQ,a,b,t,e,c,w⟩:=v;simp only[S4.FD]at o1 o2;simp only[S4.bQ]at q0 q1 q2 q3 q4 q5;simp only[S4.KM,S4.st,S4.pV,S4.oK,S4.st3,aAI,aAJ,E4.GY,E4.sN,E4.wM,E4.sW];rw[K0];simp only[aE,gP,eC,gI,aUA,aU1,fR,fB];simp only[S4.name,S4.second,S4.FD,S4.bQ,S4.a,S4.b,S4.t,S4.e,S4.c,S4.w,aEW,cS]at*;have z1:name=ByteArray.empty↔name.size=0:=EL;have z2:second=ByteArray.empty↔second.size=0:=EL
 grind
def S4.aVQ(v:S4)(h0:0<=v.FD)(h1:v.FD<256):v.aKB=v.qP:=by
 obtain⟨o1,o2⟩:=aUC v.FD h0 h1;have P0:v.FD=1->aPQ v.FD=true:=λe=>by rw[e];rfl
 have hn2:v.FD=32->aPQ v.FD=true:=λe=>by rw[e];rfl
 have hn0:v.FD=0->aPQ v.FD=false:=λe=>by rw[e];rfl
 unfold S4.aKB S4.qP S4.fm;by_cases k1:v.op=1
 ·rw[aUF k1,aUF k1];obtain⟨op,name,second,FD,bQ,a,b,t,e,c,w⟩:=v;unfold S4.aIX S4.aKL;simp only[S4.KM,S4.st,S4.pV,S4.oK,S4.st3,aAI,aAJ,E4.GY,E4.sN,E4.wM,E4.sW];rw[K0];simp only[aE,gP,eC,gI,aUA,aU1,fR,fB];simp only[S4.name,S4.second,S4.FD,S4.bQ,S4.a,S4.b,S4.t,S4.e,S4.c,S4.w,aEW,cS]at*;have z1:name=ByteArray.empty↔name.size=0:=EL;have z2:second=ByteArray.empty↔second.size=0:=EL
  grind
 rw[aT7 k1,aT7 k1];by_cases k2:v.op=2
 ·rw[aUF k2,aUF k2];by_cases q:v.FD=1\/v.FD=32
  ·rw[aUF q];obtain⟨op,name,second,FD,bQ,a,b,t,e,c,w⟩:=v;unfold S4.aIY S4.aKM;simp only[S4.KM,S4.st,S4.pV,S4.oK,S4.st3,aAI,aAJ,E4.GY,E4.sN,E4.wM,E4.sW];rw[K0];simp only[aE,gP,eC,gI,aUA,aU1,fR,fB];simp only[S4.name,S4.second,S4.FD,S4.bQ,S4.a,S4.b,S4.t,S4.e,S4.c,S4.w,aEW,cS]at*;have z1:name=ByteArray.empty↔name.size=0:=EL;have z2:second=ByteArray.empty↔second.size=0:=EL
   grind
  ·rw[aT7 q];obtain⟨op,name,second,FD,bQ,a,b,t,e,c,w⟩:=v;unfold S4.aIY S4.aKM;simp only[S4.KM,S4.st,S4.pV,S4.oK,S4.st3,aAI,aAJ,E4.GY,E4.sN,E4.wM,E4.sW];rw[K0];simp only[aE,gP,eC,gI,aUA,aU1,fR,fB];simp only[S4.name,S4.second,S4.FD,S4.bQ,S4.a,S4.b,S4.t,S4.e,S4.c,S4.w,aEW,cS]at*;have z1:name=ByteArray.empty↔name.size=0:=EL;have z2:second=ByteArray.empty↔second.size=0:=EL
   grind
 rw[aT7 k2,aT7 k2];by_cases k3:v.op=3
 ·rw[aUF k3,aUF k3];exact S4.stM_eq _ o1 o2
 rw[aT7 k3,aT7 k3];by_cases k4:v.op=4
 ·rw[aUF k4,aUF k4];obtain⟨op,name,second,FD,bQ,a,b,t,e,c,w⟩:=v;unfold S4.aIZ S4.aKN;simp only[S4.KM,S4.st,S4.pV,S4.oK,S4.st3,aAI,aAJ,E4.GY,E4.sN,E4.wM,E4.sW];rw[K0];simp only[aE,gP,eC,gI,aUA,aU1,fR,fB];simp only[S4.name,S4.second,S4.FD,S4.bQ,S4.a,S4.b,S4.t,S4.e,S4.c,S4.w,aEW,cS]at*;have z1:name=ByteArray.empty↔name.size=0:=EL;have z2:second=ByteArray.empty↔second.size=0:=EL
  grind
 rw[aT7 k4,aT7 k4];by_cases k5:v.op=5
 ·rw[aUF k5,aUF k5];obtain⟨op,name,second,FD,bQ,a,b,t,e,c,w⟩:=v;unfold S4.aI0 S4.aKO;simp only[S4.KM,S4.st,S4.pV,S4.oK,S4.st3,aAI,aAJ,E4.GY,E4.sN,E4.wM,E4.sW];rw[K0];simp only[aE,gP,eC,gI,aUA,aU1,fR,fB];simp only[S4.name,S4.second,S4.FD,S4.bQ,S4.a,S4.b,S4.t,S4.e,S4.c,S4.w,aEW,cS]at*;have z1:name=ByteArray.empty↔name.size=0:=EL;have z2:second=ByteArray.empty↔second.size=0:=EL
  grind
 rw[aT7 k5,aT7 k5];by_cases k6:v.op=6
 ·rw[aUF k6,aUF k6];obtain⟨op,name,second,FD,bQ,a,b,t,e,c,w⟩:=v;unfold S4.aI1 S4.aKP;simp only[S4.KM,S4.st,S4.pV,S4.oK,S4.st3,aAI,aAJ,E4.GY,E4.sN,E4.wM,E4.sW];rw[K0];simp only[aE,gP,eC,gI,aUA,aU1,fR,fB];simp only[S4.name,S4.second,S4.FD,S4.bQ,S4.a,S4.b,S4.t,S4.e,S4.c,S4.w,aEW,cS]at*;have z1:name=ByteArray.empty↔name.size=0:=EL;have z2:second=ByteArray.empty↔second.size=0:=EL
  grind
 rw[aT7 k6,aT7 k6];by_cases k7:v.op=7
 ·rw[aUF k7,aUF k7];obtain⟨op,name,second,FD,bQ,a,b,t,e,c,w⟩:=v;unfold S4.aI2 S4.aKQ;simp only[S4.KM,S4.st,S4.pV,S4.oK,S4.st3,aAI,aAJ,E4.GY,E4.sN,E4.wM,E4.sW];rw[K0];simp only[aE,gP,eC,gI,aUA,aU1,fR,fB];simp only[S4.name,S4.second,S4.FD,S4.bQ,S4.a,S4.b,S4.t,S4.e,S4.c,S4.w,aEW,cS]at*;have z1:name=ByteArray.empty↔name.size=0:=EL;have z2:second=ByteArray.empty↔second.size=0:=EL
  grind
 rw[aT7 k7,aT7 k7];by_cases k8:v.op=8
 ·rw[aUF k8,aUF k8];obtain⟨op,name,second,FD,bQ,a,b,t,e,c,w⟩:=v;unfold S4.aI3 S4.aKR;simp only[S4.KM,S4.st,S4.pV,S4.oK,S4.st3,aAI,aAJ,E4.GY,E4.sN,E4.wM,E4.sW];rw[K0];simp only[aE,gP,eC,gI,aUA,aU1,fR,fB];simp only[S4.name,S4.second,S4.FD,S4.bQ,S4.a,S4.b,S4.t,S4.e,S4.c,S4.w,aEW,cS]at*;have z1:name=ByteArray.empty↔name.size=0:=EL;have z2:second=ByteArray.empty↔second.size=0:=EL
  grind
 rw[aT7 k8,aT7 k8];by_cases k9:v.op=9
 ·rw[aUF k9,aUF k9];obtain⟨op,name,second,FD,bQ,a,b,t,e,c,w⟩:=v;unfold S4.aI4 S4.aKS;simp only[S4.KM,S4.st,S4.pV,S4.oK,S4.st3,aAI,aAJ,E4.GY,E4.sN,E4.wM,E4.sW];rw[K0];simp only[aE,gP,eC,gI,aUA,aU1,fR,fB];simp only[S4.name,S4.second,S4.FD,S4.bQ,S4.a,S4.b,S4.t,S4.e,S4.c,S4.w,aEW,cS]at*;have z1:name=ByteArray.empty↔name.size=0:=EL;have z2:second=ByteArray.empty↔second.size=0:=EL
  grind
 rw[aT7 k9,aT7 k9];rfl
mutual
def S4.aUU:∀(v:S4),v.ab->∀s∈v.flat,0<=s.FD/\s.FD<256
 |.mk op n1 n2 ab wh a b t e c w,h,s,hs=>by
  simp only[S4.flat,aO,bN]at hs;simp only[S4.ab]at h;rcases hs with hs|hs|hs|hs
  ·subst hs;exact h.1
  ·exact S4.aOL t h.2.1 s hs
  ·exact S4.aOL e h.2.2.1 s hs
  ·exact S4.aOL c h.2.2.2 s hs
def S4.aOL:∀(l:List S4),S4.abL l->∀s∈S4.l7 l,0<=s.FD/\s.FD<256
 |[],h,s,hs=>by simp[S4.l7]at hs
 |v::r,h,s,hs=>by
  simp only[S4.l7,bN]at hs;simp only[S4.abL]at h;rcases hs with hs|hs
  ·exact S4.aUU v h.1 s hs
  ·exact S4.aOL r h.2 s hs
end
def aSF(l:List S4)(h:S4.abL l):aI6 l=S2 l:=by
 rw[K0,aSE,aVE];refine and_congr Iff.rfl ⟨λg s hs=>?_,λg s hs=>?_⟩
 ·have:=S4.aOL l h s hs;rw[<-s.aVQ this.1 this.2];exact g s hs
 ·have:=S4.aOL l h s hs;rw[s.aVQ this.1 this.2];exact g s hs
def aQA(N:List N4):BA N=aAT N:=by
 unfold BA aAT;rw[show(λn:N4=>gN n.name&&n.value.may)=λn:N4=>gN n.name&&n.value.nI from funext λn=>by rw[V.QI]]
structure W4.aAZ(x:W4):Prop where
 size:S4.nF x.code 0<=512
 jD:S4.jD x.code=true
 value:x.value.nI=true
 values:∀v∈x.values,v.nI=true
 names:∀n∈x.names,n.value.nI=true
def W4.aWA{x:W4}(h:x.fits=true):x.aAZ:=by
 unfold W4.fits at h;simp only[aE,aUA,W4.vA,o9,gQ,cV,aA4]at h;obtain⟨⟨⟨h1,h2,h3⟩,h4⟩,h5,h6,h7⟩:=h;exact⟨h3,h4,h5,h6,λn hn=>h7 _ ⟨n,hn,rfl⟩⟩
def V.aSC(v:V):v.blank=true↔v=V.zero:=by
 obtain⟨k,n,s,l,r⟩:=v;unfold V.blank V.zero;simp only[V.kind,V.n,V.s,V.l,V.r,aUA,V.mk.injEq,iL];rw[show(s=ByteArray.empty)=(s.size=0)from propext EL]
def V.aSQ{v:V}(h:v.nI=true)(h0:v.kind=0):v=V.zero:=by
 have:=((v.aOC).1 h).2.2;obtain⟨k,n,s,l,r⟩:=v;simp only[V.kind]at h0;subst h0;rw[V.u7,aE,V.aOJ,aUF rfl,aUA]at this;obtain⟨_,a,b,c,d⟩:=this;rw[a,d,bL c,EL.2 b];rfl
def W4.aWD{x:W4}(h:x.aAZ):U5 x.values=0↔(V.mk 3 0 ByteArray.empty x.values 0).nI=true:=by
 unfold U5;rw[aUF (cV.2 λv hv=>by rw[V.QI];exact h.values v hv),V.QI];constructor
 ·intro e;by_cases g:(V.mk 3 0 ByteArray.empty x.values 0).nI=true
  ·exact g
  ·rw[aT7 g]at e;simp at e
 ·intro g;rw[aUF g]
def aU9{l:List V}(h:(V.mk 3 0 ByteArray.empty l 0).nI=true):l.length<=512:=by
 have:=((V.aOC _).1 h).1;have h2:=V.eW l;simp only[V.cR]at this;omega
def aVA:(V.mk 3 0 ByteArray.empty [] 0).nI=true:=by
 rw[V.aOC];decide
def aTE(v:V):v.same V.zero=true↔v=V.zero:=V.aOZ v V.zero
def W4.aTV(w:D4)(x:W4)(n:Int)(hn:(w.made.length:Int)=n)(hk:0<=x.kind)(hf:x.aAZ):w.AA x=true↔x.tB n=true/\(x.kind=14->TK x.set=true):=by
 have a1:=W4.aWD hf;have a2:x.values.length=0->(V.mk 3 0 ByteArray.empty x.values 0).nI=true:=λe=>by rw[bL e];exact aVA
 have a3:(V.mk 3 0 ByteArray.empty x.values 0).nI=true->x.values.length<=512:=aU9;have a4:=hf.value;have a5:=V.QI x.value;have a6:(x.names.all λn=>n.value.may)=true:=cV.2 λv hv=>by rw[V.QI];exact hf.names v hv
 have a7:(x.names.all λn=>n.value.nI)=true:=cV.2 λv hv=>hf.names v hv;have a8:=S4.aUM hf.size hf.jD;have a9:=hf.size;have b1:=hf.jD;have b2:=x.value.aSC;have b3:=aTE x.value;have b4:x.value.same x.value=true:=(V.aOZ _ _).2 rfl;have b5:V.zero.blank=true:=rfl;have b6:x.value.kind=0->x.value=V.zero:=λe=>V.aSQ a4 e;have b7:x.value=V.zero->x.value.kind=0:=λe=>by rw[e];rfl
 unfold D4.AA W4.HE W4.BZ W4.JZ W4.DT W4.NQ W4.YA W4.tB W4.kM W4.EV W4.rtl W4.req W4.rb W4.vB W4.nB W4.bare W4.base D4.HU;simp only[aE,gP,eC,gI,aUA,aU1];by_cases k0:x.kind=1
 ·simp only[aUF k0]
  grind
 by_cases k1:x.kind=2\/x.kind=4
 ·simp only[aUF k1,aT7 k0]
  grind
 by_cases k2:x.kind=3
 ·simp only[aUF k2,aT7 k0,aT7 k1]
  grind
 by_cases k3:x.kind=6\/x.kind=11
 ·simp only[aUF k3,aT7 k0,aT7 k1,aT7 k2]
  grind
 by_cases k4:x.kind=7
 ·simp only[aUF k4,aT7 k0,aT7 k1,aT7 k2,aT7 k3]
  grind
 by_cases k5:x.kind=8
 ·simp only[aUF k5,aT7 k0,aT7 k1,aT7 k2,aT7 k3,aT7 k4]
  grind
 by_cases k6:x.kind=9
 ·simp only[aUF k6,aT7 k0,aT7 k1,aT7 k2,aT7 k3,aT7 k4,aT7 k5]
  grind
 by_cases k7:x.kind=10
 ·simp only[aUF k7,aT7 k0,aT7 k1,aT7 k2,aT7 k3,aT7 k4,aT7 k5,aT7 k6]
  grind
 by_cases k8:x.kind=12
 ·simp only[aUF k8,aT7 k0,aT7 k1,aT7 k2,aT7 k3,aT7 k4,aT7 k5,aT7 k6,aT7 k7]
  grind
 by_cases k9:x.kind=13
 ·simp only[aUF k9,aT7 k0,aT7 k1,aT7 k2,aT7 k3,aT7 k4,aT7 k5,aT7 k6,aT7 k7,aT7 k8]
  grind
 by_cases k10:x.kind=15\/x.kind=16
 ·simp only[aUF k10,aT7 k0,aT7 k1,aT7 k2,aT7 k3,aT7 k4,aT7 k5,aT7 k6,aT7 k7,aT7 k8,aT7 k9]
  grind
 by_cases k11:x.kind=14
 ·simp only[aUF k11,aT7 k0,aT7 k1,aT7 k2,aT7 k3,aT7 k4,aT7 k5,aT7 k6,aT7 k7,aT7 k8,aT7 k9,aT7 k10]
  grind
 ·simp only[aT7 k0,aT7 k1,aT7 k2,aT7 k3,aT7 k4,aT7 k5,aT7 k6,aT7 k7,aT7 k8,aT7 k9,aT7 k10,aT7 k11]
  grind
structure DC(w:D4)(v:R4):Prop where
 th:v.aT4=w.aT4
 nd:(w.aT4.map (·.ref)).Nodup
 pos:∀t∈w.aT4,0<t.ref
 kind:∀t∈w.aT4,1<=t.bQ.kind/\t.bQ.kind<=16
 set:∀t∈w.aT4,0<=t.bQ.set/\t.bQ.set<256
 fit:∀t∈w.aT4,t.bQ.aAZ
section
variable{w:D4}{v:R4}
def DC.find(h:DC w v)(r:Int):v.find r=w.find r:=by unfold R4.find D4.find;rw[h.th]
def DC.mI(h:DC w v)(r:Int):v.mI r=w.mI r:=by unfold R4.mI D4.mI;rw[h.find]
def DC.iI(h:DC w v)(r:Int):v.iI r=w.iI r:=by unfold R4.iI D4.iI;rw[h.find]
def N0{t:T4}(hf:w.find r=some t):t∈w.aT4/\t.ref=r:=⟨cT hf,by have:=iD hf;exact aUL this⟩
def DC.zB(h:DC w v)(r:Int):v.zB r=w.zB r:=by
 unfold R4.zB D4.zB R4.iI;rw[h.find];cases w.find r<;>rfl
def DC.LA(h:DC w v)(r:Int):(v.iI r).of=w.LA r:=by
 unfold D4.LA R4.iI;rw[h.find];cases w.find r<;>rfl
def DC.SL(h:DC w v)(r:Int):(v.iI r).by_=w.SL r:=by
 unfold D4.SL R4.iI;rw[h.find];cases w.find r<;>rfl
def DC.aDI(h:DC w v)(r:Int):(v.iI r).home=w.aDI r:=by
 unfold D4.aDI R4.iI;rw[h.find];cases w.find r<;>rfl
def DC.aW1(h:DC w v)(r:Int):decide (v.zB r≠0)=w.mI r:=by
 rw[h.zB];unfold D4.zB D4.mI;cases hf:w.find r with
 |none=>rfl
 |some t=>
  have:=h.kind t (N0 hf).1;simp only[dF,gZ,Option.isSome_some,aUA];omega
def W1(k:Int):y5 k=uY k:=by
 unfold y5 uY;rw[K0];simp
def aPD(q d:Int)(L:List Int)(h:L≠[]):(q::L).getD ((q::L).length -1) d=L.getD (L.length -1) d:=by
 cases L with
 |nil=>exact absurd rfl h
 |cons a L=>simp
structure aXI(w:D4)(v:R4)(k:Nat)(q:Int):Prop where
 ne:v.pX (k+1) q≠[]
 len:(v.pX (k+1) q).length<=k+1
 fuel:∀m,k+1<=m->v.pX m q=v.pX (k+1) q
 last:y5 (v.zB ((v.pX (k+1) q).getD ((v.pX (k+1) q).length -1) 0))=false
 sub:∀a∈v.pX (k+1) q,w.mI a=true/\∀m,k+1<=m->(v.pX m a).length<=(v.pX (k+1) q).length
 nodup:(v.pX (k+1) q).Nodup
def DC.aXG(h:DC w v):∀(k:Nat)(q:Int),w.zF k q=true->aXI w v k q
 |k,q,he=>by
  cases hf:w.find q with
  |none=>unfold D4.zF at he;rw[hf]at he;cases he
  |some t=>
   have hfv:=h.find q;rw[hf]at hfv;have hb:w.mI q=true:=by unfold D4.mI;rw[hf];rfl
   have hk:v.zB q=t.bQ.kind:=by unfold R4.zB R4.iI;rw[hfv];rfl
   cases hw:uY t.bQ.kind with
   |false=>
    have e:∀m,k+1<=m->v.pX m q=[q]:=λm hm=>by
     obtain⟨m,rfl⟩:∃m',m=m'+1:=⟨m -1,oM⟩;rw[R4.pX,hfv];simp[W1,hw]
    have e0:=e (k+1) (bT _)
    exact⟨by rw[e0];simp,by rw[e0];simp,λm hm=>by rw[e m hm,e0],by rw[e0];simp[hk,W1,hw],λa ha=>by
     rw[e0,aR]at ha;subst ha
     exact⟨hb,λm hm=>by rw[e m hm,e0];exact bT _⟩,by rw[e0];simp⟩
   |true=>
    cases k with
    |zero=>rw[SE hf hw]at he;cases he
    |succ k=>
     rw[JR hf hw]at he;by_cases ho:w.mI t.bQ.of=true
     ·rw[aUF ho]at he;have ih:=h.aXG k t.bQ.of he;have e:∀m,k+1+1<=m->v.pX m q=q::v.pX (k+1) t.bQ.of:=λm hm=>by
       obtain⟨m,rfl⟩:∃m',m=m'+1:=⟨m -1,oM⟩;rw[R4.pX,hfv];simp only[W1,hw,if_true];rw[ih.fuel m oM]
      have e0:=e (k+1+1) (bT _);refine⟨by rw[e0];simp,by rw[e0];have:=ih.len;simp;omega,λm hm=>by rw[e m hm,e0],?_,λa ha=>?_,?_⟩
      ·rw[e0,aPD _ _ _ ih.ne];exact ih.last
      ·rw[e0]at ha⊢;rcases aO.1 ha with ha|ha
       ·subst ha;exact⟨hb,λm hm=>by rw[e m hm];exact bT _⟩
       ·have:=ih.sub a ha;exact⟨this.1,λm hm=>by rw[aQ];have:=this.2 m oM;omega⟩
      ·rw[e0,aAD];refine⟨λhm=>?_,ih.nodup⟩;have:=(ih.sub q hm).2 (k+1+1) oM;rw[e0,aQ]at this;omega
     ·rw[aT7 ho]at he;cases he
def DC.yK(h:DC w v)(q:Int)(he:w.zF w.aT4.length q=true):v.yK q=true:=by
 have hw:=h.aXG _ q he;unfold R4.yK R4.CT;rw[h.th,aE,aUA,hw.last];refine⟨?_,rfl⟩;have:=GD hw.nodup (B:=w.aP) λa ha=>vM.1 (hw.sub a ha).1;unfold D4.aP at this;rw[aB]at this;exact this
def DC.zF(h:DC w v):∀(n:Nat)(q:Int),(v.pX n q).length<n->v.pX n q≠[]->y5 (v.zB ((v.pX n q).getD ((v.pX n q).length -1) 0))=false->w.zF (n -1) q=true
 |0,q,h1,h2,h3=>oM
 |n+1,q,h1,h2,h3=>by
  rw[R4.pX,h.find]at h1 h2 h3;cases hf:w.find q with
  |none=>rw[hf]at h2;exact absurd rfl h2
  |some t=>
   rw[hf]at h1 h3;dsimp only at h1 h3;have hk:v.zB q=t.bQ.kind:=by unfold R4.zB R4.iI;rw[h.find,hf];rfl
   cases hw:uY t.bQ.kind with
   |false=>exact aG0 hf hw
   |true=>
    have wM:y5 t.bQ.kind=true:=by rw[W1];exact hw
    rw[aUF wM]at h1 h3;rw[aQ]at h1;by_cases hZ:v.pX n t.bQ.of=[]
    ·rw[hZ]at h3;simp[hk,W1,hw]at h3
    ·rw[aPD _ _ _ hZ]at h3;have ih:=h.zF n t.bQ.of oM hZ h3;obtain⟨n,rfl⟩:∃n',n=n'+1:=⟨n -1,oM⟩;show w.zF (n+1) q=true;rw[JR hf hw];have hb:w.mI t.bQ.of=true:=by
      unfold D4.mI;cases hf2:w.find t.bQ.of with
      |none=>rw[R4.pX,h.find,hf2]at hZ;exact absurd rfl hZ
      |some _=>rfl
     rw[aUF hb];exact ih
def DC.aV4(h:DC w v){t:T4}(ht:t∈w.aT4)(hw:v.yK t.ref=true):w.zF w.aT4.length t.ref=true:=by
 unfold R4.yK at hw;rw[aE,aUA,h.th]at hw;have h2:=v.aQV (t:=t) (by rw[h.th];exact ht);unfold R4.CT at hw h2;rw[h.th]at hw h2
 exact h.zF (w.aT4.length+1) t.ref oM (λe=>by rw[e]at h2;simp at h2) (by
  have:=hw.2
  simpa using this)
def DC.ways(h:DC w v):(∀t∈w.aT4,w.zF w.aT4.length t.ref=true)↔(∀t∈w.aT4,v.yK t.ref=true):=
 ⟨λg t ht=>h.yK _ (g t ht),λg t ht=>h.aV4 ht (g t ht)⟩
end
abbrev bv(a:Int):BitVec 8:=BitVec.ofInt 8 a
def aVV(n:Nat)(h:n<256):IntKind.u8.wrap (n:Int)=n:=by
 simp only[IntKind.wrap,IntKind.signed,IntKind.bits,c0,bY,if_false];omega
def W2(a b:Int):aB8 a b=((bv a&&&bv b).toNat:Int):=by
 show IntKind.u8.wrap (((bv a&&&bv b).toNat:Nat):Int)=_;exact aVV _ (bv a&&&bv b).isLt
def aT8(a b:Int):a7O .andNot .u8 a b=((bv a&&&~~~bv b).toNat:Int):=by
 show IntKind.u8.wrap (((bv a&&&~~~bv b).toNat:Nat):Int)=_;exact aVV _ (bv a&&&~~~bv b).isLt
def aTN(x:BitVec 8):bv (x.toNat:Int)=x:=by
 unfold bv;rw[BitVec.ofInt_natCast];simp
def bv_and(a b:Int):bv (aB8 a b)=bv a&&&bv b:=by rw[W2,aTN]
def aUW(a:Int)(h:0<=a)(h2:a<256):((bv a).toNat:Int)=a:=by
 unfold bv;rw[u3];omega
def aVY(s u:Int)(h0:0<=u)(h1:u<=63):aB8 63 u=u:=by
 have:((List.range 64).all λk=>decide (aB8 63 k=k))=true:=kK;have:=cV.1 this u.toNat (jI.2 oM);rw[aUA,DY h0]at this;exact this
def aQZ(a b c:Int):aB8 (aB8 a b) c=aB8 a (aB8 b c):=by
 rw[W2 (aB8 a b) c,bv_and,W2 a (aB8 b c),bv_and,BitVec.and_assoc]
def aVZ(a b:Int):aB8 a (aB8 a b)=aB8 a b:=by
 rw[<-aQZ,W2 (aB8 a a) b,bv_and,BitVec.and_self,<-W2 a b]
def aQB(s u:Int)(h0:0<=s)(h1:s<256)(h:a7O .andNot .u8 s u=0):aB8 s u=s:=by
 rw[aT8]at h;have h2:bv s&&&~~~bv u=0#8:=BitVec.eq_of_toNat_eq (by simpa using h);have h3:bv s&&&bv u=bv s:=by
  apply BitVec.eq_of_getLsbD_eq;intro i hi;have:=congrArg (λx=>x.getLsbD i) h2;simp only[BitVec.getLsbD_and,BitVec.getLsbD_not,hi,decide_true,cA,BitVec.getLsbD_zero]at this⊢;revert this;cases(bv s).getLsbD i<;>cases(bv u).getLsbD i<;>simp
 rw[W2,h3,aUW s h0 h1]
def aV2:∀k:Int,0<=aGR k/\aGR k<=63:=by
 intro k;unfold aGR
 repeat' split
 all_goals exact⟨eD,eD⟩
def aTO(k s:Int)(h:k≠14):aD8 k s=aGR k:=by
 unfold aD8 aGR;by_cases k1:k=1
 ·rw[aUF k1,aUF k1];decide
 rw[aT7 k1,aT7 k1];by_cases k2:k=2\/k=3
 ·rw[aUF k2,aUF k2];decide
 rw[aT7 k2,aT7 k2];by_cases k3:k=4
 ·rw[aUF k3,aUF k3];decide
 rw[aT7 k3,aT7 k3];by_cases k4:k=5\/k=6\/k=8\/k=12
 ·rw[aUF k4,aUF k4]
 rw[aT7 k4,aT7 k4];by_cases k5:k=9
 ·rw[aUF k5,aUF k5];decide
 rw[aT7 k5,aT7 k5];by_cases k6:k=10
 ·rw[aUF k6,aUF k6]
 rw[aT7 k6,aT7 k6];by_cases k7:k=11
 ·rw[aUF k7,aUF k7]
 rw[aT7 k7,aT7 k7];by_cases k8:k=13
 ·rw[aUF k8,aUF k8];decide
 rw[aT7 k8,aT7 k8,aT7 h]
structure aVW(w:D4)(v:R4)(k:Nat)(q u:Int):Prop where
 bd:0<=u/\u<=63
 p:∀m,k+1<=m->∀s,w.MD m s q=some (aB8 (aB8 63 s) u)
 d:∀m,k+1<=m->v.MD m q=some u
def aVW.eq{w:D4}{v:R4}{k:Nat}{q:Int}(h:aVW w v k q u)(ht:v.aT4=w.aT4)(hk:k<=w.aT4.length):w.tY q=u/\v.tY q=u:=by
 have h1:=h.p (w.aT4.length+1) oM 63;have h2:=h.d (w.aT4.length+1) oM;unfold D4.tY R4.tY;rw[ht,h1,h2];refine⟨?_,rfl⟩;rw[show aB8 63 63=63 from rfl,aVY 0 u h.bd.1 h.bd.2];rfl
def aOI(w:D4)(v:R4):Prop:=∀t∈w.aT4,t.bQ.kind=14->a7O .andNot .u8 t.bQ.set (w.tY t.bQ.of)=0\/a7O .andNot .u8 t.bQ.set (v.tY t.bQ.of)=0
def DC.MD{w:D4}{v:R4}(h:DC w v)(hF:aOI w v):∀(k:Nat)(q:Int),k<=w.aT4.length->w.zF k q=true->∃u,aVW w v k q u
 |k,q,hk,he=>by
  cases hf:w.find q with
  |none=>unfold D4.zF at he;rw[hf]at he;cases he
  |some t=>
   have hfv:=h.find q;rw[hf]at hfv;have ht:=(N0 hf).1;cases hw:uY t.bQ.kind with
   |false=>
    have hn:¬t.bQ.kind=14/\¬t.bQ.kind=15/\¬t.bQ.kind=16:=by
     simp only[uY,aU1,not_or]at hw;exact hw
    have hb:=aV2 t.bQ.kind;refine⟨aGR t.bQ.kind,hb,λm hm s=>?_,λm hm=>?_⟩
    ·obtain⟨m,rfl⟩:∃m',m=m'+1:=⟨m -1,oM⟩;rw[D4.MD,hf];dsimp only;rw[aT7 hn.1,aT7 oM];rfl
    ·obtain⟨m,rfl⟩:∃m',m=m'+1:=⟨m -1,oM⟩;rw[R4.MD,hfv];dsimp only;rw[aT7 oM,aTO _ _ hn.1]
   |true=>
    cases k with
    |zero=>rw[SE hf hw]at he;cases he
    |succ k=>
     rw[JR hf hw]at he;by_cases ho:w.mI t.bQ.of=true
     ·rw[aUF ho]at he;obtain⟨u,ih⟩:=h.MD hF k t.bQ.of oM he;have hie:=ih.eq h.th oM;by_cases k14:t.bQ.kind=14
      ·have hs:=h.set t ht;have hz:a7O .andNot .u8 t.bQ.set u=0:=by
        have:=hF t ht k14;rw[hie.1,hie.2]at this;rcases this with e|e<;>exact e
       have e:=aQB t.bQ.set u hs.1 hs.2 hz;have hbd:=aB9 t.bQ.set u (.inr ih.bd);rw[e]at hbd;refine⟨t.bQ.set,hbd,λm hm s=>?_,λm hm=>?_⟩
       ·obtain⟨m,rfl⟩:∃m',m=m'+1:=⟨m -1,oM⟩;rw[D4.MD,hf];dsimp only;rw[aUF k14,ih.p m oM];show some (aB8 (aB8 63 (aB8 (aB8 63 s) t.bQ.set)) u)=_;rw[<-aQZ 63 (aB8 63 s),aVZ,aQZ (aB8 63 s),e]
       ·obtain⟨m,rfl⟩:∃m',m=m'+1:=⟨m -1,oM⟩;rw[R4.MD,hfv];dsimp only;rw[aT7 oM,k14];rfl
      ·have k15:t.bQ.kind=15\/t.bQ.kind=16:=by
        simp only[uY,aUA]at hw;rcases hw with e|e
        ·exact absurd e k14
        ·exact e
       refine⟨u,ih.bd,λm hm s=>?_,λm hm=>?_⟩
       ·obtain⟨m,rfl⟩:∃m',m=m'+1:=⟨m -1,oM⟩;rw[D4.MD,hf];dsimp only;rw[aT7 k14,aUF k15,ih.p m oM]
       ·obtain⟨m,rfl⟩:∃m',m=m'+1:=⟨m -1,oM⟩;rw[R4.MD,hfv];dsimp only;rw[aUF k15,ih.d m oM]
     ·rw[aT7 ho]at he;cases he
def DC.FD{w:D4}{v:R4}(h:DC w v)(hF:aOI w v)(hE:∀t∈w.aT4,w.zF w.aT4.length t.ref=true)(r:Int):w.tY r=v.tY r/\0<=w.tY r/\w.tY r<=63:=by
 cases hf:w.find r with
 |none=>
  have hfv:=h.find r;rw[hf]at hfv;unfold D4.tY R4.tY;rw[D4.MD,R4.MD,hf,hfv];simp
 |some t=>
  obtain⟨ht,rfl⟩:=N0 hf;obtain⟨u,hu⟩:=h.MD hF _ _ (bT _) (hE t ht);have:=hu.eq h.th (bT _);rw[this.1,this.2];exact⟨rfl,hu.bd⟩
section
variable{w:D4}{v:R4}
def W4.aPJ(x:W4)(h:x.aAZ):x.held=x.refs:=by
 have e:∀v:V,v.nI=true->v.eI=v.refs:=λv hv=>by unfold V.eI;rw[V.QI,hv,aUF rfl]
 unfold W4.held W4.refs W4.vA;rw[aG,dL,bP,fJ,e _ h.value,bH];have e1:x.values.map V.eI=x.values.map V.refs:=cQ λa ha=>e a (h.values a ha);have e2:(x.names.map λn=>n.value.eI)=x.names.map (V.refs∘λn=>n.value):=cQ λa ha=>e _ (h.names a ha);rw[e1,e2]
def DC.WO(h:DC w v)(x:W4)(hx:x.aAZ):v.WO x=w.V9 x:=by
 unfold R4.WO D4.V9;rw[W4.aPJ x hx,K0];simp only[h.aW1];rw[cV,eC,qR];constructor
 ·intro g r hr;simpa using g r hr
 ·intro g r hr;simpa using g r hr
def DC.aWB(h:DC w v)(x:W4):v.aA5 x=false↔((!xT x.kind||w.mI x.of)&&((!DB x.kind||w.mI x.by_)&&(!decide (x.kind=13)||(decide (x.of=0)||w.mI x.of))))=true:=by
 unfold R4.aA5 W4.aR9 xT DB uY;rw[h.mI,h.mI];generalize w.mI x.of=p;generalize w.mI x.by_=q
 grind
def DC.there(h:DC w v)(x:W4)(of k:Int):v.n4 x of k=w.n4 x of k:=by
 unfold R4.n4 D4.n4;rw[h.aDI,<-h.zB];rfl
def DC.other(h:DC w v)(r k of:Int):v.QN r k of false=w.QN r k of:=by
 unfold R4.QN D4.QN;rw[h.th];rfl
def aWX(h:∀t∈w.aT4,t.bQ.kind=14->(w.JW (lP w.aT4)).aCS t.bQ t.ref=true){t:T4}(ht:t∈w.aT4)(hk:t.bQ.kind=14):w.aT4.all (FX t.ref t.bQ)=true:=by
 rw[cV];intro u hu;unfold FX;by_cases e1:u.bQ.kind=14
 ·by_cases e2:u.bQ.of=t.bQ.of
  ·by_cases e3:u.bQ.set=t.bQ.set
   ·have h1:=h t ht hk;have h2:=h u hu e1;unfold D4.aCS at h1 h2;rw[e2,e3]at h2;simp only[D4.JW]at h1 h2;cases hf:(lP w.aT4).find? λf=>decide (f.1=(t.bQ.of,t.bQ.set))with
    |none=>
     have:=mN.1 hf t.fc (aA4.2 ⟨t,a39.2 ⟨ht,aUZ hk⟩,rfl⟩);simp[T4.fc]at this
    |some f=>
     rw[hf]at h1 h2;simp only[aUA]at h1 h2;rw[aUZ (show u.ref=t.ref by rw[<-h2,h1])];rfl
   ·simp[e3]
  ·simp[e2]
 ·simp[e1]
def aWY(y4:(w.aT4.map (·.ref)).Nodup)(h:∀t∈w.aT4,t.bQ.kind=14->w.aT4.all (FX t.ref t.bQ)=true):((lP w.aT4).map (·.1)).Nodup/\∀t∈w.aT4,t.bQ.kind=14->(w.JW (lP w.aT4)).aCS t.bQ t.ref=true:=by
 have key:∀t∈w.aT4,t.bQ.kind=14->∀u∈w.aT4,u.bQ.kind=14->u.bQ.of=t.bQ.of->u.bQ.set=t.bQ.set->u.ref=t.ref:=λt ht hk u hu e1 e2 e3=>by
  have:=cV.1 (h t ht hk) u hu;unfold FX at this;simpa [e1,e2,e3]using this
 constructor
 ·unfold lP;rw[bH];unfold List.Nodup at y4⊢;rw[List.pairwise_map]at y4⊢;refine List.Pairwise.imp_of_mem (λ{a b}ha hb hab e=>?_) (y4.filter _);obtain⟨ha1,ha2⟩:=a39.1 ha;obtain⟨tO,uB⟩:=a39.1 hb;simp only[aUA]at ha2 uB;simp only[Function.comp,aD]at e;exact hab (key b tO uB a ha1 ha2 e.1 e.2)
 ·intro t ht hk;unfold D4.aCS;simp only[D4.JW];cases hf:(lP w.aT4).find? λf=>decide (f.1=(t.bQ.of,t.bQ.set))with
  |none=>rfl
  |some f=>
   have h1:=iD hf;have h2:=cT hf;obtain⟨u,hu,rfl⟩:=aA4.1 h2;obtain⟨hu1,hu2⟩:=a39.1 hu;simp only[aUA]at hu2;simp only[aUA,aD]at h1;exact aUZ (key t ht hk u hu1 hu2 h1.1 h1.2)
def aTT{F:D4}{x:W4}(hk:x.kind=14)(h:F.qJ r x u=true):a7O .andNot .u8 x.set u=0/\F.aCS x r=true:=by
 unfold D4.qJ at h;rw[aT7 oM,aT7 oM,aT7 oM,aT7 oM,aT7 oM,aT7 oM,aT7 oM,aUF hk]at h;simp only[aE,aUA]at h;exact⟨h.2.2.2.1,h.2.2.2.2⟩
def aV9{F:D4}{x:W4}(hk:x.kind=15)(h:F.qJ r x u=true):F.LA x.by_=r:=by
 unfold D4.qJ at h;rw[aT7 oM,aT7 oM,aT7 oM,aT7 oM,aUF hk]at h;simp only[aE,aUA]at h;exact h.2.2
def DC.aVJ(h:DC w v)(hs:w.sH=true):aOI w v/\(∀t∈w.aT4,w.zF w.aT4.length t.ref=true)/\∀t∈w.aT4,v.RV t.ref t.bQ (v.tY t.bQ.of)=0:=by
 unfold D4.sH at hs;simp only[aE,cV,aUA]at hs;obtain⟨h1,h2,h3⟩:=hs;have hE:∀t∈w.aT4,w.zF w.aT4.length t.ref=true:=λt ht=>(h1 t ht).2;have hF:aOI w v:=λt ht hk=>.inl (aTT hk (h3 t ht)).1;have hA:=h.FD hF hE;refine⟨hF,hE,λt ht=>?_⟩;have a1:=(h1 t ht).1;have a3:=h3 t ht;unfold D4.GL at a1;rw[aE]at a1;unfold R4.RV;have hl:v.aA5 t.bQ=false:=(h.aWB t.bQ).2 a1.2;rw[h.WO _ (h.fit t ht),a1.1,aT7 eD,hl,aT7 eD,aUF];have aWU:=h.pos t ht;unfold D4.NV at a3;rw[(hA t.bQ.of).1]at a3;have hfd:=aWX (w:=w) (λu hu hk=>(aTT hk (h3 u hu)).2) ht;have ho:t.bQ.kind=15->v.QN t.ref 15 t.bQ.by_ true=false:=λhk=>by
  unfold R4.QN;rw[qR];intro u hu;rw[h.th]at hu;unfold aBY;have e:∀s∈w.aT4,s.bQ.kind=15->w.LA s.bQ.by_=s.ref:=λs hs hk=>aV9 (F:=w.JW (lP w.aT4)) hk (h3 s hs);by_cases k:u.bQ.kind=15
  ·by_cases b:u.bQ.by_=t.bQ.by_
   ·have e1:=e t ht hk;have e2:=e u hu k;rw[b,e1]at e2;simp[e2]
   ·simp[b]
  ·simp[k]
 unfold D4.qJ at a3;unfold R4.EK;simp only[h.there,h.other,h.LA,h.SL];have t1:∀x of k,(w.JW (lP w.aT4)).n4 x of k=w.n4 x of k:=λ_ _ _=>rfl;have t2:∀r k of,(w.JW (lP w.aT4)).QN r k of=w.QN r k of:=λ_ _ _=>rfl;have t3:∀r,(w.JW (lP w.aT4)).mI r=w.mI r:=λ_=>rfl;have t4:∀r,(w.JW (lP w.aT4)).LA r=w.LA r:=λ_=>rfl;have t5:∀r,(w.JW (lP w.aT4)).SL r=w.SL r:=λ_=>rfl;have t6:∀r,(w.JW (lP w.aT4)).zB r=w.zB r:=λ_=>rfl;have t7:∀r,(v.iI r).kind=w.zB r:=h.zB;rw[h.th];simp only[t1,t2,t3,t4,t5,t6,t7]at a3⊢
 grind
def aPX{x:W4}(h:v.RV r x u=0):v.WO x=true/\v.aA5 x=false/\v.EK r x u=true:=by
 unfold R4.RV at h;by_cases h1:v.WO x=false
 ·rw[aUF h1]at h;simp at h
 rw[aT7 h1]at h;by_cases h2:v.aA5 x=true
 ·rw[aUF h2]at h;simp at h
 rw[aT7 h2]at h;by_cases h3:v.EK r x u=true
 ·exact⟨by simpa using h1,by simpa using h2,h3⟩
 ·rw[aT7 h3]at h;simp at h
def aTK{x:W4}(hk:x.kind=14)(h:v.EK r x u=true):a7O .andNot .u8 x.set u=0/\v.aT4.all (FX r x)=true:=by
 unfold R4.EK at h;rw[aT7 oM,aT7 oM,aT7 oM,aT7 oM,aT7 oM,aT7 oM,aT7 oM,aUF hk]at h;simp only[aE,aUA]at h;exact⟨h.1.2.1,h.2⟩
def DC.aRN(h:DC w v)(hW:∀t∈w.aT4,v.yK t.ref=true)(hs:∀t∈w.aT4,v.RV t.ref t.bQ (v.tY t.bQ.of)=0):aOI w v/\w.sH=true:=by
 have hE:=h.ways.2 hW;have hF:aOI w v:=λt ht hk=>.inr (aTK hk (aPX (hs t ht)).2.2).1;have hA:=h.FD hF hE;refine⟨hF,?_⟩
 have hfp:=aWY h.nd (λt ht hk=>by
  have:=(aTK hk (aPX (hs t ht)).2.2).2;rw[h.th]at this
  exact this)
 unfold D4.sH;simp only[aE,cV,aUA];refine⟨λt ht=>⟨?_,hE t ht⟩,hfp.1,λt ht=>?_⟩
 ·obtain⟨b1,b2,b3⟩:=aPX (hs t ht);unfold D4.GL;rw[aE];refine⟨?_,(h.aWB t.bQ).1 b2⟩;rw[<-h.WO _ (h.fit t ht)];exact b1
 ·obtain⟨b1,b2,b3⟩:=aPX (hs t ht);have hl:=(h.aWB t.bQ).1 b2;have aWU:=h.pos t ht;have hfd:=hfp.2 t ht;unfold D4.NV;rw[(hA t.bQ.of).1];unfold R4.EK at b3;unfold D4.qJ;unfold xT DB uY at hl;simp only[h.there,h.other,h.LA,h.SL]at b3;have t1:∀x of k,(w.JW (lP w.aT4)).n4 x of k=w.n4 x of k:=λ_ _ _=>rfl;have t2:∀r k of,(w.JW (lP w.aT4)).QN r k of=w.QN r k of:=λ_ _ _=>rfl;have t3:∀r,(w.JW (lP w.aT4)).mI r=w.mI r:=λ_=>rfl;have t4:∀r,(w.JW (lP w.aT4)).LA r=w.LA r:=λ_=>rfl;have t5:∀r,(w.JW (lP w.aT4)).SL r=w.SL r:=λ_=>rfl;have t6:∀r,(w.JW (lP w.aT4)).zB r=w.zB r:=λ_=>rfl;have t7:∀r,(v.iI r).kind=w.zB r:=h.zB;rw[h.th]at b3;simp only[t1,t2,t3,t4,t5,t6,t7]at b3⊢
  grind
def aWG:((List.range 64).all λk=>decide ((H6 k).toNat=aAK k))=true:=kK
def DC.spare(h:DC w v)(hF:aOI w v)(hE:∀t∈w.aT4,w.zF w.aT4.length t.ref=true):∀L:List T4,w.oL L=v.oL L
 |[]=>rfl
 |t::r=>by
  rw[D4.oL,R4.oL,h.spare hF hE r];congr 1;unfold D4.term R4.term;obtain⟨a,b,c⟩:=h.FD hF hE t.ref;have:=cV.1 aWG (w.tY t.ref).toNat (jI.2 oM);rw[aUA,DY b]at this;rw[<-a,this]
end
structure aQX(x:X4):Prop where
 fit:∀t∈x.aT4,t.bQ.aAZ
 kind:∀t∈x.aT4,0<=t.bQ.kind/\t.bQ.kind<256
 set:∀t∈x.aT4,0<=t.bQ.set/\t.bQ.set<256
def aR8(w:D4)(n xl:Int)(hn:(w.made.length:Int)=n):∀(T:List T4)(q:Int),(∀t∈T,t.bQ.aAZ/\0<=t.bQ.kind)->(ZE w xl T q=true↔L4 n xl T q=true/\∀t∈T,t.bQ.kind=14->TK t.bQ.set=true)
 |[],q,h=>by simp[ZE,L4]
 |t::r,q,h=>by
  have ih:=aR8 w n xl hn r t.ref λu hu=>h u (uE _ hu);have h0:=h t (G7 ..);rw[ZE,L4];simp only[aE,aUA,ih,t.bQ.aTV w n hn h0.2 h0.1,List.forall_mem_cons];constructor
  ·rintro⟨⟨a,b,c⟩,d,e⟩;exact⟨⟨a,b,d⟩,c,e⟩
  ·rintro⟨⟨a,b,d⟩,c,e⟩;exact⟨⟨a,b,c⟩,d,e⟩
def aRJ{x:W4}{n:Int}(h:x.tB n=true):1<=x.kind/\x.kind<=16:=by
 unfold W4.tB W4.kM at h;simp only[aE,aUA]at h;exact⟨h.1.1,h.1.2.1⟩
def aOW(n xl:Int):∀(T:List T4)(q:Int),L4 n xl T q=true->(∀t∈T,q<t.ref/\t.bQ.tB n=true)/\(T.map (·.ref)).Nodup/\(q<=xl->q+T.length<=xl)
 |[],q,h=>sM
 |t::r,q,h=>by
  rw[L4]at h;simp only[aE,aUA]at h;obtain⟨⟨a,b⟩,c,d⟩:=h;obtain⟨i1,i2,i3⟩:=aOW n xl r t.ref d;refine⟨λu hu=>?_,?_,λ_=>?_⟩
  ·rcases aO.1 hu with rfl|hu
   ·exact⟨a,c⟩
   ·have:=i1 u hu;exact⟨oM,this.2⟩
  ·rw[aG,aAD];refine⟨λhm=>?_,i2⟩;obtain⟨u,hu,e⟩:=aA4.1 hm;have:=(i1 u hu).1;omega
  ·have:=i3 b;simp only[aQ];omega
def aUQ(n:Nat):∀(T:List T4)(a:List Int),(∀e∈a,0<=e)->∀e∈T.foldl yV a,0<=e
 |[],a,h=>h
 |t::r,a,h=>by
  rw[fX];refine aUQ n r _ λe he=>?_;unfold yV at he;split at he
  ·exact h e he
  ·rcases oI he with he|he
   ·exact h e he
   ·subst he;rw[bF];cases hg:a[t.bQ.home.toNat]? with
    |none=>simp
    |some v=>
     have:=h v (l5 hg);simp only[gZ];omega
def aWP(T:List T4):∀a:List Int,(T.foldl yV a).length=a.length:=by
 induction T with
 |nil=>intro a;rfl
 |cons t r ih=>
  intro a;rw[fX,ih];unfold yV;split
  ·rfl
  ·rw[cE]
def aRW:∀(M H:List Int),M.length=H.length->(∀e∈H,0<=e)->(QF M H=true↔aA6 M=true/\X7 H M=true)
 |[],H,h,hn=>by
  cases H with
  |nil=>simp[QF,aA6,X7]
  |cons _ _=>simp at h
 |m::M,H,h,hn=>by
  cases H with
  |nil=>simp at h
  |cons t H=>
   have ih:=aRW M H (by simpa using h) λe he=>hn e (uE _ he);have h0:=hn t (G7 ..);unfold aA6 at ih;unfold QF aA6 X7;simp only[aE,aUA,ih,o9];constructor
   ·rintro⟨⟨a,b⟩,c,d⟩;exact⟨⟨⟨oM,b⟩,c⟩,a,d⟩
   ·rintro⟨⟨⟨a,b⟩,c⟩,e,d⟩;exact⟨⟨e,b⟩,c,d⟩
def aSG(w:D4)(F:List ((Int×Int)×Int))(r:Int):(w.JW F).tY r=w.tY r:=by
 unfold D4.tY;rw[IA];rfl
def aBG(w:D4)(F:List ((Int×Int)×Int)):∀L:List T4,(w.JW F).oL L=w.oL L
 |[]=>rfl
 |t::r=>by
  rw[D4.oL,D4.oL,aBG w F r];unfold D4.term;rw[aSG]
def aQ1(hx:aQX x)(C:List Bool){n xl:Int}(h:L4 n xl x.aT4 0=true):DC (oD x.parents C x.aT4) (rW x):=by
 obtain⟨a,b,_⟩:=aOW n xl x.aT4 0 h;exact⟨rfl,b,λt ht=>(a t ht).1,λt ht=>aRJ (a t ht).2,hx.set,hx.fit⟩
def aR5(hx:aQX x)(C:List Bool){n xl B:Int}(h:L4 n xl x.aT4 0=true):((oD x.parents C x.aT4).sH=true/\x.last+((oD x.parents C x.aT4).JW (lP x.aT4)).oL x.aT4<=B)↔((∀t∈x.aT4,(rW x).yK t.ref=true)/\(∀t∈x.aT4,(rW x).RV t.ref t.bQ ((rW x).tY t.bQ.of)=0)/\x.last+(rW x).oL x.aT4<=B):=by
 have hb:=aQ1 hx C h;constructor
 ·rintro⟨h1,h2⟩;obtain⟨hF,hE,h3⟩:=hb.aVJ h1;rw[aBG,hb.spare hF hE]at h2;exact⟨hb.ways.1 hE,h3,h2⟩
 ·rintro⟨h1,h2,h3⟩;obtain⟨hF,hS⟩:=hb.aRN h1 h2;rw[aBG,hb.spare hF (hb.ways.2 h1)];exact⟨hS,h3⟩
def aU5(hx:aQX x)(C:List Bool){n xl:Int}(h:L4 n xl x.aT4 0=true)(h1:∀t∈x.aT4,(rW x).yK t.ref=true)(h2:∀t∈x.aT4,(rW x).RV t.ref t.bQ ((rW x).tY t.bQ.of)=0):∀t∈x.aT4,t.bQ.kind=14->TK t.bQ.set=true:=by
 have hb:=aQ1 hx C h;intro t ht hk;obtain⟨hF,hS⟩:=hb.aRN h1 h2;have hA:=hb.FD hF (hb.ways.2 h1) t.bQ.of;have hz:=(aTK hk (aPX (h2 t ht)).2.2).1;have hs:=hx.set t ht;have e:=aQB t.bQ.set ((rW x).tY t.bQ.of) hs.1 hs.2 hz;have hbd:=aB9 t.bQ.set ((rW x).tY t.bQ.of) (.inr (by rw[<-hA.1];exact hA.2));rw[e]at hbd;rw[(aUC t.bQ.set hs.1 hs.2).2,aU0 oM];rfl
def aRR(hx:aQX x):y9 x=v7 x:=by
 have hf:∀t∈x.aT4,t.bQ.aAZ/\0<=t.bQ.kind:=λt ht=>⟨hx.fit t ht,(hx.kind t ht).1⟩;rw[K0];unfold y9 v7 YB aOT aPS;simp only[aE,aUA,cV];by_cases hm:x.made.length=x.parents.length+1
 case neg=>simp[hm]
 have hn:((oD x.parents (DU x) []).made.length:Int)=((x.made.length:Nat):Int):=by
  rw[hm];simp only[oD,zrs,aS]
 have e1:=aR8 (oD x.parents (DU x) []) _ x.last hn x.aT4 0 hf;have e2:=aRW x.made (UR (x.parents.length+1) x.aT4) (by unfold UR;rw[aWP,aS,hm]) (aUQ (x.parents.length+1) _ _ (λe he=>by rw[(List.mem_replicate.1 he).2];omega));rw[e1,e2];rw[hm]at*;constructor
 ·rintro⟨a1,a2,a3,a4,⟨a5,a6⟩,⟨a7,a8⟩,a9,b1,b2,b3⟩;obtain⟨c1,c2,c3⟩:=(aR5 hx (DU x) a5 (B:=64*x.made.sum)).1 ⟨b2,b3⟩;have hl:=(aOW _ _ _ _ a5).2.2 a9;exact⟨⟨a1,a2⟩,a3,a4,a7,⟨a9,b1,oM⟩,a5,a8,c1,c2,c3⟩
 ·rintro⟨⟨a1,a2⟩,a3,a4,a7,⟨a9,b1,_⟩,a5,a8,c1,c2,c3⟩;obtain⟨b2,b3⟩:=(aR5 hx (DU x) a5 (B:=64*x.made.sum)).2 ⟨c1,c2,c3⟩;exact⟨a1,a2,a3,a4,⟨a5,aU5 hx (DU x) a5 c1 c2⟩,⟨a7,a8⟩,a9,b1,b2,b3⟩
def aT0(out:List Int)(x y:Int):y∈aBV out x↔y∈out\/y=x:=by
 unfold aBV;rw[XK];by_cases h:x∈out
 ·rw[aUF (aUZ h)];constructor
  ·exact .inl
  ·rintro(g|g)
   ·exact g
   ·subst g;exact h
 ·rw[aT7 (by simpa using h)];rw[bN,aO];have e:=gJ (aOB out x) out;constructor
  ·rintro(g|g|g)
   ·exact .inl (dJ g)
   ·exact .inr g
   ·exact .inl (dI g)
  ·rintro(g|g)
   ·rw[<-e,bN]at g;rcases g with g|g
    ·exact .inl g
    ·exact .inr (.inr g)
   ·exact .inr (.inl g)
def aP4:∀(l out:List Int)(x:Int),x∈l.foldl aBV out↔x∈out\/x∈l
 |[],out,x=>sM
 |a::l,out,x=>by rw[fX,aP4 l,aT0,aO,or_assoc]
def OD(l:List Int)(x:Int):x∈kV l↔x∈l:=by unfold kV;rw[aP4];simp
section
variable{w:D4}{v:R4}
def DC.steps(h:DC w v)(r q:Int):q∈w.aLX r↔q∈v.aH7 r:=by
 unfold D4.aLX R4.aH7;rw[bN,bN];refine or_congr ?_ ?_
 ·unfold D4.oE R4.SV D4.aDH;rw[h.mI,h.iI];cases hb:w.mI r with
  |false=>simp
  |true=>
   rw[aT7 sM,aUF rfl,o3,OD];have hx:(w.iI r).aAZ:=by
    unfold D4.mI at hb;unfold D4.iI;cases hf:w.find r with
    |none=>rw[hf]at hb;cases hb
    |some t=>exact h.fit t (N0 hf).1
   rw[<-W4.aPJ _ hx];unfold W4.held W4.xB jL;simp only[bN];constructor
   ·rintro((a|a)|a)
    ·exact .inl a
    ·exact .inr (.inr a)
    ·exact .inr (.inl a)
   ·rintro(a|a|a)
    ·exact .inl (.inl a)
    ·exact .inr a
    ·exact .inl (.inr a)
 ·unfold D4.nW R4.LY D4.aDH;rw[h.mI,h.iI];cases hb:w.mI r with
  |false=>simp
  |true=>simp
end
def YI{N:List N4}(h:aAT N=true):jL N=l9 N:=by
 unfold aAT at h;simp only[aE,cV,aUA]at h;unfold jL l9;congr 1;rw[bH];refine cQ λn hn=>?_;simp only[Function.comp];unfold V.eI;rw[V.QI,(h.2.1 n hn).2,aUF rfl]
def aR4(n xl:Int):∀(T:List T4)(q:Int),L4 n xl T q=true->∀t∈T,t.ref<=xl
 |[],q,h,t,ht=>by simp at ht
 |u::r,q,h,t,ht=>by
  rw[L4]at h;simp only[aE,aUA]at h;rcases aO.1 ht with rfl|ht
  ·exact h.1.2
  ·exact aR4 n xl r u.ref h.2.2 t ht
structure aO9(x:X4):Prop where
 hx:aQX x
 f:RI x
 b:v7 x=true
 th:L4 x.made.length x.last x.aT4 0=true
def aTX(hx:aQX x)(h:y9 x=true):aO9 x:=by
 have h2:=h;rw[aRR hx]at h2;refine⟨hx,aL0 h,h2,?_⟩;unfold v7 aOT at h2;simp only[aE]at h2;exact h2.2.2.2.2.2.1
def aO9.bth(h:aO9 x):DC (bJ x) (rW x):=by
 have:=aQ1 h.hx (DU x) h.th;exact⟨this.th,this.nd,this.pos,this.kind,this.set,this.fit⟩
def aO9.ck(h:aO9 x){u:U4}(hab:S4.abL u.code)(hs:u.seen.length<=400):(bJ x).zE u=(rW x).MR u:=by
 have hb:=h.bth;have a1J:=h.f.made;have e1:(bJ x).HU u.side=(rW x).HU u.side:=by
  unfold D4.HU R4.HU;show(decide (0<=u.side)&&decide (u.side<(x.made.length:Int)))=(decide (0<=u.side)&&decide (u.side<=(x.parents.length:Int)));rw[a1J];congr 1;exact decide_eq_decide.2 (by push_cast;omega)
 have e2:∀r,(bJ x).pK r=(rW x).K1 r:=λr=>by
  unfold D4.pK R4.K1;congr 1;show((bJ x).mI r||decide (r<=x.last))=decide (r<=x.last);cases hi:(bJ x).mI r with
  |false=>rfl
  |true=>
   unfold D4.mI at hi;cases hf:(bJ x).find r with
   |none=>rw[hf]at hi;cases hi
   |some t=>
    obtain⟨ht,rfl⟩:=N0 hf;rw[aUZ (aR4 _ _ _ _ h.th t ht)];rfl
 unfold D4.zE R4.MR;rw[e1,aSF _ hab,aQA,aUZ (show u.seen.length<=524288 by omega),show(bJ x).pK=(rW x).K1 from funext e2];cases hn:aAT u.names with
 |false=>simp
 |true=>
  rw[YI hn];have e3:((l9 u.names).all λr=>(bJ x).mI r&&decide (r∈u.seen))=u.names.all λn=>n.value.refs.all ((rW x).aDF u):=by
   unfold l9;rw[List.all_flatten,List.all_map,List.all_map];have e4:(λr=>(bJ x).mI r&&decide (r∈u.seen))=(rW x).aDF u:=by
    funext r;unfold R4.aDF;rw[hb.mI]
   rw[e4];rfl
  rw[e3];simp only[o6,cA,yO]


structure aSB(x:X4)(l:List U4):Prop where
 cR:∀t∈x.aT4,t.bQ.cR<=2^20/\t.bQ.wt
 tl:x.aT4.length<=2^30
 pl:x.parents.length<=2^38
 cl:x.aU3.length<=2^38
 ml:x.made.length<=2^38
 home:∀t∈x.aT4,-9223372036854775808<=t.bQ.home/\t.bQ.home<=9223372036854775807
 ll:l.length<=2^30
 gA:∀u∈l,u.gA
 wD:∀u∈l,u.wD
 nm:∀u∈l,V.dB (u.names.map (·.value))<=2^20
def aOK(h:CI x l=true):x.aT4.length<=60/\x.parents.length<=40/\l.length<=12/\(∀t∈x.aT4,t.bQ.fits=true)/\∀u∈l,u.seen.length<=400:=by
 unfold CI at h;simp only[aE,aUA,cV]at h;obtain⟨⟨⟨a,b,_,_,c⟩,d⟩,e⟩:=h;refine⟨oM,oM,oM,d,λu hu=>?_⟩;have:=e u hu;unfold U4.K2 at this;simp only[aE,aUA]at this;omega
def aRP(hJ:aSB x l)(h:CI x l=true):aQX x:=
 ⟨λt ht=>W4.aWA ((aOK h).2.2.2.1 t ht),λt ht=>(hJ.cR t ht).2.kind,λt ht=>(hJ.cR t ht).2.set⟩
structure aOF(x:X4)(l:List U4):Prop extends aSB x l where
 fr:aO9 x
 len:x.aT4.length<=60
 pr:x.parents.length<=40
 l12:l.length<=12
 seen:∀u∈l,u.seen.length<=400
def aU4(hJ:aSB x l)(h:CI x l=true)(hb:y9 x=true):aOF x l:=
 ⟨hJ,aTX (aRP hJ h) hb,(aOK h).1,(aOK h).2.1,(aOK h).2.2.1,(aOK h).2.2.2.2⟩
section
variable{x:X4}{l:List U4}
def aOF.w(h:aOF x l):(bJ x).qV:=J1 h.fr.f (λt ht=>(h.cR t ht).1) h.len h.pr
def aOF.v(h:aOF x l):(rW x).gA where
 len:=h.tl
 cR:=λt ht=>cL (h.cR t ht).1 (bD rfl)
 kind:=λt ht=>(h.cR t ht).2.kind
 sm:=λt ht=>cL (h.cR t ht).1 (bD rfl)
def aOF.ck(h:aOF x l):l.all (bJ x).zE=l.all (rW x).MR:=by
 rw[K0,cV,cV];constructor
 ·intro g u hu;rw[<-h.fr.ck (h.gA u hu).FD (h.seen u hu)];exact g u hu
 ·intro g u hu;rw[h.fr.ck (h.gA u hu).FD (h.seen u hu)];exact g u hu
def aPZ{w:D4}{u:U4}(h:w.zE u=true):aAT u.names=true:=by
 unfold D4.zE at h;simp only[aE]at h;rw[<-aQA];exact h.2.2.1
def aOF.names(h:aOF x l)(hck:l.all (bJ x).zE=true):∀u∈l,aAT u.names=true:=λu hu=>aPZ (cV.1 hck u hu)
end
def aTM(x:X4)(p q:List C)(h1:Pu 25 [.d (.agg x.aT1)] (.eL [.d (.ip p),.d (ci 0)]))(h2:Pu 44 [.d (.agg x.aT1)] (.eL [.d (.ip q),.d (ci 0)])):Pu 10 [.d (.agg x.aT1)] (.eL [.d (.ip p),.d (.ip q)]):=by
 refine iC mix Tryz.func10 ?_
 repeat'(first|refine bl ?_|refine dR h1 (.cons (.agg x.aT1) .nil) (bw ?_)|refine dR h2 (.cons (.agg x.aT1) .nil) (bw ?_))
 exact .eL (cs:=[.ip p,.ip q]) (.cons (.d _) (.cons (.d _) .nil))
def aUV(x:X4)(h1:Pu 25 [.d (.agg x.aT1)] (.eL [.d H5,.d (ci 71)]))(h2:Pu 44 [.d (.agg x.aT1)] (.eL [.d H5,.d (ci 71)])):Pu 10 [.d (.agg x.aT1)] (.eL [.d H5,.d H5]):=by
 refine iC mix Tryz.func10 ?_
 repeat'(first|refine bl ?_|refine dR h1 (.cons (.agg x.aT1) .nil) (bw ?_)|refine dR h2 (.cons (.agg x.aT1) .nil) (bw ?_))
 exact .eL (cs:=[H5,H5]) (.cons (.d _) (.cons (.d _) .nil))
def aV0(hJ:aSB x l)(hf:CI x l=true)(hb:y9 x=false):Pu 10 [.d (.agg x.aT1)] (.eL [.d H5,.d H5]):=by
 have h1:=aHE x (λt ht=>cL (hJ.cR t ht).1 (bD rfl)) hJ.tl hJ.pl hJ.cl hJ.ml hJ.home;have h2:=aQL x (λt ht=>⟨cL (hJ.cR t ht).1 (bD rfl),(hJ.cR t ht).2⟩) hJ.tl hJ.pl hJ.cl hJ.ml hJ.home;have hr:v7 x=false:=by rw[<-aRR (aRP hJ hf)];exact hb
 rw[show DW x=H5 by unfold DW;rw[hb];rfl,show DV x=71 by unfold DV;rw[hb];rfl]at h1;rw[show RC x=H5 by unfold RC;rw[hr];rfl,show QO x=71 by unfold QO;rw[hr];rfl]at h2;exact aUV x h1 h2
def aV1(hR:aOF x l):Pu 10 [.d (.agg x.aT1)] (.eL [.d (.ip (bJ x).aT1),.d (.ip (rW x).aT1)]):=by
 have h1:=aHE x (λt ht=>cL (hR.cR t ht).1 (bD rfl)) hR.tl hR.pl hR.cl hR.ml hR.home;have h2:=aQL x (λt ht=>⟨cL (hR.cR t ht).1 (bD rfl),(hR.cR t ht).2⟩) hR.tl hR.pl hR.cl hR.ml hR.home;have hb:=hR.fr.f.b;have hr:=hR.fr.b;rw[show DW x=.ip (bJ x).aT1 by unfold DW;rw[hb];rfl,show DV x=0 by unfold DV;rw[hb];rfl]at h1;rw[show RC x=.ip (rW x).aT1 by unfold RC;rw[hr];rfl,show QO x=0 by unfold QO;rw[hr];rfl]at h2;exact aTM x _ _ h1 h2

end Go.Pv
