import Derived.Test.YtpdcbahjjmooiaaGreatH21
/- A program logic over the model, contracts of the functions that the law reaches: part 22. (Names and blanks were shortened by program.) -/
set_option linter.unusedVariables false
set_option linter.unusedSimpArgs false
set_option linter.constructorNameAsVariable false
set_option linter.unusedSectionVars false
set_option linter.deprecated false
set_option maxRecDepth 100000
set_option maxHeartbeats 8000000
open Go Go.Proofs
namespace Go.Pv
open Go.RowKit
variable{P:Program}{K:List Int}
structure F8 where
 name:Int
 second:Int
 a:Int
 b:Int
 jR:Int
 bQ:Bool
 blocks:Bool
 clerks:Bool
def F8.aT1(f:F8):List C:=[ci f.name,ci f.second,ci f.a,ci f.b,ci f.jR,cb f.bQ,cb f.blocks,cb f.clerks]
def S4.UM(v:S4):F8×Bool:=
 if v.bQ=1 then(⟨2,0,1,0,0,true,false,false⟩,true)
 else if v.bQ=2\/v.bQ=3\/v.bQ=4\/v.bQ=8 then(⟨2,0,0,0,0,true,false,false⟩,true)
 else if v.bQ=14 then(⟨2,0,2,0,2,true,false,false⟩,true)
 else if v.bQ=15\/v.bQ=16 then(⟨2,2,2,0,0,true,false,false⟩,true)
 else if v.bQ=5\/v.bQ=10 then(⟨2,2,0,0,0,true,false,false⟩,true)
 else if v.bQ=12 then(⟨2,0,0,0,0,true,false,true⟩,true)
 else(⟨2,0,0,0,0,true,false,false⟩,false)
def S4.fm(v:S4):F8×Bool:=
 if v.op=1 then(⟨2,0,1,0,0,false,false,false⟩,true)
 else if v.op=2 then(if v.jR=1\/v.jR=32 then(⟨2,0,2,0,1,false,false,false⟩,true)else(⟨2,0,2,1,1,false,false,false⟩,true))
 else if v.op=3 then v.UM
 else if v.op=4 then(⟨2,0,2,2,0,false,false,false⟩,true)
 else if v.op=5 then(⟨0,0,1,1,0,false,true,false⟩,true)
 else if v.op=6 then(⟨0,0,2,0,2,false,true,false⟩,true)
 else if v.op=7 then(⟨0,0,1,0,0,false,false,false⟩,true)
 else if v.op=8 then(⟨0,0,0,0,0,false,false,false⟩,true)
 else if v.op=9 then(⟨2,0,2,0,0,false,false,false⟩,true)
 else(⟨0,0,0,0,0,false,false,false⟩,false)
theorem aRB(v:S4)(ho:0<=v.op/\v.op<256):Pu 222 [.d (.agg v.aT1)] (.eL [.d (.agg v.fm.1.aT1),.d (cb v.fm.2)]):=by
 refine iC mix Tryz.func222 ?_
 repeat'(first|refine bl ?_|refine bS (λh=>?_) (λh=>?_))
 all_goals
  unfold S4.fm S4.UM
  (repeat(first|rw[aT7 oM]|rw[aUF oM]))
 all_goals exact .eL (cs:=[.agg _,_]) (.cons (.agg (by repeat'(first|exact wJ.nil|refine wJ.cons (Rd.d _) ?_))) (.cons (.d _) .nil))
def S4.pV(v:S4)(f:F8)(ok:Bool):Bool:=ok&&(G4 v.name f.name&&(G4 v.second f.second&&(!(decide (0<f.second)&&decide (v.second=v.name))&&(v.a.hw f.a&&v.b.hw f.b))))
def S4.oK(v:S4)(f:F8):Bool:=!(decide (f.jR=0)&&decide (v.jR≠0))&&(!(decide (f.jR=1)&& !aPQ v.jR)&&(!(decide (f.jR=2)&&decide (63<v.jR))&&(!(!f.bQ&&decide (v.bQ≠0))&& !(!f.blocks&&decide (0<v.t.length+v.e.length)))))
def S4.st3(v:S4)(f:F8):Bool:=if f.clerks=true then decide (v.w.length<=64)&&(decide v.w.Nodup&&v.w.all gN)else decide (v.c.length+v.w.length=0)
def S4.st(v:S4)(f:F8)(ok:Bool):Bool:=v.pV f ok&&(v.oK f&&v.st3 f)
def S4.qP(v:S4):Bool:=v.st v.fm.1 v.fm.2
structure S4.GL(v:S4):Prop where
 cR:v.cR<=2^38
 op:0<=v.op/\v.op<256
 jR:0<=v.jR/\v.jR<256
 name:v.name.size<=2^40
 second:v.second.size<=2^40
 a:v.a.ss
 b:v.b.ss
 w:∀s∈v.w,s.size<=2^40
theorem aRA(v:S4)(hv:v.GL):Pu 201 [.d (.agg v.aT1)] (.d (cb v.qP)):=by
 have AZ:=v.fA;have hc1:=hv.cR;have ht:=S4.eW v.t;have he:=S4.eW v.e;have n0:=S4.eW v.c;have aZN:=aRB v hv.op;have a1C:v.qP=v.st v.fm.1 v.fm.2:=rfl;rw[a1C];clear a1C;generalize v.fm=q at aZN⊢;obtain⟨f,ok⟩:=q;dsimp only at aZN;refine iC mix Tryz.func201 ?_
 repeat'(first|with_reducible (first|refine tG ?_|refine w9 ?_|refine nN.mk ?_)|((with_reducible refine wr ?_);(conv=>whnf))|((refine fT (cs:=v.aT1) aZN ?_);(conv=>whnf)))
 refine BH (λ_:Unit=>v.pV f ok=true) (λ_=>[(1,.lp 1 0),(3,.lp 57 0)]) (λ_=>[(1,.cells false (v.aT1.map A.d)),(57,.cells false (f.aT1.map A.d))]) 1000 ?_ ?_
 ·skip
  repeat'(first|refine bl ?_|refine bS (λh=>?_) (λh=>?_)|refine aF (aOP v.name hv.name f.name) (bw ?_)|refine aF (aOP v.second hv.second f.second) (bw ?_)|refine dR (aOO v.a oM hv.a f.a) (.cons (.agg v.a.aT1) (.cons (.same _) .nil)) (bw ?_)|refine dR (aOO v.b oM hv.b f.b) (.cons (.agg v.b.aT1) (.cons (.same _) .nil)) (bw ?_))
  all_goals first
   |exact⟨(),by unfold S4.pV;simp_all,mZ⟩
   |(refine dP ?_
     have hf:v.pV f ok=false:=by unfold S4.pV;simp_all
     unfold S4.st;rw[hf];rfl)
 rintro _ hs1;have eB:v.st f ok=(v.oK f&&v.st3 f):=by unfold S4.st;rw[hs1,cA]
 rw[eB];refine BH (λ_:Unit=>v.oK f=true) (λ_=>[(1,.lp 1 0),(3,.lp 57 0)]) (λ_=>[(1,.cells false (v.aT1.map A.d)),(57,.cells false (f.aT1.map A.d))]) 2000 ?_ ?_
 ·skip
  repeat'(first|refine bl ?_|refine bS (λh=>?_) (λh=>?_)|refine aF (aST v.jR hv.jR.1 hv.jR.2) (bw ?_)|refine FC.mk (RG (by simp only[aB];omega) (by simp only[aB];omega)) (bw ?_))
  all_goals first
   |exact⟨(),by(unfold S4.oK;simp_all<;>first|omega|exact⟨iL.1 oM,iL.1 oM⟩),mZ⟩
   |(refine dP ?_
     have hf:v.oK f=false:=by(unfold S4.oK;simp_all<;>omega)
     rw[hf];rfl)
 rintro _ hs2;rw[hs2,cA]
 repeat'(first|refine bl ?_|refine bS (λh=>?_) (λh=>?_)|refine aF (aPH v.w oM) (bw ?_)|refine FC.mk (RG (by simp only[aB];omega) (by simp only[aB];omega)) (bw ?_))
 ·refine dP ?_;unfold S4.st3;rw[h,aT7 gO];exact decide_eq_decide.2 (by simp only[aB];omega)
 ·refine dP ?_;unfold S4.st3;rw[‹f.clerks=true›,aUF rfl,aU0 oM];rfl
 ·refine dP ?_;unfold S4.st3;rw[‹f.clerks=true›,aUF rfl,aU0 (p:=v.w.Nodup) aM];simp
 have h3:v.st3 f=v.w.all gN:=by
  unfold S4.st3;rw[‹f.clerks=true›,aUF rfl,aUZ oM,aUZ (p:=v.w.Nodup) aM];rfl
 rw[h3];refine bV mix (λi:Nat=>i<=v.w.length/\(v.w.take i).all gN=true) (I:=λi=>[(1,.lp 1 0),(5,.d (ci i))])
  (J:=λi=>[(1,.cells false (v.aT1.map A.d))]) (μ:=λi=>v.w.length -i) 3000 0 ⟨oM,sM⟩ mZ ?_
 rintro i ⟨hi,h0⟩;by_cases cX:i<v.w.length
 ·have vZ:=hv.w _ (aY cX);refine bl ?_;refine O8.t (aUZ (by(try simp only[aB]);omega)) ?_
  repeat'(first|refine bl ?_|refine bS (λh=>?_) (λh=>?_)|refine cD rfl eD cX (bw ?_)|refine aF (BC v.w[i] vZ) (bw ?_))
  ·have hf:v.w.all gN=false:=by rw[iA];exact⟨_,aY cX,by simp[‹gN _=false›]⟩
   rw[hf];exact dP rfl
  ·exact⟨i+1,oM,⟨oM,ZO _ _ i cX h0 aM⟩,mZ⟩
 ·rw[aI oM]at h0;rw[h0];refine bl ?_;refine O8.f (aU0 (by(try simp only[aB]);omega)) ?_;refine bl ?_;exact dP rfl
structure iN where
 deep:Int
 inside:Bool
 stmt:S4
def iN.aT1(r:iN):List C:=ci r.deep::cb r.inside::r.stmt.aT1
abbrev OB(L:List iN):List (List C):=L.map iN.aT1
theorem aME(a:List iN)(b:iN):bE (OB a)++[b.aT1.map A.d]=bE (OB (a++[b])):=by rw[OB,OB,bP,ER];rfl
mutual
def S4.rk:S4->Int->Bool->List iN->List iN
 |.mk op name second jR bQ a b t e c w,d,q,l=>S4.eG c (d+1) true (S4.eG e (d+1) q (S4.eG t (d+1) q (l++[⟨d,q,.mk op name second jR bQ a b t e c w⟩])))
def S4.eG:List S4->Int->Bool->List iN->List iN
 |[],_,_,l=>l
 |v::r,d,q,l=>if l.length<=512 then S4.eG r d q (S4.rk v d q l)else l
end
theorem S4.WR(v:S4)(d:Int)(q:Bool)(l:List iN):v.rk d q l=S4.eG v.c (d+1) true (S4.eG v.e (d+1) q (S4.eG v.t (d+1) q (l++[⟨d,q,v⟩]))):=by cases v;rw[S4.rk];rfl
theorem S4.tN(c:List S4)(d:Int)(q:Bool)(l:List iN)(h:512<l.length):S4.eG c d q l=l:=by
 cases c with
 |nil=>rw[S4.eG]
 |cons v r=>rw[S4.eG,aT7 oM]
theorem S4.aH3(c:List S4)(i:Nat)(h:i<c.length)(d:Int)(q:Bool)(l:List iN)(hl:l.length<=512):S4.eG (c.drop i) d q l=S4.eG (c.drop (i+1)) d q (S4.rk c[i] d q l):=by
 rw[dE h,S4.eG,aUF hl]
mutual
theorem S4.aOV:∀(v:S4)(d:Int)(q:Bool)(l:List iN),(v.rk d q l).length<=l.length+v.cR
 |.mk op name second jR bQ a b t e c w,d,q,l=>by
  rw[S4.rk,S4.cR];have h1:=S4.pW t (d+1) q (l++[⟨d,q,.mk op name second jR bQ a b t e c w⟩]);have h2:=S4.pW e (d+1) q (S4.eG t (d+1) q (l++[⟨d,q,.mk op name second jR bQ a b t e c w⟩]));have h3:=S4.pW c (d+1) true (S4.eG e (d+1) q (S4.eG t (d+1) q (l++[⟨d,q,.mk op name second jR bQ a b t e c w⟩])));rw[aU,nX]at h1;omega
theorem S4.pW:∀(c:List S4)(d:Int)(q:Bool)(l:List iN),(S4.eG c d q l).length<=l.length+S4.dB c
 |[],d,q,l=>by rw[S4.eG];omega
 |v::r,d,q,l=>by
  rw[S4.eG,S4.dB];split
  ·have h1:=S4.aOV v d q l;have h2:=S4.pW r d q (v.rk d q l);omega
  ·omega
end
abbrev wR(L:List iN):R:=dU 256 19 (OB L)
theorem aRL(c:List S4)(d:Int)(q:Bool)(L:List iN)(h:c=[]\/512<L.length)(hL:L.length<=2^38):aJ Tryz.prog 221 [.d (jX c),.d (ci d),.d (cb q),.h 1] (aK [(1,wR L)]) (.ok (.h 1)) (aH (aK [(1,wR L)]) []):=by
 refine wE mix 100 Tryz.func221 (by(repeat'(first|exact aW|exact sn|refine bI ?_ ?_))) (by(repeat'(first|exact aW))) ?_;refine bl ?_;refine bV mix (λi:Nat=>True) (I:=λi=>[(0,.d (jX c)),(1,.d (ci d)),(2,.d (cb q)),(3,.h 1),(9,.d (ci 0))])
  (J:=λi=>[(1,wR L)]) (μ:=λi=>0) 200 0 tV mZ ?_
 intro _ _;rcases h with h|h
 ·subst h;refine bl ?_;exact em
 ·skip
  repeat'(first|refine bl ?_|refine bS (λh=>?_) (λh=>?_))
  all_goals first
   |(exfalso;simp only[bE,aB]at*;omega)
   |exact em
theorem aTC(d:Int)(q:Bool):Pu 221 [.d (jX []),.d (ci d),.d (cb q),.d (.nl 19)] (.d (.nl 19)):=by
 refine iC mix Tryz.func221 ?_;refine bl ?_;refine bV mix (λi:Nat=>True) (I:=λi=>[(0,.d (jX [])),(1,.d (ci d)),(2,.d (cb q)),(3,.d (.nl 19)),(9,.d (ci 0))])
  (J:=λi=>[]) (μ:=λi=>0) 200 0 tV mZ ?_
 intro _ _;refine bl ?_;exact .one (.d _)
theorem aDS(g:Nat->Nat)(L:List iN):(wR L).eZ g=wR L:=eT g _ _ _
theorem mD(c:List S4)(d:Int)(q:Bool)(L:List iN)(h:c=[]\/512<L.length)(hL:L.length<=2^38){ml:List (Nat×R)}(hm:aK ml 2=some (wR L)):aJ Tryz.prog 221 [.d (jX c),.d (ci d),.d (cb q),.h 2] (aK ml) (.ok (.h 2)) (aH (aK ml) []):=
 aJ.aXE (aRL c d q L h hL) (g:=swp 1 2) (gi:=swp 1 2) (fH _ _) (fH _ _) ⟨sn,tV⟩ ⟨by show aK ml 2=some ((wR L).eZ _);rw[hm,aDS],tV⟩ ⟨by show rB _ ((wR L).eZ _).hs;rw[aDS];exact aZ,tV⟩ trivial
def wG(c:List S4):Prop:=c≠[]->∀(d:Int)(q:Bool)(L:List iN),0<=d->d+S4.dB c<=2^40->L.length<=512->aJ Tryz.prog 221 [.d (jX c),.d (ci d),.d (cb q),.h 1] (aK [(1,wR L)]) (.ok (.h 2)) (aH (aK [(1,wR L)]) [(2,wR (S4.eG c d q L)),(1,.dead)])
theorem wG.at{c:List S4}(h:wG c)(hc:c≠[]){d:Int}{q:Bool}{L:List iN}(h0:0<=d)(h1:d+S4.dB c<=2^40)(h2:L.length<=512){ml:List (Nat×R)}(hm:aK ml 2=some (wR L))(hm2:aK ml 400=none):aJ Tryz.prog 221 [.d (jX c),.d (ci d),.d (cb q),.h 2] (aK ml) (.ok (.h 400)) (aH (aK ml) [(400,wR (S4.eG c d q L)),(2,.dead)]):=by
 have k:=aJ.aXE (ml:=ml) (h hc d q L h0 h1 h2) (g:=g12 400) (gi:=g21 400) (aC9 400 eD) (aDA 400 eD) ⟨sn,tV⟩ ⟨by show aK ml 2=some ((wR L).eZ _);rw[hm,aDS],tV⟩ ⟨by show rB _ ((wR L).eZ _).hs;rw[aDS];exact aZ,tV⟩ ⟨.inr hm2,.inl sn,tV⟩;simp only[lH,aG,bM,aDS]at k;exact k
theorem aOX:∀(c:List S4),S4.dB c<=2^36->wG c:=by
 intro c hv hc d q L hd0 hd hL;have n0:=S4.eW c;have aZL:0<c.length:=by cases c;exact absurd rfl hc;simp
 have ih:∀k:List S4,S4.dB k<S4.dB c->wG k:=λk hk=>aOX k oM;refine wE mix 100 Tryz.func221 (by(repeat'(first|exact aW|exact sn|refine bI ?_ ?_))) (by(repeat'(first|exact aW|exact aZ|refine bI ?_ ?_))) ?_;refine bl ?_;refine bV mix (λa:Nat×List iN=>a.1<=c.length/\S4.eG (c.drop a.1) d q a.2=S4.eG c d q L/\a.2.length<=512+S4.dB c/\(a.1=0->a.2=L)) (I:=λa=>[(0,.d (jX c)),(1,.d (ci d)),(2,.d (cb q)),(3,if a.1=0 then .h 1 else .h 2),(9,.d (ci a.1))])
  (J:=λa=>if a.1=0 then [(1,wR L)]else [(2,wR a.2),(1,.dead)]) (μ:=λa=>c.length -a.1) 1000 (0,L) ⟨sM,rfl,dM,λ_=>rfl⟩ mZ ?_
 rintro⟨i,Q⟩ ⟨hi,hk,hQl,hQ0⟩;dsimp only at hi hk hQl hQ0⊢;have hlen:=S4.pW;by_cases hi0:i=0
 ·subst hi0;obtain rfl:=hQ0 rfl;have cX:0<c.length:=aZL;show vc _ _ _ _ [(0,.d (jX c)),(1,.d (ci d)),(2,.d (cb q)),(3,.h 1),(9,.d (ci (0:Nat)))] [(1,wR Q)] _ _;have hq:=S4.dG c 0 cX;have AZ:=c[0].fA;have aW3:0<c.length:=cX;refine QH ?_
  repeat'(first|with_reducible (first|refine tG ?_|refine w2 ?_|refine w3 ?_|refine w4 ?_|refine w9 ?_|refine wa ?_|refine we ?_|refine nN.mk ?_|refine O8.t rfl ?_|refine O8.f rfl ?_)|((with_reducible (first|refine wr ?_|refine wi ?_|refine wx ?_|refine wg ?_));(conv=>whnf))|((with_reducible refine nQ (λh=>?_) (λh=>?_))<;>(try rw[h])<;>(conv at h=>{simp})))
  all_goals try first|exact absurd aM hc|(exfalso;(try simp only[bE,aB]at*);omega)
  refine TA ?_
  repeat'(with_reducible refine w5 ?_)
  refine tG ?_
  repeat'(first|with_reducible (first|refine w9 ?_|refine nN.mk ?_)|((with_reducible refine wr ?_);(conv=>whnf))|((refine eE S4.cP rfl eD aW3 ?_);(conv=>whnf)))
  refine BH (λ_:Unit=>True) (λ_=>[(0,.d (jX c)),(1,.d (ci d)),(2,.d (cb q)),(3,.h 2),(9,.d (ci (0:Nat))),(10,.lp 1104 0)]) (λ_=>[(2,wR (Q++[iN.mk d q c[0]])),(1,.dead),(1104,.cells false (c[0].aT1.map A.d))]) 2000 ?_ ?_
  ·skip
   repeat'((with_reducible refine wr ?_);(conv=>whnf))
   refine n8 (by(try simp only[cE,aS,aB,bE]);omega) kK ?_;conv=>whnf
   repeat'(with_reducible (first|refine w9 ?_|refine nN.mk ?_))
   refine⟨(),tV,?_⟩;refine mq 1168 2 ?_
   all_goals exact cO rfl (aME Q (iN.mk d q c[0]))
  rintro _ _;have hl0:(Q++[iN.mk d q c[0]]).length<=513:=by
   rw[aU,nX];omega
  refine BH (λ_:Unit=>True) (λ_=>[(0,.d (jX c)),(1,.d (ci d)),(2,.d (cb q)),(3,.h 2),(9,.d (ci (0:Nat))),(10,.lp 1104 0)]) (λ_=>[(2,wR (S4.eG c[0].t (d+1) q (Q++[iN.mk d q c[0]]))),(1,.dead),(1104,.cells false (c[0].aT1.map A.d))]) 3000 ?_ ?_
  ·skip
   repeat'(first|((with_reducible refine wr ?_);(conv=>whnf))|((with_reducible refine FC.mk (RG (by(try dsimp only);omega) (by(try dsimp only);omega)) ?_);(conv=>whnf)))
   by_cases hx:c[0].t=[]\/512<(Q++[iN.mk d q c[0]]).length
   ·have he:S4.eG c[0].t (d+1) q (Q++[iN.mk d q c[0]])=Q++[iN.mk d q c[0]]:=by
     rcases hx with h|h
     ·rw[h,S4.eG]
     ·rw[S4.tN _ _ _ _ h]
    refine dZ.mk (.h 2) [] (mD c[0].t (d+1) q (Q++[iN.mk d q c[0]]) hx oM rfl) ?_;conv=>whnf
    repeat'(with_reducible (first|refine w9 ?_|refine nN.mk ?_))
    refine⟨(),tV,?_⟩;rw[he];exact mZ
   ·have R2:c[0].t≠[]:=λe=>hx (.inl e);have hx2:(Q++[iN.mk d q c[0]]).length<=512:=by have:¬512<(Q++[iN.mk d q c[0]]).length:=λe=>hx (.inr e);omega
    refine dZ.mk (.h 400) [(400,wR (S4.eG c[0].t (d+1) q (Q++[iN.mk d q c[0]]))),(2,.dead)] (wG.at (ih c[0].t oM) R2 (d:=d+1) (q:=q) oM oM hx2 rfl rfl) ?_;conv=>whnf
    repeat'(with_reducible (first|refine w9 ?_|refine nN.mk ?_))
    refine⟨(),tV,?_⟩;exact mv 400 2
  rintro _ _;have BB:(S4.eG c[0].t (d+1) q (Q++[iN.mk d q c[0]])).length<=513+S4.dB c[0].t:=by
   have:=S4.pW c[0].t (d+1) q (Q++[iN.mk d q c[0]]);omega
  refine BH (λ_:Unit=>True) (λ_=>[(0,.d (jX c)),(1,.d (ci d)),(2,.d (cb q)),(3,.h 2),(9,.d (ci (0:Nat))),(10,.lp 1104 0)]) (λ_=>[(2,wR (S4.eG c[0].e (d+1) q (S4.eG c[0].t (d+1) q (Q++[iN.mk d q c[0]])))),(1,.dead),(1104,.cells false (c[0].aT1.map A.d))]) 4000 ?_ ?_
  ·skip
   repeat'(first|((with_reducible refine wr ?_);(conv=>whnf))|((with_reducible refine FC.mk (RG (by(try dsimp only);omega) (by(try dsimp only);omega)) ?_);(conv=>whnf)))
   by_cases hx:c[0].e=[]\/512<(S4.eG c[0].t (d+1) q (Q++[iN.mk d q c[0]])).length
   ·have he:S4.eG c[0].e (d+1) q (S4.eG c[0].t (d+1) q (Q++[iN.mk d q c[0]]))=S4.eG c[0].t (d+1) q (Q++[iN.mk d q c[0]]):=by
     rcases hx with h|h
     ·rw[h,S4.eG]
     ·rw[S4.tN _ _ _ _ h]
    refine dZ.mk (.h 2) [] (mD c[0].e (d+1) q (S4.eG c[0].t (d+1) q (Q++[iN.mk d q c[0]])) hx oM rfl) ?_;conv=>whnf
    repeat'(with_reducible (first|refine w9 ?_|refine nN.mk ?_))
    refine⟨(),tV,?_⟩;rw[he];exact mZ
   ·have R2:c[0].e≠[]:=λe=>hx (.inl e);have hx2:(S4.eG c[0].t (d+1) q (Q++[iN.mk d q c[0]])).length<=512:=by have:¬512<(S4.eG c[0].t (d+1) q (Q++[iN.mk d q c[0]])).length:=λe=>hx (.inr e);omega
    refine dZ.mk (.h 400) [(400,wR (S4.eG c[0].e (d+1) q (S4.eG c[0].t (d+1) q (Q++[iN.mk d q c[0]])))),(2,.dead)] (wG.at (ih c[0].e oM) R2 (d:=d+1) (q:=q) oM oM hx2 rfl rfl) ?_;conv=>whnf
    repeat'(with_reducible (first|refine w9 ?_|refine nN.mk ?_))
    refine⟨(),tV,?_⟩;exact mv 400 2
  rintro _ _;have hl2:(S4.eG c[0].e (d+1) q (S4.eG c[0].t (d+1) q (Q++[iN.mk d q c[0]]))).length<=513+S4.dB c[0].t+S4.dB c[0].e:=by
   have:=S4.pW c[0].e (d+1) q (S4.eG c[0].t (d+1) q (Q++[iN.mk d q c[0]]));omega
  have hk3:S4.eG (c.drop (0+1)) d q (S4.eG c[0].c (d+1) true (S4.eG c[0].e (d+1) q (S4.eG c[0].t (d+1) q (Q++[iN.mk d q c[0]]))))=S4.eG c d q Q:=by
   rw[<-hk,S4.aH3 c 0 aW3 d q Q oM,S4.WR]
  have hl3:(S4.eG c[0].c (d+1) true (S4.eG c[0].e (d+1) q (S4.eG c[0].t (d+1) q (Q++[iN.mk d q c[0]])))).length<=512+S4.dB c:=by
   have h1:=S4.aOV c[0] d q Q;rw[S4.WR]at h1;omega
  refine bl ?_;by_cases hx:c[0].c=[]\/512<(S4.eG c[0].e (d+1) q (S4.eG c[0].t (d+1) q (Q++[iN.mk d q c[0]]))).length
  ·have he:S4.eG c[0].c (d+1) true (S4.eG c[0].e (d+1) q (S4.eG c[0].t (d+1) q (Q++[iN.mk d q c[0]])))=S4.eG c[0].e (d+1) q (S4.eG c[0].t (d+1) q (Q++[iN.mk d q c[0]])):=by
    rcases hx with h|h
    ·rw[h,S4.eG]
    ·rw[S4.tN _ _ _ _ h]
   refine dZ.mk (.h 2) [] (mD c[0].c (d+1) true (S4.eG c[0].e (d+1) q (S4.eG c[0].t (d+1) q (Q++[iN.mk d q c[0]]))) hx oM rfl) ?_;conv=>whnf
   refine bl ?_;refine⟨(0+1,S4.eG c[0].c (d+1) true (S4.eG c[0].e (d+1) q (S4.eG c[0].t (d+1) q (Q++[iN.mk d q c[0]])))),dM,⟨dM,hk3,hl3,λe=>by cases e⟩,?_⟩;dsimp only;rw[aT7 oM,aT7 oM];rw[he];exact mZ
  ·have R2:c[0].c≠[]:=λe=>hx (.inl e);have hx2:(S4.eG c[0].e (d+1) q (S4.eG c[0].t (d+1) q (Q++[iN.mk d q c[0]]))).length<=512:=by have:¬512<(S4.eG c[0].e (d+1) q (S4.eG c[0].t (d+1) q (Q++[iN.mk d q c[0]]))).length:=λe=>hx (.inr e);omega
   refine dZ.mk (.h 400) [(400,wR (S4.eG c[0].c (d+1) true (S4.eG c[0].e (d+1) q (S4.eG c[0].t (d+1) q (Q++[iN.mk d q c[0]]))))),(2,.dead)] (wG.at (ih c[0].c oM) R2 (d:=d+1) (q:=true) oM oM hx2 rfl rfl) ?_;conv=>whnf
   refine bl ?_;refine⟨(0+1,S4.eG c[0].c (d+1) true (S4.eG c[0].e (d+1) q (S4.eG c[0].t (d+1) q (Q++[iN.mk d q c[0]])))),dM,⟨dM,hk3,hl3,λe=>by cases e⟩,?_⟩;dsimp only;rw[aT7 oM,aT7 oM];exact mv 400 2
 ·rw[aT7 hi0,aT7 hi0];by_cases hgo:i<c.length/\Q.length<=512
  ·obtain⟨cX,hQ5⟩:=hgo;show vc _ _ _ _ [(0,.d (jX c)),(1,.d (ci d)),(2,.d (cb q)),(3,.h 2),(9,.d (ci i))] [(2,wR Q),(1,.dead)] _ _;have hq:=S4.dG c i cX;have AZ:=c[i].fA;have aW3:i<c.length:=cX;refine QH ?_
   repeat'(first|with_reducible (first|refine tG ?_|refine w2 ?_|refine w3 ?_|refine w4 ?_|refine w9 ?_|refine wa ?_|refine we ?_|refine nN.mk ?_|refine O8.t rfl ?_|refine O8.f rfl ?_)|((with_reducible (first|refine wr ?_|refine wi ?_|refine wx ?_|refine wg ?_));(conv=>whnf))|((with_reducible refine nQ (λh=>?_) (λh=>?_))<;>(try rw[h])<;>(conv at h=>{simp})))
   all_goals try first|exact absurd aM hc|(exfalso;(try simp only[bE,aB]at*);omega)
   refine TA ?_
   repeat'(with_reducible refine w5 ?_)
   refine tG ?_
   repeat'(first|with_reducible (first|refine w9 ?_|refine nN.mk ?_)|((with_reducible refine wr ?_);(conv=>whnf))|((refine eE S4.cP rfl eD aW3 ?_);(conv=>whnf)))
   refine BH (λ_:Unit=>True) (λ_=>[(0,.d (jX c)),(1,.d (ci d)),(2,.d (cb q)),(3,.h 2),(9,.d (ci i)),(10,.lp 1104 0)]) (λ_=>[(2,wR (Q++[iN.mk d q c[i]])),(1,.dead),(1104,.cells false (c[i].aT1.map A.d))]) 2000 ?_ ?_
   ·skip
    repeat'((with_reducible refine wr ?_);(conv=>whnf))
    refine n8 (by(try simp only[cE,aS,aB,bE]);omega) kK ?_;conv=>whnf
    repeat'(with_reducible (first|refine w9 ?_|refine nN.mk ?_))
    refine⟨(),tV,?_⟩;refine mq 1168 2 ?_
    all_goals exact cO rfl (aME Q (iN.mk d q c[i]))
   rintro _ _;have hl0:(Q++[iN.mk d q c[i]]).length<=513:=by
    rw[aU,nX];omega
   refine BH (λ_:Unit=>True) (λ_=>[(0,.d (jX c)),(1,.d (ci d)),(2,.d (cb q)),(3,.h 2),(9,.d (ci i)),(10,.lp 1104 0)]) (λ_=>[(2,wR (S4.eG c[i].t (d+1) q (Q++[iN.mk d q c[i]]))),(1,.dead),(1104,.cells false (c[i].aT1.map A.d))]) 3000 ?_ ?_
   ·skip
    repeat'(first|((with_reducible refine wr ?_);(conv=>whnf))|((with_reducible refine FC.mk (RG (by(try dsimp only);omega) (by(try dsimp only);omega)) ?_);(conv=>whnf)))
    by_cases hx:c[i].t=[]\/512<(Q++[iN.mk d q c[i]]).length
    ·have he:S4.eG c[i].t (d+1) q (Q++[iN.mk d q c[i]])=Q++[iN.mk d q c[i]]:=by
      rcases hx with h|h
      ·rw[h,S4.eG]
      ·rw[S4.tN _ _ _ _ h]
     refine dZ.mk (.h 2) [] (mD c[i].t (d+1) q (Q++[iN.mk d q c[i]]) hx oM rfl) ?_;conv=>whnf
     repeat'(with_reducible (first|refine w9 ?_|refine nN.mk ?_))
     refine⟨(),tV,?_⟩;rw[he];exact mZ
    ·have R2:c[i].t≠[]:=λe=>hx (.inl e);have hx2:(Q++[iN.mk d q c[i]]).length<=512:=by have:¬512<(Q++[iN.mk d q c[i]]).length:=λe=>hx (.inr e);omega
     refine dZ.mk (.h 400) [(400,wR (S4.eG c[i].t (d+1) q (Q++[iN.mk d q c[i]]))),(2,.dead)] (wG.at (ih c[i].t oM) R2 (d:=d+1) (q:=q) oM oM hx2 rfl rfl) ?_;conv=>whnf
     repeat'(with_reducible (first|refine w9 ?_|refine nN.mk ?_))
     refine⟨(),tV,?_⟩;exact mv 400 2
   rintro _ _;have BB:(S4.eG c[i].t (d+1) q (Q++[iN.mk d q c[i]])).length<=513+S4.dB c[i].t:=by
    have:=S4.pW c[i].t (d+1) q (Q++[iN.mk d q c[i]]);omega
   refine BH (λ_:Unit=>True) (λ_=>[(0,.d (jX c)),(1,.d (ci d)),(2,.d (cb q)),(3,.h 2),(9,.d (ci i)),(10,.lp 1104 0)]) (λ_=>[(2,wR (S4.eG c[i].e (d+1) q (S4.eG c[i].t (d+1) q (Q++[iN.mk d q c[i]])))),(1,.dead),(1104,.cells false (c[i].aT1.map A.d))]) 4000 ?_ ?_
   ·skip
    repeat'(first|((with_reducible refine wr ?_);(conv=>whnf))|((with_reducible refine FC.mk (RG (by(try dsimp only);omega) (by(try dsimp only);omega)) ?_);(conv=>whnf)))
    by_cases hx:c[i].e=[]\/512<(S4.eG c[i].t (d+1) q (Q++[iN.mk d q c[i]])).length
    ·have he:S4.eG c[i].e (d+1) q (S4.eG c[i].t (d+1) q (Q++[iN.mk d q c[i]]))=S4.eG c[i].t (d+1) q (Q++[iN.mk d q c[i]]):=by
      rcases hx with h|h
      ·rw[h,S4.eG]
      ·rw[S4.tN _ _ _ _ h]
     refine dZ.mk (.h 2) [] (mD c[i].e (d+1) q (S4.eG c[i].t (d+1) q (Q++[iN.mk d q c[i]])) hx oM rfl) ?_;conv=>whnf
     repeat'(with_reducible (first|refine w9 ?_|refine nN.mk ?_))
     refine⟨(),tV,?_⟩;rw[he];exact mZ
    ·have R2:c[i].e≠[]:=λe=>hx (.inl e);have hx2:(S4.eG c[i].t (d+1) q (Q++[iN.mk d q c[i]])).length<=512:=by have:¬512<(S4.eG c[i].t (d+1) q (Q++[iN.mk d q c[i]])).length:=λe=>hx (.inr e);omega
     refine dZ.mk (.h 400) [(400,wR (S4.eG c[i].e (d+1) q (S4.eG c[i].t (d+1) q (Q++[iN.mk d q c[i]])))),(2,.dead)] (wG.at (ih c[i].e oM) R2 (d:=d+1) (q:=q) oM oM hx2 rfl rfl) ?_;conv=>whnf
     repeat'(with_reducible (first|refine w9 ?_|refine nN.mk ?_))
     refine⟨(),tV,?_⟩;exact mv 400 2
   rintro _ _;have hl2:(S4.eG c[i].e (d+1) q (S4.eG c[i].t (d+1) q (Q++[iN.mk d q c[i]]))).length<=513+S4.dB c[i].t+S4.dB c[i].e:=by
    have:=S4.pW c[i].e (d+1) q (S4.eG c[i].t (d+1) q (Q++[iN.mk d q c[i]]));omega
   have hk3:S4.eG (c.drop (i+1)) d q (S4.eG c[i].c (d+1) true (S4.eG c[i].e (d+1) q (S4.eG c[i].t (d+1) q (Q++[iN.mk d q c[i]]))))=S4.eG c d q L:=by
    rw[<-hk,S4.aH3 c i aW3 d q Q oM,S4.WR]
   have hl3:(S4.eG c[i].c (d+1) true (S4.eG c[i].e (d+1) q (S4.eG c[i].t (d+1) q (Q++[iN.mk d q c[i]])))).length<=512+S4.dB c:=by
    have h1:=S4.aOV c[i] d q Q;rw[S4.WR]at h1;omega
   refine bl ?_;by_cases hx:c[i].c=[]\/512<(S4.eG c[i].e (d+1) q (S4.eG c[i].t (d+1) q (Q++[iN.mk d q c[i]]))).length
   ·have he:S4.eG c[i].c (d+1) true (S4.eG c[i].e (d+1) q (S4.eG c[i].t (d+1) q (Q++[iN.mk d q c[i]])))=S4.eG c[i].e (d+1) q (S4.eG c[i].t (d+1) q (Q++[iN.mk d q c[i]])):=by
     rcases hx with h|h
     ·rw[h,S4.eG]
     ·rw[S4.tN _ _ _ _ h]
    refine dZ.mk (.h 2) [] (mD c[i].c (d+1) true (S4.eG c[i].e (d+1) q (S4.eG c[i].t (d+1) q (Q++[iN.mk d q c[i]]))) hx oM rfl) ?_;conv=>whnf
    refine bl ?_;refine⟨(i+1,S4.eG c[i].c (d+1) true (S4.eG c[i].e (d+1) q (S4.eG c[i].t (d+1) q (Q++[iN.mk d q c[i]])))),dM,⟨dM,hk3,hl3,λe=>by cases e⟩,?_⟩;dsimp only;rw[aT7 oM,aT7 oM];rw[he];exact mZ
   ·have R2:c[i].c≠[]:=λe=>hx (.inl e);have hx2:(S4.eG c[i].e (d+1) q (S4.eG c[i].t (d+1) q (Q++[iN.mk d q c[i]]))).length<=512:=by have:¬512<(S4.eG c[i].e (d+1) q (S4.eG c[i].t (d+1) q (Q++[iN.mk d q c[i]]))).length:=λe=>hx (.inr e);omega
    refine dZ.mk (.h 400) [(400,wR (S4.eG c[i].c (d+1) true (S4.eG c[i].e (d+1) q (S4.eG c[i].t (d+1) q (Q++[iN.mk d q c[i]]))))),(2,.dead)] (wG.at (ih c[i].c oM) R2 (d:=d+1) (q:=true) oM oM hx2 rfl rfl) ?_;conv=>whnf
    refine bl ?_;refine⟨(i+1,S4.eG c[i].c (d+1) true (S4.eG c[i].e (d+1) q (S4.eG c[i].t (d+1) q (Q++[iN.mk d q c[i]])))),dM,⟨dM,hk3,hl3,λe=>by cases e⟩,?_⟩;dsimp only;rw[aT7 oM,aT7 oM];exact mv 400 2
  ·have aWW:Q=S4.eG c d q L:=by
    rw[<-hk];by_cases h:i<c.length
    ·rw[S4.tN _ _ _ _ oM]
    ·rw[dT oM,S4.eG]
   repeat'(first|refine bl ?_|refine bS (λh=>?_) (λh=>?_))
   all_goals first
    |exact absurd aM hc
    |(exfalso;(try simp only[bE,aB]at*);omega)
    |skip
   all_goals
    rw[<-aWW];exact em
 termination_by c=>S4.dB c
theorem aTB(c:List S4)(hv:S4.dB c<=2^36)(hc:c≠[])(d:Int)(q:Bool)(hd0:0<=d)(hd:d+S4.dB c<=2^40):∀(m:Mem)(j:Nat),m j=none->aJ Tryz.prog 221 [.d (jX c),.d (ci d),.d (cb q),.d (.nl 19)] m (.ok (.h j)) (aX m j (wR (S4.eG c d q []))):=by
 have n0:=S4.eW c;have aZL:0<c.length:=by cases c;exact absurd rfl hc;simp
 have ih:∀k:List S4,S4.dB k<S4.dB c->wG k:=λk hk=>aOX k oM;refine iW mix (F:=A.h) (r:=wR (S4.eG c d q [])) Tryz.func221 rfl kK (bD rfl) rfl (oJ _ _ _) (λ_ _=>rfl) (λi j hj=>by simpa [A.hs]using hj) (λg=>aDS g _) ?_;refine bl ?_;refine bV mix (λa:Nat×List iN=>a.1<=c.length/\S4.eG (c.drop a.1) d q a.2=S4.eG c d q []/\a.2.length<=512+S4.dB c/\(a.1=0->a.2=[])) (I:=λa=>[(0,.d (jX c)),(1,.d (ci d)),(2,.d (cb q)),(3,if a.1=0 then .d (.nl 19)else .h 2),(9,.d (ci a.1))])
  (J:=λa=>if a.1=0 then []else [(2,wR a.2)]) (μ:=λa=>c.length -a.1) 1000 (0,[]) ⟨sM,rfl,sM,λ_=>rfl⟩ mZ ?_
 rintro⟨i,Q⟩ ⟨hi,hk,hQl,hQ0⟩;dsimp only at hi hk hQl hQ0⊢;have hlen:=S4.pW;by_cases hi0:i=0
 ·subst hi0;obtain rfl:=hQ0 rfl;have cX:0<c.length:=aZL;have hz:([]:List iN).length=0:=cS;show vc _ _ _ _ [(0,.d (jX c)),(1,.d (ci d)),(2,.d (cb q)),(3,.d (.nl 19)),(9,.d (ci (0:Nat)))] [] _ _;have hq:=S4.dG c 0 cX;have AZ:=c[0].fA;have aW3:0<c.length:=cX;refine QH ?_
  repeat'(first|with_reducible (first|refine tG ?_|refine w2 ?_|refine w3 ?_|refine w4 ?_|refine w9 ?_|refine wa ?_|refine we ?_|refine nN.mk ?_|refine O8.t rfl ?_|refine O8.f rfl ?_)|((with_reducible (first|refine wr ?_|refine wi ?_|refine wx ?_|refine wg ?_));(conv=>whnf))|((with_reducible refine nQ (λh=>?_) (λh=>?_))<;>(try rw[h])<;>(conv at h=>{simp})))
  all_goals try first|exact absurd aM hc|(exfalso;(try simp only[bE,aB]at*);omega)
  refine TA ?_
  repeat'(with_reducible refine w5 ?_)
  refine tG ?_
  repeat'(first|with_reducible (first|refine w9 ?_|refine nN.mk ?_)|((with_reducible refine wr ?_);(conv=>whnf))|((refine eE S4.cP rfl eD aW3 ?_);(conv=>whnf)))
  refine BH (λ_:Unit=>True) (λ_=>[(0,.d (jX c)),(1,.d (ci d)),(2,.d (cb q)),(3,.h 2),(9,.d (ci (0:Nat))),(10,.lp 1104 0)]) (λ_=>[(2,wR ([]++[iN.mk d q c[0]])),(1104,.cells false (c[0].aT1.map A.d))]) 2000 ?_ ?_
  ·skip
   repeat'((with_reducible refine wr ?_);(conv=>whnf))
   refine n8 (by(try simp only[cE,aS,aB,bE]);omega) kK ?_;conv=>whnf
   refine E9.mk (λXN=>absurd XN sM) (λXN=>?_);conv=>whnf
   repeat'(with_reducible (first|refine w9 ?_|refine nN.mk ?_))
   refine⟨(),tV,?_⟩;exact mv 1168 2
   all_goals exact cO rfl rfl
  rintro _ _;have hl0:([]++[iN.mk d q c[0]]).length<=513:=by
   rw[aU,nX];omega
  refine BH (λ_:Unit=>True) (λ_=>[(0,.d (jX c)),(1,.d (ci d)),(2,.d (cb q)),(3,.h 2),(9,.d (ci (0:Nat))),(10,.lp 1104 0)]) (λ_=>[(2,wR (S4.eG c[0].t (d+1) q ([]++[iN.mk d q c[0]]))),(1104,.cells false (c[0].aT1.map A.d))]) 3000 ?_ ?_
  ·skip
   repeat'(first|((with_reducible refine wr ?_);(conv=>whnf))|((with_reducible refine FC.mk (RG (by(try dsimp only);omega) (by(try dsimp only);omega)) ?_);(conv=>whnf)))
   by_cases hx:c[0].t=[]\/512<([]++[iN.mk d q c[0]]).length
   ·have he:S4.eG c[0].t (d+1) q ([]++[iN.mk d q c[0]])=[]++[iN.mk d q c[0]]:=by
     rcases hx with h|h
     ·rw[h,S4.eG]
     ·rw[S4.tN _ _ _ _ h]
    refine dZ.mk (.h 2) [] (mD c[0].t (d+1) q ([]++[iN.mk d q c[0]]) hx oM rfl) ?_;conv=>whnf
    repeat'(with_reducible (first|refine w9 ?_|refine nN.mk ?_))
    refine⟨(),tV,?_⟩;rw[he];exact mZ
   ·have R2:c[0].t≠[]:=λe=>hx (.inl e);have hx2:([]++[iN.mk d q c[0]]).length<=512:=by have:¬512<([]++[iN.mk d q c[0]]).length:=λe=>hx (.inr e);omega
    refine dZ.mk (.h 400) [(400,wR (S4.eG c[0].t (d+1) q ([]++[iN.mk d q c[0]]))),(2,.dead)] (wG.at (ih c[0].t oM) R2 (d:=d+1) (q:=q) oM oM hx2 rfl rfl) ?_;conv=>whnf
    repeat'(with_reducible (first|refine w9 ?_|refine nN.mk ?_))
    refine⟨(),tV,?_⟩;exact mv 400 2
  rintro _ _;have BB:(S4.eG c[0].t (d+1) q ([]++[iN.mk d q c[0]])).length<=513+S4.dB c[0].t:=by
   have:=S4.pW c[0].t (d+1) q ([]++[iN.mk d q c[0]]);omega
  refine BH (λ_:Unit=>True) (λ_=>[(0,.d (jX c)),(1,.d (ci d)),(2,.d (cb q)),(3,.h 2),(9,.d (ci (0:Nat))),(10,.lp 1104 0)]) (λ_=>[(2,wR (S4.eG c[0].e (d+1) q (S4.eG c[0].t (d+1) q ([]++[iN.mk d q c[0]])))),(1104,.cells false (c[0].aT1.map A.d))]) 4000 ?_ ?_
  ·skip
   repeat'(first|((with_reducible refine wr ?_);(conv=>whnf))|((with_reducible refine FC.mk (RG (by(try dsimp only);omega) (by(try dsimp only);omega)) ?_);(conv=>whnf)))
   by_cases hx:c[0].e=[]\/512<(S4.eG c[0].t (d+1) q ([]++[iN.mk d q c[0]])).length
   ·have he:S4.eG c[0].e (d+1) q (S4.eG c[0].t (d+1) q ([]++[iN.mk d q c[0]]))=S4.eG c[0].t (d+1) q ([]++[iN.mk d q c[0]]):=by
     rcases hx with h|h
     ·rw[h,S4.eG]
     ·rw[S4.tN _ _ _ _ h]
    refine dZ.mk (.h 2) [] (mD c[0].e (d+1) q (S4.eG c[0].t (d+1) q ([]++[iN.mk d q c[0]])) hx oM rfl) ?_;conv=>whnf
    repeat'(with_reducible (first|refine w9 ?_|refine nN.mk ?_))
    refine⟨(),tV,?_⟩;rw[he];exact mZ
   ·have R2:c[0].e≠[]:=λe=>hx (.inl e);have hx2:(S4.eG c[0].t (d+1) q ([]++[iN.mk d q c[0]])).length<=512:=by have:¬512<(S4.eG c[0].t (d+1) q ([]++[iN.mk d q c[0]])).length:=λe=>hx (.inr e);omega
    refine dZ.mk (.h 400) [(400,wR (S4.eG c[0].e (d+1) q (S4.eG c[0].t (d+1) q ([]++[iN.mk d q c[0]])))),(2,.dead)] (wG.at (ih c[0].e oM) R2 (d:=d+1) (q:=q) oM oM hx2 rfl rfl) ?_;conv=>whnf
    repeat'(with_reducible (first|refine w9 ?_|refine nN.mk ?_))
    refine⟨(),tV,?_⟩;exact mv 400 2
  rintro _ _;have hl2:(S4.eG c[0].e (d+1) q (S4.eG c[0].t (d+1) q ([]++[iN.mk d q c[0]]))).length<=513+S4.dB c[0].t+S4.dB c[0].e:=by
   have:=S4.pW c[0].e (d+1) q (S4.eG c[0].t (d+1) q ([]++[iN.mk d q c[0]]));omega
  have hk3:S4.eG (c.drop (0+1)) d q (S4.eG c[0].c (d+1) true (S4.eG c[0].e (d+1) q (S4.eG c[0].t (d+1) q ([]++[iN.mk d q c[0]]))))=S4.eG c d q []:=by
   rw[<-hk,S4.aH3 c 0 aW3 d q [] sM,S4.WR]
  have hl3:(S4.eG c[0].c (d+1) true (S4.eG c[0].e (d+1) q (S4.eG c[0].t (d+1) q ([]++[iN.mk d q c[0]])))).length<=512+S4.dB c:=by
   have h1:=S4.aOV c[0] d q [];rw[S4.WR]at h1;omega
  refine bl ?_;by_cases hx:c[0].c=[]\/512<(S4.eG c[0].e (d+1) q (S4.eG c[0].t (d+1) q ([]++[iN.mk d q c[0]]))).length
  ·have he:S4.eG c[0].c (d+1) true (S4.eG c[0].e (d+1) q (S4.eG c[0].t (d+1) q ([]++[iN.mk d q c[0]])))=S4.eG c[0].e (d+1) q (S4.eG c[0].t (d+1) q ([]++[iN.mk d q c[0]])):=by
    rcases hx with h|h
    ·rw[h,S4.eG]
    ·rw[S4.tN _ _ _ _ h]
   refine dZ.mk (.h 2) [] (mD c[0].c (d+1) true (S4.eG c[0].e (d+1) q (S4.eG c[0].t (d+1) q ([]++[iN.mk d q c[0]]))) hx oM rfl) ?_;conv=>whnf
   refine bl ?_;refine⟨(0+1,S4.eG c[0].c (d+1) true (S4.eG c[0].e (d+1) q (S4.eG c[0].t (d+1) q ([]++[iN.mk d q c[0]])))),dM,⟨dM,hk3,hl3,λe=>by cases e⟩,?_⟩;dsimp only;rw[aT7 oM,aT7 oM];rw[he];exact mZ
  ·have R2:c[0].c≠[]:=λe=>hx (.inl e);have hx2:(S4.eG c[0].e (d+1) q (S4.eG c[0].t (d+1) q ([]++[iN.mk d q c[0]]))).length<=512:=by have:¬512<(S4.eG c[0].e (d+1) q (S4.eG c[0].t (d+1) q ([]++[iN.mk d q c[0]]))).length:=λe=>hx (.inr e);omega
   refine dZ.mk (.h 400) [(400,wR (S4.eG c[0].c (d+1) true (S4.eG c[0].e (d+1) q (S4.eG c[0].t (d+1) q ([]++[iN.mk d q c[0]]))))),(2,.dead)] (wG.at (ih c[0].c oM) R2 (d:=d+1) (q:=true) oM oM hx2 rfl rfl) ?_;conv=>whnf
   refine bl ?_;refine⟨(0+1,S4.eG c[0].c (d+1) true (S4.eG c[0].e (d+1) q (S4.eG c[0].t (d+1) q ([]++[iN.mk d q c[0]])))),dM,⟨dM,hk3,hl3,λe=>by cases e⟩,?_⟩;dsimp only;rw[aT7 oM,aT7 oM];exact mv 400 2
 ·rw[aT7 hi0,aT7 hi0];by_cases hgo:i<c.length/\Q.length<=512
  ·obtain⟨cX,hQ5⟩:=hgo;show vc _ _ _ _ [(0,.d (jX c)),(1,.d (ci d)),(2,.d (cb q)),(3,.h 2),(9,.d (ci i))] [(2,wR Q)] _ _;have hq:=S4.dG c i cX;have AZ:=c[i].fA;have aW3:i<c.length:=cX;refine QH ?_
   repeat'(first|with_reducible (first|refine tG ?_|refine w2 ?_|refine w3 ?_|refine w4 ?_|refine w9 ?_|refine wa ?_|refine we ?_|refine nN.mk ?_|refine O8.t rfl ?_|refine O8.f rfl ?_)|((with_reducible (first|refine wr ?_|refine wi ?_|refine wx ?_|refine wg ?_));(conv=>whnf))|((with_reducible refine nQ (λh=>?_) (λh=>?_))<;>(try rw[h])<;>(conv at h=>{simp})))
   all_goals try first|exact absurd aM hc|(exfalso;(try simp only[bE,aB]at*);omega)
   refine TA ?_
   repeat'(with_reducible refine w5 ?_)
   refine tG ?_
   repeat'(first|with_reducible (first|refine w9 ?_|refine nN.mk ?_)|((with_reducible refine wr ?_);(conv=>whnf))|((refine eE S4.cP rfl eD aW3 ?_);(conv=>whnf)))
   refine BH (λ_:Unit=>True) (λ_=>[(0,.d (jX c)),(1,.d (ci d)),(2,.d (cb q)),(3,.h 2),(9,.d (ci i)),(10,.lp 1104 0)]) (λ_=>[(2,wR (Q++[iN.mk d q c[i]])),(1104,.cells false (c[i].aT1.map A.d))]) 2000 ?_ ?_
   ·skip
    repeat'((with_reducible refine wr ?_);(conv=>whnf))
    refine n8 (by(try simp only[cE,aS,aB,bE]);omega) kK ?_;conv=>whnf
    repeat'(with_reducible (first|refine w9 ?_|refine nN.mk ?_))
    refine⟨(),tV,?_⟩;refine mq 1168 2 ?_
    all_goals exact cO rfl (aME Q (iN.mk d q c[i]))
   rintro _ _;have hl0:(Q++[iN.mk d q c[i]]).length<=513:=by
    rw[aU,nX];omega
   refine BH (λ_:Unit=>True) (λ_=>[(0,.d (jX c)),(1,.d (ci d)),(2,.d (cb q)),(3,.h 2),(9,.d (ci i)),(10,.lp 1104 0)]) (λ_=>[(2,wR (S4.eG c[i].t (d+1) q (Q++[iN.mk d q c[i]]))),(1104,.cells false (c[i].aT1.map A.d))]) 3000 ?_ ?_
   ·skip
    repeat'(first|((with_reducible refine wr ?_);(conv=>whnf))|((with_reducible refine FC.mk (RG (by(try dsimp only);omega) (by(try dsimp only);omega)) ?_);(conv=>whnf)))
    by_cases hx:c[i].t=[]\/512<(Q++[iN.mk d q c[i]]).length
    ·have he:S4.eG c[i].t (d+1) q (Q++[iN.mk d q c[i]])=Q++[iN.mk d q c[i]]:=by
      rcases hx with h|h
      ·rw[h,S4.eG]
      ·rw[S4.tN _ _ _ _ h]
     refine dZ.mk (.h 2) [] (mD c[i].t (d+1) q (Q++[iN.mk d q c[i]]) hx oM rfl) ?_;conv=>whnf
     repeat'(with_reducible (first|refine w9 ?_|refine nN.mk ?_))
     refine⟨(),tV,?_⟩;rw[he];exact mZ
    ·have R2:c[i].t≠[]:=λe=>hx (.inl e);have hx2:(Q++[iN.mk d q c[i]]).length<=512:=by have:¬512<(Q++[iN.mk d q c[i]]).length:=λe=>hx (.inr e);omega
     refine dZ.mk (.h 400) [(400,wR (S4.eG c[i].t (d+1) q (Q++[iN.mk d q c[i]]))),(2,.dead)] (wG.at (ih c[i].t oM) R2 (d:=d+1) (q:=q) oM oM hx2 rfl rfl) ?_;conv=>whnf
     repeat'(with_reducible (first|refine w9 ?_|refine nN.mk ?_))
     refine⟨(),tV,?_⟩;exact mv 400 2
   rintro _ _;have BB:(S4.eG c[i].t (d+1) q (Q++[iN.mk d q c[i]])).length<=513+S4.dB c[i].t:=by
    have:=S4.pW c[i].t (d+1) q (Q++[iN.mk d q c[i]]);omega
   refine BH (λ_:Unit=>True) (λ_=>[(0,.d (jX c)),(1,.d (ci d)),(2,.d (cb q)),(3,.h 2),(9,.d (ci i)),(10,.lp 1104 0)]) (λ_=>[(2,wR (S4.eG c[i].e (d+1) q (S4.eG c[i].t (d+1) q (Q++[iN.mk d q c[i]])))),(1104,.cells false (c[i].aT1.map A.d))]) 4000 ?_ ?_
   ·skip
    repeat'(first|((with_reducible refine wr ?_);(conv=>whnf))|((with_reducible refine FC.mk (RG (by(try dsimp only);omega) (by(try dsimp only);omega)) ?_);(conv=>whnf)))
    by_cases hx:c[i].e=[]\/512<(S4.eG c[i].t (d+1) q (Q++[iN.mk d q c[i]])).length
    ·have he:S4.eG c[i].e (d+1) q (S4.eG c[i].t (d+1) q (Q++[iN.mk d q c[i]]))=S4.eG c[i].t (d+1) q (Q++[iN.mk d q c[i]]):=by
      rcases hx with h|h
      ·rw[h,S4.eG]
      ·rw[S4.tN _ _ _ _ h]
     refine dZ.mk (.h 2) [] (mD c[i].e (d+1) q (S4.eG c[i].t (d+1) q (Q++[iN.mk d q c[i]])) hx oM rfl) ?_;conv=>whnf
     repeat'(with_reducible (first|refine w9 ?_|refine nN.mk ?_))
     refine⟨(),tV,?_⟩;rw[he];exact mZ
    ·have R2:c[i].e≠[]:=λe=>hx (.inl e);have hx2:(S4.eG c[i].t (d+1) q (Q++[iN.mk d q c[i]])).length<=512:=by have:¬512<(S4.eG c[i].t (d+1) q (Q++[iN.mk d q c[i]])).length:=λe=>hx (.inr e);omega
     refine dZ.mk (.h 400) [(400,wR (S4.eG c[i].e (d+1) q (S4.eG c[i].t (d+1) q (Q++[iN.mk d q c[i]])))),(2,.dead)] (wG.at (ih c[i].e oM) R2 (d:=d+1) (q:=q) oM oM hx2 rfl rfl) ?_;conv=>whnf
     repeat'(with_reducible (first|refine w9 ?_|refine nN.mk ?_))
     refine⟨(),tV,?_⟩;exact mv 400 2
   rintro _ _;have hl2:(S4.eG c[i].e (d+1) q (S4.eG c[i].t (d+1) q (Q++[iN.mk d q c[i]]))).length<=513+S4.dB c[i].t+S4.dB c[i].e:=by
    have:=S4.pW c[i].e (d+1) q (S4.eG c[i].t (d+1) q (Q++[iN.mk d q c[i]]));omega
   have hk3:S4.eG (c.drop (i+1)) d q (S4.eG c[i].c (d+1) true (S4.eG c[i].e (d+1) q (S4.eG c[i].t (d+1) q (Q++[iN.mk d q c[i]]))))=S4.eG c d q []:=by
    rw[<-hk,S4.aH3 c i aW3 d q Q oM,S4.WR]
   have hl3:(S4.eG c[i].c (d+1) true (S4.eG c[i].e (d+1) q (S4.eG c[i].t (d+1) q (Q++[iN.mk d q c[i]])))).length<=512+S4.dB c:=by
    have h1:=S4.aOV c[i] d q Q;rw[S4.WR]at h1;omega
   refine bl ?_;by_cases hx:c[i].c=[]\/512<(S4.eG c[i].e (d+1) q (S4.eG c[i].t (d+1) q (Q++[iN.mk d q c[i]]))).length
   ·have he:S4.eG c[i].c (d+1) true (S4.eG c[i].e (d+1) q (S4.eG c[i].t (d+1) q (Q++[iN.mk d q c[i]])))=S4.eG c[i].e (d+1) q (S4.eG c[i].t (d+1) q (Q++[iN.mk d q c[i]])):=by
     rcases hx with h|h
     ·rw[h,S4.eG]
     ·rw[S4.tN _ _ _ _ h]
    refine dZ.mk (.h 2) [] (mD c[i].c (d+1) true (S4.eG c[i].e (d+1) q (S4.eG c[i].t (d+1) q (Q++[iN.mk d q c[i]]))) hx oM rfl) ?_;conv=>whnf
    refine bl ?_;refine⟨(i+1,S4.eG c[i].c (d+1) true (S4.eG c[i].e (d+1) q (S4.eG c[i].t (d+1) q (Q++[iN.mk d q c[i]])))),dM,⟨dM,hk3,hl3,λe=>by cases e⟩,?_⟩;dsimp only;rw[aT7 oM,aT7 oM];rw[he];exact mZ
   ·have R2:c[i].c≠[]:=λe=>hx (.inl e);have hx2:(S4.eG c[i].e (d+1) q (S4.eG c[i].t (d+1) q (Q++[iN.mk d q c[i]]))).length<=512:=by have:¬512<(S4.eG c[i].e (d+1) q (S4.eG c[i].t (d+1) q (Q++[iN.mk d q c[i]]))).length:=λe=>hx (.inr e);omega
    refine dZ.mk (.h 400) [(400,wR (S4.eG c[i].c (d+1) true (S4.eG c[i].e (d+1) q (S4.eG c[i].t (d+1) q (Q++[iN.mk d q c[i]]))))),(2,.dead)] (wG.at (ih c[i].c oM) R2 (d:=d+1) (q:=true) oM oM hx2 rfl rfl) ?_;conv=>whnf
    refine bl ?_;refine⟨(i+1,S4.eG c[i].c (d+1) true (S4.eG c[i].e (d+1) q (S4.eG c[i].t (d+1) q (Q++[iN.mk d q c[i]])))),dM,⟨dM,hk3,hl3,λe=>by cases e⟩,?_⟩;dsimp only;rw[aT7 oM,aT7 oM];exact mv 400 2
  ·have aWW:Q=S4.eG c d q []:=by
    rw[<-hk];by_cases h:i<c.length
    ·rw[S4.tN _ _ _ _ oM]
    ·rw[dT oM,S4.eG]
   repeat'(first|refine bl ?_|refine bS (λh=>?_) (λh=>?_))
   all_goals first
    |exact absurd aM hc
    |(exfalso;(try simp only[bE,aB]at*);omega)
    |skip
   all_goals
    rw[<-aWW];exact⟨2,rfl,rfl⟩
mutual
def S4.SZ:S4->Prop
 |.mk op name second jR bQ a b t e c w=>(S4.mk op name second jR bQ a b t e c w).GL/\S4.aO6 t/\S4.aO6 e/\S4.aO6 c
def S4.aO6:List S4->Prop
 |[]=>True
 |v::r=>S4.SZ v/\S4.aO6 r
end
mutual
theorem S4.aXC:∀(v:S4)(d:Int)(q:Bool)(l:List iN),v.SZ->(∀r∈l,r.stmt.GL)->∀r∈v.rk d q l,r.stmt.GL
 |.mk op name second jR bQ a b t e c w,d,q,l,h,hl=>by
  rw[S4.SZ]at h;obtain⟨h1,ht,he,hc⟩:=h;rw[S4.rk];refine S4.aOU c _ _ _ hc (S4.aOU e _ _ _ he (S4.aOU t _ _ _ ht λr hr=>?_));rcases bN.1 hr with hr|hr
  ·exact hl r hr
  ·rw[aR.1 hr];exact h1
theorem S4.aOU:∀(c:List S4)(d:Int)(q:Bool)(l:List iN),S4.aO6 c->(∀r∈l,r.stmt.GL)->∀r∈S4.eG c d q l,r.stmt.GL
 |[],d,q,l,h,hl=>by rw[S4.eG];exact hl
 |v::r,d,q,l,h,hl=>by
  rw[S4.aO6]at h;rw[S4.eG];split
  ·exact S4.aOU r d q _ h.2 (S4.aXC v d q l h.1 hl)
  ·exact hl
end
def KZ(c:List S4):List iN:=S4.eG c 0 false []
theorem aS3:KZ []=[]:=by rw[KZ,S4.eG]
theorem aS2(c:List S4):(KZ c).length<=S4.dB c:=by
 have:=S4.pW c 0 false [];rw[cS,fF]at this;exact this
theorem aSW:Pu 200 [.d (jX [])] (.d (.nl 19)):=by
 refine iC mix Tryz.func200 ?_
 repeat'(first|refine bl ?_|refine aF (aTC 0 false) (bw ?_))
 exact .one (.d _)
theorem aSV(c:List S4)(hv:S4.dB c<=2^36)(hc:c≠[]):∀(m:Mem)(j:Nat),m j=none->aJ Tryz.prog 200 [.d (jX c)] m (.ok (.h j)) (aX m j (wR (KZ c))):=by
 refine iW mix (F:=A.h) (r:=wR (KZ c)) Tryz.func200 rfl kK (bD rfl) rfl (oJ _ _ _) (λ_ _=>rfl) (λi j hj=>by simpa [A.hs]using hj) (λg=>aDS g _) ?_;refine bl ?_;refine fQ (F:=A.h) (r:=wR (KZ c)) (aTB c hv hc 0 false oM oM) 700 rfl ?_;conv=>whnf
 refine bl ?_
 all_goals exact⟨_,rfl,rfl⟩
def HV:List iN->Nat->Int×Int
 |[],_=>(0,0)
 |r::R,i=>if 512<=i then(512,4)else if r.stmt.qP=true then HV R (i+1)else(i,160)
theorem aTP(L:List iN)(i:Nat)(h:i<L.length)(h2:i<512):HV (L.drop i) i=if L[i].stmt.qP=true then HV (L.drop (i+1)) (i+1)else((i:Int),160):=by
 rw[dE h,HV,aT7 oM]
theorem aUY(L:List iN)(i:Nat)(h:L.length<=i):HV (L.drop i) i=(0,0):=by
 rw[dT h,HV]
theorem aUX(L:List iN)(h:512<L.length):HV (L.drop 512) 512=(512,4):=by
 rw[dE h,HV,aUF (bT _)]
theorem aQD(c:List S4)(hv:S4.dB c<=2^36)(ho:S4.aO6 c):Pu 162 [.d (jX c)] (.eL [.d (ci (HV (KZ c) 0).1),.d (ci (HV (KZ c) 0).2)]):=by
 have mS:∀r∈KZ c,r.stmt.GL:=S4.aOU c 0 false [] ho sM;have hrl:=aS2 c;refine iC mix Tryz.func162 ?_
 skip
 refine tG ?_
 repeat'(first|with_reducible (first|refine w9 ?_|refine nN.mk ?_)|((with_reducible refine wr ?_);(conv=>whnf)))
 refine BH (λ_:Unit=>True) (λ_=>[(4,.d (.sl 19 (OB (KZ c))))]) (λ_=>[]) 1000 ?_ ?_
 ·by_cases hc:c=[]
  ·subst hc
   repeat'(first|with_reducible (first|refine w9 ?_|refine nN.mk ?_)|((with_reducible refine wr ?_);(conv=>whnf))|((refine aF aSW ?_);(conv=>whnf)))
   refine⟨(),tV,?_⟩;exact cN.freeze [] tV ⟨.rd (aVF aS3),tV⟩ tV ⟨tV,tV⟩ trivial
  ·skip
   repeat'((with_reducible refine wr ?_);(conv=>whnf))
   refine fQ (F:=A.h) (r:=wR (KZ c)) (aSV c hv hc) 700 rfl ?_;conv=>whnf
   repeat'(with_reducible (first|refine w9 ?_|refine nN.mk ?_))
   refine⟨(),tV,?_⟩;exact cN.freeze [700] tV ⟨.rd (.dU (eX rfl rfl)),tV⟩ tV ⟨tV,tV⟩ trivial
 rintro _ _;refine bl ?_;generalize KZ c=L at mS hrl⊢;refine bV mix (λi:Nat=>i<=L.length/\i<=512/\HV (L.drop i) i=HV L 0) (I:=λi=>[(4,.d (.sl 19 (OB L))),(5,.d (ci i))])
  (J:=λi=>[]) (μ:=λi=>L.length -i) 2000 0 ⟨oM,oM,rfl⟩ mZ ?_
 rintro i ⟨hi,hi5,h0⟩;by_cases hgo:i<L.length/\i<512
 ·obtain⟨cX,a2G⟩:=hgo;rw[aTP L i cX a2G]at h0;have eB:=aRA L[i].stmt (mS _ (aY cX))
  repeat'(first|refine bl ?_|refine bS (λh=>?_) (λh=>?_)|refine cD rfl eD cX (bw ?_)|refine dR eB (.cons (.same _) .nil) (bw ?_))
  all_goals try(exfalso;(try simp only[aB]at*);omega)
  ·have hf:L[i].stmt.qP=false:=aM;rw[hf,aT7 gO]at h0;rw[<-h0];exact .eL (cs:=[ci i,ci 160]) (.cons (.d _) (.cons (.d _) .nil))
  ·have hf:L[i].stmt.qP=true:=aM;rw[hf,aUF rfl]at h0;exact⟨i+1,oM,⟨oM,oM,h0⟩,mZ⟩
 ·skip
  repeat'(first|refine bl ?_|refine bS (λh=>?_) (λh=>?_)|refine cD rfl eD oM (bw ?_))
  all_goals try(exfalso;(try simp only[aB]at*);omega)
  all_goals first
   |(have hl:512<L.length:=by omega
     have hi':i=512:=oM;subst hi';rw[aUX L hl]at h0;rw[<-h0]
     exact .eL (cs:=[ci 512,ci 4]) (.cons (.d _) (.cons (.d _) .nil)))
   |(have hl:L.length<=i:=by omega
     rw[aUY L i hl]at h0;rw[<-h0]
     exact .eL (cs:=[ci 0,ci 0]) (.cons (.d _) (.cons (.d _) .nil)))
def S2(c:List S4):Bool:=decide ((HV (KZ c) 0).2=0)
theorem aSS(c:List S4)(hv:S4.dB c<=2^36)(ho:S4.aO6 c):Pu 109 [.d (jX c)] (.d (cb (S2 c))):=by
 refine iC mix Tryz.func109 ?_
 repeat'(first|refine bl ?_|refine aF (aQD c hv ho) (bw ?_))
 all_goals exact dP rfl
def y6(K:List Int):List (Ky×A):=K.map λr=>(kI r,.d (cb true))
theorem aT2(K:List Int)(r:Int):fL (kI r) (y6 K)=(K.find? λf=>decide (f=r)).map λ_=>.d (cb true):=wZ (λf:Int=>f) (λ_=>A.d (cb true)) r K
theorem aRQ{kt:TypeId}{r:Int}(hk:KC.fits P kt (.int .i64 0)=true)(K:List Int):kH P kt (kI r) (y6 K)=true:=aJ1 (λf:Int=>f) (λ_=>A.d (cb true)) r K hk
theorem aPB(K:List Int)(r:Int):(K.find? λf=>decide (f=r)).isSome=decide (r∈K):=by
 cases h:K.find? λf=>decide (f=r)with
 |none=>
  rw[mN]at h;refine(aU0 λhm=>?_).symm;exact h r hm sM
 |some f=>
  have h1:=cT h;have h2:f=r:=by have:=iD h;simpa using this
  exact(aUZ (h2▸h1)).symm
theorem aW5{kt:TypeId}{r:Int}{k1:A->Prop}{k0:Prop}(hk:KC.fits P kt (.int .i64 0)=true)(h0:k1 (.d (cb false))->k0)(h1:k1 (.d (cb (decide (r∈K))))):n5 (kH P kt (kI r) (y6 K)) (fL (kI r) (y6 K)) k1 k0:=by
 have hf:=aRQ (P:=P) (r:=r) hk K;have hg:=aT2 K r;rw[<-aPB]at h1;cases h:K.find? λf=>decide (f=r)with
 |none=>rw[h]at hg h1;exact .BP hf hg (h0 h1)
 |some f=>rw[h]at hg h1;exact .CL _ hf hg h1
theorem aXD{kt:TypeId}{r:Int}{X1 X0:Prop}(hk:KC.fits P kt (.int .i64 0)=true)(h1:r∈K->X1)(h0:r∉K->X0):aB4 (kH P kt (kI r) (y6 K)) (fL (kI r) (y6 K)) X1 X0:=by
 have hf:=aRQ (P:=P) (r:=r) hk K;have hg:=aT2 K r;have hm:=aPB K r;cases h:K.find? λf=>decide (f=r)with
 |none=>rw[h]at hg hm;exact .BP hf hg (h0 (of_decide_eq_false hm.symm))
 |some f=>rw[h]at hg hm;exact .CL hf (by rw[hg];simp) (h1 (aUL hm.symm))
theorem aU7(K:List Int)(r:Int):y6 K++[(kI r,.d (cb true))]=y6 (K++[r]):=by simp[y6]
theorem aWC(K:List Int):A.lQ ((y6 K).map (·.2))=[]:=by
 have e:(y6 K).map (·.2)=(K.map λ_=>cb true).map A.d:=by unfold y6;rw[bH,bH];rfl
 rw[e,wX]
theorem F2{ml:List (Nat×R)}{fz:Bool}:rB ml (R.mp fz (y6 K) []).hs:=by
 show rB _ (A.lQ ((y6 K).map (·.2))++[]);rw[aWC];trivial
theorem aQ7{ml:List (Nat×R)}{i:Nat}{g:Nat->Nat}{fz:Bool}{kv:List (Ky×A)}(h:aK ml i=some (.mp fz kv []))(he:kv=y6 K):(aK ml i).map (R.eZ g)=some (.mp fz (y6 K) []):=by
 rw[h,he];show some (R.mp fz ((y6 K).map λp=>(p.1,p.2.eZ g)) [])=_;congr 2;unfold y6;rw[bH];rfl
def R4.K1(w:R4)(r:Int):Bool:=decide (1<=r)&&decide (r<=w.last)
def R4.aDF(w:R4)(u:U4)(r:Int):Bool:=w.mI r&&decide (r∈u.seen)
def R4.MR(w:R4)(u:U4):Bool:=(w.HU u.side&&(S2 u.code&&(aAT u.names&&decide (u.seen.length<=524288))))&&((u.seen.all w.K1&&decide u.seen.Nodup)&&u.names.all λn=>n.value.refs.all (w.aDF u))
structure U4.wD(u:U4):Prop where
 side:-9223372036854775808<=u.side/\u.side<=9223372036854775807
 code:S4.dB u.code<=2^36
 SZ:S4.aO6 u.code
 names:V.dB (u.names.map (·.value))<=2^34
 nwt:V.B5 (u.names.map (·.value))
 nsz:∀n∈u.names,n.name.size<=2^40
 nlen:u.names.length<=2^34
 seen:u.seen.length<=2^35
theorem aSU(w:R4)(hw:w.wt)(u:U4)(hu:u.wD):Pu 51 [.d (.ip w.aT1),.d (.agg u.aT1)] (.d (cb (w.MR u))):=by
 have pG:∀m,w.MR u=false->A1 m (.d (cb false)) (.d (cb (w.MR u))):=λm h=>by rw[h];exact dP rfl
 have LB:=hu.seen;refine iC mix Tryz.func51 ?_
 repeat'(first|refine bl ?_|refine bS (λh=>?_) (λh=>?_)|refine aF (aRK w u.side hu.side.1 hu.side.2) (bw ?_)|refine aF (aSS u.code hu.code hu.SZ) (bw ?_)|refine aF (aPT u.names (by have:=hu.names;omega) (by have:=hu.nlen;omega) hu.nwt hu.nsz) (bw ?_))
 ·exact pG _ (by unfold R4.MR;simp_all)
 ·exact pG _ (by unfold R4.MR;simp_all)
 ·exact pG _ (by unfold R4.MR;simp_all)
 ·exact pG _ (by unfold R4.MR;rw[show decide (u.seen.length<=524288)=false from aU0 oM];simp)
 have hck:w.MR u=((u.seen.all w.K1&&decide u.seen.Nodup)&&u.names.all λn=>n.value.refs.all (w.aDF u)):=by
  unfold R4.MR;rw[‹w.HU u.side=true›,‹S2 u.code=true›,‹aAT u.names=true›,aUZ (by omega:u.seen.length<=524288)];rfl
 refine cY mix (λi:Nat=>i<=u.seen.length/\(u.seen.take i).all w.K1=true/\(u.seen.take i).Nodup) (I:=λi=>[(0,.d (.ip w.aT1)),(3,.lp 1 0),(5,.h 201),(6,.d (ci i))])
  (J:=λi=>[(1,.cells false (u.aT1.map A.d)),(201,.mp false (y6 (u.seen.take i)) [])]) (μ:=λi=>u.seen.length -i) 1000 0 0
  (λ_:Unit=>(u.seen.all w.K1&&decide u.seen.Nodup)=true) (λ_=>[(0,.d (.ip w.aT1)),(3,.lp 1 0),(5,.h 201)]) (λ_=>[(1,.cells false (u.aT1.map A.d)),(201,.mp false (y6 u.seen) [])]) 2000 ⟨oM,sM,sM⟩ mZ ?_ ?_
 ·rintro i ⟨hi,h0,h1⟩;by_cases cX:i<u.seen.length
  ·have aX4:w.K1 u.seen[i]=false->w.MR u=false:=λe=>by
    have:u.seen.all w.K1=false:=by rw[iA];exact⟨_,aY cX,by rw[e];decide⟩
    rw[hck,this];rfl
   have a15:u.seen[i]∈u.seen.take i->w.MR u=false:=λhm=>by
    have hn:¬u.seen.Nodup:=λhn=>((aBX u.seen i cX).1 (aO5 hn (i+1))).2 hm;rw[hck,aU0 hn];simp
   have J3:=aT cX;have y4:=aBX u.seen i cX;have has:=ZO w.K1 u.seen i cX h0
   repeat'(first|refine bl ?_|refine bS (λh=>?_) (λh=>?_)|refine cD rfl eD cX (bw ?_)|refine aW5 eD (λh=>h) (bw ?_))
   ·exact pG _ (aX4 (by unfold R4.K1;rw[show decide (1<=u.seen[i])=false from aU0 oM];rfl))
   ·exact pG _ (aX4 (by unfold R4.K1;rw[show decide (u.seen[i]<=w.last)=false from aU0 oM];simp))
   ·exact pG _ (a15 aM)
   ·have hsb:w.K1 u.seen[i]=true:=by unfold R4.K1;rw[aUZ aM,aUZ aM];rfl
    have hnm:u.seen[i]∉u.seen.take i:=aM;refine aXD eD (λhh=>absurd hh hnm) (λhh=>?_);conv=>whnf
    refine bl ?_;refine⟨i+1,oM,⟨oM,has hsb,y4.2 ⟨h1,hnm⟩⟩,?_⟩;rw[J3];have aZJ:=aU7 (u.seen.take i) u.seen[i]
    (refine cN.swap 5000 5001 ?_ ?_ ?_ ?_ ?_<;>repeat'(first|exact aW|exact rfl|exact sn|refine bI ?_ ?_))
    all_goals first|exact F2|exact aQ7 rfl aZJ
   ·exfalso;omega
  ·skip
   refine bl ?_;refine O8.f (aU0 (by(try simp only[aB]);omega)) ?_;refine bl ?_;rw[aI oM]at h0 h1⊢;refine⟨(),by rw[h0,aUZ h1];rfl,?_⟩
   (refine cN.swap 5000 5001 ?_ ?_ ?_ ?_ ?_<;>repeat'(first|exact aW|exact rfl|exact sn|refine bI ?_ ?_))
   all_goals first|exact F2|exact aQ7 rfl rfl
 rintro _ hsn;rw[hsn,cA]at hck;refine bl ?_;have E0:=hu.nlen;refine bV mix (λi:Nat=>i<=u.names.length/\(u.names.take i).all (λn=>n.value.refs.all (w.aDF u))=true) (I:=λi=>[(0,.d (.ip w.aT1)),(3,.lp 1 0),(5,.h 201),(7,.d (ci i))])
  (J:=λi=>[(1,.cells false (u.aT1.map A.d)),(201,.mp false (y6 u.seen) [])]) (μ:=λi=>u.names.length -i) 3000 0 ⟨oM,sM⟩ ?_ ?_
 ·skip
  (refine cN.swap 5000 5001 ?_ ?_ ?_ ?_ ?_<;>repeat'(first|exact aW|exact rfl|exact sn|refine bI ?_ ?_))
  all_goals first|exact F2|exact aQ7 rfl rfl
 rintro i ⟨hi,h0⟩;by_cases cX:i<u.names.length
 ·have hvb:u.names[i].value.cR<=2^34:=by
   have:=V.dG (u.names.map (·.value)) i (by simpa using cX);rw[fO]at this;have:=hu.names;omega
  have hrl:=V.EO u.names[i].value;have aX4:u.names[i].value.refs.all (w.aDF u)=false->w.MR u=false:=λe=>by
   rw[hck,iA];exact⟨_,aY cX,by rw[e];decide⟩
  have has:=ZO (λn:N4=>n.value.refs.all (w.aDF u)) u.names i cX h0;refine bl ?_;refine O8.t (aUZ (by(try simp only[aB]);omega)) ?_
  repeat'(first|refine bl ?_|refine cD rfl eD cX (bw ?_)|refine dR (aPI u.names[i].value oM) (.cons (.same _) .nil) (bw ?_))
  generalize u.names[i].value.refs=L at hrl aX4 has⊢;refine cY mix (λk:Nat=>k<=L.length/\(L.take k).all (w.aDF u)=true) (I:=λk=>[(0,.d (.ip w.aT1)),(3,.lp 1 0),(5,.h 201),(7,.d (ci i)),(8,.d (.sl 1 (iR L))),(9,.d (ci k))])
   (J:=λk=>[(1,.cells false (u.aT1.map A.d)),(201,.mp false (y6 u.seen) [])]) (μ:=λk=>L.length -k) 4000 0 4
   (λ_:Unit=>L.all (w.aDF u)=true) (λ_=>[(0,.d (.ip w.aT1)),(3,.lp 1 0),(5,.h 201),(7,.d (ci i))]) (λ_=>[(1,.cells false (u.aT1.map A.d)),(201,.mp false (y6 u.seen) [])]) 5000 ⟨oM,sM⟩ ?_ ?_ ?_
  ·skip
   (refine cN.swap 5000 5001 ?_ ?_ ?_ ?_ ?_<;>repeat'(first|exact aW|exact rfl|exact sn|refine bI ?_ ?_))
   all_goals first|exact F2|exact aQ7 rfl rfl
  ·rintro k ⟨hk,h1⟩;by_cases hlk:k<L.length
   ·have aZV:w.aDF u L[k]=false->w.MR u=false:=λe=>aX4 (by rw[iA];exact⟨_,aY hlk,by rw[e];decide⟩);have hs2:=ZO (w.aDF u) L k hlk h1
    repeat'(first|refine bl ?_|refine bS (λh=>?_) (λh=>?_)|refine cD rfl eD hlk (bw ?_)|refine aF (zP w L[k] hw.len) (bw ?_)|refine aW5 eD (λh=>h) (bw ?_))
    ·exact pG _ (aZV (by unfold R4.aDF;rw[‹w.mI _=false›];rfl))
    ·exact pG _ (aZV (by unfold R4.aDF;rw[show decide (L[k]∈u.seen)=false from aU0 aM];simp))
    ·refine⟨k+1,oM,⟨oM,hs2 (by unfold R4.aDF;rw[‹w.mI _=true›,show decide (L[k]∈u.seen)=true from aUZ aM];rfl)⟩,?_⟩
     (refine cN.swap 5000 5001 ?_ ?_ ?_ ?_ ?_<;>repeat'(first|exact aW|exact rfl|exact sn|refine bI ?_ ?_))
     all_goals first|exact F2|exact aQ7 rfl rfl
    ·exfalso;omega
   ·skip
    refine bl ?_;refine O8.f (aU0 (by(try simp only[aB]);omega)) ?_;refine bl ?_;rw[aI oM]at h1;refine⟨(),h1,?_⟩
    (refine cN.swap 5000 5001 ?_ ?_ ?_ ?_ ?_<;>repeat'(first|exact aW|exact rfl|exact sn|refine bI ?_ ?_))
    all_goals first|exact F2|exact aQ7 rfl rfl
  rintro _ aWV;refine bl ?_;refine⟨i+1,oM,⟨oM,has aWV⟩,?_⟩
  (refine cN.swap 5000 5001 ?_ ?_ ?_ ?_ ?_<;>repeat'(first|exact aW|exact rfl|exact sn|refine bI ?_ ?_))
  all_goals first|exact F2|exact aQ7 rfl rfl
 ·rw[aI oM]at h0;rw[h0]at hck;rw[hck];refine bl ?_;refine O8.f (aU0 (by(try simp only[aB]);omega)) ?_;refine bl ?_;exact dP rfl
theorem aWT{w:World}{M:Nat->Prop}{m:Mem}{ρ:Nat->Value}{l:List A}{cs:List C}(hl:IN l (cs.map A.d)){y:Value}(hy:(A.agg l).Den w M m ρ y):(A.d (.agg cs)).Den w M m ρ y:=by
 refine I3 ?_;simp only[A.Den]at hy⊢;obtain⟨vs,e,h2⟩:=hy;exact⟨vs,e,h2.1,hl.den h2.2⟩
theorem aQ2{f:FuncId}{l:List A}{cs:List C}{ml:List (Nat×R)}{k:A->List (Nat×R)->Prop}{v:A}(h:∀m,aJ P f [.d (.agg cs)] m (.ok v) m)(hw:IN l (cs.map A.d))(hk:k v []):dZ P f [.agg l] ml k:=
 aF (λm=>(h m).args λw M ρ vs h=>aCK (λy h=>aWT hw h) h) hk
def l9(N:List N4):List Int:=((N.map (·.value)).map V.refs).flatten
def W4.RU(N:List N4):W4:=⟨0,0,V.zero,[],0,0,0,0,0,false,[],N⟩
theorem aUB(N:List N4):(W4.RU N).refs=l9 N:=by
 unfold W4.refs W4.RU W4.vA l9;rw[aG,dL];have:V.zero.refs=[]:=by rw[V.sF];rfl
 rw[this];rfl
theorem aU8(N:List N4):(W4.RU N).cR=1+N.length+V.dB (N.map (·.value)):=by
 unfold W4.cR W4.RU;have:V.cR V.zero=1:=rfl;rw[this];simp only[V.dB,S4.dB]
theorem aPK(u:U4)(hn:V.dB (u.names.map (·.value))<=2^30)(hl:u.names.length<=2^34):Pu 32 [.d (.agg u.aT1)] (.d (.sl 1 (iR (kV (l9 u.names))))):=by
 have hc:=aU8 u.names;have hrf:=aOR (W4.RU u.names) oM;rw[aUB]at hrf;have E0:(l9 u.names).length<=2^30:=cL (aHQ _) hn;refine iC mix Tryz.func32 ?_;refine bl ?_;refine aQ2 (cs:=(W4.RU u.names).aT1) hrf (by repeat'(first|exact IN.nil|refine IN.cons (by first|exact Wa.same _|exact Wa.nl _ _) ?_)) ?_;conv=>whnf
 repeat'(first|refine bl ?_|refine aF (aH2 (l9 u.names) E0) (bw ?_))
 exact .one (.d _)
structure R4.gA(w:R4):Prop extends w.wt where
 sm:∀t∈w.aT4,t.bQ.cR<=2^28
theorem R4.gA.refs{w:R4}(h:w.gA)(r:Int):(w.iI r).refs.length<=2^28/\(w.iI r).cR<=2^28:=by
 have hc:(w.iI r).cR<=2^28:=by
  unfold R4.iI;cases hf:w.find r with
  |none=>exact bD rfl
  |some t=>exact h.sm t (cT hf)
 refine⟨cL ?_ hc,hc⟩;exact cL (aHQ _) (W4.aF6 _)
def R4.rE(w:R4)(r:Int):Int:=if w.mI r=true then 0 else 5
def R4.SV(w:R4)(r:Int):List Int:=if w.mI r=true then kV (w.iI r).refs else []
theorem aRF(w:R4)(hw:w.gA)(r:Int):Pu 33 [.d (.ip w.aT1),.d (ci r)] (.eL [.d (.sl 1 (iR (w.SV r))),.d (ci (w.rE r))]):=by
 obtain⟨h1,h2⟩:=hw.refs r;refine iC mix Tryz.func33 ?_
 repeat'(first|refine bl ?_|refine bS (λh=>?_) (λh=>?_)|refine aF (zP w r hw.len) (bw ?_)|refine fT (cs:=(w.iI r).aT1) (aOR (w.iI r) oM) (bw ?_)|refine aF (aH2 (w.iI r).refs oM) (bw ?_))
 ·have hb:w.mI r=false:=aM;unfold R4.SV R4.rE;rw[hb,aT7 gO,aT7 gO];exact .eL (cs:=[.sl 1 (iR []),ci 5]) (.cons (.nz _ _) (.cons (.d _) .nil))
 ·have hb:w.mI r=true:=aM;unfold R4.SV R4.rE;rw[hb,aUF rfl,aUF rfl];exact .eL (cs:=[.sl 1 (iR _),ci 0]) (.cons (.d _) (.cons (.d _) .nil))
def R4.LY(w:R4)(r:Int):List Int:=
 if w.mI r=false then []
 else if(w.iI r).kind=14\/(w.iI r).kind=11 then [(w.iI r).of]
 else if(w.iI r).kind=15\/(w.iI r).kind=16 then [(w.iI r).of,(w.iI r).by_]
 else []
theorem aQE(w:R4)(hw:w.gA)(r:Int):Pu 34 [.d (.ip w.aT1),.d (ci r)] (.eL [.d (.sl 1 (iR (w.LY r))),.d (ci (w.rE r))]):=by
 obtain⟨k0,k1⟩:=R4.AF hw.towt r;refine iC mix Tryz.func34 ?_
 repeat'(first|refine bl ?_|refine bS (λh=>?_) (λh=>?_)|refine aF (zP w r hw.len) (bw ?_))
 all_goals
  unfold R4.LY R4.rE
  first
  |(rw[aUF aM,aT7 (by simp[‹w.mI r=false›])];exact .eL (cs:=[.sl 1 [],ci 5]) (.cons (.nz _ _) (.cons (.d _) .nil)))
  |(rw[aT7 (by simp[‹w.mI r=true›]),aUF ‹w.mI r=true›]
    first
    |(rw[aUF oM];exact .eL (cs:=[.sl 1 (iR [(w.iI r).of]),ci 0]) (.cons (.dU (t:=25) rfl) (.cons (.d _) .nil)))
    |(rw[aT7 oM,aUF oM];exact .eL (cs:=[.sl 1 (iR [(w.iI r).of,(w.iI r).by_]),ci 0]) (.cons (.dU (t:=25) rfl) (.cons (.d _) .nil)))
    |(rw[aT7 oM,aT7 oM];exact .eL (cs:=[.sl 1 [],ci 0]) (.cons (.nz _ _) (.cons (.d _) .nil))))
theorem RJ(l:List Int):(kV l).length<=l.length:=by
 have:=aL6 l [];simpa [kV]using this
theorem XK(L:List Int)(r:Int):(L.any λx=>decide (x=r))=decide (r∈L):=by
 cases h:decide (r∈L)with
 |true=>
  rw[dQ];exact⟨r,aUL h,sM⟩
 |false=>
  have:=of_decide_eq_false h;rw[qR];intro x hx e;have:x=r:=by simpa using e
  subst this;contradiction
def xJ(l:List U4):List Int:=(l.map λu=>kV (l9 u.names)).flatten
theorem V.aKZ:∀l:List V,0<=V.kE l
 |[]=>by simp[V.kE]
 |v::r=>by have:=V.aKZ r;simp only[V.kE];omega
theorem V.aTQ(v:V):0<=v.deep:=by
 cases v with
 |mk k n s l r=>have:=V.aKZ l;simp only[V.deep];split<;>omega
theorem V.aOJ(k n:Int)(s:ByteArray)(l:List V)(r:Int):V.field (.mk k n s l r)=(if k=0 then decide (n=0/\s.size=0/\l.length=0/\r=0)
 else if k=1 then decide (s.size=0/\l.length=0/\r=0)
 else if k=2 then decide (n=0/\(s.size:Int)<=256/\l.length=0/\r=0)
 else if k=3 then decide (n=0/\s.size=0/\r=0)
 else if k=4 then decide (n=0/\s.size=0/\l.length=0/\1<=r)
 else false):=rfl
mutual
theorem V.aQT:∀(v:V)(p d p' d':Int),0<=p->0<=d->mQ v p d=(true,p',d')->p'=p -v.cR/\0<=p'/\d'=d/\v.deep<=d/\v.u7=true
 |.mk k n s l r,p,d,p',d',hp,hd,h=>by
  have ih:=V.aPN l (p -1) (d -1);rw[mQ]at h;by_cases h0:p=0
  ·rw[aUF h0]at h;simp at h
  rw[aT7 h0]at h;by_cases k0:k=0
  ·rw[aUF k0]at h;simp only[aD,aUA]at h;obtain⟨⟨a1,a2,a3,a4⟩,e1,e2⟩:=h;have:=bL a4;subst this;subst k0;simp[V.cR,V.dB,V.deep,V.kE,V.u7,V.y8,V.field,V.kind,V.n,V.s,V.l,V.r,a1,a2,a3];omega
  rw[aT7 k0]at h;by_cases k1:k=1
  ·rw[aUF k1]at h;simp only[aD,aUA]at h;obtain⟨⟨a2,a3,a4⟩,e1,e2⟩:=h;have:=bL a4;subst this;subst k1;simp[V.cR,V.dB,V.deep,V.kE,V.u7,V.y8,V.field,V.kind,V.n,V.s,V.l,V.r,a2,a3];omega
  rw[aT7 k1]at h;by_cases k2:k=2
  ·rw[aUF k2]at h;by_cases hs:256<(s.size:Int)
   ·rw[aUF hs]at h;simp at h
   rw[aT7 hs]at h;simp only[aD,aUA]at h;obtain⟨⟨a2,a3,a4⟩,e1,e2⟩:=h;have:=bL a4;subst this;subst k2;simp[V.cR,V.dB,V.deep,V.kE,V.u7,V.y8,V.field,V.kind,V.n,V.s,V.l,V.r,a2,a3];omega
  rw[aT7 k2]at h;by_cases k4:k=4
  ·rw[aUF k4]at h;by_cases hs:r<1
   ·rw[aUF hs]at h;simp at h
   rw[aT7 hs]at h;simp only[aD,aUA]at h;obtain⟨⟨a2,a3,a4⟩,e1,e2⟩:=h;have:=bL a4;subst this;subst k4;simp[V.cR,V.dB,V.deep,V.kE,V.u7,V.y8,V.field,V.kind,V.n,V.s,V.l,V.r,a2,a3];omega
  rw[aT7 k4]at h;by_cases k3:k=3
  ·rw[aUF k3]at h;by_cases hs:d=0\/p -1<(l.length:Int)
   ·rw[aUF hs]at h;simp at h
   rw[aT7 hs]at h;generalize nG l (p -1) (d -1)=q at ih h;obtain⟨b,p2,d2⟩:=q;cases b with
   |false=>simp at h
   |true=>
    simp only[aD,aUA]at h;obtain⟨⟨a2,a3,a4⟩,e1,e2⟩:=h;obtain⟨b1,b2,b3,b4,b5⟩:=ih p2 d2 oM oM rfl;subst k3;simp[V.cR,V.deep,V.u7,V.field,V.kind,V.n,V.s,V.l,V.r,a2,a3,a4,b5];omega
  rw[aT7 k3]at h;simp at h
theorem V.aPN:∀(l:List V)(p d p' d':Int),0<=p->0<=d->nG l p d=(true,p',d')->p'=p -V.dB l/\0<=p'/\d'=d/\V.kE l<=d/\V.y8 l=true
 |[],p,d,p',d',hp,hd,h=>by
  simp only[nG,aD,true_and]at h;simp[V.dB,V.kE,V.y8];omega
 |v::r,p,d,p',d',hp,hd,h=>by
  have h1:=V.aQT v p d;have h2:=V.aPN r;rw[nG]at h;generalize mQ v p d=q at h1 h;obtain⟨b,p2,d2⟩:=q;cases b with
  |false=>simp at h
  |true=>
   obtain⟨b1,b2,b3,b4,b5⟩:=h1 p2 d2 hp hd rfl;subst b3;obtain⟨c1,c2,c3,c4,c5⟩:=h2 p2 d2 p' d' b2 hd h;simp[V.dB,V.kE,V.y8,b5,c5];omega
end
mutual
theorem V.aQS:∀(v:V)(p d:Int),(v.cR:Int)<=p->v.deep<=d->0<=d->v.u7=true->mQ v p d=(true,p -v.cR,d)
 |.mk k n s l r,p,d,hp,hd,hd0,hf=>by
  have ih:=V.aPM l (p -1) (d -1);have hln:=V.eW l;have hdl:=V.aKZ l;simp only[V.cR]at hp;simp only[V.u7,aE]at hf;obtain⟨hfl,hf⟩:=hf;rw[V.aOJ]at hf;rw[mQ,aT7 oM];by_cases k0:k=0
  ·rw[aUF k0]at hf⊢;simp only[aUA]at hf;obtain⟨a1,a2,a3,a4⟩:=hf;have:=bL (l:=l) oM;subst this;simp[V.cR,V.dB,a1,a2,a4]
  rw[aT7 k0]at hf⊢;by_cases k1:k=1
  ·rw[aUF k1]at hf⊢;simp only[aUA]at hf;obtain⟨a1,a2,a3⟩:=hf;have:=bL (l:=l) oM;subst this;simp[V.cR,V.dB,a1,a2,a3]
  rw[aT7 k1]at hf⊢;by_cases k2:k=2
  ·rw[aUF k2]at hf⊢;simp only[aUA]at hf;obtain⟨a1,a2,a3,a4⟩:=hf;have:=bL (l:=l) oM;subst this;rw[aT7 oM];simp[V.cR,V.dB,a1,a4]
  rw[aT7 k2]at hf⊢;by_cases k3:k=3
  ·have hd2:V.kE l+1<=d:=by simpa [V.deep,k3]using hd
   rw[aUF k3]at hf;simp only[aUA]at hf;obtain⟨a1,a2,a3⟩:=hf;rw[aT7 oM,aUF k3,aT7 oM,ih oM oM oM hfl];simp[V.cR,a1,a2,a3];omega
  rw[aT7 k3]at hf;by_cases k4:k=4
  ·rw[aUF k4]at hf⊢;simp only[aUA]at hf;obtain⟨a1,a2,a3,a4⟩:=hf;have:=bL (l:=l) oM;subst this;rw[aT7 oM];simp[V.cR,V.dB,a1,a2]
  rw[aT7 k4]at hf;cases hf
theorem V.aPM:∀(l:List V)(p d:Int),(V.dB l:Int)<=p->V.kE l<=d->0<=d->V.y8 l=true->nG l p d=(true,p -V.dB l,d)
 |[],p,d,hp,hd,hd0,hf=>by simp[nG,V.dB]
 |v::r,p,d,hp,hd,hd0,hf=>by
  simp only[V.y8,aE]at hf;simp only[V.dB,V.kE]at hp hd;rw[nG,V.aQS v p d oM oM hd0 hf.1];simp only;rw[V.aPM r (p -v.cR) d oM oM hd0 hf.2];simp[V.dB];omega
end
mutual
theorem V.aAE:∀(v:V)(d:Int),v.GI d<=512->v.GI d=v.cR
 |.mk k n s l r,d,h=>by
  simp only[V.GI]at h⊢;split at h
  ·omega
  ·rename_i hd;rw[aT7 hd,V.TC l (d+1) 1 oM h];simp[V.cR]
theorem V.TC:∀(l:List V)(d n:Int),0<=n->V.pH l d n<=512->V.pH l d n=n+V.dB l
 |[],d,n,hn,h=>by simp[V.pH,V.dB]
 |v::r,d,n,hn,h=>by
  have h1:=V.aAE v d;have h2:=V.TC r d (n+V.GI v d);have h3:=(V.K5 v d).1;simp only[V.pH]at h⊢;by_cases h0:n<=512
  ·rw[aUF h0]at h⊢;by_cases h4:n+V.GI v d<=512
   ·rw[h2 oM h,h1 oM];simp[V.dB];omega
   ·rw[V.K4 r d _ oM]at h;omega
  ·rw[aT7 h0]at h;omega
end
mutual
theorem V.aFL:∀(v:V)(d:Int),(v.cR:Int)<=512->v.deep+d<=16->v.u7=true->v.GI d=v.cR
 |.mk k n s l r,d,hc,hd,hf=>by
  simp only[V.u7,aE]at hf;have hdp:=V.aTQ (.mk k n s l r);simp only[V.GI];rw[aT7 oM];cases l with
  |nil=>simp[V.pH,V.cR,V.dB]
  |cons v r'=>
   have k3:k=3:=by
    have hf:=hf.2;rw[V.aOJ]at hf;simp only[aQ]at hf;by_cases k3:k=3
    ·exact k3
    ·exfalso;rw[aT7 k3]at hf;by_cases k0:k=0
     ·rw[aUF k0]at hf;simp at hf
     rw[aT7 k0]at hf;by_cases k1:k=1
     ·rw[aUF k1]at hf;simp at hf
     rw[aT7 k1]at hf;by_cases k2:k=2
     ·rw[aUF k2]at hf;simp at hf
     rw[aT7 k2]at hf;by_cases k4:k=4
     ·rw[aUF k4]at hf;simp at hf
     rw[aT7 k4]at hf;cases hf
   simp only[V.deep]at hd;rw[aUF k3]at hd;simp only[V.cR]at hc⊢;rw[V.S9 (v::r') (d+1) 1 oM oM oM hf.1];simp
theorem V.S9:∀(l:List V)(d n:Int),0<=n->n+V.dB l<=512->V.kE l+d<=16->V.y8 l=true->V.pH l d n=n+V.dB l
 |[],d,n,hn,hc,hd,hf=>by simp[V.pH,V.dB]
 |v::r,d,n,hn,hc,hd,hf=>by
  simp only[V.y8,aE]at hf;simp only[V.dB,V.kE]at hc hd;simp only[V.pH];rw[aUF oM,V.aFL v d oM oM hf.1,V.S9 r d _ oM oM oM hf.2];simp[V.dB];omega
end
theorem V.aOC(v:V):v.nI=true↔(v.cR:Int)<=512/\v.deep<=16/\v.u7=true:=by
 unfold V.nI;simp only[aE,aUA];constructor
 ·rintro⟨h1,h2,h3⟩;have:=V.aAE v 0 h1;exact⟨oM,h2,h3⟩
 ·rintro⟨h1,h2,h3⟩;have:=V.aFL v 0 h1 oM h3;exact⟨oM,h2,h3⟩
theorem V.aU6(v:V):v.may=true↔(v.cR:Int)<=512/\v.deep<=16/\v.u7=true:=by
 unfold V.may V.aHT;rw[aUA];have hp:=v.PO;constructor
 ·intro h;cases hq:mQ v 512 16 with
  |mk b q=>
   obtain⟨p,d⟩:=q;rw[hq]at h;cases b with
   |false=>simp at h
   |true=>
    obtain⟨a,b,c,d1,e⟩:=V.aQT v 512 16 p d oM oM hq;exact⟨oM,d1,e⟩
 ·rintro⟨h1,h2,h3⟩;rw[V.aQS v 512 16 h1 h2 oM h3];simp only;omega
theorem V.QI(v:V):v.may=v.nI:=by rw[jT,v.aU6,v.aOC]
end Go.Pv
