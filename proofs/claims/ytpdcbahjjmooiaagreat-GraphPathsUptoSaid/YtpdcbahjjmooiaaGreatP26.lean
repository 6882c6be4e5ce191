import Derived.Test.YtpdcbahjjmooiaaGreatP25
import Derived.ProofKit
import Derived.OpenShut
import Derived.JoinedCond
import Derived.WideKeyArgs
/- A program logic over the model, contracts of the functions that the law reaches: part 26. (Names and blanks were shortened by program.) -/
set_option linter.unusedVariables false
set_option linter.unusedSimpArgs false
set_option linter.constructorNameAsVariable false
set_option linter.unusedSectionVars false
set_option linter.deprecated false
set_option maxRecDepth 100000
set_option maxHeartbeats 8000000
open Go Go.Proofs
namespace Go.Pv
open Go.RowKit
variable{st:Int->List Int}{to:Int}{H P:List Int}{n:Nat}{cs:List Value}{w:World}
theorem aFG(F:List (Int×Int)):∀(L:List Int)(b:Int),L.Pairwise (· <·)->(∀x∈L,b=0\/b<x)->(∀x∈L,0<cR F x->x≠0)->(L.foldl (tO F) b=b\/(0<cR F (L.foldl (tO F) b)/\(b=0\/cR F (L.foldl (tO F) b)<cR F b)))/\∀x∈L,0<cR F x->cR F x=cR F (L.foldl (tO F) b)->L.foldl (tO F) b<=x
 |[],b,_,_,_=>⟨.inl rfl,sM⟩
 |r::L,b,hp,hb,h0=>by
  rw[fX];rw[List.pairwise_cons]at hp;have hL:∀x∈L,0<cR F x->x≠0:=λx hx=>h0 x (by simp[hx]);by_cases hc:0<cR F r/\(b=0\/cR F r<cR F b)
  ·have e:tO F b r=r:=by unfold tO;rw[aUF hc]
   rw[e];have hr0:=h0 r sM hc.1;obtain⟨i1,i2⟩:=aFG F L r hp.2 (λx hx=>.inr (hp.1 x hx)) hL;generalize L.foldl (tO F) r=y at i1 i2;refine⟨.inr ?_,λx hx hx0 hxe=>?_⟩
   ·rcases i1 with rfl|⟨i1,i3⟩
    ·exact hc
    ·refine⟨i1,?_⟩;rcases i3 with i3|i3
     ·exact absurd i3 hr0
     ·rcases hc.2 with h|h
      ·exact .inl h
      ·exact .inr oM
   ·rcases aO.1 hx with rfl|hx
    ·rcases i1 with rfl|⟨_,i3⟩
     ·exact Int.le_refl _
     ·rcases i3 with i3|i3
      ·exact absurd i3 hr0
      ·omega
    ·exact i2 x hx hx0 hxe
  ·have e:tO F b r=b:=by unfold tO;rw[aT7 hc]
   rw[e];obtain⟨i1,i2⟩:=aFG F L b hp.2 (λx hx=>hb x (by simp[hx])) hL;generalize L.foldl (tO F) b=y at i1 i2;refine⟨i1,λx hx hx0 hxe=>?_⟩;rcases aO.1 hx with rfl|hx
   ·have hb0:b≠0:=λh=>hc ⟨hx0,.inl h⟩;have hcb:¬cR F x<cR F b:=λh=>hc ⟨hx0,.inr h⟩;rcases i1 with rfl|⟨_,i3⟩
    ·rcases hb x sM with h|h
     ·exact absurd h hb0
     ·omega
    ·rcases i3 with i3|i3
     ·exact absurd i3 hb0
     ·omega
   ·exact i2 x hx hx0 hxe
theorem aHY(F:List (Int×Int))(l:List Int)(h0:∀x∈l,0<cR F x->x≠0):∀x∈l,0<cR F x->cR F x=cR F (n0 F l)->n0 F l<=x:=λx hx=>by
 have hm:=o3 l;exact(aFG F (oZ l) 0 (K9 l) (λ_ _=>.inl rfl) (λx hx=>h0 x ((hm x).1 hx))).2 x ((hm x).2 hx)
theorem Y5{a:Int}{Q:List Int}(h:Trail st to (a::Q)):Way st to (Q.length+1) a:=aPY h 0 sM
theorem aQC{F:List (Int×Int)}{st:Int->List Int}{T:List Int}{to:Int}(h:aQ3 st T to F)(hst:∀r,r∉T->st r=[])(hl:∀r∈T,∀q∈st r,wP F r q=false)(h0:cR F 0=0):∀(n m:Nat)(a:Int)(out P Q:List Int),cR F a=(n:Int)->0<n->n<=m->goS F st to m a out=(out++a::P,true)->Trail st to (a::Q)->Q.length+1=n->leL P Q
 |0,m,a,out,P,Q,hc,hn,_,_,_,_=>oM
 |n+1,0,a,out,P,Q,hc,hn,hm,_,_,_=>oM
 |n+1,m+1,a,out,P,Q,hc,hn,hm,hg,hQ,hQl=>by
  have ha0:a≠0:=by rintro rfl;omega
  rw[goS,aT7 ha0]at hg;by_cases e:a=to
  ·rw[aUF e]at hg;have h1:=h.inv.at1;rw[<-e,hc]at h1;have hP:P=[]:=by
    simp only[aD,and_true,List.append_cancel_left_eq,iX,true_and]at hg;exact hg.symm
   have hQ0:Q=[]:=iL.1 oM;exact .inl (by rw[hP,hQ0])
  ·rw[aT7 e]at hg;cases hQ with
   |one=>exact absurd rfl e
   | @cons _ c Q2 hq hQ=>
     have hwc:=Y5 hQ;have hlc:=h.least _ _ hwc;have hne:∀x∈st a,0<cR F x->x≠0:=λx _ hx=>by rintro rfl;omega
     rcases I5 F (st a) hne with⟨g1,g2⟩|⟨g1,g2,g3,g4⟩
     ·exact absurd hlc.1 (g2 c hq)
     ·have g5:=g4 c hq hlc.1;have hwb:=h.inv.way _ g2;have hla:=h.least _ _ (Way.step g3 hwb);simp only[aQ]at hQl;obtain⟨P2,p1,_,_⟩:=aAG h hst hl h0 n m (n0 F (st a)) (out++[a]) oM oM oM;have hP:P=n0 F (st a)::P2:=by
       rw[p1]at hg;simp only[bG,aD,and_true,List.append_cancel_left_eq,qY,iX,true_and]at hg;exact hg.symm
      have a2Q:=aHY F (st a) hne c hq hlc.1 oM;rw[hP];by_cases hbc:n0 F (st a)=c
      ·have:=aQC h hst hl h0 n m (n0 F (st a)) (out++[a]) P2 Q2 oM oM oM p1 (by rw[hbc];exact hQ) oM;rw[<-hbc];rcases this with rfl|h2
       ·exact .inl rfl
       ·exact .inr (by simp only[pG,if_true];exact h2)
      ·exact .inr (by simp only[pG];rw[aT7 hbc];exact aUZ oM)
theorem aLX{T:List Int}(h:aQ4 st T)(ht:to∈T)(hp:M9 st T H to=(P,true)):P.length<=T.length/\∀Q,Trail st to Q->(∃a l,Q=a::l/\a∈H)->Q.length=P.length->leL P Q:=by
 obtain⟨e1,e2⟩:=aAF (O2 T T.length [(to,1)]+1) [(to,1)] (VV st T to ht) (wF _);unfold M9 at hp;dsimp only at hp;generalize aE4 st T (O2 T T.length [(to,1)]+1) [(to,1)]=F at e1 e2 hp;have hE:=aJK h.out e1 e2;have hz:cR F 0=0:=by
  cases hk:kJ F 0 with
  |false=>exact uC F 0 hk
  |true=>exact absurd (e1.keys _ (mP.1 hk)) h.zero
 have hne:∀x∈H,0<cR F x->x≠0:=λx _ hx=>by rintro rfl;omega
 rcases I5 F H hne with⟨g1,g2⟩|⟨g1,g2,g3,g4⟩
 ·rw[g1,aJO]at hp;cases hp
 ·have hb:=e1.bd (n0 F H);have hlen:=e1.len;obtain⟨P2,p1,p2,p3⟩:=aAG hE h.out e2 hz (cR F (n0 F H)).toNat (T.length+1) (n0 F H) [] oM oM oM;have hP:P=n0 F H::P2:=by
   rw[p1]at hp;simp only[bZ,aD,and_true]at hp;exact hp.symm
  refine⟨by rw[hP,aQ];omega,?_⟩;rintro Q hQ ⟨a,l,rfl,ha⟩ hQl;rw[hP,aQ,aQ]at hQl;have hwa:=hE.least _ _ (Y5 hQ);have h5:=g4 a ha hwa.1;have a2Q:=aHY F H hne a ha hwa.1 oM;rw[hP];by_cases hba:n0 F H=a
  ·have:=aQC hE h.out e2 hz (cR F (n0 F H)).toNat (T.length+1) (n0 F H) [] P2 l oM oM oM p1 (by rw[hba];exact hQ) oM;rw[<-hba];rcases this with rfl|h2
   ·exact .inl rfl
   ·exact .inr (by simp only[pG,if_true];exact h2)
  ·exact .inr (by simp only[pG];rw[aT7 hba];exact aUZ oM)
theorem aDN{st:Int->List Int}{H:List Int}{to:Int}:∀(l:List Int)(r:Int)(n:Nat)(P0:List Int),Trail st to (r::l)->Wk st H n P0->gM P0=r->Wk st H (n+l.length) (P0++l)/\gM (P0++l)=to
 |[],r,n,P0,ht,hw,he=>by
  cases ht with
  |one=>rw[dS];exact⟨hw,he⟩
 |q::l,r,n,P0,ht,hw,he=>by
  cases ht with
  |cons hq ht=>
   have:=aDN l q (n+1) (P0++[q]) ht (.snoc hw (by rw[he];exact hq)) (BB _ _);rw[bG,qY]at this
   rwa [aQ,show n+(l.length+1)=n+1+l.length by omega]
theorem aN2{m:Int}(h:Trail st to P)(hm:m∈st to):Trail st m (P++[m]):=by
 induction h with
 |one=>exact .cons hm .one
 |cons hq _ ih=>exact .cons hq ih
theorem aL2(h:Wk st H n P):Trail st (gM P) P/\∃a l,P=a::l/\a∈H:=by
 induction h with
 |one hx=>exact⟨.one,_,_,rfl,hx⟩
 |snoc _ hm ih=>
  obtain⟨i1,a,l,rfl,ha⟩:=ih;rw[BB];exact⟨aN2 i1 hm,a,_,rfl,ha⟩
theorem Wk.rch(h:Wk st H n P):FD st H (gM P):=by
 induction h with
 |one hx=>exact .base hx
 |snoc _ hm ih=>rw[BB];exact .step ih hm
theorem Wk.same{st':Int->List Int}{H':List Int}(hs:∀r q,q∈st r->q∈st' r)(hH:∀x,x∈H->x∈H'){n:Nat}{P:List Int}(h:Wk st H n P):Wk st' H' n P:=by
 induction h with
 |one hx=>exact .one (hH _ hx)
 |snoc _ hm ih=>exact .snoc ih (hs _ _ hm)
theorem aRH{st':Int->List Int}{T H':List Int}(h:aQ4 st T)(ht:to∈T)(hs:∀r q,q∈st r↔q∈st' r)(hH:∀x,x∈H↔x∈H'):M9 st T H to=KR st' H' to (T.length+1) 0:=by
 have d1:∀{n P},Wk st' H' n P->Wk st H n P:=λhw=>hw.same (λr q=>(hs r q).2) λx=>(hH x).2;have d2:∀{n P},Wk st H n P->Wk st' H' n P:=λhw=>hw.same (λr q=>(hs r q).1) λx=>(hH x).1;rcases aH1 (H:=H) h ht with⟨a1,a2⟩|⟨P,a1,_,a3,a4,hp,a5⟩
 ·rcases YC st' H' to (T.length+1) 0 with⟨b1,_⟩|⟨j,Q,b1,_,b3,b4,_⟩
  ·rw[a1,b1]
  ·exact absurd (b4▸(d1 b3).rch) a2
 ·obtain⟨c1,c2⟩:=aLX h ht a1;have hwk:Wk st H (P.length -1) P/\gM P=to:=by
   cases P with
   |nil=>simp at hp
   |cons r l=>
    have:=aDN (H:=H) l r 0 [r] a3 (.one a5) rfl;simpa using this
  rcases YC st' H' to (T.length+1) 0 with⟨b1,b2⟩|⟨j,Q,b1,_,b3,b4,b5,b6⟩
  ·exact absurd hwk.2 (b2 _ P (Nat.zero_le _) oM (d2 hwk.1))
  ·have hQ:=aL2 (d1 b3);rw[b4]at hQ;have hQl:=b3.len;have hle:P.length<=Q.length:=by
    obtain⟨a,l,e,ha⟩:=hQ.2;have:=Y5 (a:=a) (Q:=l) (by rw[<-e];exact hQ.1);have:=a4.2 _ _ ha this;rw[e,aQ];exact this
   have hge:¬P.length -1<j:=λhlt=>b6 _ P (Nat.zero_le _) hlt (d2 hwk.1) hwk.2;have hj:P.length=j+1:=oM;have l1:=c2 Q hQ.1 hQ.2 oM;have l2:=b5 P (by rw[show j=P.length -1 by omega];exact d2 hwk.1) hwk.2;rw[a1,b1,l1.as l2]
theorem pS.TW{x:X4}{u:U4}(h:pS x [u])(to:Int):(bJ x).TW u to=(rW x).TW u to/\((bJ x).zE u&&(bJ x).mI to)=((rW x).MR u&&(rW x).mI to):=by
 have h1:=h.fr.ck (h.gA u sM).jR (h.seen u sM);have h2:=h.fr.bth.mI to;unfold D4.TW R4.TW;rw[h1,h2];exact⟨rfl,rfl⟩
theorem pS.M9{x:X4}{u:U4}(h:pS x [u])(to:Int)(hck:(bJ x).zE u=true)(hto:(bJ x).mI to=true):M9 (bJ x).cX (bJ x).aP (jL u.names) to=KR (rW x).lS (kV (l9 u.names)) to ((rW x).aT4.length+1) 0:=by
 have hl:(bJ x).aP.length=(rW x).aT4.length:=by simp[D4.aP,bJ,rW]
 rw[<-hl];exact aRH (aRU h.w) (vM.1 hto) (λr q=>h.fr.bth.steps r q) λy=>by rw[OD,YI (aPZ hck)]
theorem aQG(x:X4)(u:U4)(F:List Int)(hJ:aSB x [u])(hF:F.length<=2^30):Pu 3 [.d (.agg x.aT1),.d (.agg u.aT1),.d (.sl 1 (iR F))] (.d (cb true)):=by
 refine iC mix Tryz.func3 ?_;have hfi:=aAA x [u] (λt ht=>⟨cL (hJ.cR t ht).1 (bD rfl),(hJ.cR t ht).2⟩) (cL hJ.ll (bD rfl)) (cL hJ.tl (bD rfl));cases hf:CI x [u]with
 |false=>
  rw[hf]at hfi
  repeat'(first|refine bl ?_|(refine fU (cs:=[.agg x.aT1,.sl 4 [u.aT1]]) hfi (.v _) (.cons (.agg (wJ.data _ x.aT1)) (.cons (.os rfl (D6.data _ [u.aT1])) .nil)) ?_;(conv=>whnf))|refine aF D9 (bw ?_))
  exact dP rfl
 |true=>
  rw[hf]at hfi;by_cases hlen:60<(F.length:Int)
  ·skip
   repeat'(first|refine bl ?_|refine bS (λh=>?_) (λh=>?_)|(refine fU (cs:=[.agg x.aT1,.sl 4 [u.aT1]]) hfi (.v _) (.cons (.agg (wJ.data _ x.aT1)) (.cons (.os rfl (D6.data _ [u.aT1])) .nil)) ?_;(conv=>whnf))|refine aF D9 (bw ?_))
   all_goals first|(exfalso;omega)|exact dP rfl
  cases hb:y9 x with
  |false=>
   have hbo:=aV0 hJ hf hb
   repeat'(first|refine bl ?_|refine bS (λh=>?_) (λh=>?_)|(refine fU (cs:=[.agg x.aT1,.sl 4 [u.aT1]]) hfi (.v _) (.cons (.agg (wJ.data _ x.aT1)) (.cons (.os rfl (D6.data _ [u.aT1])) .nil)) ?_;(conv=>whnf))|refine dR hbo (.cons (.agg x.aT1) .nil) (bw ?_)|refine aF D9 (bw ?_))
   all_goals first|(exfalso;omega)|exact dP rfl
  |true=>
   have hR:=aU4 hJ hf hb;have hbo:=aV1 hR;have hug:=hR.gA u sM;have hu9:=hR.wD u sM;have hun:=hR.nm u sM
   repeat'(first|refine bl ?_|refine bS (λh=>?_) (λh=>?_)|(refine fU (cs:=[.agg x.aT1,.sl 4 [u.aT1]]) hfi (.v _) (.cons (.agg (wJ.data _ x.aT1)) (.cons (.os rfl (D6.data _ [u.aT1])) .nil)) ?_;(conv=>whnf))|refine dR hbo (.cons (.agg x.aT1) .nil) (bw ?_))
   all_goals try(exfalso;omega)
   refine bV mix (λi:Nat=>i<=F.length) (I:=λi=>[(2,.d (.sl 1 (iR F))),(4,.lp 9 0),(7,.d (.ip (bJ x).aT1)),(8,.d (.ip (rW x).aT1)),(9,.d (ci i))]) (J:=λi=>[(9,uB u)]) (μ:=λi=>F.length -i) 20000 0 oM mZ ?_;intro i hi;by_cases hlt:i<F.length
   ·have hpe:=hR.TW F[i];have hps:=hR.M9 F[i];have a19:=aRI (bJ x) hR.w u hug F[i];have a2A:=aNC (rW x) hR.v u hu9 F[i];have hgn:=aMZ (bJ x) hR.w u hug F[i];have hgw:=aPC (bJ x) hR.w u hug F[i]
    have hgb:=aPP (rW x) hR.v u hu9 (cL hun (bD rfl)) F[i] (hR.univ _ (by
     have h1:=hR.aSN;have e:xJ [u]=kV (l9 u.names):=by simp[xJ]
     rw[e]at h1;omega))
    have hsp:=aH1 (H:=jL u.names) (to:=F[i]) (aRU hR.w);have hib:= @vM (bJ x) F[i];have hlx:=λP=>aLX (H:=jL u.names) (P:=P) (aRU hR.w) (to:=F[i]);have hTl:(bJ x).aP.length<=60:=by unfold D4.aP;rw[aB];exact hR.len
    cases hc:((bJ x).zE u&&(bJ x).mI F[i])with
    |false=>
     have hga:=a19 hc;have hgb:=a2A (by rw[<-hpe.2];exact hc);rw[<-hpe.1]at hgb
     repeat'(first|with_reducible (first|refine w1 ?_|refine w2 ?_|refine w3 ?_|refine w4 ?_|refine w5 ?_|refine w9 ?_|refine wa ?_|refine wb ?_|refine wc ?_|refine wd ?_|refine we ?_|refine nN.mk ?_|refine O8.t rfl ?_|refine O8.f rfl ?_)|((with_reducible (first|refine wr ?_|refine wi ?_|refine wx ?_|refine wh ?_));(conv=>whnf))|((with_reducible refine wt eD kK ?_);(conv=>whnf))|((with_reducible refine FC.mk (RG (by(try dsimp only);omega) (by(try dsimp only);omega)) ?_);(conv=>whnf))|((with_reducible refine nQ (λh=>?_) (λh=>?_))<;>(try rw[h])<;>(conv at h=>{simp}))|((refine cD rfl eD hlt ?_);(conv=>whnf))|((refine XD.mk _ (λm=>(hga m).mR (.cons (.same _) (.cons (.agg u.aT1) (.cons (.same _) .nil)))) ?_);(conv=>whnf))|((refine XD.mk _ (λm=>(hgb m).mR (.cons (.same _) (.cons (.agg u.aT1) (.cons (.same _) .nil)))) ?_);(conv=>whnf))|((refine aF aOY ?_);(conv=>whnf)))
     all_goals first|exact⟨i+1,oM,oM,mZ⟩|(exfalso;omega)|(exfalso;simp_all;done)
    |true=>
     have hc2:=hc;rw[hpe.2]at hc2;simp only[aE]at hc hc2;have hgb:=hgb hc2.1 hc2.2;rw[<-hps hc.1 hc.2]at hgb;rcases hsp (hib.1 hc.2)with⟨h1,_⟩|⟨P,h1,_⟩
     ·have hga:=hgn hc.1 hc.2 h1;rw[h1]at hgb;dsimp only at hgb
      repeat'(first|with_reducible (first|refine w1 ?_|refine w2 ?_|refine w3 ?_|refine w5 ?_|refine w9 ?_|refine wa ?_|refine wc ?_|refine we ?_|refine nN.mk ?_|refine O8.f rfl ?_)|((with_reducible (first|refine wr ?_|refine wi ?_|refine wh ?_));(conv=>whnf))|((with_reducible refine wt eD kK ?_);(conv=>whnf))|((with_reducible refine FC.mk (RG (by(try dsimp only);omega) (by(try dsimp only);omega)) ?_);(conv=>whnf))|((with_reducible refine nQ (λh=>?_) (λh=>?_))<;>(try rw[h])<;>(conv at h=>{simp}))|((refine cD rfl eD hlt ?_);(conv=>whnf))|((refine XD.mk _ (λm=>(hga m).mR (.cons (.same _) (.cons (.agg u.aT1) (.cons (.same _) .nil)))) ?_);(conv=>whnf))|((refine XD.mk _ (λm=>(hgb m).mR (.cons (.same _) (.cons (.agg u.aT1) (.cons (.same _) .nil)))) ?_);(conv=>whnf))|((refine aF aE3 ?_);(conv=>whnf)))
      all_goals first|exact⟨i+1,oM,oM,mZ⟩|(exfalso;omega)
     have hga:=λm d hd=>(hgw hc.1 hc.2 P h1 m d hd).mR (.cons (.same _) (.cons (.agg u.aT1) (.cons (.same _) .nil)));have hPl:=(hlx P (hib.1 hc.2) h1).1;rw[h1]at hgb;dsimp only at hgb
     repeat'(first|refine bl ?_|refine bS (λh=>?_) (λh=>?_)|refine cD rfl eD hlt (bw ?_)|refine xQ.fresh _ _ hga rfl (bw ?_)|(refine xQ.pure _ (λm=>(hgb m).mR (.cons (.same _) (.cons (.agg u.aT1) (.cons (.same _) .nil)))) ?_;(conv=>whnf))|refine lN 20080 (dU 25 1 (iR (over P P.length))) ((aIC P oM).AK (oJ _ _ _) (λg=>eT g _ _ _) (λg=>eT g _ _ _) rfl (by simp[Go.Pv.A.lQ,Go.Pv.A.hs]) (aK _) 20080 rfl) (bw ?_))
     all_goals first|exact⟨i+1,oM,oM,mZ⟩|(exfalso;omega)
   ·skip
    refine bl ?_;refine O8.f (aU0 (by(try simp only[aB]);omega)) ?_
    repeat'(first|refine bl ?_|refine aF D9 (bw ?_))
    exact dP rfl
theorem V.oS:∀l:List V,(l.map V.cR).sum=V.dB l
 |[]=>rfl
 |v::r=>by simp only[aG,gU,V.dB,V.oS r]
mutual
def E4.wU:E4->Nat
 |.mk _ _ s l=>1+s.size+E4.NK l
def E4.NK:List E4->Nat
 |[]=>0
 |v::r=>E4.wU v+E4.NK r
end
mutual
def S4.wU:S4->Nat
 |.mk _ n1 n2 _ _ a b t e c w=>1+n1.size+n2.size+a.wU+b.wU+(w.map λs=>s.size+1).sum+S4.NK t+S4.NK e+S4.NK c
def S4.NK:List S4->Nat
 |[]=>0
 |v::r=>S4.wU v+S4.NK r
end
theorem E4.OZ:∀l:List E4,(l.map E4.wU).sum=E4.NK l
 |[]=>Eq.refl _
 |v::r=>by simp only[aG,gU,E4.NK,E4.OZ r]
theorem S4.OZ:∀l:List S4,(l.map S4.wU).sum=S4.NK l
 |[]=>rfl
 |v::r=>by simp only[aG,gU,S4.NK,S4.OZ r]
mutual
theorem E4.XL:∀v:E4,v.cR<=v.wU
 |.mk _ _ s l=>by have:=E4.xC l;simp only[E4.cR,E4.wU];omega
theorem E4.xC:∀l:List E4,E4.dB l<=E4.NK l
 |[]=>bT _
 |v::r=>by have:=E4.XL v;have:=E4.xC r;simp only[E4.dB,E4.NK];omega
end
mutual
theorem E4.aUO:∀v:E4,v.wU<=2^40->v.ss
 |.mk _ _ s l,h=>by simp only[E4.wU]at h;exact⟨oM,E4.aUN l oM⟩
theorem E4.aUN:∀l:List E4,E4.NK l<=2^40->E4.US l
 |[],_=>trivial
 |v::r,h=>by simp only[E4.NK]at h;exact⟨E4.aUO v oM,E4.aUN r oM⟩
end
theorem aVS:∀w:List ByteArray,w.length<=(w.map λs=>s.size+1).sum
 |[]=>sM
 |s::w=>by have:=aVS w;simp only[aG,gU,aQ];omega
theorem aVT:∀w:List ByteArray,∀s∈w,s.size<=(w.map λs=>s.size+1).sum
 |[],s,h=>by simp at h
 |a::w,s,h=>by
  simp only[aG,gU];rcases aO.1 h with rfl|h
  ·omega
  ·have:=aVT w s h;omega
mutual
theorem S4.XL:∀v:S4,v.cR<=v.wU
 |.mk _ _ _ _ _ a b t e c w=>by
  have:=a.XL;have:=b.XL;have:=S4.xC t;have:=S4.xC e;have:=S4.xC c;have:=aVS w;simp only[S4.cR,S4.wU];omega
theorem S4.xC:∀l:List S4,S4.dB l<=S4.NK l
 |[]=>bT _
 |v::r=>by have:=S4.XL v;have:=S4.xC r;simp only[S4.dB,S4.NK];omega
end
mutual
theorem S4.aWF:∀v:S4,v.wt->v.wU<=2^36->v.SZ
 |.mk op n1 n2 ab wh a b t e c w,h,hv=>by
  have hc:=S4.XL (.mk op n1 n2 ab wh a b t e c w);have hm:=aVT w;simp only[S4.wt]at h;obtain⟨h1,h2,h3,h4,_,_,_,_,h5,h6,h7⟩:=h;simp only[S4.wU]at hv hc;refine⟨⟨oM,⟨h1,h2⟩,⟨h3,h4⟩,?_,?_,E4.aUO a oM,E4.aUO b oM,λs hs=>?_⟩,S4.aEZ t h5 oM,S4.aEZ e h6 oM,S4.aEZ c h7 oM⟩
  ·show n1.size<=2^40;omega
  ·show n2.size<=2^40;omega
  ·have:=hm s hs;omega
theorem S4.aEZ:∀l:List S4,S4.B5 l->S4.NK l<=2^36->S4.aO6 l
 |[],_,_=>trivial
 |v::r,h,hv=>by
  simp only[S4.NK]at hv;exact⟨S4.aWF v h.1 oM,S4.aEZ r h.2 oM⟩
end
theorem V.rM:∀l:List V,(∀x∈l,x.wt)->V.B5 l
 |[],_=>trivial
 |v::r,h=>⟨h v sM,V.rM r λx hx=>h x (by simp[hx])⟩
theorem E4.rM:∀l:List E4,(∀x∈l,x.wt)->E4.B5 l
 |[],_=>trivial
 |v::r,h=>⟨h v sM,E4.rM r λx hx=>h x (by simp[hx])⟩
theorem S4.rM:∀l:List S4,(∀x∈l,x.wt/\x.ab)->S4.B5 l/\S4.RF l
 |[],_=>⟨tV,tV⟩
 |v::r,h=>by
  have h1:=h v sM;have h2:=S4.rM r λx hx=>h x (by simp[hx]);exact⟨⟨h1.1,h2.1⟩,⟨h1.2,h2.2⟩⟩
theorem E1{α:Type}:∀l:List α,(l.map λ_=>1).sum=l.length
 |[]=>rfl
 |v::r=>by simp only[aG,gU,aQ,E1 r];omega
theorem aMV:V.row=V.aT1:=funext V.cP
theorem aNA:E4.row=E4.aT1:=funext E4.cP
theorem aMI:S4.row=S4.aT1:=funext S4.cP
theorem U3:IntKind.u8.min=0/\IntKind.u8.max=255:=eD
theorem BQ:IntKind.i64.min=-9223372036854775808/\IntKind.i64.max=9223372036854775807:=eD
section
variable{H:Type}{enc:TypeId×Value->H}{w:World}
abbrev PB(w:World)(enc:TypeId×Value->H)(n:Nat)(t:TypeId)(cs:List Value)(d:DataW H):Prop:=xF enc Tryz.prog w n t cs d
theorem aN3:Tryz.prog.underlying 85=some (.int .u8):=kK
theorem ty2:Tryz.prog.underlying 2=some (.int .i64):=kK
theorem W3:Tryz.prog.underlying 25=some (.int .i64):=kK
theorem aMR:Tryz.prog.underlying 84=some (.int .u8):=kK
theorem aK8:Tryz.prog.underlying 28=some (.int .i64):=kK
theorem aMT:Tryz.prog.underlying 89=some (.int .u8):=kK
theorem aML:Tryz.prog.underlying 203=some (.int .u8):=kK
theorem aMM:Tryz.prog.underlying 204=some (.int .u8):=kK
theorem ty3:Tryz.prog.underlying 3=some (.int .i64):=kK
theorem S8:Tryz.prog.underlying 9=some .string:=kK
theorem ty4:Tryz.prog.underlying 4=some .bool:=kK
theorem aMS:Tryz.prog.underlying 86=some (.slice 88):=kK
theorem aLS:Tryz.prog.cellsOf 88=5:=kK
theorem aMN:Tryz.prog.underlying 205=some (.slice 207):=kK
theorem aLQ:Tryz.prog.cellsOf 207=4:=kK
theorem aIQ:Tryz.prog.underlying 29=some (.slice 210):=kK
theorem aGS:Tryz.prog.cellsOf 210=17:=kK
theorem aMP:Tryz.prog.underlying 208=some (.slice 9):=kK
theorem aLR:Tryz.prog.cellsOf 9=1:=kK
theorem aNZ:Tryz.prog.underlying 30=some (.slice 100):=kK
theorem aM7:Tryz.prog.cellsOf 100=6:=kK
theorem aNV:Tryz.prog.underlying 22=some (.slice 28):=kK
theorem aM4:Tryz.prog.cellsOf 28=1:=kK
theorem aNW:Tryz.prog.underlying 23=some (.slice 3):=kK
theorem aM5:Tryz.prog.cellsOf 3=1:=kK
theorem aNX:Tryz.prog.underlying 24=some (.slice 93):=kK
theorem aM6:Tryz.prog.cellsOf 93=17:=kK
theorem aN0:Tryz.prog.underlying 31=some (.slice 25):=kK
theorem aM8:Tryz.prog.cellsOf 25=1:=kK
theorem aN4:u7 Tryz.prog 88=some [85,2,9,86,25]:=kK
theorem aMO:u7 Tryz.prog 207=some [204,2,9,205]:=kK
theorem aMQ:u7 Tryz.prog 210=some [203,9,9,89,84,207,207,29,29,29,208]:=kK
theorem aMK:u7 Tryz.prog 100=some [9,88]:=kK
theorem aN5:u7 Tryz.prog 91=some [84,28,88,86,2,2,25,25,89,4,29,30]:=kK
theorem aN6:u7 Tryz.prog 93=some [25,91]:=kK
theorem aNY:u7 Tryz.prog 27=some [22,23,24,25,23]:=kK
theorem aN1:u7 Tryz.prog 33=some [28,29,30,31]:=kK
theorem aJI{t:TypeId}{d:DataW H}(ht:Tryz.prog.underlying t=some .string)(h:PB w enc n t cs d):∃s,sL w [.v (.string s)] cs/\s.size+1<=rI d:=by
 obtain⟨ps,h⟩:=h;cases n with
 |zero=>simp[DataW.trod]at h
 |succ n=>
  unfold DataW.trod at h;rw[ht]at h;split at h<;>try(simp at h;done)
  all_goals(rename_i hu;try(cases hu;done))
  rename_i s;split at h
  ·simp only[aA,aD]at h;exact⟨_,sL.one rfl,by rw[<-h.1];simp[rI,Go.Proofs.YtpdcbahjjmooiaaGreat.Rows.uptoBulk]⟩
  ·cases h
theorem aNO{d:DataW H}(h:PB w enc n 22 cs d):∃l:List Int,sL w [.sl 1 (iR l)] cs/\l.length+1<=rI d:=by
 obtain⟨l,h1,h2,_⟩:=oV (λx:Int=>[ci x]) (λ_=>1) (λ_=>True) 1 aNV aM4 eD (λk hk cs d h=>by
  obtain⟨i,h1,h2,_⟩:=kQ aK8 h
  exact⟨i,h1,h2,tV⟩) h
 exact⟨l,h1,by rw[E1]at h2;exact h2⟩
theorem aMB{d:DataW H}(h:PB w enc n 23 cs d):∃l:List Int,sL w [.sl 1 (iR l)] cs/\l.length+1<=rI d:=by
 obtain⟨l,h1,h2,_⟩:=oV (λx:Int=>[ci x]) (λ_=>1) (λ_=>True) 1 aNW aM5 eD (λk hk cs d h=>by
  obtain⟨i,h1,h2,_⟩:=kQ ty3 h
  exact⟨i,h1,h2,tV⟩) h
 exact⟨l,h1,by rw[E1]at h2;exact h2⟩
theorem aNP{d:DataW H}(h:PB w enc n 31 cs d):∃l:List Int,sL w [.sl 1 (iR l)] cs/\l.length+1<=rI d:=by
 obtain⟨l,h1,h2,_⟩:=oV (λx:Int=>[ci x]) (λ_=>1) (λ_=>True) 1 aN0 aM8 eD (λk hk cs d h=>by
  obtain⟨i,h1,h2,_⟩:=kQ W3 h
  exact⟨i,h1,h2,tV⟩) h
 exact⟨l,h1,by rw[E1]at h2;exact h2⟩
theorem aMA{d:DataW H}(h:PB w enc n 208 cs d):∃l:List ByteArray,sL w [.sl 1 (l.map λs=>[Go.Pv.cs s])] cs/\(l.map λs=>s.size+1).sum+1<=rI d:=by
 obtain⟨l,h1,h2,_⟩:=oV (λx:ByteArray=>[Go.Pv.cs x]) (λs=>s.size+1) (λ_=>True) 1 aMP aLR eD (λk hk cs d h=>by
  obtain⟨i,h1,h2⟩:=aJI S8 h
  exact⟨i,h1,h2,tV⟩) h
 exact⟨l,h1,h2⟩
theorem riV:∀(n:Nat){cs:List Value}{d:DataW H},PB w enc n 88 cs d->∃v:V,sL w v.aT1 cs/\v.cR<=rI d/\v.wt:=by
 intro n;induction n using Nat.strongRecOn with|_ n ih=>?_
 intro cs d h;obtain⟨k,ds,rfl,hb,hf⟩:=p9 aN4 h;obtain⟨a0,b0,d0,r0,rfl,rfl,h0,hf⟩:=hf;obtain⟨a1,b1,d1,r1,rfl,rfl,h1,hf⟩:=hf;obtain⟨a2,b2,d2,r2,rfl,rfl,h2,hf⟩:=hf;obtain⟨a3,b3,d3,r3,rfl,rfl,h3,hf⟩:=hf;obtain⟨a4,b4,d4,r4,rfl,rfl,h4,hf⟩:=hf;obtain⟨rfl,rfl⟩:=hf;obtain⟨x0,g0,m0,e0,F0⟩:=kQ aN3 h0;obtain⟨x1,g1,m1,e1,F1⟩:=kQ ty2 h1;obtain⟨x2,g2,m2⟩:=GX S8 h2;obtain⟨l,g3,m3,q3⟩:=oV V.aT1 V.cR V.wt 5 aMS aLS eD (λj hj cs d h=>ih j oM h) h3;obtain⟨x4,g4,m4,e4,F4⟩:=kQ W3 h4;simp only[mE]at hb;have hn:rZ ([]:List (DataW H))=0:=rfl
 try simp only[U3.1,U3.2,BQ.1,BQ.2]at*
 have G:=g0.app (g1.app (g2.app (g3.app (g4.app sL.nil))));rw[V.oS]at m3;refine⟨.mk x0 x1 x2 l x4,?_,?_,?_⟩
 ·simpa [V.aT1,V.kind,V.n,V.s,V.l,V.r,aMV]using G
 ·simp only[V.cR];omega
 ·exact⟨e0,oM,V.rM l q3⟩
theorem aNR{d:DataW H}(h:PB w enc n 86 cs d):∃l:List V,sL w [.sl 5 (l.map V.row)] cs/\V.dB l+1<=rI d/\V.B5 l:=by
 obtain⟨l,h1,h2,h3⟩:=oV V.aT1 V.cR V.wt 5 aMS aLS eD (λk _ cs d h=>riV k h) h;exact⟨l,by rw[aMV];exact h1,by rw[V.oS]at h2;exact h2,V.rM l h3⟩
theorem riE:∀(n:Nat){cs:List Value}{d:DataW H},PB w enc n 207 cs d->∃v:E4,sL w v.aT1 cs/\v.wU<=rI d/\v.wt:=by
 intro n;induction n using Nat.strongRecOn with|_ n ih=>?_
 intro cs d h;obtain⟨k,ds,rfl,hb,hf⟩:=p9 aMO h;obtain⟨a0,b0,d0,r0,rfl,rfl,h0,hf⟩:=hf;obtain⟨a1,b1,d1,r1,rfl,rfl,h1,hf⟩:=hf;obtain⟨a2,b2,d2,r2,rfl,rfl,h2,hf⟩:=hf;obtain⟨a3,b3,d3,r3,rfl,rfl,h3,hf⟩:=hf;obtain⟨rfl,rfl⟩:=hf;obtain⟨x0,g0,m0,e0,F0⟩:=kQ aMM h0;obtain⟨x1,g1,m1,e1,F1⟩:=kQ ty2 h1;obtain⟨x2,g2,m2⟩:=aJI S8 h2;obtain⟨l,g3,m3,q3⟩:=oV E4.aT1 E4.wU E4.wt 4 aMN aLQ eD (λj hj cs d h=>ih j oM h) h3;simp only[mE]at hb;have hn:rZ ([]:List (DataW H))=0:=rfl
 try simp only[U3.1,U3.2,BQ.1,BQ.2]at*
 have G:=g0.app (g1.app (g2.app (g3.app sL.nil)));rw[E4.OZ]at m3;refine⟨.mk x0 x1 x2 l,?_,?_,?_⟩
 ·simpa [E4.aT1,E4.kind,E4.n,E4.s,E4.l,aNA]using G
 ·simp only[E4.wU];omega
 ·exact⟨e0,oM,E4.rM l q3⟩
theorem riS:∀(n:Nat){cs:List Value}{d:DataW H},PB w enc n 210 cs d->∃v:S4,sL w v.aT1 cs/\v.wU<=rI d/\v.wt/\v.ab:=by
 intro n;induction n using Nat.strongRecOn with|_ n ih=>?_
 intro cs d h;obtain⟨k,ds,rfl,hb,hf⟩:=p9 aMQ h;obtain⟨a0,b0,d0,r0,rfl,rfl,h0,hf⟩:=hf;obtain⟨a1,b1,d1,r1,rfl,rfl,h1,hf⟩:=hf;obtain⟨a2,b2,d2,r2,rfl,rfl,h2,hf⟩:=hf;obtain⟨a3,b3,d3,r3,rfl,rfl,h3,hf⟩:=hf;obtain⟨a4,b4,d4,r4,rfl,rfl,h4,hf⟩:=hf;obtain⟨a5,b5,d5,r5,rfl,rfl,h5,hf⟩:=hf;obtain⟨a6,b6,d6,r6,rfl,rfl,h6,hf⟩:=hf;obtain⟨a7,b7,d7,r7,rfl,rfl,h7,hf⟩:=hf;obtain⟨a8,b8,d8,r8,rfl,rfl,h8,hf⟩:=hf;obtain⟨a9,b9,d9,r9,rfl,rfl,h9,hf⟩:=hf;obtain⟨a10,b10,d10,r10,rfl,rfl,h10,hf⟩:=hf;obtain⟨rfl,rfl⟩:=hf;obtain⟨x0,g0,m0,e0,F0⟩:=kQ aML h0;obtain⟨x1,g1,m1⟩:=aJI S8 h1;obtain⟨x2,g2,m2⟩:=aJI S8 h2;obtain⟨x3,g3,m3,e3,F3⟩:=kQ aMT h3;obtain⟨x4,g4,m4,e4,F4⟩:=kQ aMR h4;obtain⟨x5,g5,m5,q5⟩:=riE _ h5;obtain⟨x6,g6,m6,q6⟩:=riE _ h6;obtain⟨x7,g7,m7,q7⟩:=oV S4.aT1 S4.wU (λv=>v.wt/\v.ab) 17 aIQ aGS eD (λj hj cs d h=>ih j oM h) h7;obtain⟨x8,g8,m8,q8⟩:=oV S4.aT1 S4.wU (λv=>v.wt/\v.ab) 17 aIQ aGS eD (λj hj cs d h=>ih j oM h) h8;obtain⟨x9,g9,m9,q9⟩:=oV S4.aT1 S4.wU (λv=>v.wt/\v.ab) 17 aIQ aGS eD (λj hj cs d h=>ih j oM h) h9;obtain⟨x10,g10,m10⟩:=aMA h10;simp only[mE]at hb;have hn:rZ ([]:List (DataW H))=0:=rfl
 try simp only[U3.1,U3.2,BQ.1,BQ.2]at*
 have G:=g0.app (g1.app (g2.app (g3.app (g4.app (g5.app (g6.app (g7.app (g8.app (g9.app (g10.app sL.nil))))))))));rw[S4.OZ]at m7 m8 m9;have t7:=S4.rM x7 q7;have t8:=S4.rM x8 q8;have t9:=S4.rM x9 q9;refine⟨.mk x0 x1 x2 x3 x4 x5 x6 x7 x8 x9 x10,?_,?_,?_,?_⟩
 ·simpa [S4.aT1,S4.op,S4.name,S4.second,S4.jR,S4.bQ,S4.a,S4.b,S4.t,S4.e,S4.c,S4.w,aMI,E4.aT1]using G
 ·simp only[S4.wU];omega
 ·exact⟨e0,oM,e3,oM,e4,oM,q5,q6,t7.1,t8.1,t9.1⟩
 ·exact⟨⟨e3,oM⟩,t7.2,t8.2,t9.2⟩
theorem aMC{d:DataW H}(h:PB w enc n 29 cs d):∃l:List S4,sL w [.sl 17 (l.map S4.row)] cs/\S4.NK l+1<=rI d/\S4.B5 l/\S4.RF l:=by
 obtain⟨l,h1,h2,h3⟩:=oV S4.aT1 S4.wU (λv=>v.wt/\v.ab) 17 aIQ aGS eD (λk _ cs d h=>riS k h) h;exact⟨l,by rw[aMI];exact h1,by rw[S4.OZ]at h2;exact h2,S4.rM l h3⟩
theorem aRM:∀l:List N4,V.dB (l.map (·.value))+l.length<=(l.map λv=>v.value.cR+v.name.size+1).sum
 |[]=>by simp[V.dB]
 |v::r=>by have:=aRM r;simp only[aG,gU,aQ,V.dB];omega
theorem aR7:∀l:List N4,∀n∈l,n.name.size<=(l.map λv=>v.value.cR+v.name.size+1).sum
 |[],n,h=>by simp at h
 |v::r,n,h=>by
  simp only[aG,gU];rcases aO.1 h with rfl|h
  ·omega
  ·have:=aR7 r n h;omega
theorem riN{d:DataW H}(h:PB w enc n 100 cs d):∃v:N4,sL w v.aT1 cs/\v.value.cR+v.name.size+1<=rI d/\v.value.wt:=by
 obtain⟨k,ds,rfl,hb,hf⟩:=p9 aMK h;obtain⟨a0,b0,d0,r0,rfl,rfl,h0,hf⟩:=hf;obtain⟨a1,b1,d1,r1,rfl,rfl,h1,hf⟩:=hf;obtain⟨rfl,rfl⟩:=hf;obtain⟨x0,g0,m0⟩:=aJI S8 h0;obtain⟨x1,g1,m1,q1⟩:=riV _ h1;simp only[mE]at hb;have hn:rZ ([]:List (DataW H))=0:=rfl
 try simp only[U3.1,U3.2,BQ.1,BQ.2]at*
 have G:=g0.app (g1.app sL.nil);refine⟨⟨x0,x1⟩,?_,?_,q1⟩
 ·simpa [N4.aT1,V.aT1]using G
 ·(try dsimp only);omega
theorem aMD{d:DataW H}(h:PB w enc n 30 cs d):∃l:List N4,sL w [.sl 6 (l.map N4.aT1)] cs/\(l.map λv=>v.value.cR+v.name.size+1).sum+1<=rI d/\V.B5 (l.map (·.value)):=by
 obtain⟨l,h1,h2,h3⟩:=oV N4.aT1 (λv=>v.value.cR+v.name.size+1) (λv=>v.value.wt) 6 aNZ aM7 eD (λk _ cs d h=>riN h) h;refine⟨l,h1,h2,V.rM _ λx hx=>?_⟩;obtain⟨y,hy,rfl⟩:=aA4.1 hx;exact h3 y hy
theorem riW{d:DataW H}(h:PB w enc n 91 cs d):∃v:W4,sL w v.aT1 cs/\v.cR<=rI d/\v.wt/\-9223372036854775808<=v.home/\v.home<=9223372036854775807:=by
 obtain⟨k,ds,rfl,hb,hf⟩:=p9 aN5 h;obtain⟨a0,b0,d0,r0,rfl,rfl,h0,hf⟩:=hf;obtain⟨a1,b1,d1,r1,rfl,rfl,h1,hf⟩:=hf;obtain⟨a2,b2,d2,r2,rfl,rfl,h2,hf⟩:=hf;obtain⟨a3,b3,d3,r3,rfl,rfl,h3,hf⟩:=hf;obtain⟨a4,b4,d4,r4,rfl,rfl,h4,hf⟩:=hf;obtain⟨a5,b5,d5,r5,rfl,rfl,h5,hf⟩:=hf;obtain⟨a6,b6,d6,r6,rfl,rfl,h6,hf⟩:=hf;obtain⟨a7,b7,d7,r7,rfl,rfl,h7,hf⟩:=hf;obtain⟨a8,b8,d8,r8,rfl,rfl,h8,hf⟩:=hf;obtain⟨a9,b9,d9,r9,rfl,rfl,h9,hf⟩:=hf;obtain⟨a10,b10,d10,r10,rfl,rfl,h10,hf⟩:=hf;obtain⟨a11,b11,d11,r11,rfl,rfl,h11,hf⟩:=hf;obtain⟨rfl,rfl⟩:=hf;obtain⟨x0,g0,m0,e0,F0⟩:=kQ aMR h0;obtain⟨x1,g1,m1,e1,F1⟩:=kQ aK8 h1;obtain⟨x2,g2,m2,q2⟩:=riV _ h2;obtain⟨x3,g3,m3,q3⟩:=aNR h3;obtain⟨x4,g4,m4,e4,F4⟩:=kQ ty2 h4;obtain⟨x5,g5,m5,e5,F5⟩:=kQ ty2 h5;obtain⟨x6,g6,m6,e6,F6⟩:=kQ W3 h6;obtain⟨x7,g7,m7,e7,F7⟩:=kQ W3 h7;obtain⟨x8,g8,m8,e8,F8⟩:=kQ aMT h8;obtain⟨x9,g9,m9⟩:=aIP ty4 h9;obtain⟨x10,g10,m10,q10,_⟩:=aMC h10;have m10v:=S4.xC x10;obtain⟨x11,g11,m11,q11⟩:=aMD h11;have m11v:=aRM x11;simp only[mE]at hb;have hn:rZ ([]:List (DataW H))=0:=rfl
 try simp only[U3.1,U3.2,BQ.1,BQ.2]at*
 have G:=g0.app (g1.app (g2.app (g3.app (g4.app (g5.app (g6.app (g7.app (g8.app (g9.app (g10.app (g11.app sL.nil)))))))))));refine⟨⟨x0,x1,x2,x3,x4,x5,x6,x7,x8,x9,x10,x11⟩,?_,?_,⟨q2,q3,q11,q10,⟨e0,by(try dsimp only);omega⟩,⟨e8,by(try dsimp only);omega⟩⟩,e1,F1⟩
 ·simpa [W4.aT1,V.aT1]using G
 ·simp only[W4.cR];omega
theorem riT{d:DataW H}(h:PB w enc n 93 cs d):∃v:T4,sL w v.aT1 cs/\v.bQ.cR+1<=rI d/\v.bQ.wt/\-9223372036854775808<=v.bQ.home/\v.bQ.home<=9223372036854775807:=by
 obtain⟨k,ds,rfl,hb,hf⟩:=p9 aN6 h;obtain⟨a0,b0,d0,r0,rfl,rfl,h0,hf⟩:=hf;obtain⟨a1,b1,d1,r1,rfl,rfl,h1,hf⟩:=hf;obtain⟨rfl,rfl⟩:=hf;obtain⟨x0,g0,m0,e0,F0⟩:=kQ W3 h0;obtain⟨x1,g1,m1,q1⟩:=riW h1;simp only[mE]at hb;have hn:rZ ([]:List (DataW H))=0:=rfl
 try simp only[U3.1,U3.2,BQ.1,BQ.2]at*
 have G:=g0.app (g1.app sL.nil);refine⟨⟨x0,x1⟩,?_,?_,q1⟩
 ·simpa [T4.aT1]using G
 ·(try dsimp only);omega
theorem WZ{α:Type}(f:α->Nat):∀(l:List α),∀x∈l,f x<=(l.map f).sum
 |v::r,x,h=>by
  simp only[aG,gU];rcases aO.1 h with e|e
  ·subst e;omega
  ·have:=WZ f r x e;omega
theorem Q7{α:Type}(f:α->Nat)(hf:∀x,1<=f x):∀(l:List α),l.length<=(l.map f).sum
 |[]=>sM
 |v::r=>by
  have:=Q7 f hf r;have:=hf v;simp only[aG,gU,aQ];omega
theorem riX{d:DataW H}(h:PB w enc n 27 cs d)(hB:rI d<=1048576):∃x:X4,sL w x.aT1 cs/\(∀t∈x.aT4,t.bQ.cR<=2^20/\t.bQ.wt)/\x.aT4.length<=2^30/\x.parents.length<=2^38/\x.aU3.length<=2^38/\x.made.length<=2^38/\∀t∈x.aT4,-9223372036854775808<=t.bQ.home/\t.bQ.home<=9223372036854775807:=by
 obtain⟨k,ds,rfl,hb,hf⟩:=p9 aNY h;obtain⟨a0,b0,d0,r0,rfl,rfl,h0,hf⟩:=hf;obtain⟨a1,b1,d1,r1,rfl,rfl,h1,hf⟩:=hf;obtain⟨a2,b2,d2,r2,rfl,rfl,h2,hf⟩:=hf;obtain⟨a3,b3,d3,r3,rfl,rfl,h3,hf⟩:=hf;obtain⟨a4,b4,d4,r4,rfl,rfl,h4,hf⟩:=hf;obtain⟨rfl,rfl⟩:=hf;obtain⟨x0,g0,m0⟩:=aNO h0;obtain⟨x1,g1,m1⟩:=aMB h1;obtain⟨x2,g2,m2,q2⟩:=oV T4.aT1 (λv=>v.bQ.cR+1) (λv=>v.bQ.wt/\-9223372036854775808<=v.bQ.home/\v.bQ.home<=9223372036854775807) 17 aNX aM6 eD (λk _ cs d h=>riT h) h2;obtain⟨x3,g3,m3,e3,F3⟩:=kQ W3 h3;obtain⟨x4,g4,m4⟩:=aMB h4;simp only[mE]at hb;have hn:rZ ([]:List (DataW H))=0:=rfl
 try simp only[U3.1,U3.2,BQ.1,BQ.2]at*
 have G:=g0.app (g1.app (g2.app (g3.app (g4.app sL.nil))));have hl:=Q7 (λv:T4=>v.bQ.cR+1) (λ_=>oM) x2;refine⟨⟨x0,x1,x2,x3,x4⟩,?_,?_,?_,?_,?_,?_,?_⟩
 ·simpa [X4.aT1]using G
 ·intro t ht;have:=WZ (λv:T4=>v.bQ.cR+1) x2 t ht;exact⟨by(try dsimp only at this);omega,(q2 t ht).1⟩
 ·(try dsimp only);omega
 ·(try dsimp only);omega
 ·(try dsimp only);omega
 ·(try dsimp only);omega
 ·exact λt ht=>(q2 t ht).2
def U4.m(u:U4):Nat:=S4.NK u.code+(u.names.map λv=>v.value.cR+v.name.size+1).sum+u.seen.length+1
def U4.p(u:U4):Prop:=(-9223372036854775808<=u.side/\u.side<=9223372036854775807)/\S4.RF u.code/\S4.B5 u.code/\V.B5 (u.names.map (·.value))
theorem riU{d:DataW H}(h:PB w enc n 33 cs d):∃u:U4,sL w u.aT1 cs/\u.m<=rI d/\u.p:=by
 obtain⟨k,ds,rfl,hb,hf⟩:=p9 aN1 h;obtain⟨a0,b0,d0,r0,rfl,rfl,h0,hf⟩:=hf;obtain⟨a1,b1,d1,r1,rfl,rfl,h1,hf⟩:=hf;obtain⟨a2,b2,d2,r2,rfl,rfl,h2,hf⟩:=hf;obtain⟨a3,b3,d3,r3,rfl,rfl,h3,hf⟩:=hf;obtain⟨rfl,rfl⟩:=hf;obtain⟨x0,g0,m0,e0,F0⟩:=kQ aK8 h0;obtain⟨x1,g1,m1,q1,q1b⟩:=aMC h1;obtain⟨x2,g2,m2,q2⟩:=aMD h2;obtain⟨x3,g3,m3⟩:=aNP h3;simp only[mE]at hb;have hn:rZ ([]:List (DataW H))=0:=rfl
 try simp only[U3.1,U3.2,BQ.1,BQ.2]at*
 have G:=g0.app (g1.app (g2.app (g3.app sL.nil)));refine⟨⟨x0,x1,x2,x3⟩,?_,?_,⟨e0,F0⟩,q1b,q1,q2⟩
 ·simpa [U4.aT1]using G
 ·simp only[U4.m];omega
end
open Go.ChangeShapes Go.WideShapes Go.ChangeAt Go.RowKit
theorem aMW{P:Program}{f:FuncId}{cs:List C}{vs:List Value}(h:aJ P f (cs.map .d) (λ_=>none) (.ok (.d (.v (.bool true)))) (λ_=>none))(hd:C.bR w (λ_=>False) cs vs):
 Calls P f vs.toArray w λe w'=>e=.returned (.bool true)/\iF (λ_=>False) w w':=by
 have h0:bC (λ_=>False) (λ_=>False) w ⟨0,none⟩ (λ_=>.x) (λ_=>none) (λ_=>undef) {tmps:= #[],defers:=[]} w:=
  {keeps:=iF.refl _ _,size:=rfl,defers:=(λds e=>by cases e),tmps:=(λn=>by simp[A.Den]),res:=(λi r e=>by cases e),own:=(λi r b e=>by cases e),apart:=(λi j r r2 b e=>by cases e)}
 refine(h.2 _ _ _ _ w _ _ w h0 (λb e=>e.elim) vs ?_).mono ?_
 ·refine A.iO.2 (C.dK (dV.refl _ w) (λb hb _=>?_) _ _ hd);rcases hb with hb|⟨i,r,hb,_⟩
  ·exact hb
  ·cases hb
 ·rintro e w' ⟨ρ',h1,_,y,rfl,hy⟩;simp only[A.Den,C.Den]at hy;subst hy;exact⟨rfl,h1.keeps⟩
theorem sL.agg{w:World}{l:List C}{vs:Array Value}(h:sL w l vs.toList):C.Den w (λ_=>False) (.agg l) (.agg vs):=by
 simp only[C.Den];exact⟨vs,rfl,h.2,h.1⟩
theorem sL.den{c:C}{v:Value}(h:sL w [c] [v]):C.Den w (λ_=>False) c v:=by
 have:=h.1;simp only[C.bR]at this;obtain⟨y,yr,h1,h2,rfl⟩:=this;simp only[iX,and_true]at h1;rw[h1];exact h2
theorem iF.sameAt{w w':World}(h:iF (λ_=>False) w w'){p:MemPlace}(hb:p.block<w.heap.size):w.sameAt w' p:=by
 cases p with
 |cell b o=>exact World.cell?_of_block (h.block b hb λe=>e)
 |map b=>exact h.block b hb λe=>e
section
variable{H:Type}{enc:TypeId×Value->H}{P:Program}
theorem M8(hl:laidOutB P=true){W W':World}(hK:iF (λ_=>False) W W'){sp:Nat->Bool}:∀(ts:List TypeId)(vs:List Value)(ds:List (DataW H))(ps:List MemPlace),(∀t∈ts,P.readableRec t=true/\t<P.types.size)->
 DataW.TrodAll enc P W 0 (λ_=>true) true ts vs ds ps->(∀p∈ps,p.block<W.heap.size)->(∀p∈ps,sp p.block=true)->DataW.TrodAll enc P W' 0 sp true ts vs ds ps
 |[],[],[],ps,_,h,_,_=>h
 |t::ts,v::vs,d::ds,ps,ht,h,hb,hs=>by
  obtain⟨p,q,h1,h2,rfl⟩:=h;have htt:=ht t sM
  exact⟨p,q,Go.WideElems.Trod_stays hl htt.1 htt.2 h1 (λx hx=>hK.sameAt (hb x (by simp[hx]))) (λx hx=>hs x (by simp[hx])),
   M8 hl hK ts vs ds q (λt h=>ht t (by simp[h])) h2 (λx hx=>hb x (by simp[hx])) (λx hx=>hs x (by simp[hx])),rfl⟩
 |[],[],_::_,_,_,h,_,_=>h.elim
 |[],_::_,_,_,_,h,_,_=>h.elim
 |_::_,[],_,_,_,h,_,_=>h.elim
 |_::_,_::_,[],_,_,h,_,_=>h.elim
end
theorem aTU{H:Type}{enc:TypeId×Value->H}{d:DataW H}(h:PB w enc n 33 cs d)(hB:rI d<=1048576):∃u:U4,sL w u.aT1 cs/\u.gA/\u.wD/\V.dB (u.names.map (·.value))<=2^20:=by
 obtain⟨u,h1,h4,p1,p2,p3,p4⟩:=riU h;have h5:=aRM u.names;have h8:=S4.xC u.code;simp only[U4.m]at h4;exact⟨u,h1,⟨p1,oM,p2,oM,oM,oM⟩,⟨p1,oM,S4.aEZ _ p3 oM,oM,p4,λn hn=>by have:=aR7 u.names n hn;omega,oM,oM⟩,oM⟩
theorem aP3{H:Type}{enc:TypeId×Value->H}{n2 n3:Nat}{a b c:List Value}{d1 d2 d3:DataW H}(h1:PB w enc n 27 a d1)(h2:PB w enc n2 33 b d2)(h3:PB w enc n3 31 c d3)(hB:rI d1+rI d2+rI d3<=1048576):
 ∃(x:X4)(u:U4)(F:List Int),aSB x [u]/\F.length<=2^30/\sL w x.aT1 a/\sL w u.aT1 b/\sL w [.sl 1 (iR F)] c:=by
 obtain⟨x,g1,p1,p2,p3,p4,p5,p6⟩:=riX h1 oM;obtain⟨u,g2,q1,q2,q3⟩:=aTU h2 oM;obtain⟨F,g3,m3⟩:=aNP h3;exact⟨x,u,F,⟨p1,p2,p3,p4,p5,p6,sM,λy hy=>by rw[aR.1 hy];exact q1,λy hy=>by rw[aR.1 hy];exact q2,λy hy=>by rw[aR.1 hy];exact q3⟩,oM,g1,g2,g3⟩
end Go.Pv
