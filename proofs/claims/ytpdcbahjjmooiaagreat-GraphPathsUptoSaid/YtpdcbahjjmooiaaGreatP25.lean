import Derived.Test.YtpdcbahjjmooiaaGreatP24
/- A program logic over the model, contracts of the functions that the law reaches: part 25. (Names and blanks were shortened by program.) -/
set_option linter.unusedVariables false
set_option linter.unusedSimpArgs false
set_option linter.constructorNameAsVariable false
set_option linter.unusedSectionVars false
set_option linter.deprecated false
set_option maxRecDepth 100000
set_option maxHeartbeats 8000000
open Go Go.Proofs
namespace Go.Pv
open Go.RowKit
variable{P:List Int}{n x:Nat}{ml:List (Nat×R)}{t:TypeId}{rows:List (List A)}
def pG:List Int->List Int->Bool
 |x::a,y::b=>if x=y then pG a b else decide (x<y)
 |_,_=>false
theorem aM1(a b:List Int)(i:Nat)(h:i<a.length)(hb:i<b.length):pG (a.drop i) (b.drop i)=if a[i]=b[i]then pG (a.drop (i+1)) (b.drop (i+1))else decide (a[i]<b[i]):=by
 rw[dE h,dE hb];rfl
theorem aNK(a b:List Int)(hl:b.length=a.length)(ha:a.length<=2^38):Pu 112 [.d (.sl 1 (iR a)),.d (.sl 1 (iR b))] (.d (cb (pG a b))):=by
 refine iC mix Tryz.func112 ?_;refine bl ?_;refine bV mix (λi:Nat=>i<=a.length/\pG (a.drop i) (b.drop i)=pG a b) (I:=λi=>[(0,.d (.sl 1 (iR a))),(1,.d (.sl 1 (iR b))),(5,.d (ci i))])
  (J:=λi=>[]) (μ:=λi=>a.length -i) 1000 0 ⟨oM,sM⟩ mZ ?_
 rintro i ⟨hi,h0⟩;by_cases hlt:i<a.length
 ·have aZP:i<b.length:=oM;rw[aM1 a b i hlt aZP]at h0
  repeat'(first|with_reducible (first|refine w1 ?_|refine w2 ?_|refine w3 ?_|refine w4 ?_|refine w5 ?_|refine w9 ?_|refine wa ?_|refine wb ?_|refine wc ?_|refine wd ?_|refine we ?_|refine nN.mk ?_)|((with_reducible (first|refine wr ?_|refine wi ?_|refine wx ?_));(conv=>whnf))|((with_reducible refine wt eD kK ?_);(conv=>whnf))|((with_reducible refine FC.mk (RG (by(try dsimp only);omega) (by(try dsimp only);omega)) ?_);(conv=>whnf))|((with_reducible refine nQ (λh=>?_) (λh=>?_))<;>(try rw[h])<;>(conv at h=>{simp}))|((refine cD rfl eD hlt ?_);(conv=>whnf))|((refine cD rfl eD aZP ?_);(conv=>whnf)))
  ·rw[aT7 aM]at h0;exact dP h0
  ·rw[aUF aM]at h0;exact⟨i+1,oM,⟨oM,h0⟩,mZ⟩
  ·exfalso;omega
 ·rw[dT (by omega:a.length<=i)]at h0;refine bl ?_;refine O8.f (aU0 (by(try simp only[aB]);omega)) ?_;refine bl ?_;exact dP (by rw[<-h0];cases b.drop i<;>rfl)
abbrev pR(l:List (List Int)):List (List C):=l.map λP=>[.sl 1 (iR P)]
def gM(P:List Int):Int:=P.getLastD 0
theorem XO(h:P.length=n)(h0:0<n):P[n -1]?=some (gM P):=by
 subst h;unfold gM;rw[<-List.getLast?_eq_getElem?,List.getLastD_eq_getLast?];cases P with
 |nil=>simp at h0
 |cons a P=>simp[List.getLast?_cons]
theorem XN{es ce:Nat}{L:List Int}{x:Int}{k:List C->Prop}(h1:es=ce)(h2:0<es)(h0:0<n)(hx:L[n -1]?=some x)(hk:k [ci x]):PA es ce (iR L) ((n:Int)-1) k:=by
 obtain⟨hi,rfl⟩:=bA.1 hx;rw[show((n:Int)-1)=((n -1:Nat):Int) by omega];exact cD (f:=λx=>[ci x]) h1 h2 hi hk
def qK:List (List Int)->List Int->List (List Int)
 |[],w=>[w]
 |P::l,w=>if gM P=gM w then(if pG w P=true then w::l else P::l)else P::qK l w
theorem QS:∀(l:List (List Int))(w:List Int)(i:Nat)(h:i<l.length),gM l[i]=gM w->(∀k(hk:k<l.length),k<i->gM l[k]≠gM w)->qK l w=l.set i (if pG w l[i]=true then w else l[i])
 |[],_,_,h,_,_=>by simp at h
 |P::l,w,0,_,h1,_=>by
  have h1:gM P=gM w:=h1;rw[qK,aUF h1,List.set_cons_zero];show _=(if pG w P=true then w else P)::l;split<;>rfl
 |P::l,w,i+1,h,h1,h0=>by
  have h2:gM P≠gM w:=h0 0 sM oM;rw[qK,aT7 h2,List.set_cons_succ];exact congrArg (P::·) (QS l w i (by simpa using h) h1 (λk hk hki=>h0 (k+1) (by simpa using hk) oM))
theorem J3:∀(l:List (List Int))(w:List Int),(∀P∈l,gM P≠gM w)->qK l w=l++[w]
 |[],_,_=>rfl
 |P::l,w,h=>by
  rw[qK,aT7 (h P sM),J3 l w (λQ hQ=>h Q (by simp[hQ]))];rfl
theorem aAD(l:List (List Int))(w:List Int):(∃i,∃h:i<l.length,gM l[i]=gM w/\∀k(hk:k<l.length),k<i->gM l[k]≠gM w)\/∀P∈l,gM P≠gM w:=by
 induction l with
 |nil=>exact .inr sM
 |cons P l ih=>
  by_cases h:gM P=gM w
  ·exact .inl ⟨0,sM,h,λk _ hk=>oM⟩
  ·rcases ih with⟨i,h1,h2,h3⟩|h1
   ·refine .inl ⟨i+1,by simpa using h1,h2,λk hk hki=>?_⟩;cases k with
    |zero=>exact h
    |succ k=>exact h3 k (by simpa using hk) oM
   ·refine .inr λQ hQ=>?_;rcases aO.1 hQ with rfl|hQ
    ·exact h
    ·exact h1 Q hQ
theorem aEX(l:List (List Int))(w:List Int):(qK l w).map gM=QB (l.map gM) (gM w):=by
 unfold QB;rcases aAD l w with⟨i,h,h1,h0⟩|h
 ·rw[QS l w i h h1 h0,qS,aUF (aA4.2 ⟨l[i],aY h,h1⟩)];have e:gM (if pG w l[i]=true then w else l[i])=(l.map gM)[i]'(by simpa using h):=by
   split
   ·simp[h1]
   ·simp
  rw[e,List.set_getElem_self]
 ·rw[J3 l w h,aT7 (λhm=>by
   obtain⟨P,hP,e⟩:=aA4.1 hm
   exact h P hP e)]
  simp
theorem aGB{l:List (List Int)}{w:List Int}(h:P∈qK l w):P∈l\/P=w:=by
 rcases aAD l w with⟨i,hi,h1,h0⟩|h2
 ·rw[QS l w i hi h1 h0]at h;rcases oI h with h|h
  ·exact .inl h
  ·split at h
   ·exact .inr h
   ·exact .inl (h▸aY hi)
 ·rw[J3 l w h2]at h;simpa using h
theorem aJP{ml:List (Nat×R)}:∀{L:List Nat},(∀j∈L,aK ml j≠none)->rB ml L
 |[],_=>trivial
 |j::L,h=>⟨h j sM,aJP λk hk=>h k (by simp[hk])⟩
theorem aOL{x:Nat}:∀{l:List A},(∀a∈l,∀j∈a.hs,j=x)->∀j∈A.lQ l,j=x
 |[],_,j,h=>by simp[A.lQ]at h
 |a::l,h,j,hj=>by
  simp only[A.lQ,bN]at hj;rcases hj with hj|hj
  ·exact h a sM j hj
  ·exact aOL (λb hb=>h b (by simp[hb])) j hj
theorem aOM(h:∀r∈rows,r=[.h x]\/∃c,r=[.d c]):∀j∈(R.fW false t 1 rows).hs,j=x:=by
 refine aOL λa ha j hj=>?_;obtain⟨r,hr,ha⟩:=rQ.1 ha;rcases h r hr with rfl|⟨c,rfl⟩
 ·have:a=.h x:=by simpa using ha
  subst this;simpa [A.hs]using hj
 ·have:a=.d c:=by simpa using ha
  subst this;simp[A.hs]at hj
theorem aKU(X:List (List Int)):∀r∈bE (pR X),∃c,r=[.d c]:=by
 intro r hr;simp only[bE,bH,aA4]at hr;obtain⟨P,_,rfl⟩:=hr;exact⟨_,rfl⟩
theorem aP6(W:List Int)(rw0:List (List A))(hrw:rw0=bE (iR W)):aJ Tryz.prog 54 [.d (.nl 1),.h 20152] (aK [(20152,.fW false 25 1 rw0)]) (.ok (.h 31056)) (aH (aK [(20152,.fW false 25 1 rw0)]) [(31056,.fW false 31 1 [[.h 20152]])]):=by
 subst hrw;refine wE mix 30000 Tryz.func54 ⟨sn,tV⟩ ⟨⟨sn,tV⟩,tV⟩ ?_;refine bl ?_;refine bV mix (λi:Nat=>True) (I:=λi=>[(0,.d (.nl 1)),(1,.h 20152),(5,.d (ci 0))])
  (J:=λi=>[(20152,dU 25 1 (iR W))]) (μ:=λi=>0) 31000 0 tV mZ ?_
 intro _ _;refine bl ?_;refine n8 (by simp only[cE,aS];omega) kK ?_;conv=>whnf
 refine E9.mk (λh1=>absurd h1 sM) (λh1=>?_);conv=>whnf
 refine bl ?_;exact em
theorem aO8(l:List (List Int))(W:List Int)(rw0:List (List A))(hrw:rw0=bE (iR W))(n:Nat)(hn:0<n)(hn2:n<=2^38)(hll:l.length<=2^36)(hW:W.length=n)(hl:∀P∈l,P.length=n)(h0:∀P∈l,gM P≠gM W):aJ Tryz.prog 54 [.h 900,.h 20152] (aK [(900,dU 31 1 (pR l)),(20152,.fW false 25 1 rw0)]) (.ok (.h 31056)) (aH (aK [(900,dU 31 1 (pR l)),(20152,.fW false 25 1 rw0)]) [(900,.dead),(31056,.fW false 31 1 (bE (pR l)++[[.h 20152]]))]):=by
 subst hrw
 refine wE mix 30000 Tryz.func54 ⟨sn,tV⟩ ⟨tV,aJP λj hj=>by
  rw[aOM (x:=20152) (λr hr=>by
   rcases bN.1 hr with h|h
   · exact .inr (aKU l r h)
   · exact .inl (by simpa using h)) j hj]
  exact sn,tV⟩ ?_
 refine bl ?_;refine bV mix (λi:Nat=>i<=l.length) (I:=λi=>[(0,.h 900),(1,.h 20152),(5,.d (ci i))])
  (J:=λi=>[(900,dU 31 1 (pR l)),(20152,dU 25 1 (iR W))]) (μ:=λi=>l.length -i) 31000 0 oM mZ ?_
 intro i hi;by_cases hlt:i<l.length
 ·have hli:=hl _ (aY hlt);have hla:=XO hli hn;have hwa:=XO hW hn;refine bl ?_;refine O8.t (aUZ (by(try simp only[aB,bE]);omega)) ?_
  repeat'(first|with_reducible (first|refine w1 ?_|refine w2 ?_|refine w5 ?_|refine w9 ?_)|((with_reducible refine wt eD kK ?_);(conv=>whnf)))
  refine lG.mk i rfl (by simp only[bE,aB];omega) ?_;conv=>whnf
  skip
  refine fZ.mk [.d (.sl 1 (iR l[i]))] (gB _ _ [.sl 1 (iR l[i])] (by rw[cK,aC hlt];rfl)) ?_;conv=>whnf
  repeat'(first|refine XN rfl eD (by simp only[bE,iR,aB];omega) (by simp only[bE,iR,aB];rw[hW];exact hla) (bw ?_)|refine FC.mk (RG (by simp only[bE,iR,aB];omega) (by simp only[bE,iR,aB];omega)) (bw ?_))
  refine lG.mk (n -1) (by simp only[bE,iR,aB];omega) (by simp only[bE,iR,aB];omega) ?_;conv=>whnf
  skip
  refine fZ.mk [.d (ci (gM W))] (gB _ _ [ci (gM W)] (by rw[cK,hwa];rfl)) ?_;conv=>whnf
  repeat'(first|refine bl ?_|refine bS (λh=>?_) (λh=>?_))
  ·exact absurd aM (h0 _ (aY hlt))
  ·exact⟨i+1,oM,oM,mZ⟩
 ·skip
  refine bl ?_;refine O8.f (aU0 (by(try simp only[aB,bE]);omega)) ?_;refine bl ?_;refine n8 (by simp only[cE,aS,bE,aB];omega) kK ?_;conv=>whnf
  refine bl ?_;exact em
theorem aP5(l:List (List Int))(W:List Int)(rw0:List (List A))(hrw:rw0=bE (iR W))(n:Nat)(hn:0<n)(hn2:n<=2^38)(hll:l.length<=2^36)(hW:W.length=n)(hl:∀P∈l,P.length=n)(d:Nat)(hd:d<l.length)(h1:gM l[d]=gM W)(h0:∀k(hk:k<l.length),k<d->gM l[k]≠gM W):aJ Tryz.prog 54 [.h 900,.h 20152] (aK [(900,dU 31 1 (pR l)),(20152,.fW false 25 1 rw0)]) (.ok (.h 900)) (aH (aK [(900,dU 31 1 (pR l)),(20152,.fW false 25 1 rw0)]) [(900,.fW false 31 1 (if pG W l[d]=true then(bE (pR l)).set d [.h 20152]else bE (pR l)))]):=by
 subst hrw;have hls:=aNK W l[d] (by rw[hW];exact hl _ (aY hd)) oM;generalize hb:pG W l[d]=b at hls
 refine wE mix 30000 Tryz.func54 ⟨sn,tV⟩ ⟨aJP λj hj=>by
  rw[aOM (x:=20152) (λr hr=>by
   split at hr
   · rcases oI hr with h|h
     · exact .inr (aKU l r h)
     · exact .inl h
   · exact .inr (aKU l r hr)) j hj]
  exact sn,tV⟩ ?_
 refine bl ?_;refine bV mix (λi:Nat=>i<=d) (I:=λi=>[(0,.h 900),(1,.h 20152),(5,.d (ci i))])
  (J:=λi=>[(900,dU 31 1 (pR l)),(20152,dU 25 1 (iR W))]) (μ:=λi=>l.length -i) 31000 0 oM mZ ?_
 intro i hi;have hlt:i<l.length:=oM;have hli:=hl _ (aY hlt);have hla:=XO hli hn;have hwa:=XO hW hn;refine bl ?_;refine O8.t (aUZ (by(try simp only[aB,bE]);omega)) ?_
 repeat'(first|with_reducible (first|refine w1 ?_|refine w2 ?_|refine w5 ?_|refine w9 ?_)|((with_reducible refine wt eD kK ?_);(conv=>whnf)))
 refine lG.mk i rfl (by simp only[bE,aB];omega) ?_;conv=>whnf
 skip
 refine fZ.mk [.d (.sl 1 (iR l[i]))] (gB _ _ [.sl 1 (iR l[i])] (by rw[cK,aC hlt];rfl)) ?_;conv=>whnf
 repeat'(first|refine XN rfl eD (by simp only[bE,iR,aB];omega) (by simp only[bE,iR,aB];rw[hW];exact hla) (bw ?_)|refine FC.mk (RG (by simp only[bE,iR,aB];omega) (by simp only[bE,iR,aB];omega)) (bw ?_))
 refine lG.mk (n -1) (by simp only[bE,iR,aB];omega) (by simp only[bE,iR,aB];omega) ?_;conv=>whnf
 skip
 refine fZ.mk [.d (ci (gM W))] (gB _ _ [ci (gM W)] (by rw[cK,hwa];rfl)) ?_;conv=>whnf
 repeat'(first|refine bl ?_|refine bS (λh=>?_) (λh=>?_))
 ·have e:i=d:=by
   by_cases h:i<d
   ·exact absurd aM (h0 i hlt h)
   ·omega
  subst e;refine lG.mk i rfl (by simp only[bE,aB];omega) ?_;conv=>whnf
  skip
  refine fZ.mk [.d (.sl 1 (iR l[i]))] (gB _ _ [.sl 1 (iR l[i])] (by rw[cK,aC hlt];rfl)) ?_;conv=>whnf
  repeat'(first|refine bl ?_|refine bS (λh=>?_) (λh=>?_)|refine fU (cs:=[.sl 1 (iR W),.sl 1 (iR l[i])]) hls (.v _) (.cons (.dU rfl) (.cons (.d _) .nil)) (bw ?_))
  ·refine lG.mk i rfl (by simp only[bE,aB];omega) ?_;conv=>whnf
   skip
   refine fZ.mk [.d (.sl 1 (iR l[i]))] (gB _ _ [.sl 1 (iR l[i])] (by rw[cK,aC hlt];rfl)) ?_;conv=>whnf
   refine bl ?_;exact em
  ·skip
   exact em
 ·refine⟨i+1,oM,?_,mZ⟩;have:i≠d:=by rintro rfl;contradiction
  omega
def aOA(st:Int->List Int)(next:List (List Int))(P:List Int):List (List Int):=(st (gM P)).foldl (λnx m=>qK nx (P++[m])) next
def aSL(st:Int->List Int)(L:List (List Int)):List (List Int):=L.foldl (aOA st) []
def wV(st:Int->List Int)(H:List Int):Nat->List (List Int)
 |0=>H.map λx=>[x]
 |k+1=>aSL st (wV st H k)
def KR(st:Int->List Int)(H:List Int)(to:Int):Nat->Nat->List Int×Bool
 |0,_=>([],false)
 |n+1,k=>match(wV st H k).find? (λP=>decide (gM P=to))with
  |some P=>(P,true)
  |none=>KR st H to n (k+1)
theorem aP7{mF:Mem}{a a':A}(h:Cv mF a a'):∀X:List (List A),MC mF (X++[[a]]) (X++[[a']])
 |[]=>.cons (.cons h (.same [])) (.same [])
 |x::X=>.cons (.same x) (aP7 h X)
theorem aSI{mF:Mem}{a a':A}(h:Cv mF a a'):∀(X:List (List A))(i:Nat),MC mF (X.set i [a]) (X.set i [a'])
 |[],_=>.same _
 |x::X,0=>.cons (.cons h (.same [])) (.same X)
 |x::X,i+1=>.cons (.same x) (aSI h X i)
theorem aOF{F:List Nat}{d:Nat}{t2:TypeId}{rw:List (List A)}(X:List (List Int))(W:List Int)(h:aK ml d=some (.fW false t 1 rows))(hr:rows=bE (pR X)++[[.h x]])(h1:s9 x F=true)(h2:aK ml x=some (.fW false t2 1 rw))(hw:rw=bE (iR W)):∃q,aK ml d=some q/\ZN (EC F ml) q (dU t 1 (pR (X++[W]))):=by
 subst hr;subst hw;refine⟨_,h,.fW ?_⟩;have e:bE (pR (X++[W]))=bE (pR X)++[[.d (.sl 1 (iR W))]]:=by simp[bE]
 rw[e];exact aP7 (.rd (.os (eX h1 h2) (D6.data _ _))) _
theorem aSO{F:List Nat}{d i:Nat}{t2:TypeId}{rw:List (List A)}(X:List (List Int))(W:List Int)(h:aK ml d=some (.fW false t 1 rows))(hr:rows=(bE (pR X)).set i [.h x])(h1:s9 x F=true)(h2:aK ml x=some (.fW false t2 1 rw))(hw:rw=bE (iR W)):∃q,aK ml d=some q/\ZN (EC F ml) q (dU t 1 (pR (X.set i W))):=by
 subst hr;subst hw;refine⟨_,h,.fW ?_⟩;have e:bE (pR (X.set i W))=(bE (pR X)).set i [.d (.sl 1 (iR W))]:=by simp[bE,qS]
 rw[e];exact aSI (.rd (.os (eX h1 h2) (D6.data _ _))) _ _
theorem aTJ{F:List Nat}{d i:Nat}{t2:TypeId}{rw:List (List A)}{b:Bool}(X:List (List Int))(W:List Int)(hi:i<X.length)(h:aK ml d=some (.fW false t 1 rows))(hr:rows=if b=true then(bE (pR X)).set i [.h x]else bE (pR X))(h1:s9 x F=true)(h2:aK ml x=some (.fW false t2 1 rw))(hw:rw=bE (iR W)):∃q,aK ml d=some q/\ZN (EC F ml) q (dU t 1 (pR (X.set i (if b=true then W else X[i])))):=by
 cases b with
 |true=>exact aSO X W h hr h1 h2 hw
 |false=>
  rw[aT7 gO]at hr⊢;rw[List.set_getElem_self];exact⟨_,h,by rw[hr];exact .fW (.same _)⟩
theorem aAH{L:List Int}(h:rows=bE (iR L)):rB ml (R.fW false t 1 rows).hs:=by subst h;exact aZ
theorem aTF{id:Nat}{X:List (List Int)}(h:X≠[]):lv 1 id (pR X)=.h id:=by
 cases X with
 |nil=>exact absurd rfl h
 |cons _ _=>rfl
theorem aS1{id:Nat}{X:List (List Int)}(h:X≠[]):lm id t 1 (pR X) ml=(id,dU t 1 (pR X))::ml:=by
 cases X with
 |nil=>exact absurd rfl h
 |cons _ _=>rfl
theorem aPA{k:A->List (Nat×R)->Prop}{rw0:List (List A)}(W:List Int)(hrw:rw0=bE (iR W))(hm:aK ml 20152=some (.fW false 25 1 rw0))(hfr:aK ml 31056=none)(hk:k (.h 31056) [(31056,.fW false 31 1 [[.h 20152]])]):dZ Tryz.prog 54 [.d (.nl 1),.h 20152] ml k:=
 ⟨_,_,aJ.l8 (aP6 W rw0 hrw) ⟨sn,tV⟩ ⟨hm,tV⟩ ⟨aAH hrw,tV⟩ ⟨.inr hfr,tV⟩,hk⟩
theorem aL9{k:A->List (Nat×R)->Prop}{rw0:List (List A)}(l:List (List Int))(W:List Int)(hrw:rw0=bE (iR W))(n:Nat)(hn:0<n)(hn2:n<=2^38)(hll:l.length<=2^36)(hW:W.length=n)(hl:∀P∈l,P.length=n)(h0:∀P∈l,gM P≠gM W)(hm:aK ml 20152=some (.fW false 25 1 rw0))(h9:aK ml 900=some (dU 31 1 (pR l)))(hfr:aK ml 31056=none)(hk:k (.h 31056) [(900,.dead),(31056,.fW false 31 1 (bE (pR l)++[[.h 20152]]))]):dZ Tryz.prog 54 [.h 900,.h 20152] ml k:=
 ⟨_,_,aJ.l8 (aO8 l W rw0 hrw n hn hn2 hll hW hl h0) ⟨sn,sn,tV⟩ ⟨h9,hm,tV⟩ ⟨aZ,aAH hrw,tV⟩ ⟨.inl sn,.inr hfr,tV⟩,hk⟩
theorem aO4{k:A->List (Nat×R)->Prop}{rw0:List (List A)}(l:List (List Int))(W:List Int)(hrw:rw0=bE (iR W))(n:Nat)(hn:0<n)(hn2:n<=2^38)(hll:l.length<=2^36)(hW:W.length=n)(hl:∀P∈l,P.length=n)(d:Nat)(hd:d<l.length)(h1:gM l[d]=gM W)(h0:∀k(hk:k<l.length),k<d->gM l[k]≠gM W)(hm:aK ml 20152=some (.fW false 25 1 rw0))(h9:aK ml 900=some (dU 31 1 (pR l)))(hk:k (.h 900) [(900,.fW false 31 1 (if pG W l[d]=true then(bE (pR l)).set d [.h 20152]else bE (pR l)))]):dZ Tryz.prog 54 [.h 900,.h 20152] ml k:=
 ⟨_,_,aJ.l8 (aP5 l W rw0 hrw n hn hn2 hll hW hl d hd h1 h0) ⟨sn,sn,tV⟩ ⟨h9,hm,tV⟩ ⟨aZ,aAH hrw,tV⟩ ⟨.inl sn,tV⟩,hk⟩
theorem BB(P:List Int)(m:Int):gM (P++[m])=m:=by simp[gM]
structure WI(U:List Int)(n:Nat)(Q:List (List Int)):Prop where
 len:∀P∈Q,P.length=n
 mem:∀P∈Q,gM P∈U
 nd:(Q.map gM).Nodup
theorem WI.nil(U:List Int)(n:Nat):WI U n []:=⟨sM,sM,sM⟩
theorem WI.aTI{U:List Int}{Q:List (List Int)}(h:WI U n Q)(h1:P.length=n)(h2:gM P∈U):WI U n (qK Q P):=
 ⟨λR hR=>by rcases aGB hR with h3|rfl
            · exact h.len R h3
            · exact h1,λR hR=>by rcases aGB hR with h3|rfl
                                 · exact h.mem R h3
                                 · exact h2,by rw[aEX];exact aQ8 h.nd⟩
theorem WI.le{U:List Int}{Q:List (List Int)}(h:WI U n Q):Q.length<=U.length:=by
 have:=aEM h.nd (b:=U) λx hx=>by
  obtain⟨P,hP,rfl⟩:=aA4.1 hx;exact h.mem P hP
 simpa using this
theorem aPP(w:R4)(hw:w.gA)(u:U4)(hu:u.wD)(hn:V.dB (u.names.map (·.value))<=2^30)(to:Int)(hN:(w.univ (kV (l9 u.names))).length<=2^30)(hm:w.MR u=true)(hi:w.mI to=true):Pu 12 [.d (.ip w.aT1),.d (.agg u.aT1),.d (ci to)] (.eL [.d (.sl 1 (iR (KR w.lS (kV (l9 u.names)) to (w.aT4.length+1) 0).1)),.d (cb (KR w.lS (kV (l9 u.names)) to (w.aT4.length+1) 0).2),.d (ci 0)]):=by
 have aY3:=aSU w hw.towt u hu;rw[hm]at aY3;have hat:=zP w to hw.len;rw[hi]at hat;have hho:=aPK u hn hu.nlen;refine iC mix Tryz.func12 ?_
 repeat'(first|refine bl ?_|refine dR aY3 (.cons (.same _) (.cons (.agg u.aT1) .nil)) (bw ?_)|refine aF hat (bw ?_)|refine dR hho (.cons (.agg u.aT1) .nil) (bw ?_))
 have hHl:(kV (l9 u.names)).length<=2^30:=by unfold R4.univ at hN;rw[aU]at hN;omega
 generalize kV (l9 u.names)=H at hHl hN⊢;refine cY mix (λa:Nat×List (List Int)=>a.1<=H.length/\a.2=(H.take a.1).map λx=>[x]) (I:=λa=>[(0,.d (.ip w.aT1)),(2,.d (ci to)),(12,.d (.sl 1 (iR H))),(11,lv 1 900 (pR a.2)),(13,.d (ci a.1))])
  (J:=λa=>lm 900 31 1 (pR a.2) []) (μ:=λa=>H.length -a.1) 2000 (0,[]) 0
  (λQ:List (List Int)=>Q=wV w.lS H 0) (λQ=>[(0,.d (.ip w.aT1)),(2,.d (ci to)),(11,.d (.sl 1 (pR Q)))]) (λQ=>[]) 4000 ⟨sM,sM⟩ mZ ?_ ?_
 ·rintro⟨i,Q⟩ ⟨hi,hQ⟩;dsimp only at hi hQ⊢;have hlen:Q.length=i:=by rw[hQ];simp;omega
  by_cases hlt:i<H.length
  ·have hst:(H.take (i+1)).map (λx=>[x])=Q++[[H[i]]]:=by rw[aT hlt,bP,<-hQ];rfl
   cases Q with
   |nil=>
    show vc _ _ _ _ _ [] _ _
    repeat'(first|refine bl ?_|refine bS (λh=>?_) (λh=>?_)|refine cD rfl eD hlt (bw ?_))
    all_goals try(exfalso;omega)
    refine n8 (by simp only[cE,aS];omega) kK ?_;conv=>whnf
    refine E9.mk (λhz1=>absurd hz1 sM) (λhz1=>?_);conv=>whnf
    refine bl ?_;refine⟨(i+1,[[H[i]]]),dM,⟨dM,by dsimp only;rw[hst];rfl⟩,?_⟩;refine cN.trans (l':=[(0,.d (.ip w.aT1)),(2,.d (ci to)),(12,.d (.sl 1 (iR H))),(11,.h 2088),(13,.d (ci (i+1:Nat)))]) (ml':=[(2088,dU 31 1 (pR [[H[i]]]))]) (cN.freeze [2072] tV ⟨.same _,.same _,.same _,.same _,.same _,tV⟩ ⟨⟨rfl,aOF [] [H[i]] rfl rfl rfl rfl rfl⟩,tV⟩ ⟨tV,tV,tV,⟨sn,tV⟩,tV,tV⟩ ⟨aZ,tV⟩) ?_;exact mv 2088 900
   |cons q Q=>
    show vc _ _ _ _ _ [(900,dU 31 1 (pR (q::Q)))] _ _
    repeat'(first|refine bl ?_|refine bS (λh=>?_) (λh=>?_)|refine cD rfl eD hlt (bw ?_))
    all_goals try(exfalso;omega)
    refine n8 (by simp only[cE,aS,aB,aQ,bE];simp only[aQ]at hlen;omega) kK ?_;conv=>whnf
    refine bl ?_;refine⟨(i+1,q::(Q++[[H[i]]])),dM,⟨dM,by dsimp only;rw[hst];rfl⟩,?_⟩;refine cN.trans (l':=[(0,.d (.ip w.aT1)),(2,.d (ci to)),(12,.d (.sl 1 (iR H))),(11,.h 2088),(13,.d (ci (i+1:Nat)))]) (ml':=[(2088,dU 31 1 (pR ((q::Q)++[[H[i]]])))]) (cN.freeze [2072] tV ⟨.same _,.same _,.same _,.same _,.same _,tV⟩ ⟨⟨rfl,aOF (q::Q) [H[i]] rfl rfl rfl rfl rfl⟩,tV⟩ ⟨tV,tV,tV,⟨sn,tV⟩,tV,tV⟩ ⟨aZ,tV⟩) ?_;exact mv 2088 900
  ·have hi':i=H.length:=oM;subst hi';rw[gX]at hQ;cases Q with
   |nil=>
    show vc _ _ _ _ _ [] _ _;refine bl ?_;refine O8.f (aU0 (by(try simp only[aB]);omega)) ?_;refine bl ?_;exact⟨[],hQ,cN.freeze [] tV ⟨.same _,.same _,.rd (.nz _ _),tV⟩ tV ⟨tV,tV,tV,tV⟩ tV⟩
   |cons q Q=>
    show vc _ _ _ _ _ [(900,dU 31 1 (pR (q::Q)))] _ _;refine bl ?_;refine O8.f (aU0 (by(try simp only[aB]);omega)) ?_;refine bl ?_;exact⟨q::Q,hQ,cN.freeze [900] tV ⟨.same _,.same _,.rd (.os (eX rfl rfl) (D6.data _ _)),tV⟩ tV ⟨tV,tV,tV,tV⟩ tV⟩
 rintro Q rfl;have a2N:∀P∈wV w.lS H 0,P.length=0+1:=λP hP=>by
  obtain⟨x,_,rfl⟩:=aA4.1 hP;rfl
 have aY9:(wV w.lS H 0).length<=2^30:=by simpa [wV]using hHl
 have hlen:=hw.len;refine bl ?_;refine cY mix (λk:Nat=>k<=w.aT4.length+1/\KR w.lS H to (w.aT4.length+1 -k) k=KR w.lS H to (w.aT4.length+1) 0/\(∀P∈wV w.lS H k,P.length=k+1)/\(wV w.lS H k).length<=2^30)
  (I:=λk=>[(0,.d (.ip w.aT1)),(2,.d (ci to)),(11,.d (.sl 1 (pR (wV w.lS H k)))),(14,.d (ci k))]) (J:=λk=>[]) (μ:=λk=>w.aT4.length+1 -k) 6000 0 2
  (λ_:Unit=>KR w.lS H to (w.aT4.length+1) 0=([],false)) (λ_=>[]) (λ_=>[]) 90000 ⟨oM,rfl,a2N,aY9⟩ mZ ?_ ?_
 ·rintro k ⟨hk,hf,hL,hLn⟩;by_cases hle:k<=w.aT4.length
  ·have hnx:wV w.lS H (k+1)=aSL w.lS (wV w.lS H k):=rfl;rw[show w.aT4.length+1 -k=(w.aT4.length+1 -(k+1))+1 by omega,KR]at hf;generalize wV w.lS H k=L at hf hL hLn hnx⊢;refine bl ?_;refine O8.t (aUZ (by(try simp only[aB]);omega)) ?_;refine bl ?_;refine cY mix (λi:Nat=>i<=L.length/\(L.take i).find? (λP=>decide (gM P=to))=none)
    (I:=λi=>[(0,.d (.ip w.aT1)),(2,.d (ci to)),(11,.d (.sl 1 (pR L))),(14,.d (ci k)),(15,.d (ci i))]) (J:=λi=>[]) (μ:=λi=>L.length -i) 7000 0 4
    (λ_:Unit=>L.find? (λP=>decide (gM P=to))=none) (λ_=>[(0,.d (.ip w.aT1)),(2,.d (ci to)),(11,.d (.sl 1 (pR L))),(14,.d (ci k))]) (λ_=>[]) 10000 ⟨oM,rfl⟩ mZ ?_ ?_
   ·rintro i ⟨hi,h0⟩;by_cases hlt:i<L.length
    ·have hLi:=hL _ (aY hlt);have hla:=XO hLi oM;have hfs:(L.take (i+1)).find? (λP=>decide (gM P=to))=if gM L[i]=to then some L[i]else none:=by
      rw[aT hlt,y3,h0];by_cases e:gM L[i]=to
      ·simp[e]
      ·simp[e]
     repeat'(first|with_reducible (first|refine w1 ?_|refine w2 ?_|refine w3 ?_|refine w4 ?_|refine w5 ?_|refine w9 ?_|refine wa ?_|refine wb ?_|refine wc ?_|refine wd ?_|refine wj ?_|refine wk ?_|refine wl ?_|refine nN.mk ?_)|((with_reducible (first|refine wr ?_|refine wi ?_|refine wx ?_));(conv=>whnf))|((with_reducible refine wt eD kK ?_);(conv=>whnf))|((with_reducible refine FC.mk (RG (by(try dsimp only);omega) (by(try dsimp only);omega)) ?_);(conv=>whnf))|((with_reducible refine nQ (λh=>?_) (λh=>?_))<;>(try rw[h])<;>(conv at h=>{simp}))|((refine cD rfl eD hlt ?_);(conv=>whnf))|((refine XN rfl eD (by simp only[iR,aB];omega) (by simp only[iR,aB];rw[hLi];exact hla) ?_);(conv=>whnf))|((refine FC.mk (RG (by simp only[iR,aB];omega) (by simp only[iR,aB];omega)) ?_);(conv=>whnf)))
     ·have e:gM L[i]=to:=aM;have hfl:L.find? (λP=>decide (gM P=to))=some L[i]:=by
       have h1:(L.take (i+1)++L.drop (i+1)).find? (λP=>decide (gM P=to))=some L[i]:=by rw[y3,hfs,aUF e];rfl
       rwa [gJ]at h1
      rw[hfl]at hf;rw[<-hf];exact .eL (cs:=[.sl 1 (iR L[i]),cb true,ci 0]) (.cons (.d _) (.cons (.d _) (.cons (.d _) .nil)))
     ·have e:¬gM L[i]=to:=aM;rw[aT7 e]at hfs;exact⟨i+1,oM,⟨oM,hfs⟩,mZ⟩
     ·exfalso;omega
    ·rw[aI oM]at h0;refine bl ?_;refine O8.f (aU0 (by(try simp only[aB]);omega)) ?_;refine bl ?_;exact⟨(),h0,mZ⟩
   rintro _ a1N;rw[a1N]at hf;dsimp only at hf;refine bl ?_;refine cY mix (λa:Nat×List (List Int)=>a.1<=L.length/\a.2=(L.take a.1).foldl (aOA w.lS) []/\WI (w.univ H) (k+2) a.2)
    (I:=λa=>[(0,.d (.ip w.aT1)),(2,.d (ci to)),(11,.d (.sl 1 (pR L))),(14,.d (ci k)),(16,lv 1 900 (pR a.2)),(17,.d (ci a.1))]) (J:=λa=>lm 900 31 1 (pR a.2) []) (μ:=λa=>L.length -a.1) 12000 (0,[]) 6
    (λQ:List (List Int)=>Q=aSL w.lS L/\WI (w.univ H) (k+2) Q) (λQ=>[(0,.d (.ip w.aT1)),(2,.d (ci to)),(14,.d (ci k)),(16,lv 1 900 (pR Q))]) (λQ=>lm 900 31 1 (pR Q) []) 60000 ⟨sM,rfl,WI.nil _ _⟩ mZ ?_ ?_
   ·rintro⟨i,Q⟩ ⟨hi,hQ,hW⟩;dsimp only at hi hQ hW⊢;by_cases hlt:i<L.length
    ·have hLi:=hL _ (aY hlt);have hla:=XO hLi oM;have hsn:(L.take (i+1)).foldl (aOA w.lS) []=aOA w.lS Q L[i]:=by rw[aT hlt,iB,<-hQ];rfl
     unfold aOA at hsn;have hsl:(w.lS (gM L[i])).length<=2^29:=by
      have h1:=hw.aW4 (gM L[i]);have h2:=w.tP (gM L[i]);unfold R4.lS;rw[aU];omega
     have hsu:∀x∈w.lS (gM L[i]),x∈w.univ H:=λx hx=>w.aO0 H _ x hx;have a1T:=aQH w hw (gM L[i]);generalize w.lS (gM L[i])=M at hsn hsl hsu a1T
     repeat'(first|with_reducible (first|refine w1 ?_|refine w2 ?_|refine w3 ?_|refine w5 ?_|refine w8 ?_|refine w9 ?_|refine wa ?_|refine wk ?_|refine nN.mk ?_)|((with_reducible (first|refine wr ?_|refine wi ?_));(conv=>whnf))|((with_reducible refine wt eD kK ?_);(conv=>whnf))|((with_reducible refine nQ (λh=>?_) (λh=>?_))<;>(try rw[h])<;>(conv at h=>{simp}))|((refine cD rfl eD hlt ?_);(conv=>whnf))|((refine XN rfl eD (by simp only[iR,aB];omega) (by simp only[iR,aB];rw[hLi];exact hla) ?_);(conv=>whnf))|((refine FC.mk (RG (by simp only[iR,aB];omega) (by simp only[iR,aB];omega)) ?_);(conv=>whnf))|((refine XD.mk _ a1T ?_);(conv=>whnf)))
     all_goals try(exfalso;omega)
     refine cY mix (λb:Nat×List (List Int)=>b.1<=M.length/\b.2=(M.take b.1).foldl (λnx m=>qK nx (L[i]++[m])) Q/\WI (w.univ H) (k+2) b.2)
      (I:=λb=>[(0,.d (.ip w.aT1)),(2,.d (ci to)),(11,.d (.sl 1 (pR L))),(14,.d (ci k)),(16,lv 1 900 (pR b.2)),(17,.d (ci i)),(18,.d (.sl 1 (iR M))),(19,.d (ci b.1))]) (J:=λb=>lm 900 31 1 (pR b.2) []) (μ:=λb=>M.length -b.1) 20000 (0,Q) 8
      (λZ:List (List Int)=>Z=M.foldl (λnx m=>qK nx (L[i]++[m])) Q/\WI (w.univ H) (k+2) Z) (λZ=>[(0,.d (.ip w.aT1)),(2,.d (ci to)),(11,.d (.sl 1 (pR L))),(14,.d (ci k)),(16,lv 1 900 (pR Z)),(17,.d (ci i))]) (λZ=>lm 900 31 1 (pR Z) []) 50000 ⟨sM,rfl,hW⟩ (by cases Q<;>exact mZ) ?_ ?_
     ·rintro⟨j,Z⟩ ⟨hj,hZ,hZW⟩;dsimp only at hj hZ hZW⊢;by_cases hlj:j<M.length
      ·have hLn0:L[i]≠[]:=λe=>by rw[e]at hLi;simp at hLi
       have hst:(M.take (j+1)).foldl (λnx m=>qK nx (L[i]++[m])) Q=qK Z (L[i]++[M[j]]):=by rw[aT hlj,iB,<-hZ];rfl
       have hwl:(L[i]++[M[j]]).length=k+2:=by rw[aU,hLi];rfl
       have hwz:gM (L[i]++[M[j]])=M[j]:=BB _ _;have hW2:WI (w.univ H) (k+2) (qK Z (L[i]++[M[j]])):=hZW.aTI hwl (by rw[hwz];exact hsu _ (aY hlj));have hZl:=hZW.le;have hne:qK Z (L[i]++[M[j]])≠[]:=by
        cases Z with
        |nil=>simp[qK]
        |cons z Z=>
         rw[qK];split
         ·split<;>simp
         ·simp
       have aXS:∀{n l ml},cN [] n l ml [(0,.d (.ip w.aT1)),(2,.d (ci to)),(11,.d (.sl 1 (pR L))),(14,.d (ci k)),(16,.h 900),(17,.d (ci i)),(18,.d (.sl 1 (iR M))),(19,.d (ci (j+1:Nat)))] [(900,dU 31 1 (pR (qK Z (L[i]++[M[j]]))))]->cN [] n l ml [(0,.d (.ip w.aT1)),(2,.d (ci to)),(11,.d (.sl 1 (pR L))),(14,.d (ci k)),(16,lv 1 900 (pR (qK Z (L[i]++[M[j]])))),(17,.d (ci i)),(18,.d (.sl 1 (iR M))),(19,.d (ci (j+1:Nat)))] (lm 900 31 1 (pR (qK Z (L[i]++[M[j]]))) []):=λh=>by rw[aTF hne,aS1 hne];exact h
       have aXU:bE (iR L[i])++bE (iR [M[j]])=bE (iR (L[i]++[M[j]])):=gG L[i] [M[j]];generalize hWd:L[i]++[M[j]]=W at hst hwl hwz hW2 hne aXS aXU;cases Z with
       |nil=>
        show vc _ _ _ _ _ [] _ _
        repeat'(first|refine bl ?_|refine bS (λh=>?_) (λh=>?_)|refine cD rfl eD hlt (bw ?_))
        all_goals try(exfalso;omega)
        refine n8 (by simp only[aB];omega) kK ?_;conv=>whnf
        refine E9.mk (λh1=>absurd (by simpa using h1) hLn0) (λh1=>?_);conv=>whnf
        repeat'(first|refine bl ?_|refine cD rfl eD hlj (bw ?_))
        refine n8 (by simp only[aB,iR,cE,aS];omega) kK ?_;conv=>whnf
        repeat'(first|refine bl ?_|refine aPA W aXU rfl rfl (bw ?_))
        refine⟨(j+1,qK [] W),dM,⟨dM,by dsimp only;rw[hst],hW2⟩,aXS ?_⟩;refine cN.trans (l':=[(0,.d (.ip w.aT1)),(2,.d (ci to)),(11,.d (.sl 1 (pR L))),(14,.d (ci k)),(16,.h 31056),(17,.d (ci i)),(18,.d (.sl 1 (iR M))),(19,.d (ci (j+1:Nat)))]) (ml':=[(31056,dU 31 1 (pR (qK [] W)))]) (cN.freeze [20152] tV ⟨.same _,.same _,.same _,.same _,.same _,.same _,.same _,.same _,tV⟩ ⟨⟨rfl,aOF [] W rfl rfl rfl rfl aXU⟩,tV⟩ ⟨tV,tV,tV,tV,⟨sn,tV⟩,tV,tV,tV,tV⟩ ⟨aZ,tV⟩) ?_;exact mv 31056 900
       |cons z Z=>
        show vc _ _ _ _ _ [(900,dU 31 1 (pR (z::Z)))] _ _;rcases aAD (z::Z) W with⟨d,hd,hd1,hd0⟩|hno
        ·have hB:=QS (z::Z) W d hd hd1 hd0
         repeat'(first|refine bl ?_|refine bS (λh=>?_) (λh=>?_)|refine cD rfl eD hlt (bw ?_))
         all_goals try(exfalso;omega)
         refine n8 (by simp only[aB];omega) kK ?_;conv=>whnf
         refine E9.mk (λh1=>absurd (by simpa using h1) hLn0) (λh1=>?_);conv=>whnf
         repeat'(first|refine bl ?_|refine cD rfl eD hlj (bw ?_))
         refine n8 (by simp only[aB,iR,cE,aS];omega) kK ?_;conv=>whnf
         repeat'(first|refine bl ?_|refine aO4 (z::Z) W aXU (k+2) oM oM oM hwl hZW.len d hd hd1 hd0 rfl rfl (bw ?_))
         refine⟨(j+1,qK (z::Z) W),dM,⟨dM,by dsimp only;rw[hst],hW2⟩,aXS ?_⟩;rw[hB];exact cN.freeze [20152] tV ⟨.same _,.same _,.same _,.same _,.same _,.same _,.same _,.same _,tV⟩ ⟨⟨rfl,aTJ (z::Z) W hd rfl rfl rfl rfl aXU⟩,tV⟩ ⟨tV,tV,tV,tV,⟨sn,tV⟩,tV,tV,tV,tV⟩ ⟨aZ,tV⟩
        ·have hB:=J3 (z::Z) W hno
         repeat'(first|refine bl ?_|refine bS (λh=>?_) (λh=>?_)|refine cD rfl eD hlt (bw ?_))
         all_goals try(exfalso;omega)
         refine n8 (by simp only[aB];omega) kK ?_;conv=>whnf
         refine E9.mk (λh1=>absurd (by simpa using h1) hLn0) (λh1=>?_);conv=>whnf
         repeat'(first|refine bl ?_|refine cD rfl eD hlj (bw ?_))
         refine n8 (by simp only[aB,iR,cE,aS];omega) kK ?_;conv=>whnf
         repeat'(first|refine bl ?_|refine aL9 (z::Z) W aXU (k+2) oM oM oM hwl hZW.len hno rfl rfl rfl (bw ?_))
         refine⟨(j+1,qK (z::Z) W),dM,⟨dM,by dsimp only;rw[hst],hW2⟩,aXS ?_⟩;rw[hB];refine cN.trans (l':=[(0,.d (.ip w.aT1)),(2,.d (ci to)),(11,.d (.sl 1 (pR L))),(14,.d (ci k)),(16,.h 31056),(17,.d (ci i)),(18,.d (.sl 1 (iR M))),(19,.d (ci (j+1:Nat)))]) (ml':=[(31056,dU 31 1 (pR ((z::Z)++[W])))]) (cN.freeze [20152] tV ⟨.same _,.same _,.same _,.same _,.same _,.same _,.same _,.same _,tV⟩ ⟨⟨rfl,aOF (z::Z) W rfl rfl rfl rfl aXU⟩,tV⟩ ⟨tV,tV,tV,tV,⟨sn,tV⟩,tV,tV,tV,tV⟩ ⟨aZ,tV⟩) ?_;exact mv 31056 900
      ·rw[aI oM]at hZ;refine bl ?_;refine O8.f (aU0 (by(try simp only[aB]);omega)) ?_;refine bl ?_;exact⟨Z,⟨hZ,hZW⟩,by cases Z<;>exact mZ⟩
     rintro Z ⟨hZ,hZW⟩;refine bl ?_;exact⟨(i+1,Z),dM,⟨dM,hZ.trans hsn.symm,hZW⟩,by cases Z<;>exact mZ⟩
    ·rw[aI oM]at hQ;refine bl ?_;refine O8.f (aU0 (by(try simp only[aB]);omega)) ?_;refine bl ?_;exact⟨Q,⟨hQ,hW⟩,by cases Q<;>exact mZ⟩
   rintro Q ⟨hQ,hW⟩;rw[<-hQ]at hnx;have hWl:=hW.le;have hWn:=hW.len;have aWW:∀{n l ml},cN [] n l ml [(0,.d (.ip w.aT1)),(2,.d (ci to)),(11,.d (.sl 1 (pR Q))),(14,.d (ci (k+1:Nat)))] []->∃a',w.aT4.length+1 -a'<w.aT4.length+1 -k/\(a'<=w.aT4.length+1/\KR w.lS H to (w.aT4.length+1 -a') a'=KR w.lS H to (w.aT4.length+1) 0/\(∀P∈wV w.lS H a',P.length=a'+1)/\(wV w.lS H a').length<=2^30)/\cN [] n l ml [(0,.d (.ip w.aT1)),(2,.d (ci to)),(11,.d (.sl 1 (pR (wV w.lS H a')))),(14,.d (ci a'))] []:=λh=>⟨k+1,oM,⟨oM,hf,by rw[hnx];exact hWn,by rw[hnx];omega⟩,by rw[hnx];exact h⟩;cases Q with
   |nil=>
    show vc _ _ _ _ _ [] _ _;refine bl ?_;exact aWW (cN.freeze [] tV ⟨.same _,.same _,.rd (.nz _ _),.same _,tV⟩ tV ⟨tV,tV,tV,tV,tV⟩ tV)
   |cons q Q=>
    show vc _ _ _ _ _ [(900,dU 31 1 (pR (q::Q)))] _ _;refine bl ?_;exact aWW (cN.freeze [900] tV ⟨.same _,.same _,.rd (.os (eX rfl rfl) (D6.data _ _)),.same _,tV⟩ tV ⟨tV,tV,tV,tV,tV⟩ tV)
  ·skip
   refine bl ?_;refine O8.f (aU0 (by(try simp only[aB]);omega)) ?_;refine bl ?_;exact⟨(),by rw[<-hf,show w.aT4.length+1 -k=0 by omega];rfl,mZ⟩
 rintro _ aWW;rw[aWW];refine bl ?_;exact .eL (cs:=[.sl 1 [],cb false,ci 0]) (.cons (.nz _ _) (.cons (.d _) (.cons (.d _) .nil)))
def R4.TW(w:R4)(u:U4)(to:Int):Int:=if w.MR u=true then(if w.mI to=true then 0 else 5)else 190
theorem aNC(w:R4)(hw:w.gA)(u:U4)(hu:u.wD)(to:Int)(h:(w.MR u&&w.mI to)=false):Pu 12 [.d (.ip w.aT1),.d (.agg u.aT1),.d (ci to)] (.eL [.d (.sl 1 []),.d (cb false),.d (ci (w.TW u to))]):=by
 have aY3:=aSU w hw.towt u hu;have hat:=zP w to hw.len;refine iC mix Tryz.func12 ?_;unfold R4.TW;cases hm:w.MR u with
 |false=>
  rw[hm]at aY3
  repeat'(first|refine bl ?_|refine dR aY3 (.cons (.same _) (.cons (.agg u.aT1) .nil)) (bw ?_))
  exact .eL (cs:=[.sl 1 [],cb false,ci 190]) (.cons (.nz _ _) (.cons (.d _) (.cons (.d _) .nil)))
 |true=>
  have hi:w.mI to=false:=by simpa [hm]using h
  rw[hm]at aY3;rw[hi]at hat;rw[hi]
  repeat'(first|refine bl ?_|refine dR aY3 (.cons (.same _) (.cons (.agg u.aT1) .nil)) (bw ?_)|refine aF hat (bw ?_))
  exact .eL (cs:=[.sl 1 [],cb false,ci 5]) (.cons (.nz _ _) (.cons (.d _) (.cons (.d _) .nil)))
theorem aO2(w:D4)(hw:w.qV)(u:U4)(hu:u.gA)(to:Int)(hck:w.zE u=true)(hto:w.mI to=true)(Q:A->List (Nat×R)->Prop)(q1:M9 w.cX w.aP (jL u.names) to=([],false)->∀ml,Q (.eL [.d (.nl 1),.d (cb false),.d (ci 0)]) ml)(q2:∀P,M9 w.cX w.aP (jL u.names) to=(P,true)->∀i ml,aK ml i=some (dU 25 1 (iR P))->Q (.eL [.h i,.d (cb true),.d (ci 0)]) ml):∀c,Tryz.f11.body=some c->vc Tryz.prog [] Tryz.f11.ntmps c (C9 0 [.d (.ip w.aT1),.d (.agg u.aT1),.d (ci to)]) [] 1 (JS Tryz.prog Tryz.f11 Q):=by
 have aX5:∀i(h:i<[u].length),[u][i].gA:=λi h=>match i,h with
  |0,_=>hu
 have hm:=yG w hw [u] sM aX5;have hme:w.s8 [u]=0:=by unfold D4.s8;simp[hck]
 rw[hme]at hm;have his:=sB w to;rw[hto]at his;intro c hc;cases hc
 repeat'(first|refine bl ?_|(refine fU (cs:=[.ip w.aT1,.sl 4 [u.aT1]]) hm (.v _) (.cons (.d _) (.cons (.os rfl (D6.data _ [u.aT1])) .nil)) ?_;(conv=>whnf))|refine aF his (bw ?_)|refine aB4.BP kK kK (bw ?_))
 have hst:=aRU hw;have hgd:=hw.togA;have hgl:=hw.len;have hrl:w.aP.length=w.aT4.length:=by unfold D4.aP;rw[aB]
 have htT:to∈w.aP:=by
  unfold D4.mI D4.find at hto;obtain⟨t,ht⟩:=eS.1 hto;have h1:=iD ht;exact aA4.2 ⟨t,cT ht,by simpa using h1⟩
 have hE:=aAF (O2 w.aP w.aP.length [(to,1)]+1) [(to,1)] (VV w.cX w.aP to htT) (wF _);refine cY mix (λs:Nat×List (Int×Int)×Bool=>R2 w.cX w.aP to s.2.1/\(if s.2.2=true then O2 w.aP w.aP.length s.2.1<s.1/\aE4 w.cX w.aP s.1 s.2.1=w.aFY to else s.2.1=w.aFY to))
  (I:=λs=>[(2,.d (ci to)),(3,.lp 1 0),(4,.lp 9 0),(10,.lp 161 0),(11,.lp 177 0)]) (J:=λs=>[(1,wB w),(9,uB u),(161,.cells false [.h 129]),(177,.cells false [.d (cb s.2.2)]),(129,.mp false (iZ s.2.1) [])]) (μ:=λs=>2*s.1+(if s.2.2=true then 1 else 0)) 3000 (O2 w.aP w.aP.length [(to,1)]+1,[(to,1)],true) 0
  (λ_:Unit=>True) (λ_=>[(2,.d (ci to)),(3,.lp 1 0),(4,.lp 9 0),(10,.lp 161 0)]) (λ_=>[(1,wB w),(9,uB u),(161,.cells false [.h 129]),(129,.mp false (iZ (w.aFY to)) [])]) 20000 ⟨VV w.cX w.aP to htT,by dsimp only;rw[aUF rfl];exact⟨wF _,rfl⟩⟩ mZ ?_ ?_
 ·rintro⟨n,F,b⟩ ⟨hI,hb⟩;dsimp only at hI hb⊢;cases b with
  |false=>
   rw[aT7 gO]at hb;subst hb;refine bl ?_;exact⟨(),tV,mZ⟩
  |true=>
   rw[aUF rfl]at hb
   repeat'(first|refine bl ?_|refine fQ (aNU w) 7100 rfl (bw ?_))
   refine wz ?_;have hSn:∀k,(w.aP.take k).foldl (zI w.cX) (F,false)=(w.aP.take k).foldl (zI w.cX) (F,false):=λk=>rfl;refine aSK 7001 7000 8000 [(177,.cells false [.d (cb ((w.aP.take w.aT4.length).foldl (zI w.cX) (F,false)).2)]),(129,.mp false (iZ ((w.aP.take w.aT4.length).foldl (zI w.cX) (F,false)).1) [])]
    [(1,wB w),(9,uB u),(161,.cells false [.h 129]),(177,.cells false [.d (cb ((w.aP.take w.aT4.length).foldl (zI w.cX) (F,false)).2)]),(129,.mp false (iZ ((w.aP.take w.aT4.length).foldl (zI w.cX) (F,false)).1) []),(7100,.cells false [.d (.ip w.aT1)])]
    (.inl rfl) rfl rfl rfl (aNT w hw u (λk=>(w.aP.take k).foldl (zI w.cX) (F,false)) (λml' q1 q2 q3 q4 q5=>?_) rfl rfl ?_ ?_) ?_ ?_ ?_ ?_ ?_ ?_ ?_ ?_ ?_
   ·repeat'(first|exact aW|assumption|refine bI ?_ ?_)
   ·intro k hk o c fo lx ho hc hf ha;have hlen:c.args.size=2:=by have:=congrArg List.length ha;simpa using this
    have hkr:k<w.aP.length:=oM;have hrk:w.aT4[k].ref=w.aP[k]:=by simp[D4.aP]
    have hrT:w.aP[k]∈w.aP:=aY hkr;have hSk:(w.aP.take (k+1)).foldl (zI w.cX) (F,false)=zI w.cX ((w.aP.take k).foldl (zI w.cX) (F,false)) w.aP[k]:=by rw[aT hkr,iB];rfl
    have aZF:PE w.cX w.aP to F ((w.aP.take k).foldl (zI w.cX) (F,false)):=PE.rows _ _ ⟨hI,λ_=>rfl,sM⟩ λq hq=>dJ hq;rw[hrk]at ha;rw[hSk];generalize(w.aP.take k).foldl (zI w.cX) (F,false)=s at aZF⊢;generalize w.aP[k]=r at hrT ha⊢;refine aP1 (n:=92) (ps:= #[36,37]) mix [(36,.d (ci r)),(3,.lp 1 0),(10,.lp 161 0),(11,.lp 177 0)] 30000 (λL=>(900,dU 25 1 (iR w.aP))::(901,dU 84 1 (kR (w.aT4.map (·.bQ.kind))))::(7000,L)::(7100,.cells false [.d (.ip w.aT1)])::(1,.cells false [.d (.ip w.aT1)])::(9,.cells false (u.aT1.map A.d))::(161,.cells false [.h 129])::(177,.cells false [.d (cb s.2)])::(129,.mp false (iZ s.1) [])::[]) ho hc hf rfl (λL=>rfl) hlen eD (by simp[mY]) kK kK (by rw[ha];exact⟨rfl,rfl,rfl,rfl,tV⟩) ?_ ⟨tV,aEP,tV⟩;intro LR LB eR eB;have hlo:∀ml':List (Nat×R),aK ml' 1≠none->aK ml' 9≠none->aK ml' 161≠none->aK ml' 177≠none->aK ml' 7100≠none->rB ml' LB.hs:=λml' q1 q2 q3 q4 q5=>by
     rw[eB]
     repeat'(first|exact aW|assumption|refine bI ?_ ?_)
    clear eR eB;refine bl ?_;refine⟨rfl,rfl,?_⟩;have hsl:=aH7 hgd r
    repeat'(first|refine bl ?_|refine aF (AZ w hgd r) (bw ?_))
    unfold zI;generalize hLL:w.cX r=L at hsl⊢;refine cY mix (λj:Nat=>j<=L.length/\PE w.cX w.aP to F ((L.take j).foldl (vZ r) s)) (I:=λj=>[(3,.lp 1 0),(10,.lp 161 0),(11,.lp 177 0),(12,.d (ci r)),(40,.d (.sl 1 (iR L))),(41,.d (ci L.length)),(42,.d (ci j))])
     (J:=λj=>(900,dU 25 1 (iR w.aP))::(901,dU 84 1 (kR (w.aT4.map (·.bQ.kind))))::(7000,LB)::(7100,.cells false [.d (.ip w.aT1)])::(1,.cells false [.d (.ip w.aT1)])::(9,.cells false (u.aT1.map A.d))::(161,.cells false [.h 129])::(177,.cells false [.d (cb ((L.take j).foldl (vZ r) s).2)])::(129,.mp false (iZ ((L.take j).foldl (vZ r) s).1) [])::[]) (μ:=λj=>L.length -j) 40000 0 4
     (λ_:Unit=>True) (λ_=>[]) (λ_=>(900,dU 25 1 (iR w.aP))::(901,dU 84 1 (kR (w.aT4.map (·.bQ.kind))))::(7000,LB)::(7100,.cells false [.d (.ip w.aT1)])::(1,.cells false [.d (.ip w.aT1)])::(9,.cells false (u.aT1.map A.d))::(161,.cells false [.h 129])::(177,.cells false [.d (cb (L.foldl (vZ r) s).2)])::(129,.mp false (iZ (L.foldl (vZ r) s).1) [])::[]) 50000 ⟨oM,aZF⟩ (by(refine cN.sub ?_ ?_ ?_ ?_ ?_<;>repeat'(first|exact aW|exact rfl|exact sn|exact eV rfl|exact aZ|exact aEP|exact hlo _ sn sn sn sn sn|(refine qD ?_;simp only[aB,bE,D4.aP];done)|refine bI ?_ ?_))) ?_ ?_
    ·rintro j ⟨hj,hjs⟩;have hnx:∀(h:j<L.length),(L.take (j+1)).foldl (vZ r) s=vZ r ((L.take j).foldl (vZ r) s) L[j]:=λh=>by rw[aT h,iB];rfl
     generalize hp:(L.take j).foldl (vZ r) s=p at hjs hnx⊢;obtain⟨G,b2⟩:=p;have hb1:=hjs.inv.bd;have hb2:=hjs.inv.len;dsimp only at hb1 hb2⊢
     repeat'(first|refine bl ?_|refine bS (λh=>?_) (λh=>?_)|refine cD rfl eD aM (bw ?_))
     ·have hlt:j<L.length:=aM;have hn1:=hnx hlt;have hql:L[j]∈w.cX r:=by rw[hLL];exact aY hlt
      generalize L[j]=q at hn1 hql⊢;have hbq:=hb1 q;have hbr:=hb1 r
      repeat'(first|refine bl ?_|refine bS (λh=>?_) (λh=>?_)|refine lkC eD (λh=>h) (bw ?_))
      ·have hlk:wP G r q=true:=by unfold wP;simp only[aE,gP,aUA];omega
       have hlS:vZ r (G,b2) q=(HG G r (cR G q+1),true):=by unfold vZ;rw[aUF hlk]
       have aY2:=hjs.look hrT hql;rw[hlS]at aY2 hn1;refine aBP eD (λhh=>?_) (λhh=>?_)
       ·conv=>whnf
        refine bl ?_;have aX6:=EE G r (cR G q+1);rw[show xG G r (cR G q+1)=HG G r (cR G q+1) by unfold HG;rw[aUF hh]]at aX6;refine⟨j+1,oM,⟨oM,by rw[hn1];exact aY2⟩,?_⟩;rw[hn1]
        (refine cN.sub ?_ ?_ ?_ ?_ ?_<;>repeat'(first|exact aW|exact rfl|exact sn|exact eV rfl|exact eV (aPF rfl aX6)|exact aZ|exact aEP|exact hlo _ sn sn sn sn sn|(refine qD ?_;simp only[aB,bE,D4.aP];done)|refine bI ?_ ?_))
       ·conv=>whnf
        refine bl ?_;have aX6:=vP G r (cR G q+1);rw[show G++[(r,cR G q+1)]=HG G r (cR G q+1) by unfold HG;rw[aT7 (by simp[hh])]]at aX6;refine⟨j+1,oM,⟨oM,by rw[hn1];exact aY2⟩,?_⟩;rw[hn1]
        (refine cN.sub ?_ ?_ ?_ ?_ ?_<;>repeat'(first|exact aW|exact rfl|exact sn|exact eV rfl|exact eV (aPF rfl aX6)|exact aZ|exact aEP|exact hlo _ sn sn sn sn sn|(refine qD ?_;simp only[aB,bE,D4.aP];done)|refine bI ?_ ?_))
      ·have hlk:wP G r q=true:=by unfold wP;simp only[aE,gP,aUA];omega
       have hlS:vZ r (G,b2) q=(HG G r (cR G q+1),true):=by unfold vZ;rw[aUF hlk]
       have aY2:=hjs.look hrT hql;rw[hlS]at aY2 hn1;refine aBP eD (λhh=>?_) (λhh=>?_)
       ·conv=>whnf
        refine bl ?_;have aX6:=EE G r (cR G q+1);rw[show xG G r (cR G q+1)=HG G r (cR G q+1) by unfold HG;rw[aUF hh]]at aX6;refine⟨j+1,oM,⟨oM,by rw[hn1];exact aY2⟩,?_⟩;rw[hn1]
        (refine cN.sub ?_ ?_ ?_ ?_ ?_<;>repeat'(first|exact aW|exact rfl|exact sn|exact eV rfl|exact eV (aPF rfl aX6)|exact aZ|exact aEP|exact hlo _ sn sn sn sn sn|(refine qD ?_;simp only[aB,bE,D4.aP];done)|refine bI ?_ ?_))
       ·conv=>whnf
        refine bl ?_;have aX6:=vP G r (cR G q+1);rw[show G++[(r,cR G q+1)]=HG G r (cR G q+1) by unfold HG;rw[aT7 (by simp[hh])]]at aX6;refine⟨j+1,oM,⟨oM,by rw[hn1];exact aY2⟩,?_⟩;rw[hn1]
        (refine cN.sub ?_ ?_ ?_ ?_ ?_<;>repeat'(first|exact aW|exact rfl|exact sn|exact eV rfl|exact eV (aPF rfl aX6)|exact aZ|exact aEP|exact hlo _ sn sn sn sn sn|(refine qD ?_;simp only[aB,bE,D4.aP];done)|refine bI ?_ ?_))
      ·have hlk:wP G r q=false:=by unfold wP;simp only[gI,uJ,aU1];omega
       have hlS:vZ r (G,b2) q=(G,b2):=by unfold vZ;rw[aT7 (by simp[hlk])]
       rw[hlS]at hn1;refine⟨j+1,oM,⟨oM,by rw[hn1];exact hjs⟩,?_⟩;rw[hn1]
       (refine cN.sub ?_ ?_ ?_ ?_ ?_<;>repeat'(first|exact aW|exact rfl|exact sn|exact eV rfl|exact eV (aPF rfl aX6)|exact aZ|exact aEP|exact hlo _ sn sn sn sn sn|(refine qD ?_;simp only[aB,bE,D4.aP];done)|refine bI ?_ ?_))
      ·have hlk:wP G r q=false:=by unfold wP;simp only[gI,uJ,aU1];omega
       have hlS:vZ r (G,b2) q=(G,b2):=by unfold vZ;rw[aT7 (by simp[hlk])]
       rw[hlS]at hn1;refine⟨j+1,oM,⟨oM,by rw[hn1];exact hjs⟩,?_⟩;rw[hn1]
       (refine cN.sub ?_ ?_ ?_ ?_ ?_<;>repeat'(first|exact aW|exact rfl|exact sn|exact eV rfl|exact eV (aPF rfl aX6)|exact aZ|exact aEP|exact hlo _ sn sn sn sn sn|(refine qD ?_;simp only[aB,bE,D4.aP];done)|refine bI ?_ ?_))
     ·obtain rfl:j=L.length:=oM;rw[aI (bT _)]at hp;rw[hp];exact⟨(),tV,by(refine cN.sub ?_ ?_ ?_ ?_ ?_<;>repeat'(first|exact aW|exact rfl|exact sn|exact eV rfl|exact aZ|exact aEP|exact hlo _ sn sn sn sn sn|(refine qD ?_;simp only[aB,bE,D4.aP];done)|refine bI ?_ ?_))⟩
    rintro _ _;refine bl ?_;refine⟨rfl,rfl,?_⟩
    repeat'(first|exact aW|exact rS rfl|exact eV rfl|refine bI ?_ ?_)
   ·repeat'(first|exact aW|exact rfl|refine bI ?_ ?_)
   ·exact⟨sn,sn,tV⟩
   ·refine⟨?_,?_⟩
    ·repeat'(first|exact aW|exact sn|refine bI ?_ ?_)
    ·repeat'(first|exact aW|exact sn|exact aEP|refine bI ?_ ?_)
   ·exact⟨rfl,rfl,tV⟩
   ·exact rfl
   ·repeat'(first|exact aW|exact rfl|refine bI ?_ ?_)
   ·repeat'(first|exact aW|exact sn|refine bI ?_ ?_)
   ·repeat'(first|exact aW|exact sn|exact aEP|refine bI ?_ ?_)
   ·trivial
   rw[show w.aP.take w.aT4.length=w.aP from aI oM];have hpa:=aGC hI;rw[show w.aP.foldl (zI w.cX) (F,false)=aFH w.cX w.aP F from rfl];obtain⟨n',rfl⟩:∃n',n=n'+1:=⟨n -1,oM⟩;have hfs:=hb.2;rw[aE4]at hfs;generalize aFH w.cX w.aP F=p at hpa hfs⊢;obtain⟨G,b2⟩:=p;refine bl ?_;refine⟨(n',G,b2),?_,⟨hpa.inv,?_⟩,?_⟩
   ·dsimp only;rw[aUF rfl];split<;>omega
   ·dsimp only;cases b2 with
    |false=>rw[aT7 gO]at hfs⊢;exact hfs
    |true=>
     rw[aUF rfl]at hfs⊢;exact⟨by have:=hpa.less rfl;dsimp only at this;omega,hfs⟩
   ·exact mv 8008 177
 rintro _ _;have aZF:=aJK hst.out hE.1 hE.2;have hlk:=hE.2;have hInv:=hE.1;have aWW:M9 w.cX w.aP (jL u.names) to=goS (w.aFY to) w.cX to (w.aP.length+1) (n0 (w.aFY to) (jL u.names)) []:=rfl;rw[aWW]at q1 q2;have hEF:aE4 w.cX w.aP (O2 w.aP w.aP.length [(to,1)]+1) [(to,1)]=w.aFY to:=rfl;rw[hEF]at aZF hlk hInv;generalize w.aFY to=F at aZF hlk hInv q1 q2⊢;have hz:cR F 0=0:=by
  cases hk:kJ F 0 with
  |false=>exact uC F 0 hk
  |true=>exact absurd (hInv.keys _ (mP.1 hk)) hst.zero
 have hun:=hu.names;have hul:=hu.nlen;have hil:=IG u;have a2T:=hInv.len;have hne:∀L:List Int,∀x∈L,0<cR F x->x≠0:=λL x _ hx=>by rintro rfl;omega
 have hsp:=I5 F (jL u.names) (hne _);have hbd:=hInv.bd;generalize hgf:goS F w.cX to (w.aP.length+1) (n0 F (jL u.names)) []=fin at q1 q2
 repeat'(first|refine bl ?_|refine aF (D0 u.names oM) (bw ?_)|(refine dZ.mk (.d (ci (n0 F (jL u.names)))) [] (aJ.l8 (aJ9 F (jL u.names) oM) ⟨sn,tV⟩ ⟨rfl,rfl,tV⟩ ⟨⟨sn,tV⟩,aEP,tV⟩ tV) ?_;(conv=>whnf)))
 refine bV mix (λa:Nat×Int×List Int=>goS F w.cX to a.1 a.2.1 a.2.2=fin/\(a.2.1=0\/(a.2.1≠0/\0<cR F a.2.1/\cR F a.2.1<=a.1))/\a.1+a.2.2.length<=w.aP.length+1)
  (I:=λa=>[(2,.d (ci to)),(3,.lp 1 0),(16,.fn (.func 48) [] [.lp 161 0]),(17,lv 1 900 (iR a.2.2)),(18,.d (ci a.2.1))]) (J:=λa=>lm 900 25 1 (iR a.2.2) [(1,wB w),(161,.cells false [.h 129]),(129,.mp false (iZ F) [])]) (μ:=λa=>a.1) 22000 (w.aP.length+1,n0 F (jL u.names),[])
  ⟨hgf,by dsimp only;rcases hsp with⟨g1,_⟩|⟨g1,g2,_,_⟩
          · exact .inl g1
          · exact .inr ⟨g1,g2,by have:=hbd (n0 F (jL u.names));omega⟩,sM⟩ mZ ?_
 rintro⟨m,a,out⟩ ⟨h1,h2,h3⟩;dsimp only at h1 h2 h3⊢;have a0L:∀(m':Nat),m=m'+1->a≠0->a≠to->goS F w.cX to m' (n0 F (w.cX a)) (out++[a])=fin/\(n0 F (w.cX a)=0\/(n0 F (w.cX a)≠0/\0<cR F (n0 F (w.cX a))/\cR F (n0 F (w.cX a))<=m')):=λm' e h0 hto=>by
  subst e;rw[goS,aT7 h0,aT7 hto]at h1;refine⟨h1,?_⟩;rcases h2 with h2|⟨g1,g2,g3⟩
  ·exact absurd h2 h0
  ·rcases aPO aZF hz a g2 hto with q|⟨q1,q2,q3⟩
   ·exact .inl q
   ·exact .inr ⟨q1,q2,oM⟩
 have aX9:a≠0->a=to->fin=(out++[a],true):=λh0 hto=>by
  rcases h2 with h2|⟨g1,g2,g3⟩
  ·exact absurd h2 h0
  ·obtain⟨m',rfl⟩:∃m',m=m'+1:=⟨m -1,oM⟩;rw[goS,aT7 h0,aUF hto]at h1;exact h1.symm
 have hmp:a≠0->∃m',m=m'+1:=λh0=>by
  rcases h2 with h2|⟨g1,g2,g3⟩
  ·exact absurd h2 h0
  ·exact⟨m -1,oM⟩
 have hsa:=aH7 hgd a;have hz0:a=0->fin=([],false):=λe=>by rw[e,aJO]at h1;exact h1.symm
 cases out with
 |nil=>
  show vc _ _ _ _ _ [(1,wB w),(161,.cells false [.h 129]),(129,.mp false (iZ F) [])] _ _
  repeat'(first|refine bl ?_|refine bS (λh=>?_) (λh=>?_))
  ·have ha0:a≠0:=aM;refine n8 (by simp only[aB,bE,cE,aS,aQ];omega) kK ?_;conv=>whnf
   refine E9.mk (λh=>by cases h) (λh=>?_);conv=>whnf
   repeat'(first|refine bl ?_|refine bS (λh=>?_) (λh=>?_)|refine aF (AZ w hgd a) (bw ?_)|(refine dZ.mk (.d (ci (n0 F (w.cX a)))) [] (aJ.l8 (aJ9 F (w.cX a) oM) ⟨sn,tV⟩ ⟨rfl,rfl,tV⟩ ⟨⟨sn,tV⟩,aEP,tV⟩ tV) ?_;(conv=>whnf)))
   ·have hat:a=to:=aM;exact q2 _ (aX9 ha0 hat) _ _ rfl
   ·have hat:¬a=to:=aM;obtain⟨m',hm'⟩:=hmp ha0;obtain⟨y1,y2⟩:=a0L m' hm' ha0 hat;refine⟨(m',n0 F (w.cX a),[a]),dM,⟨y1,y2,by dsimp only;simp only[aQ,aU,cS]at*;omega⟩,?_⟩;dsimp only[iR,List.map_cons,List.map_nil,lv,lm];exact mv 22040 900
    all_goals exact cO rfl rfl
  ·have ha0:a=0:=aM;exact q1 (hz0 ha0) _
 |cons o0 out=>
  show vc _ _ _ _ _ [(900,dU 25 1 (iR (o0::out))),(1,wB w),(161,.cells false [.h 129]),(129,.mp false (iZ F) [])] _ _
  repeat'(first|refine bl ?_|refine bS (λh=>?_) (λh=>?_))
  ·have ha0:a≠0:=aM;refine n8 (by simp only[aB,bE,cE,aS,aQ]at*;omega) kK ?_;conv=>whnf
   repeat'(first|refine bl ?_|refine bS (λh=>?_) (λh=>?_)|refine aF (AZ w hgd a) (bw ?_)|(refine dZ.mk (.d (ci (n0 F (w.cX a)))) [] (aJ.l8 (aJ9 F (w.cX a) oM) ⟨sn,tV⟩ ⟨rfl,rfl,tV⟩ ⟨⟨sn,tV⟩,aEP,tV⟩ tV) ?_;(conv=>whnf)))
   ·have hat:a=to:=aM;exact q2 _ (aX9 ha0 hat) _ _ (congrArg (λq=>some (R.fW false 25 1 q)) (gG (o0::out) [a]))
   ·have hat:¬a=to:=aM;obtain⟨m',hm'⟩:=hmp ha0;obtain⟨y1,y2⟩:=a0L m' hm' ha0 hat;refine⟨(m',n0 F (w.cX a),o0::(out++[a])),dM,⟨y1,y2,by dsimp only;simp only[aQ,aU,cS]at*;omega⟩,?_⟩;dsimp only[iR,List.map_cons,List.map_nil,lv,lm];refine mq 22040 900 ?_
    all_goals exact cO rfl (gG (o0::out) [a])
  ·have ha0:a=0:=aM;exact q1 (hz0 ha0) _
theorem aMZ(w:D4)(hw:w.qV)(u:U4)(hu:u.gA)(to:Int)(hck:w.zE u=true)(hto:w.mI to=true)(h:M9 w.cX w.aP (jL u.names) to=([],false)):Pu 11 [.d (.ip w.aT1),.d (.agg u.aT1),.d (ci to)] (.eL [.d (.nl 1),.d (cb false),.d (ci 0)]):=by
 refine CV mix Tryz.func11 rfl kK (bD rfl) rfl (aO2 w hw u hu to hck hto _ (λh ml=>?_) (λP h i ml hi=>?_) _ rfl)
 ·exact .eL (cs:=[.nl 1,cb false,ci 0]) (.cons (.d _) (.cons (.d _) (.cons (.d _) .nil)))
 ·rename_i h2;rw[h2]at h;cases h
theorem aPC(w:D4)(hw:w.qV)(u:U4)(hu:u.gA)(to:Int)(hck:w.zE u=true)(hto:w.mI to=true)(P:List Int)(h:M9 w.cX w.aP (jL u.names) to=(P,true)):∀(m:Mem)(d:Nat),m d=none->aJ Tryz.prog 11 [.d (.ip w.aT1),.d (.agg u.aT1),.d (ci to)] m (.ok (.eL [.h d,.d (cb true),.d (ci 0)])) (aX m d (dU 25 1 (iR P))):=by
 refine iW mix (F:=λd=>.eL [.h d,.d (cb true),.d (ci 0)]) (r:=dU 25 1 (iR P)) Tryz.func11 rfl kK (bD rfl) rfl (oJ _ _ _) (λ_ _=>rfl) (λi j hj=>by simpa [A.hs,A.lQ]using hj) (λg=>eT g _ _ _) (aO2 w hw u hu to hck hto _ (λh2 ml=>?_) (λP2 h2 i ml hi=>?_) _ rfl)
 ·rw[h]at h2;cases h2
 ·rw[h]at h2;cases h2;exact⟨i,rfl,hi⟩
theorem aLV:∀{a b c:List Int},pG a b=true->pG b c=true->pG a c=true
 |[],_,_,h,_=>by simp[pG]at h
 |_::_,[],_,h,_=>by simp[pG]at h
 |_::_,_::_,[],_,h=>by simp[pG]at h
 |x::a,y::b,z::c,h1,h2=>by
  simp only[pG]at h1 h2⊢;by_cases e1:x=y
  ·rw[aUF e1]at h1;by_cases e2:y=z
   ·rw[aUF e2]at h2;rw[aUF (e1.trans e2)];exact aLV h1 h2
   ·rw[aT7 e2]at h2;rw[aT7 (by rw[e1];exact e2),e1];exact h2
  ·rw[aT7 e1]at h1;have h1:=aUL h1;by_cases e2:y=z
   ·rw[aT7 (by rw[<-e2];exact e1),<-e2];exact aUZ h1
   ·rw[aT7 e2]at h2;have h2:=aUL h2;rw[aT7 oM];exact aUZ oM
theorem aLG:∀{a b:List Int},pG a b=true->pG b a=true->False
 |[],_,h,_=>by simp[pG]at h
 |_::_,[],h,_=>by simp[pG]at h
 |x::a,y::b,h1,h2=>by
  simp only[pG]at h1 h2;by_cases e1:x=y
  ·rw[aUF e1]at h1;rw[aUF e1.symm]at h2;exact aLG h1 h2
  ·rw[aT7 e1]at h1;rw[aT7 (λe=>e1 e.symm)]at h2;have h1:=aUL h1;have h2:=aUL h2;omega
theorem aLT:∀{a b:List Int},b.length=a.length->a=b\/pG a b=true\/pG b a=true
 |[],[],_=>.inl rfl
 |[],_::_,h=>by simp at h
 |_::_,[],h=>by simp at h
 |x::a,y::b,h=>by
  simp only[pG];by_cases e1:x=y
  ·rw[aUF e1,aUF e1.symm,e1];rcases aLT (a:=a) (b:=b) (by simpa using h)with h|h|h
   ·exact .inl (by rw[h])
   ·exact .inr (.inl h)
   ·exact .inr (.inr h)
  ·rw[aT7 e1,aT7 (λe=>e1 e.symm)];by_cases h2:x<y
   ·exact .inr (.inl (aUZ h2))
   ·exact .inr (.inr (aUZ oM))
theorem aGO:∀{a b:List Int}(u v:List Int),pG a b=true->pG (a++u) (b++v)=true
 |[],_,_,_,h=>by simp[pG]at h
 |_::_,[],_,_,h=>by simp[pG]at h
 |x::a,y::b,u,v,h=>by
  simp only[pG,bW]at h⊢;by_cases e1:x=y
  ·rw[aUF e1]at h⊢;exact aGO u v h
  ·rw[aT7 e1]at h⊢;exact h
def leL(a b:List Int):Prop:=a=b\/pG a b=true
theorem leL.tr{a b c:List Int}(h:leL a b)(h2:leL b c):leL a c:=by
 rcases h with rfl|h
 ·exact h2
 ·rcases h2 with rfl|h2
  ·exact .inr h
  ·exact .inr (aLV h h2)
theorem leL.as{a b:List Int}(h:leL a b)(h2:leL b a):a=b:=by
 rcases h with rfl|h
 ·rfl
 ·rcases h2 with rfl|h2
  ·rfl
  ·exact(aLG h h2).elim
theorem leL.app{a b:List Int}(h:leL a b)(u:List Int):leL (a++u) (b++u):=by
 rcases h with rfl|h
 ·exact .inl rfl
 ·exact .inr (aGO u u h)
structure BF(n:Nat)(C R:List (List Int)):Prop where
 mem:∀P∈R,P∈C
 min:∀P∈R,∀Q∈C,gM Q=gM P->leL P Q
 has:∀Q∈C,∃P∈R,gM P=gM Q
 nd:(R.map gM).Nodup
theorem BF.add{C R:List (List Int)}{w:List Int}(h:BF n C R)(hC:∀P∈C,P.length=n)(hw:w.length=n):BF n (C++[w]) (qK R w):=by
 have hnd:((qK R w).map gM).Nodup:=by rw[aEX];exact aQ8 h.nd
 rcases aAD R w with⟨i,hi,h1,h0⟩|hno
 ·have hB:=QS R w i hi h1 h0;have hRi:R[i]∈R:=aY hi;have hx:leL (if pG w R[i]=true then w else R[i]) w/\leL (if pG w R[i]=true then w else R[i]) R[i]/\gM (if pG w R[i]=true then w else R[i])=gM w/\((if pG w R[i]=true then w else R[i])=w\/(if pG w R[i]=true then w else R[i])=R[i]):=by
   split
   ·rename_i hl;exact⟨.inl rfl,.inr hl,rfl,.inl rfl⟩
   ·rename_i hl;refine⟨?_,.inl rfl,h1,.inr rfl⟩;rcases aLT (a:=w) (b:=R[i]) (by rw[hw];exact hC _ (h.mem _ hRi))with e|e|e
    ·exact .inl e.symm
    ·exact absurd e hl
    ·exact .inr e
  generalize(if pG w R[i]=true then w else R[i])=x at hB hx;obtain⟨x1,x2,x3,x4⟩:=hx;have aWE:∀P∈qK R w,P=x\/(P∈R/\gM P≠gM w):=λP hP=>by
   rw[hB]at hP;obtain⟨j,hj,rfl⟩:=List.getElem_of_mem hP;rw[BO];by_cases e:i=j
   ·rw[aUF e];exact .inl rfl
   ·rw[aT7 e];have hj':j<R.length:=by simpa using hj
    refine .inr ⟨aY hj',λe2=>e ?_⟩;have hn:=h.nd;have:=(jB (i:=i) (j:=j) (xs:=R.map gM) hn (h₀:=by simpa using hi) (h₁:=by simpa using hj')).1 (by simp[h1,e2]);exact this
  refine⟨λP hP=>?_,λP hP Q hQ e=>?_,λQ hQ=>?_,hnd⟩
  ·rcases aWE P hP with rfl|⟨h2,_⟩
   ·rcases x4 with e|e
    ·rw[e];simp
    ·rw[e];exact v8 _ (h.mem _ hRi)
   ·exact v8 _ (h.mem _ h2)
  ·rcases bN.1 hQ with hQ|hQ
   ·rcases aWE P hP with rfl|⟨h2,_⟩
    ·exact x2.tr (h.min _ hRi Q hQ (by rw[e,x3,h1]))
    ·exact h.min P h2 Q hQ e
   ·have hQ:Q=w:=by simpa using hQ
    subst hQ;rcases aWE P hP with rfl|⟨_,h3⟩
    ·exact x1
    ·exact absurd e.symm h3
  ·have hxm:x∈qK R w:=by rw[hB];exact List.mem_set hi x
   rcases bN.1 hQ with hQ|hQ
   ·obtain⟨P,hP,e⟩:=h.has Q hQ;by_cases e2:gM P=gM w
    ·exact⟨x,hxm,by rw[x3,<-e2,e]⟩
    ·refine⟨P,?_,e⟩;rw[hB];obtain⟨j,hj,rfl⟩:=List.getElem_of_mem hP;have hji:i≠j:=by rintro rfl;exact e2 h1
     have:=aY (l:=R.set i x) (n:=j) (by simpa using hj)
     rwa [BO,aT7 hji]at this
   ·have hQ:Q=w:=by simpa using hQ
    exact⟨x,hxm,by rw[x3,hQ]⟩
 ·have hB:=J3 R w hno;refine⟨λP hP=>?_,λP hP Q hQ e=>?_,λQ hQ=>?_,hnd⟩
  ·rw[hB]at hP;rcases bN.1 hP with hP|hP
   ·exact v8 _ (h.mem P hP)
   ·exact List.mem_append_right _ hP
  ·rw[hB]at hP;rcases bN.1 hP with hP1|hP1
   ·rcases bN.1 hQ with hQ|hQ
    ·exact h.min P hP1 Q hQ e
    ·have hQ:Q=w:=by simpa using hQ
     exact absurd (by rw[<-e,hQ]) (hno P hP1)
   ·have hP:P=w:=by simpa using hP1
    rcases bN.1 hQ with hQ|hQ
    ·obtain⟨S,hS,e2⟩:=h.has Q hQ;exact absurd (by rw[e2,e,hP]) (hno S hS)
    ·have hQ:Q=w:=by simpa using hQ
     exact .inl (by rw[hP,hQ])
  ·rw[hB];rcases bN.1 hQ with hQ|hQ
   ·obtain⟨S,hS,e2⟩:=h.has Q hQ;exact⟨S,v8 _ hS,e2⟩
   ·have hQ:Q=w:=by simpa using hQ
    exact⟨w,sM,by rw[hQ]⟩
theorem BF.fold{n:Nat}:∀(D C R:List (List Int)),BF n C R->(∀P∈C,P.length=n)->(∀P∈D,P.length=n)->BF n (C++D) (D.foldl qK R)
 |[],C,R,h,_,_=>by simpa using h
 |w::D,C,R,h,h1,h2=>by
  have:=BF.fold D (C++[w]) (qK R w) (h.add h1 (h2 w sM)) (λP hP=>by
   rcases bN.1 hP with hP|hP
   · exact h1 P hP
   · have:P=w:=by simpa using hP
     rw[this];exact h2 w sM) (λP hP=>h2 P (by simp[hP]))
  simpa using this
def aCU(st:Int->List Int)(L:List (List Int)):List (List Int):=(L.map λP=>(st (gM P)).map λm=>P++[m]).flatten
theorem aO3(st:Int->List Int):∀(L R:List (List Int)),L.foldl (aOA st) R=(aCU st L).foldl qK R
 |[],R=>rfl
 |P::L,R=>by
  have h:aCU st (P::L)=((st (gM P)).map λm=>P++[m])++aCU st L:=rfl;rw[fX,h,iB,aO3 st L];congr 1;unfold aOA;rw[List.foldl_map]
inductive Wk(st:Int->List Int)(H:List Int):Nat->List Int->Prop
 |one {x:Int} (h:x∈H):Wk st H 0 [x]
 |snoc {n:Nat} {P:List Int} {m:Int} (h:Wk st H n P) (hm:m∈st (gM P)):Wk st H (n+1) (P++[m])
theorem Wk.len{st:Int->List Int}{H:List Int}(h:Wk st H n P):P.length=n+1:=by
 induction h with
 |one _=>rfl
 |snoc _ _ ih=>simp[ih]
theorem aIV(st:Int->List Int)(H:List Int):∀k,(∀P∈wV st H k,Wk st H k P/\∀Q,Wk st H k Q->gM Q=gM P->leL P Q)/\∀Q,Wk st H k Q->∃P∈wV st H k,gM P=gM Q
 |0=>by
  refine⟨λP hP=>?_,λQ hQ=>?_⟩
  ·obtain⟨x,hx,rfl⟩:=aA4.1 hP;refine⟨.one hx,λQ hQ e=>?_⟩;cases hQ with
   |one hy=>exact .inl (by simpa [gM]using e.symm)
  ·cases hQ with
   |one hy=>exact⟨_,aA4.2 ⟨_,hy,rfl⟩,rfl⟩
 |k+1=>by
  obtain⟨i1,i2⟩:=aIV st H k;have hw:wV st H (k+1)=(aCU st (wV st H k)).foldl qK []:=aO3 st _ [];generalize wV st H k=L at i1 i2 hw;have hcm:∀C,C∈aCU st L↔∃P∈L,∃m∈st (gM P),C=P++[m]:=λC=>by
   unfold aCU;simp only[rQ,aA4];constructor
   ·rintro⟨_,⟨P,hP,rfl⟩,hC⟩;obtain⟨m,hm,rfl⟩:=aA4.1 hC;exact⟨P,hP,m,hm,rfl⟩
   ·rintro⟨P,hP,m,hm,rfl⟩;exact⟨_,⟨P,hP,rfl⟩,aA4.2 ⟨m,hm,rfl⟩⟩
  have hB:=BF.fold (n:=k+2) (aCU st L) [] [] ⟨sM,sM,sM,sM⟩ sM (λC hC=>by
   obtain⟨P,hP,m,_,rfl⟩:=(hcm C).1 hC
   simp[(i1 P hP).1.len])
  rw[bZ,<-hw]at hB;have hle:∀Q m,Wk st H k Q->m∈st (gM Q)->∃C∈aCU st L,gM C=m/\leL C (Q++[m]):=λQ m hQ hm=>by
   obtain⟨P,hP,e⟩:=i2 Q hQ;exact⟨P++[m],(hcm _).2 ⟨P,hP,m,by rw[e];exact hm,rfl⟩,BB _ _,((i1 P hP).2 Q hQ e.symm).app [m]⟩
  refine⟨λP hP=>?_,λQ hQ=>?_⟩
  ·obtain⟨S,hS,m,hm,rfl⟩:=(hcm P).1 (hB.mem P hP);refine⟨.snoc (i1 S hS).1 hm,λQ hQ e=>?_⟩;cases hQ with
   | @snoc _ Q m' hQ hm'=>
     obtain⟨C,hC,e2,h2⟩:=hle Q m' hQ hm';exact(hB.min _ hP C hC (by rw[e2,<-e,BB])).tr h2
  ·cases hQ with
   | @snoc _ Q m' hQ hm'=>
     obtain⟨C,hC,e2,_⟩:=hle Q m' hQ hm';obtain⟨P,hP,e3⟩:=hB.has C hC;exact⟨P,hP,by rw[e3,e2,BB]⟩
theorem YC(st:Int->List Int)(H:List Int)(to:Int):∀(n k:Nat),(KR st H to n k=([],false)/\∀j Q,k<=j->j<k+n->Wk st H j Q->gM Q≠to)\/∃j P,KR st H to n k=(P,true)/\k<=j/\Wk st H j P/\gM P=to/\(∀Q,Wk st H j Q->gM Q=to->leL P Q)/\∀i Q,k<=i->i<j->Wk st H i Q->gM Q≠to
 |0,k=>.inl ⟨rfl,λj Q h1 h2=>oM⟩
 |n+1,k=>by
  obtain⟨i1,i2⟩:=aIV st H k;rw[KR];cases hf:(wV st H k).find? (λP=>decide (gM P=to))with
  |some P=>
   have hP:=cT hf;have he:gM P=to:=by simpa using iD hf
   exact .inr ⟨k,P,rfl,bT _,(i1 P hP).1,he,λQ hQ e=>(i1 P hP).2 Q hQ (e.trans he.symm),λi Q h1 h2=>oM⟩
  |none=>
   have hno:∀Q,Wk st H k Q->gM Q≠to:=λQ hQ e=>by
    obtain⟨P,hP,e2⟩:=i2 Q hQ;have:=mN.1 hf P hP;exact this (by simpa using e2.trans e)
   dsimp only;rcases YC st H to n (k+1)with⟨h1,h2⟩|⟨j,P,h1,h2,h3,h4,h5,h6⟩
   ·refine .inl ⟨h1,λj Q a b hQ=>?_⟩;by_cases e:j=k
    ·subst e;exact hno Q hQ
    ·exact h2 j Q oM oM hQ
   ·refine .inr ⟨j,P,h1,oM,h3,h4,h5,λi Q a b hQ=>?_⟩;by_cases e:i=k
    ·subst e;exact hno Q hQ
    ·exact h6 i Q oM b hQ
end Go.Pv
