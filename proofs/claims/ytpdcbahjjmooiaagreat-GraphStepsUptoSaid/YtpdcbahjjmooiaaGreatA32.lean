import Derived.Test.YtpdcbahjjmooiaaGreatA31
/- A program logic over the model, contracts of the functions that the law reaches: part 32. (Names and blanks were shortened by program.) -/
set_option linter.unusedVariables false
set_option linter.unusedSimpArgs false
set_option linter.constructorNameAsVariable false
set_option linter.unusedSectionVars false
set_option linter.deprecated false
set_option maxRecDepth 100000
set_option maxHeartbeats 8000000
open Go Go.Proofs
namespace Go.Pv
open Go.RowKit
variable{x:X4}{r:Int}
def ofJ(w:D4)(r:Int):List Int:=if(w.iI r).of=0 then []else [(w.iI r).of]
def uE(w:D4)(l:List U4)(i:Nat):List Int:=if h:i<l.length then jL l[i].names else w.cX (w.aP[i -l.length]?.getD 0)++ofJ w (w.aP[i -l.length]?.getD 0)
def D4.fB(w:D4)(l:List U4):Nat:=l.length+w.aP.length
def D4.eG(w:D4)(l:List U4):List (Int×Int):=wP l.length w.aP
def D4.rI(w:D4)(l:List U4):List Nat:=pV (w.eG l) (uE w l) (w.fB l) 0 (List.range (w.fB l))
theorem PC:∀(n:Nat)(A B:List Int),wP n (A++B)=wP n A++wP (n+A.length) B
 |n,[],B=>by simp[wP]
 |n,a::A,B=>by
  simp only[bW,wP,PC (n+1) A B,aQ];rw[show n+1+A.length=n+(A.length+1) by omega]
theorem DC:∀(n:Nat)(A:List Int),(wP n A).map (·.1)=A
 |n,[]=>rfl
 |n,a::A=>by simp[wP,DC (n+1) A]
theorem XL:∀(n:Nat)(A:List Int),∀f∈wP n A,(n:Int)<=f.2/\f.2<n+A.length
 |n,[],f,h=>by simp[wP]at h
 |n,a::A,f,h=>by
  rw[wP]at h;rcases aO.1 h with rfl|h
  ·simp only[aQ];omega
  ·have:=XL (n+1) A f h;simp only[aQ];omega
theorem lS(w:D4)(l:List U4):zD (w.eG l) (w.fB l):=⟨λf hf=>by
 have:=XL l.length w.aP f hf
 unfold D4.fB;omega⟩
theorem yO(n:Nat)(T:List Int):(nX n T).length=n+T.length:=by simp[nX]
theorem YV(n:Nat)(T:List Int)(r:Int):bE (nX n T)++[[.d (cb true),.d (ci 0),.d (ci r)]]=bE (nX n (T++[r])):=by simp[nX,bE]
theorem KH(n:Nat):B8 (List.range n):=λi=>by
 unfold l8;by_cases h:i<n
 ·rw[sW h];exact bT _
 ·rw[c8 (by simp;omega)];exact bT _
theorem tN{F:List (Int×Int)}{i:Nat}:∀(L:List Int)(low:List Nat),B8 low->zD F low.length->i<low.length->B8 (L.foldl (fR F i) low)
 |[],low,h,_,_=>h
 |r::L,low,h,hF,hi=>by
  rw[fX];exact tN L _ (N3 h hF hi) (by rw[pW];exact hF) (by rw[pW];exact hi)
theorem aD7(n:Nat)(T:List Int)(i:Nat)(h:i<n):(nX n T).getD i []=[cb false,ci (i:Int),ci 0]:=by
 unfold nX;rw[bF,bX (by simpa using h),cK,sW h];rfl
theorem aD8(n:Nat)(T:List Int)(i:Nat)(h:i<T.length):(nX n T).getD (n+i) []=[cb true,ci 0,ci T[i]]:=by
 unfold nX;rw[bF,bO (by simp),cK];simp[h]
theorem aDS(w:D4)(hw:w.qV)(l:List U4)(hl:l.length<=2^30)(hu:∀i(h:i<l.length),l[i].gA)(hl0:l≠[])(hT0:w.things≠[]):aJ Tryz.prog 55 [.d (.ip w.cells),.d (.sl 4 (l.map U4.cells))] (aK []) (.ok (.lp 1016 0)) (aH (aK []) (pS (nX l.length w.aP) (w.eG l) (w.rI l))):=by
 refine wE mix 992 Tryz.func55 ⟨sn,trivial⟩ ⟨⟨sn,sn,trivial⟩,dM,aZ,trivial⟩ ?_;refine bl ?_;refine cY mix (λi:Nat=>i<=l.length) (I:=λi=>[(0,.d (.ip w.cells)),(1,.d (.sl 4 (l.map U4.cells))),(5,.lp 1024 0),(21,.d (ci l.length)),(22,.d (ci i))])
  (J:=λi=>(1024,.cells false [.lp 1016 0])::(1016,.cells false [lv 3 940 ((List.range i).map λi:Nat=>[cb false,ci (i:Int),ci 0]),.h 1000,.d (.nl 1)])::(1000,.mp false (iZ []) [])::lm 940 55 3 ((List.range i).map λi:Nat=>[cb false,ci (i:Int),ci 0]) []) (μ:=λi=>l.length -i) 2000 0 0
  (λ_:Unit=>True) (λ_=>[(0,.d (.ip w.cells)),(1,.d (.sl 4 (l.map U4.cells))),(5,.lp 1024 0)]) (λ_=>[(1024,.cells false [.lp 1016 0]),(1016,.cells false [.h 940,.h 1000,.d (.nl 1)]),(1000,.mp false (iZ []) []),(940,dU 55 3 (nX l.length []))]) 3000 (by omega) (by exact mv 5000 5001) ?_ ?_
 ·intro i hi;have hrs:(List.range (i+1)).map (λi:Nat=>[cb false,ci (i:Int),ci 0])=(List.range i).map (λi:Nat=>[cb false,ci (i:Int),ci 0])++[[cb false,ci (i:Int),ci 0]]:=by rw[List.range_succ,bP];rfl
  have hql:((List.range i).map λi:Nat=>[cb false,ci (i:Int),ci 0]).length=i:=by simp
  generalize hQ:(List.range i).map (λi:Nat=>[cb false,ci (i:Int),ci 0])=Q at hrs hql⊢;cases Q with
  |nil=>
   show vc _ _ _ _ _ [(1024,.cells false [.lp 1016 0]),(1016,.cells false [.d (.nl 3),.h 1000,.d (.nl 1)]),(1000,.mp false (iZ []) [])] _ _
   repeat'(first|refine bl ?_|refine bS (λh=>?_) (λh=>?_))
   ·refine n8 (by simp only[aB,bE,cE,aS,aQ];omega) (by kernel_rfl) ?_;conv=>whnf
    refine E9.mk (λh=>by cases h) (λh=>?_);conv=>whnf
    refine bl ?_;refine⟨i+1,by omega,by omega,?_⟩;rw[hrs];dsimp only[List.nil_append,List.cons_append,List.map_cons,List.map_nil,lv,lm];exact mv 2088 940
    all_goals first|exact cO rfl rfl|exact cO rfl (by simp[bE];rfl)
   ·obtain rfl:i=l.length:=by omega
    refine⟨(),trivial,?_⟩;simp only[cS]at hql;exact absurd (iL.1 hql.symm) hl0
  |cons q0 Q=>
   show vc _ _ _ _ _ [(1024,.cells false [.lp 1016 0]),(1016,.cells false [.h 940,.h 1000,.d (.nl 1)]),(1000,.mp false (iZ []) []),(940,dU 55 3 (q0::Q))] _ _
   repeat'(first|refine bl ?_|refine bS (λh=>?_) (λh=>?_))
   ·refine n8 (by simp only[aB,bE,cE,aS,aQ]at*;omega) (by kernel_rfl) ?_;conv=>whnf
    refine bl ?_;refine⟨i+1,by omega,by omega,?_⟩;rw[hrs];dsimp only[List.nil_append,List.cons_append,List.map_cons,List.map_nil,lv,lm];refine mq 2088 940 ?_
    all_goals first|exact cO rfl rfl|exact cO rfl (by simp[bE];rfl)
   ·obtain rfl:i=l.length:=by omega
    refine⟨(),trivial,?_⟩;rw[show nX l.length []=q0::Q by unfold nX;rw[hQ];simp];exact mv 5000 5001
 rintro _ _
 repeat'(first|refine bl ?_|refine fQ (LY w) 7100 rfl (bw ?_))
 have hgl:=hw.len;have hrl:w.aP.length=w.things.length:=by unfold D4.aP;rw[aB]
 refine wz ?_;refine aEW 7001 7000 50000 [(1016,.cells false [.h 950,.h 1000,.d (.nl 1)]),(1000,.mp false (iZ (wP l.length w.aP)) []),(950,dU 55 3 (nX l.length w.aP)),(940,.dead)]
  [(7100,.cells false [.d (.ip w.cells)]),(1024,.cells false [.lp 1016 0]),(1016,.cells false [.h 950,.h 1000,.d (.nl 1)]),(1000,.mp false (iZ (wP l.length w.aP)) []),(950,dU 55 3 (nX l.length w.aP))]
  (.inl rfl) rfl rfl rfl (W1 w hw l.length (λml' q1 q2=>?_) rfl rfl rfl hT0 ?_ ?_ rfl ?_) ?_ ?_ ?_ ?_ ?_ ?_ ?_ ?_ ?_
 ·repeat'(first|exact aW|assumption|refine bI ?_ ?_)
 ·intro h0 o c fo lx ho hc hf ha;have hlen:c.args.size=2:=by have:=congrArg List.length ha;simpa using this
  have hkr:0<w.aP.length:=by omega
  have hrk:w.things[0].ref=w.aP[0]:=by simp[D4.aP]
  rw[hrk]at ha;have htk:w.aP.take (0+1)=w.aP.take (0)++[w.aP[0]]:=aT hkr;have hni:w.aP[0]∉w.aP.take (0):=λhm=>by
   obtain⟨j,hj,e⟩:=dH.1 hm;rw[cW]at hj;rw[nI]at e;have:=(jB hw.nodup).1 e;omega
  have hat:wP l.length (w.aP.take (0+1))=wP l.length (w.aP.take (0))++[(w.aP[0],(l.length:Int)+((0:Nat):Int))]:=by
   rw[htk,PC];simp only[wP,cW];rw[show l.length+min (0) w.aP.length=l.length+(0) by omega];simp only[Int.natCast_add]
  have hhk:kJ (wP l.length (w.aP.take (0))) w.aP[0]=false:=by
   cases hh:kJ (wP l.length (w.aP.take (0))) w.aP[0]with
   |false=>rfl
   |true=>have:=mP.1 hh;rw[DC]at this;exact absurd this hni
  have hnl2:(nX l.length (w.aP.take (0))).length=l.length+(0):=by rw[yO,cW];omega
  have hnr:=YV l.length (w.aP.take (0)) w.aP[0];rw[<-htk]at hnr;rw[hat];generalize w.aP[0]=r at*;refine GZ (n:=142) (ps:= #[39,40]) mix [(39,.d (ci r)),(5,.lp 1024 0)] 30000 (λL=>(900,dU 25 1 (iR w.aP))::(901,dU 84 1 (kR (w.things.map (·.bQ.kind))))::(7000,L)::(7100,.cells false [.d (.ip w.cells)])::(1024,.cells false [.lp 1016 0])::(1016,.cells false [.h 940,.h 1000,.d (.nl 1)])::(1000,.mp false (iZ []) [])::(940,dU 55 3 (nX l.length []))::[]) ho hc hf rfl (λL=>rfl) hlen (by decide) (by simp[mY]) (by kernel_rfl) (by kernel_rfl) (by rw[ha];exact⟨rfl,rfl,trivial⟩) ?_ (by repeat'(first|exact aW|exact sn|exact dM|exact aZ|refine bI ?_ ?_));intro LR LB eR eB;clear eR eB;refine bl ?_;refine⟨rfl,rfl,?_⟩;refine bl ?_;refine aBP (by decide) (λhh=>by rw[show kJ [] r=false from rfl]at hh;cases hh) (λhh=>?_);conv=>whnf
  have hle:((bE (nX l.length [])).length:Int)=(l.length:Int)+((0:Nat):Int):=by simp only[bE,aB,yO,cS];omega
  have hadd:iZ ([])++[(kI r,.d (ci ((bE (nX l.length [])).length:Int)))]=iZ ([]++[(r,(l.length:Int)+((0:Nat):Int))]):=by rw[hle];exact vP _ r _
  refine bl ?_;refine n8 (by simp only[aB,bE,cE,aS,yO,cW,cS];omega) (by kernel_rfl) ?_;conv=>whnf
  refine bl ?_;refine⟨rfl,rfl,?_⟩
  repeat'(first|exact aW|exact rS rfl|exact eV rfl|exact eV (YQ rfl hnr)|exact eV (TO rfl hadd)|refine bI ?_ ?_)
  all_goals skip
 ·intro k hk o c fo lx ho hc hf ha;have hlen:c.args.size=2:=by have:=congrArg List.length ha;simpa using this
  have hkr:k+1<w.aP.length:=by omega
  have hrk:w.things[k+1].ref=w.aP[k+1]:=by simp[D4.aP]
  rw[hrk]at ha;have htk:w.aP.take (k+1+1)=w.aP.take (k+1)++[w.aP[k+1]]:=aT hkr;have hni:w.aP[k+1]∉w.aP.take (k+1):=λhm=>by
   obtain⟨j,hj,e⟩:=dH.1 hm;rw[cW]at hj;rw[nI]at e;have:=(jB hw.nodup).1 e;omega
  have hat:wP l.length (w.aP.take (k+1+1))=wP l.length (w.aP.take (k+1))++[(w.aP[k+1],(l.length:Int)+((k+1:Nat):Int))]:=by
   rw[htk,PC];simp only[wP,cW];rw[show l.length+min (k+1) w.aP.length=l.length+(k+1) by omega];simp only[Int.natCast_add]
  have hhk:kJ (wP l.length (w.aP.take (k+1))) w.aP[k+1]=false:=by
   cases hh:kJ (wP l.length (w.aP.take (k+1))) w.aP[k+1]with
   |false=>rfl
   |true=>have:=mP.1 hh;rw[DC]at this;exact absurd this hni
  have hnl2:(nX l.length (w.aP.take (k+1))).length=l.length+(k+1):=by rw[yO,cW];omega
  have hnr:=YV l.length (w.aP.take (k+1)) w.aP[k+1];rw[<-htk]at hnr;rw[hat];generalize w.aP[k+1]=r at*;refine GZ (n:=142) (ps:= #[39,40]) mix [(39,.d (ci r)),(5,.lp 1024 0)] 30000 (λL=>(900,dU 25 1 (iR w.aP))::(901,dU 84 1 (kR (w.things.map (·.bQ.kind))))::(7000,L)::(7100,.cells false [.d (.ip w.cells)])::(1024,.cells false [.lp 1016 0])::(1016,.cells false [.h 950,.h 1000,.d (.nl 1)])::(1000,.mp false (iZ (wP l.length (w.aP.take (k+1)))) [])::(950,dU 55 3 (nX l.length (w.aP.take (k+1))))::(940,.dead)::[]) ho hc hf rfl (λL=>rfl) hlen (by decide) (by simp[mY]) (by kernel_rfl) (by kernel_rfl) (by rw[ha];exact⟨rfl,rfl,trivial⟩) ?_ (by repeat'(first|exact aW|exact sn|exact dM|exact aZ|refine bI ?_ ?_));intro LR LB eR eB;clear eR eB;refine bl ?_;refine⟨rfl,rfl,?_⟩;refine bl ?_;refine aBP (by decide) (λhh=>by rw[hhk]at hh;cases hh) (λhh=>?_);conv=>whnf
  have hle:((bE (nX l.length (w.aP.take (k+1)))).length:Int)=(l.length:Int)+((k+1:Nat):Int):=by simp only[bE,aB,yO,cW];omega
  have hadd:iZ (wP l.length (w.aP.take (k+1)))++[(kI r,.d (ci ((bE (nX l.length (w.aP.take (k+1)))).length:Int)))]=iZ (wP l.length (w.aP.take (k+1))++[(r,(l.length:Int)+((k+1:Nat):Int))]):=by rw[hle];exact vP _ r _
  refine bl ?_;refine n8 (by simp only[aB,bE,cE,aS,yO,cW,cS];omega) (by kernel_rfl) ?_;conv=>whnf
  refine bl ?_;refine⟨rfl,rfl,?_⟩
  repeat'(first|exact aW|exact rS rfl|exact eV rfl|exact eV (YQ rfl hnr)|exact eV (TO rfl hadd)|refine bI ?_ ?_)
  all_goals skip
 ·repeat'(first|exact aW|exact rfl|refine bI ?_ ?_)
 ·exact⟨sn,sn,trivial⟩
 ·refine⟨?_,?_⟩
  ·repeat'(first|exact aW|exact sn|refine bI ?_ ?_)
  ·repeat'(first|exact aW|exact sn|exact dM|exact aZ|refine bI ?_ ?_)
 ·repeat'(first|exact aW|exact rfl|refine bI ?_ ?_)
 ·exact rfl
 ·repeat'(first|exact aW|exact rfl|refine bI ?_ ?_)
 ·repeat'(first|exact aW|exact sn|refine bI ?_ ?_)
 ·repeat'(first|exact aW|exact sn|exact dM|exact aZ|refine bI ?_ ?_)
 ·trivial
 have hN:(nX l.length w.aP).length=w.fB l:=yO _ _;have hNl:w.fB l<=2^31:=by unfold D4.fB;omega
 have hnpos:0<l.length:=gH.2 hl0;have hNp:0<w.fB l:=by unfold D4.fB;omega
 have hNg:l.length<=w.fB l:=by unfold D4.fB;omega
 have hNe:w.fB l=l.length+w.aP.length:=rfl;have hnl:∀i(h:i<l.length),V.dB (l[i].names.map (·.value))+l[i].names.length<=2^35:=λi h=>by have h1:=(hu i h).names;have h2:=(hu i h).nlen;omega
 refine bl ?_;refine cY mix (λi:Nat=>i<=w.fB l) (I:=λi=>[(0,.d (.ip w.cells)),(1,.d (.sl 4 (l.map U4.cells))),(5,.lp 1024 0),(66,.d (ci (w.fB l))),(67,.d (ci i))])
  (J:=λi=>(1024,.cells false [.lp 1016 0])::(1016,.cells false [.d (.sl 3 (nX l.length w.aP)),.h 1000,lv 1 902 (iN (List.range i))])::(1000,.mp false (iZ (w.eG l)) [])::lm 902 3 1 (iN (List.range i)) []) (μ:=λi=>w.fB l -i) 60000 0 4
  (λ_:Unit=>True) (λ_=>[(0,.d (.ip w.cells)),(1,.d (.sl 4 (l.map U4.cells))),(5,.lp 1024 0)]) (λ_=>(1024,.cells false [.lp 1016 0])::pS (nX l.length w.aP) (w.eG l) (List.range (w.fB l))) 70000 (by omega) ?_ ?_ ?_
 ·refine cN.freeze [950] trivial ⟨.same _,.same _,.same _,cvE (qD (by simp only[aB,bE,hN])),.same _,trivial⟩ ⟨⟨rfl,_,rfl,.cells (.same _)⟩,⟨rfl,_,rfl,.cells (.cons (.rd (.dU (eX rfl rfl))) (.same _))⟩,⟨rfl,_,rfl,.mp rfl (.same _)⟩,trivial⟩ ?_ ?_
  all_goals repeat'(first|exact aW|exact sn|exact dM|exact aZ|refine bI ?_ ?_)
 ·intro i hi;have hrs:iN (List.range (i+1))=iN (List.range i)++[[ci (i:Int)]]:=by unfold iN;rw[List.range_succ,bP];rfl
  have hql:(iN (List.range i)).length=i:=by simp
  generalize hQ:iN (List.range i)=Q at hrs hql⊢;cases Q with
  |nil=>
   show vc _ _ _ _ _ [(1024,.cells false [.lp 1016 0]),(1016,.cells false [.d (.sl 3 (nX l.length w.aP)),.h 1000,.d (.nl 1)]),(1000,.mp false (iZ (w.eG l)) [])] _ _
   repeat'(first|refine bl ?_|refine bS (λh=>?_) (λh=>?_))
   ·refine n8 (by simp only[aB,bE,cE,aS,aQ];omega) (by kernel_rfl) ?_;conv=>whnf
    refine E9.mk (λh=>by cases h) (λh=>?_);conv=>whnf
    refine bl ?_;refine⟨i+1,by omega,by omega,?_⟩;rw[hrs];dsimp only[List.nil_append,List.cons_append,List.map_cons,List.map_nil,lv,lm];exact mv 60080 902
    all_goals first|exact cO rfl rfl
   ·obtain rfl:i=w.fB l:=by omega
    refine⟨(),trivial,?_⟩;simp only[cS]at hql;omega
  |cons q0 Q=>
   show vc _ _ _ _ _ [(1024,.cells false [.lp 1016 0]),(1016,.cells false [.d (.sl 3 (nX l.length w.aP)),.h 1000,.h 902]),(1000,.mp false (iZ (w.eG l)) []),(902,dU 3 1 (q0::Q))] _ _
   repeat'(first|refine bl ?_|refine bS (λh=>?_) (λh=>?_))
   ·refine n8 (by simp only[aB,bE,cE,aS,aQ]at*;omega) (by kernel_rfl) ?_;conv=>whnf
    refine bl ?_;refine⟨i+1,by omega,by omega,?_⟩;rw[hrs];dsimp only[List.nil_append,List.cons_append,List.map_cons,List.map_nil,lv,lm];refine mq 60080 902 ?_
    all_goals first|exact cO rfl (by simp[bE])
   ·obtain rfl:i=w.fB l:=by omega
    refine⟨(),trivial,?_⟩;unfold pS;rw[hQ];exact mv 5000 5001
 rintro _ _;refine bl ?_;refine cY mix (λs:Nat×List Nat=>s.1<=w.fB l/\B8 s.2/\s.2.length=w.fB l/\pV (w.eG l) (uE w l) (w.fB l -s.1) s.1 s.2=w.rI l) (I:=λs=>[(0,.d (.ip w.cells)),(1,.d (.sl 4 (l.map U4.cells))),(5,.lp 1024 0),(84,.d (.sl 3 (nX l.length w.aP))),(85,.d (ci (w.fB l))),(86,.d (ci s.1))])
  (J:=λs=>(1024,.cells false [.lp 1016 0])::pS (nX l.length w.aP) (w.eG l) s.2) (μ:=λs=>w.fB l -s.1) 80000 (0,List.range (w.fB l)) 6
  (λ_:Unit=>True) (λ_=>[(5,.lp 1024 0)]) (λ_=>(1024,.cells false [.lp 1016 0])::pS (nX l.length w.aP) (w.eG l) (w.rI l)) 90000 ⟨by dsimp only;omega,KH _,by simp,rfl⟩ ?_ ?_ ?_
 ·dsimp only[pS];refine mq 5000 5001 ?_
  all_goals exact qD (by rw[aB,hN])
 ·rintro⟨i,low⟩ ⟨hi,hlo1,hlen,hjn⟩;dsimp only at hi hlo1 hlen hjn⊢;by_cases hin:i<l.length
  ·have hrow:=aD7 l.length w.aP i hin
   repeat'(first|refine bl ?_|refine bS (λh=>?_) (λh=>?_)|refine S2 rfl (by decide) (by omega) hrow (bw ?_)|refine cD rfl (by decide) hin (bw ?_)|refine aF (D0 l[i].names (hnl i hin)) (bw ?_))
   ·have hE:uE w l i=jL l[i].names:=by unfold uE;rw[dif_pos hin]
    have hj1:pV (w.eG l) (uE w l) (w.fB l -(i+1)) (i+1) ((jL l[i].names).foldl (fR (w.eG l) i) low)=w.rI l:=by
     rw[<-hjn,show w.fB l -i=(w.fB l -(i+1))+1 by omega,pV,hE]
    have hRl:(jL l[i].names).length<=2^35:=by have h1:=IG l[i];have h2:=(hu i hin).names;omega
    generalize jL l[i].names=R at hj1 hRl⊢;refine cY mix (λj:Nat=>j<=R.length) (I:=λj=>[(0,.d (.ip w.cells)),(1,.d (.sl 4 (l.map U4.cells))),(5,.lp 1024 0),(84,.d (.sl 3 (nX l.length w.aP))),(85,.d (ci (w.fB l))),(86,.d (ci i)),(9,.d (ci i)),(100,.d (.sl 1 (iR R))),(101,.d (ci R.length)),(102,.d (ci j))])
     (J:=λj=>(1024,.cells false [.lp 1016 0])::pS (nX l.length w.aP) (w.eG l) ((R.take j).foldl (fR (w.eG l) i) low)) (μ:=λj=>R.length -j) 100000 0 8
     (λ_:Unit=>True) (λ_=>[(0,.d (.ip w.cells)),(1,.d (.sl 4 (l.map U4.cells))),(5,.lp 1024 0),(84,.d (.sl 3 (nX l.length w.aP))),(85,.d (ci (w.fB l))),(86,.d (ci i)),(9,.d (ci i))]) (λ_=>(1024,.cells false [.lp 1016 0])::pS (nX l.length w.aP) (w.eG l) (R.foldl (fR (w.eG l) i) low)) 101000 (by omega) (by dsimp only[pS];exact mv 5000 5001) ?_ ?_
    ·intro j hj;have hlj:B8 ((R.take j).foldl (fR (w.eG l) i) low):=tN _ _ hlo1 (by rw[hlen];exact lS w l) (by omega);have hllj:((R.take j).foldl (fR (w.eG l) i) low).length=w.fB l:=by rw[kT];exact hlen
     have hnx:∀(h:j<R.length),(R.take (j+1)).foldl (fR (w.eG l) i) low=fR (w.eG l) i ((R.take j).foldl (fR (w.eG l) i) low) R[j]:=λh=>by rw[aT h,iB];rfl
     generalize hlp:(R.take j).foldl (fR (w.eG l) i) low=lowj at hlj hllj hnx⊢
     repeat'(first|refine bl ?_|refine bS (λh=>?_) (λh=>?_)|refine cD rfl (by decide) (by assumption) (bw ?_)|(refine dZ.mk (.eL []) [(902,dU 3 1 (iN (fR (w.eG l) i lowj R[j])))] (aJ.hP (J4 (nX l.length w.aP) (w.eG l) lowj hlj (by rw[hllj];exact lS w l) i (by omega) R[j]) ⟨sn,trivial⟩ ⟨rfl,rfl,rfl,trivial⟩ xV ⟨.inl sn,trivial⟩) ?_;(conv=>whnf)))
     ·have hlt:j<R.length:=by assumption
      refine⟨j+1,by omega,by omega,?_⟩;rw[hnx hlt];dsimp only[pS];exact mv 5000 5001
     ·obtain rfl:j=R.length:=by omega
      rw[aI (bT _)]at hlp;rw[hlp];exact⟨(),trivial,by dsimp only[pS];exact mv 5000 5001⟩
    rintro _ _;refine bl ?_;refine⟨(i+1,R.foldl (fR (w.eG l) i) low),by dsimp only;omega,⟨by dsimp only;omega,tN _ _ hlo1 (by rw[hlen];exact lS w l) (by omega),by dsimp only;rw[kT];exact hlen,hj1⟩,?_⟩;dsimp only[pS];exact mv 5000 5001
   ·exfalso;omega
  ·obtain⟨k,rfl⟩:∃k,i=l.length+k:=⟨i -l.length,by omega⟩;by_cases hk:k<w.aP.length
   ·have hrow:=aD8 l.length w.aP k hk;have hE:uE w l (l.length+k)=w.cX w.aP[k]++ofJ w w.aP[k]:=by
     unfold uE;rw[dif_neg (by omega),show l.length+k -l.length=k by omega,aC hk];rfl
    have hj1:pV (w.eG l) (uE w l) (w.fB l -(l.length+k+1)) (l.length+k+1) ((w.cX w.aP[k]++ofJ w w.aP[k]).foldl (fR (w.eG l) (l.length+k)) low)=w.rI l:=by
     rw[<-hjn,show w.fB l -(l.length+k)=(w.fB l -(l.length+k+1))+1 by omega,pV,hE]
    generalize w.aP[k]=r at hrow hj1;have hRl:=GW hw.togA r;have hof:ofJ w r=if(w.iI r).of=0 then []else [(w.iI r).of]:=rfl
    rw[iB,hof]at hj1;have hwh:=ZL w hw.togA r
    repeat'(first|refine bl ?_|refine bS (λh=>?_) (λh=>?_)|refine S2 rfl (by decide) (by omega) hrow (bw ?_)|refine aF (AZ w hw.togA r) (bw ?_))
    ·generalize w.cX r=R at hj1 hRl⊢;refine cY mix (λj:Nat=>j<=R.length) (I:=λj=>[(0,.d (.ip w.cells)),(1,.d (.sl 4 (l.map U4.cells))),(5,.lp 1024 0),(84,.d (.sl 3 (nX l.length w.aP))),(85,.d (ci (w.fB l))),(86,.d (ci (l.length+k:Nat))),(9,.d (ci (l.length+k:Nat))),(10,.lp 80032 0),(114,.d (.sl 1 (iR R))),(115,.d (ci R.length)),(116,.d (ci j))])
      (J:=λj=>(80032,.cells false [.d (cb true),.d (ci 0),.d (ci r)])::(1024,.cells false [.lp 1016 0])::pS (nX l.length w.aP) (w.eG l) ((R.take j).foldl (fR (w.eG l) (l.length+k)) low)) (μ:=λj=>R.length -j) 110000 0 10
      (λ_:Unit=>True) (λ_=>[(0,.d (.ip w.cells)),(1,.d (.sl 4 (l.map U4.cells))),(5,.lp 1024 0),(84,.d (.sl 3 (nX l.length w.aP))),(85,.d (ci (w.fB l))),(86,.d (ci (l.length+k:Nat))),(9,.d (ci (l.length+k:Nat))),(10,.lp 80032 0)]) (λ_=>(80032,.cells false [.d (cb true),.d (ci 0),.d (ci r)])::(1024,.cells false [.lp 1016 0])::pS (nX l.length w.aP) (w.eG l) (R.foldl (fR (w.eG l) (l.length+k)) low)) 111000 (by omega) (by dsimp only[pS];exact mv 5000 5001) ?_ ?_
     ·intro j hj;have hlj:B8 ((R.take j).foldl (fR (w.eG l) (l.length+k)) low):=tN _ _ hlo1 (by rw[hlen];exact lS w l) (by omega);have hllj:((R.take j).foldl (fR (w.eG l) (l.length+k)) low).length=w.fB l:=by rw[kT];exact hlen
      have hnx:∀(h:j<R.length),(R.take (j+1)).foldl (fR (w.eG l) (l.length+k)) low=fR (w.eG l) (l.length+k) ((R.take j).foldl (fR (w.eG l) (l.length+k)) low) R[j]:=λh=>by rw[aT h,iB];rfl
      generalize hlp:(R.take j).foldl (fR (w.eG l) (l.length+k)) low=lowj at hlj hllj hnx⊢
      repeat'(first|refine bl ?_|refine bS (λh=>?_) (λh=>?_)|refine cD rfl (by decide) (by assumption) (bw ?_)|(refine dZ.mk (.eL []) [(902,dU 3 1 (iN (fR (w.eG l) (l.length+k) lowj R[j])))] (aJ.hP (J4 (nX l.length w.aP) (w.eG l) lowj hlj (by rw[hllj];exact lS w l) (l.length+k) (by omega) R[j]) ⟨sn,trivial⟩ ⟨rfl,rfl,rfl,trivial⟩ xV ⟨.inl sn,trivial⟩) ?_;(conv=>whnf)))
      ·have hlt:j<R.length:=by assumption
       refine⟨j+1,by omega,by omega,?_⟩;rw[hnx hlt];dsimp only[pS];exact mv 5000 5001
      ·obtain rfl:j=R.length:=by omega
       rw[aI (bT _)]at hlp;rw[hlp];exact⟨(),trivial,by dsimp only[pS];exact mv 5000 5001⟩
     rintro _ _;have hlf:B8 (R.foldl (fR (w.eG l) (l.length+k)) low):=tN _ _ hlo1 (by rw[hlen];exact lS w l) (by omega);have hllf:(R.foldl (fR (w.eG l) (l.length+k)) low).length=w.fB l:=by rw[kT];exact hlen
     generalize R.foldl (fR (w.eG l) (l.length+k)) low=lowf at hj1 hlf hllf⊢
     repeat'(first|refine bl ?_|refine bS (λh=>?_) (λh=>?_)|refine aF hwh (bw ?_)|(refine dZ.mk (.eL []) [(902,dU 3 1 (iN (fR (w.eG l) (l.length+k) lowf (w.iI r).of)))] (aJ.hP (J4 (nX l.length w.aP) (w.eG l) lowf hlf (by rw[hllf];exact lS w l) (l.length+k) (by omega) (w.iI r).of) ⟨sn,trivial⟩ ⟨rfl,rfl,rfl,trivial⟩ xV ⟨.inl sn,trivial⟩) ?_;(conv=>whnf)))
     ·have h0:¬(w.iI r).of=0:=by assumption
      rw[if_neg h0,fX,List.foldl_nil]at hj1;refine⟨(l.length+k+1,fR (w.eG l) (l.length+k) lowf (w.iI r).of),by dsimp only;omega,⟨by dsimp only;omega,N3 hlf (by rw[hllf];exact lS w l) (by omega),by dsimp only;rw[pW];exact hllf,hj1⟩,?_⟩;dsimp only[pS];exact mv 5000 5001
     ·have h0:(w.iI r).of=0:=by assumption
      rw[if_pos h0,List.foldl_nil]at hj1;refine⟨(l.length+k+1,lowf),by dsimp only;omega,⟨by dsimp only;omega,hlf,hllf,hj1⟩,?_⟩;dsimp only[pS];exact mv 5000 5001
    ·exfalso;omega
   ·skip
    repeat'(first|refine bl ?_|refine bS (λh=>?_) (λh=>?_))
    ·exfalso;omega
    ·have e:w.fB l -(l.length+k)=0:=by omega
     rw[e,pV]at hjn;refine⟨(),trivial,?_⟩;rw[<-hjn];dsimp only[pS];exact mv 5000 5001
 rintro _ _;refine bl ?_;unfold pS;exact em
 all_goals skip
theorem N0{F:List (Int×Int)}{E:Nat->List Int}:∀(n k:Nat)(low:List Nat),B8 low->zD F low.length->k+n<=low.length->B8 (pV F E n k low)
 |0,k,low,h,_,_=>h
 |n+1,k,low,h,hF,hk=>by
  rw[pV];exact N0 n (k+1) _ (tN _ _ h hF (by omega)) (by rw[kT];exact hF) (by rw[kT];omega)
theorem aA5(w:D4)(l:List U4):B8 (w.rI l)/\(w.rI l).length=w.fB l:=by
 unfold D4.rI;refine⟨N0 _ _ _ (KH _) (by rw[vT];exact lS w l) (by simp),by rw[NZ,vT]⟩
theorem CT(w:D4)(l:List U4){r:Int}(h:w.mI r=true):kJ (w.eG l) r=true:=by
 unfold D4.eG;rw[mP,DC];unfold D4.mI D4.find at h;obtain⟨t,ht⟩:=eS.1 h;have h1:=iD ht;exact aM.2 ⟨t,cT ht,by simpa using h1⟩
def D4.D6(w:D4)(l:List U4)(i:Nat)(r:Int):Bool:=decide (eC (w.rI l) i=eC (w.rI l) (cR (w.eG l) r).toNat)
theorem tO(w:D4)(hw:w.qV)(l:List U4)(hl:l.length<=2^30)(hu:∀i(h:i<l.length),l[i].gA)(hall:l.all w.zE=true)(i:Nat)(hi:i<l.length)(r:Int)(hr:w.mI r=true):∀m,aJ Tryz.prog 16 [.d (.ip w.cells),.d (.agg [cb false,ci i,ci 0]),.d (.agg [cb true,ci 0,ci r]),.d (.sl 4 (l.map U4.cells))] m (.ok (.eL [.d (cb (w.D6 l i r)),.d (ci 0)])) m:=by
 have hl0:l≠[]:=by rintro rfl;simp at hi
 have hT0:w.things≠[]:=by
  intro e;unfold D4.mI D4.find at hr;rw[e]at hr;simp at hr
 have hjo:=aDS w hw l hl hu hl0 hT0;have hmy:=yG w hw l hl hu;have hme:w.s8 l=0:=by unfold D4.s8;rw[if_pos hall]
 rw[hme]at hmy;obtain⟨g1,g2⟩:=aA5 w l;have hF:=lS w l;have hhas:=CT w l hr;have hcn:=hF.at hhas;have hNg:l.length<=w.fB l:=by unfold D4.fB;omega
 have hnL:((((l.map U4.cells).map λx=>x.map A.d).length:Nat):Int)=l.length:=by simp only[aB]
 generalize hNL:((((l.map U4.cells).map λx=>x.map A.d).length:Nat):Int)=nL at hnL;have hp1:oK (w.eG l) false i 0 nL=((i:Int),0):=by unfold oK;rw[if_pos rfl,if_neg (by omega)]
 have hp2:oK (w.eG l) true 0 r nL=(((cR (w.eG l) r).toNat:Int),0):=by unfold oK;rw[if_neg (by simp),if_neg (by simp),if_pos hhas];congr 1;omega
 have hpl1:=TW (nX l.length w.aP) (w.eG l) (w.rI l) false i 0 nL;have hpl2:=TW (nX l.length w.aP) (w.eG l) (w.rI l) true 0 r nL;rw[hp1]at hpl1;rw[hp2]at hpl2;unfold D4.D6;generalize hcr:(cR (w.eG l) r).toNat=k at*;generalize w.eG l=F at*;generalize w.rI l=low at*;generalize nX l.length w.aP=NR at*;have hr1:=IN NR F low g1 i (by omega);have hr2:=IN NR F low g1 k (by omega);refine iC mix Tryz.func16 ?_;subst hNL
 repeat'(first|refine bl ?_|refine aF hmy (bw ?_)|refine dZ.mk (.lp 1016 0) (pS NR F low) (aJ.hP hjo trivial trivial trivial ⟨.inr rfl,.inr rfl,.inr rfl,trivial⟩) (bw ?_)|(refine dZ.mk (.eL [.d (ci i),.d (ci 0)]) [] ((aJ.hP hpl1 ⟨sn,trivial⟩ ⟨rfl,rfl,rfl,trivial⟩ xV trivial).mR (.cons (.same _) (.cons (.agg [cb false,ci i,ci 0]) (.cons (.same _) .nil)))) ?_;(conv=>whnf))|(refine dZ.mk (.eL [.d (ci k),.d (ci 0)]) [] ((aJ.hP hpl2 ⟨sn,trivial⟩ ⟨rfl,rfl,rfl,trivial⟩ xV trivial).mR (.cons (.same _) (.cons (.agg [cb true,ci 0,ci r]) (.cons (.same _) .nil)))) ?_;(conv=>whnf))|refine dZ.mk (.d (ci (eC low i:Nat))) [] (aJ.hP hr1 ⟨sn,trivial⟩ ⟨rfl,rfl,rfl,trivial⟩ xV trivial) (bw ?_)|refine dZ.mk (.d (ci (eC low k:Nat))) [] (aJ.hP hr2 ⟨sn,trivial⟩ ⟨rfl,rfl,rfl,trivial⟩ xV trivial) (bw ?_))
 rw[show decide (eC low i=eC low k)=decide ((eC low i:Int)=(eC low k:Int))from decide_eq_decide.2 (by omega)];exact .eL (cs:=[cb _,ci 0]) (.cons (.d _) (.cons (.d _) .nil))
def over(A:List Int)(i:Nat):List Int:=List.replicate i 77++A.drop i
theorem aEI(A:List Int)(i:Nat)(h:i<=A.length):(over A i).length=A.length:=by unfold over;simp;omega
theorem aEH(A:List Int)(i:Nat)(h:i<A.length):(over A i)[i]?=some A[i]:=by
 unfold over;rw[bO (by simp)];simp[h]
theorem aEJ(A:List Int)(i:Nat)(h:i<A.length):(over A i).set i 77=over A (i+1):=by
 unfold over;rw[List.set_append_right _ _ (by simp),List.replicate_succ',bG,aS,Nat.sub_self,dE h];rfl
theorem aNS(A:List Int)(i:Nat)(h:i<A.length):(bE (iR (over A i)))[i]?=some [.d (ci A[i])]:=by
 refine gB _ _ [ci A[i]] ?_;rw[cK,aEH A i h];rfl
theorem aBJ(A:List Int)(i:Nat)(h:i<A.length):(bE (iR (over A i))).set i [.d (ci 77)]=bE (iR (over A (i+1))):=by
 rw[<-aEJ A i h];simp only[bE,qS];rfl
theorem aE3:∀m,aJ Tryz.prog 13 [.d (.nl 1),.d (.sl 1 [])] m (.ok (.d (cb true))) m:=by
 refine iC mix Tryz.func13 ?_;refine bl ?_;refine bV mix (λi:Unit=>True) (I:=λi=>[(0,.d (.nl 1)),(1,.d (.sl 1 [])),(5,.d (cb true)),(6,.d (ci 0))]) (J:=λi=>[]) (μ:=λi=>0) 1000 () trivial (by exact mv 5000 5001) ?_;intro i hi;refine bl ?_;exact dP rfl
theorem aIC(A:List Int)(hA:A.length<=2^38):aJ Tryz.prog 13 [.h 0,.d (.sl 1 (iR A))] (aK [(0,dU 25 1 (iR A))]) (.ok (.d (cb true))) (aH (aK [(0,dU 25 1 (iR A))]) [(0,dU 25 1 (iR (over A A.length)))]):=by
 refine wE mix 1000 Tryz.func13 trivial ⟨aZ,trivial⟩ ?_
 repeat'(first|refine bl ?_|refine bS (λh=>?_) (λh=>?_))
 ·exact absurd (by simp[bE]) h
 refine bV mix (λi:Nat=>i<=A.length) (I:=λi=>[(0,.h 0),(1,.d (.sl 1 (iR A))),(5,.d (cb true)),(6,.d (ci i))]) (J:=λi=>[(0,dU 25 1 (iR (over A i)))]) (μ:=λi=>A.length -i) 1000 0 (by omega) (by exact mv 5000 5001) ?_;intro i hi;have hol:=aEI A i hi;have hlt0:i<(bE (iR (over A i))).length->i<A.length:=λh=>by simp only[bE,aB]at h;omega
 repeat'(first|refine bl ?_|refine bS (λh=>?_) (λh=>?_))
 ·have hlt:=hlt0 (by assumption)
  repeat'(first|refine bl ?_|refine lG.mk i rfl (by simp only[bE,aB];omega) (bw ?_)|(refine fZ.mk _ (aNS A i hlt) ?_;(conv=>whnf))|refine cD rfl (by decide) hlt (bw ?_))
  refine⟨i+1,by omega,by omega,?_⟩;rw[decide_eq_true (rfl:A[i]=A[i])];refine mq 5000 5001 ?_
  all_goals exact cO rfl (aBJ A i hlt)
 ·obtain rfl:i=A.length:=by simp only[bE,aB]at h;omega
  exact em
theorem Q9(w:D4)(xl:Int):∀(T:List T4)(q:Int),ZE w xl T q=true->(∀t∈T,w.AA t.bQ=true)/\(T.map (·.ref)).Pairwise (· <·)
 |[],q,h=>by simp
 |t::r,q,h=>by
  simp only[ZE,aE,decide_eq_true_eq]at h;obtain⟨h1,h2⟩:=Q9 w xl r t.ref h.2;obtain⟨h3,_⟩:=xN w xl r t.ref h.2;refine⟨λu hu=>?_,?_⟩
  ·rcases aO.1 hu with rfl|hu
   ·exact h.1.2
   ·exact h1 u hu
  ·rw[aG,List.pairwise_cons];refine⟨λa ha=>?_,h2⟩;obtain⟨u,hu,rfl⟩:=aM.1 ha;exact h3 u hu
structure RI(x:X4):Prop where
 b:y9 x=true
 made:x.made.length=x.parents.length+1
 th:ZE (oD x.parents (DU x) []) x.last x.things 0=true
 snd:(oD x.parents (DU x) x.things).sH=true
theorem aL0(h:y9 x=true):RI x:=by
 have h0:=h;unfold y9 at h0;simp only[aE,decide_eq_true_eq]at h0;obtain⟨_,_,h3,_,h5,h6⟩:=h0;refine⟨h,h3,h5,?_⟩;unfold YB at h6;simp only[aE]at h6;exact h6.2.2.2.1
theorem vM{w:D4}:w.mI r=true↔r∈w.aP:=by
 unfold D4.mI D4.find D4.aP;rw[List.find?_isSome];constructor
 ·rintro⟨t,h1,h2⟩;exact aM.2 ⟨t,h1,by simpa using h2⟩
 ·intro h;obtain⟨t,h1,rfl⟩:=aM.1 h;exact⟨t,h1,by simp⟩
theorem J1(h:RI x)(hcnt:∀t∈x.things,t.bQ.cR<=2^20)(hlen:x.things.length<=60)(hpl:x.parents.length<=40):(bJ x).qV where
 cR:=λt ht=>cL (hcnt t ht) (bD rfl)
 len:=by show x.things.length<=2^30;omega
 nodup:=(xN _ _ _ _ h.th).2
 may:=λt ht=>by
  obtain⟨a,b,c,_⟩:=NS ((Q9 _ _ _ _ h.th).1 t ht);exact⟨a,b,c⟩
 sides:=by show 0<x.made.length;rw[h.made];omega
 EP:=(Q9 _ _ _ _ h.th).2
 pl:=by show x.parents.length<=2^38;omega
 ml:=by show x.made.length<=2^38;rw[h.made];omega
 cl:=by
  show(xY (oW x.parents) x.cuts).length<=2^36;rw[RX];unfold oW;rw[aS];omega
 pos:=(xN _ _ _ _ h.th).1
theorem HG(h:RI x)(r q:Int)(hq:q∈(bJ x).cX r):(bJ x).mI q=true:=by
 have hs:=h.snd;unfold D4.sH at hs;simp only[aE]at hs;have ho:=hs.1;rw[cV]at ho;have hisB:∀r,(oD x.parents (DU x) x.things).mI r=(bJ x).mI r:=λr=>rfl;cases hf:(bJ x).find r with
 |none=>
  rw[E0 _ _ (λhm=>by
   have:=vM.2 hm;unfold D4.mI at this
   rw[hf]at this;simp at this)]at hq
  simp at hq
 |some t=>
  have ht:t∈x.things:=cT hf;have h1:=ho t ht;simp only[aE]at h1;have h1:=h1.1;unfold D4.ok1 at h1;simp only[aE]at h1;obtain⟨n1,n2,n3,_⟩:=h1;have hw:(bJ x).iI r=t.bQ:=by unfold D4.iI;rw[hf];rfl
  have hE:(bJ x).kK r=0:=by unfold D4.kK D4.mI;rw[hf];rfl
  unfold D4.cX at hq;rcases bN.1 hq with hq|hq
  ·rw[vN hE,o3,hw]at hq;unfold D4.V9 at n1;have hm:q∈t.bQ.held:=by
    unfold W4.xB jL at hq;unfold W4.held;simp only[bN]at hq⊢;rcases hq with(hq|hq)|hq
    ·exact .inl hq
    ·exact .inr (.inr hq)
    ·exact .inr (.inl hq)
   cases hb:(bJ x).mI q with
   |true=>rfl
   |false=>
    have:(t.bQ.held.any λr=> !(oD x.parents (DU x) x.things).mI r)=true:=dQ.2 ⟨q,hm,by rw[hisB,hb];rfl⟩;rw[this]at n1;cases n1
  ·unfold D4.nW at hq;rw[if_neg (by simp[hE]),hw]at hq;rw[hisB]at n2 n3;split at hq
   ·rename_i hk;have hq:=aR.1 hq;subst hq;have:xT t.bQ.kind=true:=by unfold xT uY;rcases hk with hk|hk<;>rw[hk]<;>rfl
    rw[this]at n2;simpa using n2
   ·split at hq
    ·rename_i hk;have a1:xT t.bQ.kind=true:=by unfold xT uY;rcases hk with hk|hk<;>rw[hk]<;>rfl
     have a2:DB t.bQ.kind=true:=by unfold DB;rcases hk with hk|hk<;>rw[hk]<;>rfl
     rw[a1]at n2;rw[a2]at n3;simp only[aO,List.not_mem_nil,or_false]at hq;rcases hq with rfl|rfl
     ·simpa using n2
     ·simpa using n3
    ·simp at hq
theorem QS(h:RI x){L:List Int}(hL:∀r∈L,(bJ x).mI r=true){q:Int}(hq:FD (bJ x).cX L q):(bJ x).mI q=true:=by
 cases hq with
 |base hb=>exact hL _ hb
 |step _ hq=>exact HG h _ _ hq
theorem aLT{w:D4}{u:U4}(h:w.zE u=true):∀r∈jL u.names,w.mI r=true:=by
 unfold D4.zE at h;simp only[aE]at h;have h5:=h.2.2.2.2;rw[cV]at h5;intro r hr;have:=h5 r hr;simp only[aE]at this;exact this.1
structure kV(x:X4)(l:List U4):Prop where
 f:RI x
 cR:∀t∈x.things,t.bQ.cR<=2^20
 len:x.things.length<=60
 pl:x.parents.length<=40
 ll:l.length<=12
 gA:∀i(h:i<l.length),l[i].gA
 inl:∀i(h:i<l.length),(jL l[i].names).length<=2^20
 ck:l.all (bJ x).zE=true
variable{x:X4}{l:List U4}
theorem kV.w(h:kV x l):(bJ x).qV:=J1 h.f h.cR h.len h.pl
theorem kV.cki(h:kV x l)(i:Nat)(hi:i<l.length):(bJ x).zE l[i]=true:=cV.1 h.ck _ (aY hi)
theorem kV.ink(h:kV x l)(i:Nat)(hi:i<l.length):∀r∈jL l[i].names,(bJ x).mI r=true:=aLT (h.cki i hi)
theorem KR{l:List U4}:r∈pG l↔∃i,∃h:i<l.length,r∈jL l[i].names:=by
 unfold pG;rw[rQ];constructor
 ·rintro⟨L,h1,h2⟩;obtain⟨u,h3,rfl⟩:=aM.1 h1;obtain⟨i,hi,rfl⟩:=dH.1 h3;exact⟨i,hi,h2⟩
 ·rintro⟨i,hi,h⟩;exact⟨_,aM.2 ⟨l[i],aY hi,rfl⟩,h⟩
theorem kV.aL1(h:kV x l):∀r∈pG l,(bJ x).mI r=true:=λr hr=>by
 obtain⟨i,hi,h1⟩:=KR.1 hr;exact h.ink i hi r h1
theorem kV.steps(h:kV x l)(r:Int):((bJ x).cX r).length<=2^20+2:=by
 unfold D4.cX;rw[aU];have h1:=tP (bJ x) r;have h2:((bJ x).oE r).length<=2^20:=by
  by_cases h0:(bJ x).kK r=0
  ·rw[vN h0];refine cL (xH _) (cL (N7 _) ?_);unfold D4.iI;cases hf:(bJ x).find r with
   |none=>exact bD rfl
   |some t=>exact h.cR t (cT hf)
  ·rw[D8 h0];simp
 omega
theorem aFY(st:Int->List Int)(B:Nat)(hB:∀r,(st r).length<=B):∀(T out:List Int),BO st T out<=T.length*B
 |[],out=>by simp[BO]
 |t::T,out=>by
  have ih:=aFY st B hB T out;have:=hB t;unfold BO at ih⊢;rw[aQ,fS,Nat.one_mul];by_cases q:t∈out
  ·rw[gL (by simp[q])];omega
  ·rw[gM (by simp[q])];simp only[aG,gU];omega
theorem kV.qK(h:kV x l)(L:List Int)(hL:L.length<=2^30):(bJ x).qK L<=2^36:=by
 unfold D4.qK;have h1:=aFY (bJ x).cX (2^20+2) h.steps (bJ x).aP [];have h2:(bJ x).aP.length<=60:=by unfold D4.aP;rw[aB];exact h.len
 have h3:(bJ x).aP.length*(2^20+2)<=60*(2^20+2):=l5 h2 (bT _);omega
theorem KB{L:List (List Int)}{B:Nat}(h:∀e∈L,e.length<=B):L.flatten.length<=L.length*B:=by
 induction L with
 |nil=>simp
 |cons a L ih=>
  have:=h a (by simp);have:=ih λe he=>h e (by simp[he]);rw[dL,aU,aQ,fS,Nat.one_mul];omega
theorem kV.aL2(h:kV x l):(pG l).length<=2^24:=by
 unfold pG;have h1:∀e∈l.map λu=>jL u.names,e.length<=2^20:=λe he=>by
  obtain⟨u,hu,rfl⟩:=aM.1 he;obtain⟨i,hi,rfl⟩:=dH.1 hu;exact h.inl i hi
 have h2:=KB h1;have h3:=h.ll;rw[aB]at h2;have:l.length*2^20<=12*2^20:=l5 h3 (bT _);omega
theorem SU{w:D4}{L:List Int}(h:∀r∈L,w.mI r=true):w.v8 L=oZ (w.uJ L)/\w.v7 L=0:=by
 have hall:L.all w.mI=true:=cV.2 h;unfold D4.v8 D4.v7;rw[if_pos hall,if_pos hall];exact⟨rfl,rfl⟩
theorem kV.reach(h:kV x l):(bJ x).gN l=oZ ((bJ x).uJ (pG l))/\(bJ x).wF l=0:=by
 obtain⟨a,b⟩:=SU h.aL1;unfold D4.gN D4.wF;rw[if_pos h.ck,if_pos h.ck];exact⟨a,b⟩
theorem kV.GL(h:kV x l)(r:Int):r∈(bJ x).gN l↔FD (bJ x).cX (pG l) r:=by
 rw[h.reach.1,o3,wV _ h.w.togA]
theorem kV.one(h:kV x l)(i:Nat)(hi:i<l.length):kV x [l[i]]where
 f:=h.f
 cR:=h.cR
 len:=h.len
 pl:=h.pl
 ll:=by simp
 gA:=λj hj=>match j,hj with
  |0,_=>h.gA i hi
 inl:=λj hj=>match j,hj with
  |0,_=>h.inl i hi
 ck:=by simp[h.cki i hi]
theorem aDN(u:U4):pG [u]=jL u.names:=by simp[pG]
theorem kV.EI(h:kV x l)(i:Nat)(hi:i<l.length)(r:Int):r∈(bJ x).gN [l[i]]↔FD (bJ x).cX (jL l[i].names) r:=by
 rw[(h.one i hi).GL,aDN]
theorem kV.BF(h:kV x l)(r:Int)(hr:r∈(bJ x).gN l):(bJ x).mI r=true:=QS h.f h.aL1 ((h.GL r).1 hr)
theorem kV.again(h:kV x l):(bJ x).v8 ((bJ x).gN l)=(bJ x).gN l/\(bJ x).v7 ((bJ x).gN l)=0:=by
 obtain⟨a,b⟩:=SU h.BF;refine⟨?_,b⟩;rw[a,h.reach.1,aAE _ h.w.togA]
theorem kV.GK(h:kV x l):((bJ x).gN l).length<=60:=by
 have hn:((bJ x).gN l).Nodup:=by rw[h.reach.1];exact(K9 _).imp λh=>by omega
 have h1:=GD hn (B:=(bJ x).aP) λr hr=>vM.1 (h.BF r hr);have h2:(bJ x).aP.length<=60:=by unfold D4.aP;rw[aB];exact h.len
 omega
open Classical in
theorem kV.aH4(h:kV x l)(i:Nat)(hi:i<l.length)(to:Int):((bJ x).l9 l[i] to).2=((bJ x).gN [l[i]]).any λr=>decide (r=to):=by
 have hany:(((bJ x).gN [l[i]]).any λr=>decide (r=to))=decide (FD (bJ x).cX (jL l[i].names) to):=by
  by_cases hr:FD (bJ x).cX (jL l[i].names) to
  ·rw[decide_eq_true hr];exact dQ.2 ⟨to,(h.EI i hi to).2 hr,by simp⟩
  ·rw[decide_eq_false hr,qR];intro r hm e;simp only[decide_eq_true_eq]at e;subst e;exact hr ((h.EI i hi r).1 hm)
 rw[hany];unfold D4.l9;rw[h.cki i hi,cA];cases hb:(bJ x).mI to with
 |false=>
  rw[if_neg gO,decide_eq_false];intro hr;have:=QS h.f (h.ink i hi) hr;rw[hb]at this;cases this
 |true=>
  rw[if_pos rfl];rcases BC (H:=jL l[i].names) (aBV h.w) (vM.1 hb)with⟨a,b⟩|⟨P,a,b,_⟩
  ·rw[a,decide_eq_false b]
  ·rw[a,decide_eq_true b]
theorem kV.EL(h:kV x l)(i:Nat)(hi:i<l.length)(to:Int):(bJ x).OD l[i] to=if(bJ x).mI to=true then 0 else 5:=by
 unfold D4.OD;rw[if_pos (h.cki i hi)]
theorem kV.aH2(h:kV x l)(i:Nat)(hi:i<l.length)(to:Int)(hok:((bJ x).l9 l[i] to).2=true)(k:Nat)(hk:k<((bJ x).l9 l[i] to).1.length):
 (bJ x).mI (((bJ x).l9 l[i] to).1[k])=true/\((bJ x).l9 l[i] (((bJ x).l9 l[i] to).1[k])).2=true/\((bJ x).l9 l[i] (((bJ x).l9 l[i] to).1[k])).1.length=k+1/\
 (k=0->((bJ x).l9 l[i] to).1[k]∈jL l[i].names)/\(∀j,k=j+1->∃hj:j<((bJ x).l9 l[i] to).1.length,((bJ x).l9 l[i] to).1[k]∈(bJ x).cX (((bJ x).l9 l[i] to).1[j])):=by
 have hcki:=h.cki i hi;have hdef:∀t,(bJ x).l9 l[i] t=if(bJ x).mI t=true then EK (bJ x).cX (bJ x).aP (jL l[i].names) t else([],false):=λt=>by
  unfold D4.l9;rw[hcki,cA]
 have hp:=hdef to;cases hb:(bJ x).mI to with
 |false=>rw[hb,if_neg gO]at hp;rw[hp]at hok;cases hok
 |true=>
  rw[hb,if_pos rfl]at hp;rcases BC (H:=jL l[i].names) (aBV h.w) (vM.1 hb)with⟨a,b⟩|⟨P,a,b,tr,mn,hpos,h0⟩
  ·rw[hp,a]at hok;cases hok
  ·rw[a]at hp;rw[hp]at hk;simp only[hp];dsimp only at hk⊢;have hrk:FD (bJ x).cX (jL l[i].names) P[k]:=(RC (GY tr k hk)).trans λy hy=>by rw[aR.1 hy];exact .base h0
   have hbk:=QS h.f (h.ink i hi) hrk;obtain⟨Q,q1,q2⟩:=aEL (aBV h.w) tr mn hpos h0 k hk (vM.1 hbk);refine⟨hbk,?_,?_,?_,?_⟩
   ·rw[hdef,if_pos hbk,q1]
   ·rw[hdef,if_pos hbk,q1];exact q2
   ·rintro rfl;exact h0
   ·rintro j rfl;exact⟨by omega,L4 tr j hk⟩
variable{x:X4}{l:List U4}
theorem XK:∀(n:Nat)(T:List Int)(f:Int×Int),f∈wP n T->∃j,∃h:j<T.length,f=(T[j],((n+j:Nat):Int))
 |n,[],f,h=>by simp[wP]at h
 |n,r::T,f,h=>by
  rw[wP]at h;rcases aO.1 h with rfl|h
  ·exact⟨0,by simp,rfl⟩
  ·obtain⟨j,hj,e⟩:=XK (n+1) T f h;refine⟨j+1,by simpa using hj,?_⟩;rw[e,cJ,show n+1+j=n+(j+1) by omega]
theorem kV.aJ6(h:kV x l)(i:Nat)(hi:i<l.length)(r:Int)(hr:r∈(bJ x).gN [l[i]]):(bJ x).D6 l i r=true:=by
 have hrch:=(h.EI i hi r).1 hr;have hN:l.length<=(bJ x).fB l:=by unfold D4.fB;omega
 have:=(V0 (F:=(bJ x).eG l) (E:=uE (bJ x) l) (n:=(bJ x).fB l) (st:=(bJ x).cX) (H:=jL l[i].names) (i:=i) (lS _ _) (by omega) (λy hy=>?_) (λy q hy hq=>?_) hrch).2
 ·unfold D4.D6;exact decide_eq_true this
 ·refine⟨?_,CT _ _ (h.ink i hi y hy)⟩;unfold uE;rw[dif_pos hi];exact hy
 ·refine⟨?_,CT _ _ (HG h.f _ _ hq)⟩;obtain⟨f,h1,h2,h3⟩:=rT _ y hy;obtain⟨j,hj,e⟩:=XK _ _ f h1;subst e;dsimp only at h2 h3;rw[<-h3,lB];unfold uE;rw[dif_neg (by omega),show l.length+j -l.length=j by omega,aC hj];simp only[gZ];rw[h2];exact List.mem_append_left _ hq
def HV(w:D4)(l:List U4):List Int:=(l.map λu=>w.gN [u]).flatten
theorem o9{L:List Int}:(L.any λx=>decide (x=r))=true↔r∈L:=by
 rw[dQ];constructor
 ·rintro⟨y,h1,h2⟩;simp only[decide_eq_true_eq]at h2;rw[<-h2];exact h1
 ·intro h;exact⟨r,h,by simp⟩
theorem aAW{w:D4}{l:List U4}:r∈HV w l↔∃i,∃h:i<l.length,r∈w.gN [l[i]]:=by
 unfold HV;rw[rQ];constructor
 ·rintro⟨L,h1,h2⟩;obtain⟨u,h3,rfl⟩:=aM.1 h1;obtain⟨i,hi,rfl⟩:=dH.1 h3;exact⟨i,hi,h2⟩
 ·rintro⟨i,hi,h⟩;exact⟨_,aM.2 ⟨l[i],aY hi,rfl⟩,h⟩
theorem kV.aFL(h:kV x l)(r:Int):r∈HV (bJ x) l↔r∈(bJ x).gN l:=by
 rw[aAW,h.GL];constructor
 ·rintro⟨i,hi,hr⟩;exact((h.EI i hi r).1 hr).trans λy hy=>.base (KR.2 ⟨i,hi,hy⟩)
 ·intro hr;obtain⟨y,hy,hr⟩:=hr.split;obtain⟨i,hi,hy⟩:=KR.1 hy;exact⟨i,hi,(h.EI i hi r).2 (hr.trans λz hz=>by rw[aR.1 hz];exact .base hy)⟩
theorem kV.QO(h:kV x l)(i:Nat)(hi:i<l.length):((bJ x).gN [l[i]]).length<=60:=(h.one i hi).GK
theorem kV.aEM(h:kV x l)(i:Nat)(hi:i<l.length)(to:Int):((bJ x).l9 l[i] to).1.length<=60:=by
 unfold D4.l9;rw[h.cki i hi,cA];cases hb:(bJ x).mI to with
 |false=>simp
 |true=>
  rw[if_pos rfl];rcases BC (H:=jL l[i].names) (aBV h.w) (vM.1 hb)with⟨a,b⟩|⟨P,a,b,tr,mn,hpos,h0⟩
  ·rw[a];simp
  ·rw[a];dsimp only;have hI:=P2 (aBV h.w).out (z7 (vZ (bJ x).aP (bJ x).aP.length [(to,1)]+1) [(to,1)] (wU (bJ x).cX (bJ x).aP to (vM.1 hb)) (kC _)).1 (z7 (vZ (bJ x).aP (bJ x).aP.length [(to,1)]+1) [(to,1)] (wU (bJ x).cX (bJ x).aP to (vM.1 hb)) (kC _)).2;have hl:=hI.least _ _ (OZ tr 0 hpos);have hb2:=hI.inv.bd P[0];have hlen:=hI.inv.len;have hw:=hI.inv.way P[0] hl.1;have hmin:=mn.2 _ _ h0 hw;have h2:(bJ x).aP.length<=60:=by unfold D4.aP;rw[aB];exact h.len
   omega
theorem VV(w:D4)(hw:w.qV)(u:U4)(hu:u.gA)(hck:w.zE u=true)(hN:w.qK (pG [u])<=2^36):aJ Tryz.prog 21 [.d (.ip w.cells),.h 3072] (aK [(3072,dU 33 4 [u.cells])]) (.ok (.eL [.d (.sl 1 (iR (w.gN [u]))),.d (ci (w.wF [u]))])) (aH (aK [(3072,dU 33 4 [u.cells])]) []):=by
 have hun:=hu.names;have hnl:=hu.nlen;have hil0:=IG u;have hil:(jL u.names).length<=2^36:=by omega
 have hsum:∀i,((([u].take i).map λu=>jL u.names).flatten).length<=2^36:=λi=>by
  cases i with
  |zero=>simp
  |succ i=>simpa using hil
 have hone:∀i(h:i<[u].length),[u][i].gA:=λi h=>match i,h with
  |0,_=>hu
 have hm:=yG w hw [u] (by simp) hone;have hme:w.s8 [u]=0:=by unfold D4.s8;simp[hck]
 rw[hme]at hm;refine wE mix 5000 Tryz.func21 trivial trivial ?_
 repeat'(first|refine bl ?_|(refine fU (cs:=[.ip w.cells,.sl 4 [u.cells]]) hm (.v _) (.cons (.d _) (.cons (.os rfl (rC.data _ [u.cells])) .nil)) ?_;(conv=>whnf)))
 refine cY mix (λa:Nat×List Int=>a.1<=1/\a.2=(([u].take a.1).map λu=>jL u.names).flatten) (I:=λa=>[(0,.d (.ip w.cells)),(16,.h 3072),(17,.d (ci 1)),(7,lv 1 900 (iR a.2)),(18,.d (ci a.1))])
  (J:=λa=>lm 900 25 1 (iR a.2) [(3072,dU 33 4 [u.cells])]) (μ:=λa=>1 -a.1) 2000 (0,[]) 0
  (λQ:List Int=>Q=pG [u]) (λQ=>[(7,dl Q),(0,.d (.ip w.cells))]) (λQ=>[(3072,dU 33 4 [u.cells])]) 4000 ⟨by simp,by simp⟩ (by exact mv 5000 5001) ?_ ?_
 ·rintro⟨i,Q⟩ ⟨hi,hQ⟩;dsimp only at hi hQ⊢;have hlen:Q.length<=2^36:=by
   have h1:=hsum i;rw[hQ];omega
  cases Q with
  |nil=>
   show vc _ _ _ _ _ [(3072,dU 33 4 [u.cells])] _ _
   repeat'(first|refine bl ?_|refine bS (λh=>?_) (λh=>?_))
   ·have hi0:i=0:=by omega
    have hst:(([u].take (i+1)).map λu=>jL u.names).flatten=(([u].take i).map λu=>jL u.names).flatten++jL u.names:=by rw[hi0];simp
    repeat'(first|refine bl ?_|refine lG.mk 0 (by omega) (by simp[bE]) (bw ?_)|refine dR (D0 u.names (by omega)) (.cons (.same _) .nil) (bw ?_))
    have hq:=hil;refine n8 (by simp only[aB];omega) (by kernel_rfl) ?_;conv=>whnf
    refine E9.mk (λh1=>?_) (λh1=>?_)
    ·have h1:jL u.names=[]:=by simpa using h1
     conv=>whnf
     refine bl ?_;refine⟨(i+1,[]),by dsimp only;omega,⟨by dsimp only;omega,by dsimp only;rw[hst,h1,dS,<-hQ]⟩,?_⟩;exact mv 5000 5001
    ·have h1:jL u.names≠[]:=by simpa using h1
     conv=>whnf
     refine bl ?_;refine⟨(i+1,jL u.names),by dsimp only;omega,⟨by dsimp only;omega,by dsimp only;rw[hst,<-hQ,bZ]⟩,?_⟩;cases hrr:jL u.names with
     |nil=>exact absurd hrr h1
     |cons r Q=>
      dsimp only[iR,List.map_cons,lv,lm];exact mv 2072 900
      all_goals first|exact cO rfl rfl|exact cO rfl (by rw[hrr];rfl)
   ·rw[aI (by simp;omega)]at hQ;exact⟨[],hQ,by exact mv 5000 5001⟩
  |cons r Q=>
   show vc _ _ _ _ _ [(900,dU 25 1 (iR (r::Q))),(3072,dU 33 4 [u.cells])] _ _
   repeat'(first|refine bl ?_|refine bS (λh=>?_) (λh=>?_))
   ·have hi0:i=0:=by omega
    have hst:(([u].take (i+1)).map λu=>jL u.names).flatten=(([u].take i).map λu=>jL u.names).flatten++jL u.names:=by rw[hi0];simp
    repeat'(first|refine bl ?_|refine lG.mk 0 (by omega) (by simp[bE]) (bw ?_)|refine dR (D0 u.names (by omega)) (.cons (.same _) .nil) (bw ?_))
    have hq:=hil;refine n8 (by simp only[aB,bE];omega) (by kernel_rfl) ?_;conv=>whnf
    refine bl ?_;refine⟨(i+1,r::(Q++jL u.names)),by dsimp only;omega,⟨by dsimp only;omega,by dsimp only;rw[hst,<-hQ];rfl⟩,?_⟩;refine mq 2072 900 ?_
    all_goals exact cO rfl (gG (r::Q) (jL u.names))
   ·rw[aI (by simp;omega)]at hQ;exact⟨r::Q,hQ,cN.freeze [900] ⟨sn,trivial⟩ ⟨.rd (.dU (eX rfl rfl)),.same _,trivial⟩ ⟨⟨rfl,_,rfl,.fW (.same _)⟩,trivial⟩ ⟨trivial,trivial,trivial⟩ ⟨aZ,trivial⟩⟩
 rintro Q hQ;subst hQ;have hall:[u].all w.zE=true:=by simp[hck]
 have e1:w.gN [u]=w.v8 (pG [u]):=by unfold D4.gN;rw[if_pos hall]
 have e2:w.wF [u]=w.v7 (pG [u]):=by unfold D4.wF;rw[if_pos hall]
 have hgf:=J3 w hw.togA (pG [u]) (by omega);rw[e1,e2];generalize w.v8 (pG [u])=R1 at hgf⊢;generalize w.v7 (pG [u])=R2 at hgf⊢;generalize pG [u]=L at hgf⊢;cases L with
 |nil=>
  repeat'(first|refine bl ?_|refine dR hgf (.cons (.same _) (.cons (.nl _ _) .nil)) (bw ?_))
  exact em
 |cons l0 L=>
  repeat'(first|refine bl ?_|refine aF hgf (bw ?_))
  exact em
theorem aAU:isR (evH Tryz.prog aA0 60 (.fn 9) [] .nil 1) (.d (cb true))=true:=by kernel_rfl
theorem D9:∀m,aJ Tryz.prog 9 [] m (.ok (.d (cb true))) m:=zO mix aAU rfl
end Go.Pv
