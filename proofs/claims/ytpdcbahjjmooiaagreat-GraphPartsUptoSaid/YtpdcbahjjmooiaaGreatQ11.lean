import Derived.Test.YtpdcbahjjmooiaaGreatQ10
import Derived.Sort.AssemblyPlain
import Derived.Shelf.SlicesE.Compact
import Derived.Shelf.SortG.Plain
import Derived.Shelf.SortG.SortNone
/- Contracts of functions that the law reaches, and their logic. No conditions. -/
set_option linter.all false
set_option maxRecDepth 100000
set_option maxHeartbeats 8000000
open Go Go.Proofs
namespace Go.Pv
open Go.RowKit
variable{m:Mem}{ml:List (Nat×R)}{fz:Bool}{w:D4}{r:Int}{F:List (Int×Int)}{P:Program}{kt:TypeId}{k1:A->Prop}{k0:Prop}{kv:List (Ky×A)}
def oW(L:List Int):List Bool:=List.replicate (L.length+1) false
def K3(p:Option Int)(c:Int):Bool:=match p with
 |none=>true
 |some q=>decide (q<c)
def E7(n:Nat):List Int->Option Int->Bool
 |[],_=>true
 |c::r,p=>K3 p c&&(decide (0<c)&&decide (c<n))&&E7 n r (some c)
def xY(c:List Bool)(l:List Int):List Bool:=l.foldl (λa k=>a.set k.toNat true) c
def RX(l:List Int):∀c:List Bool,(xY c l).length=c.length:=by
 induction l with
 |nil=>intro c;rfl
 |cons a r ih=>intro c;simp only[xY,fX]at ih⊢;rw[ih];simp
def NB(c:List Bool)(l:List Int)(i:Nat)(h:i<l.length):xY c (l.take (i+1))=(xY c (l.take i)).set l[i].toNat true:=by
 simp only[xY];rw[aT h,iB];rfl
def EM(l:List Int):Nat->Option Int
 |0=>none
 |i+1=>l[i]?
def C3(n:Nat)(l:List Int)(i:Nat)(h:i<l.length):E7 n (l.drop i) (EM l i)=(K3 (EM l i) l[i]&&(decide (0<l[i])&&decide (l[i]<n))&&E7 n (l.drop (i+1)) (EM l (i+1))):=by
 rw[dE h,E7];simp only[EM,aC h]
def OE(l:List Int)(i:Nat)(h:0<i)(h2:i<=l.length):EM l i=some (l[i -1]' oM):=by
 cases i with
 |zero=>omega
 |succ k=>simp only[EM,Nat.add_sub_cancel];exact aC oM
def Q8(T:List T4):List (Ky×A):=T.map λt=>(kI t.ref,.d (.ip t.bQ.aT1))
def zrs(L:List Int):List Int:=List.replicate (L.length+1) 0
def oD(L:List Int)(C:List Bool)(T:List T4):D4:=⟨L,C,T,[],0,zrs L⟩
def aJE(L:List Int)(C:List Bool):R:=.cells false [.d (.sl 1 (iR L)),.d (.sl 1 (C.map λb=>[cb b])),.h 188,.h 196,.d (ci 0),.d (.sl 1 (iR (zrs L)))]
def aNM{L:List Int}{C:List Bool}{T:List T4}{st:List (Ky×Nat)}(h0:m 212=some (aJE L C))(h2:m 188=some (.mp false (Q8 T) st))(h3:m 196=some (.mp false [] [])):Rd m (.lp 212 0) (.ip (oD L C T).aT1):=by
 refine .lp h0 (.cons (.d _) (.cons (.d _) (.cons ?_ (.cons (.mp (vs:=[]) h3 .nil) (.cons (.d _) (.cons (.d _) .nil))))))
 have:=Rd.mp (m:=m) (vs:=T.map λt=>.ip t.bQ.aT1) h2 (by
  have e:(Q8 T).map (·.2)=(T.map λt=>Go.Pv.C.ip t.bQ.aT1).map A.d:=by unfold Q8;rw[bH,bH];rfl
  rw[e];exact wJ.data _ _)
 have e:(Q8 T).map (·.1)=T.map λt=>kI t.ref:=by unfold Q8;rw[bH];rfl
 rw[e]at this;exact this
def AG(T:List T4):Nat->Int
 |0=>0
 |i+1=>((T[i]?).map (·.ref)).getD 0
def ZE(w:D4)(xl:Int):List T4->Int->Bool
 |[],_=>true
 |t::r,last=>(decide (last<t.ref)&&decide (t.ref<=xl))&&w.AA t.bQ&&ZE w xl r t.ref
def LW(w:D4)(xl:Int)(T:List T4)(i:Nat)(h:i<T.length)(q:Int):ZE w xl (T.drop i) q=((decide (q<T[i].ref)&&decide (T[i].ref<=xl))&&w.AA T[i].bQ&&ZE w xl (T.drop (i+1)) (AG T (i+1))):=by
 rw[dE h,ZE,AG,aC h];rfl
def yV(a:List Int)(t:T4):List Int:=if t.bQ.kind=14 then a else a.set t.bQ.home.toNat (a.getD t.bQ.home.toNat 0+1)
def UR(n:Nat)(T:List T4):List Int:=T.foldl yV (List.replicate n 0)
def LX(n:Nat)(T:List T4)(i:Nat)(h:i<T.length):UR n (T.take (i+1))=yV (UR n (T.take i)) T[i]:=by
 unfold UR;rw[aT h,iB];rfl
def W0(a:List Int)(t:T4):(yV a t).length=a.length:=by
 unfold yV;split<;>simp
def aCY(T:List T4):∀a:List Int,(T.foldl yV a).length=a.length:=by
 induction T with
 |nil=>intro a;rfl
 |cons t r ih=>intro a;rw[fX,ih,W0]
def ZF(n:Nat)(T:List T4):(UR n T).length=n:=by
 unfold UR;rw[aCY];simp
def aHF{a:List Int}{b:Int}(h:∀v∈a,0<=v/\v<=b)(hb:0<=b)(k:Nat):0<=a.getD k 0/\a.getD k 0<=b:=by
 rw[bF];cases e:a[k]? with
 |none=>simp;exact hb
 |some v=>simp only[gZ];exact h v (l5 e)
def aBW(a:List Int)(t:T4)(b:Int)(hb:0<=b)(h:∀v∈a,0<=v/\v<=b):∀v∈yV a t,0<=v/\v<=b+1:=by
 intro v hv;unfold yV at hv;split at hv
 ·have:=h v hv;omega
 ·rcases oI hv with x|x
  ·have:=h v x;omega
  ·have:=aHF h hb t.bQ.home.toNat;omega
def aF1(n:Nat)(T:List T4)(i:Nat)(hi:i<=T.length):∀v∈UR n (T.take i),0<=v/\v<=i:=by
 induction i with
 |zero=>intro v hv;simp[UR]at hv;omega
 |succ k ih=>
  rw[LX n T k oM];intro v hv;have:=aBW _ _ (k:Int) oM (ih oM) v hv
  push_cast;exact this
def E3(T:List T4)(i:Nat)(h:i<T.length):Q8 (T.take (i+1))=Q8 (T.take i)++[(kI T[i].ref,.d (.ip T[i].bQ.aT1))]:=by
 unfold Q8;rw[aT h,bP];rfl
def aIO(T:List T4):A.lQ ((Q8 T).map (·.2))=[]:=by
 have e:(Q8 T).map (·.2)=(T.map λt=>C.ip t.bQ.aT1).map A.d:=by unfold Q8;rw[bH,bH];rfl
 rw[e,wX]
def aF0(T:List T4):rB ml (A.lQ ((Q8 T).map (·.2))++[]):=by
 rw[aIO];trivial
def aNL{T:List T4}{st:List (Ky×Nat)}(h:m 188=some (.mp false (Q8 T) st)):Rd m (.h 188) (.im (T.map λt=>kI t.ref) (T.map λt=>.ip t.bQ.aT1)):=by
 have:=Rd.mp (m:=m) (vs:=T.map λt=>.ip t.bQ.aT1) h (by
  have e:(Q8 T).map (·.2)=(T.map λt=>Go.Pv.C.ip t.bQ.aT1).map A.d:=by unfold Q8;rw[bH,bH];rfl
  rw[e];exact wJ.data _ _)
 have e:(Q8 T).map (·.1)=T.map λt=>kI t.ref:=by unfold Q8;rw[bH];rfl
 rw[e]at this;exact this
def aLU{t:TypeId}{es:Nat}{l l':List (List A)}(h:l=l'):ZN m (.fW fz t es l) (.fW fz t es l'):=h▸.fW (.same _)
def GR{a b:A}(h:a=b):Cv m a b:=h▸.same _
def aAC(L:List Int)(C:List Bool)(T:List T4)(x:W4):(oD L C T).AA x=(oD L C []).AA x:=rfl
def YW(L:List Int):List (Nat×R):=[(212,.cells false [.d (.sl 1 (iR L)),.h 164,.h 188,.h 196,.d (ci 0),.h 180]),(164,PR (oW L)),(180,dU 3 1 (iR (List.replicate (L.length+1) 0))),(188,.mp false [] []),(196,.mp false [] [])]
def aHV(L:List Int):aKE L=YW L:=by
 simp only[aKE,YW,PR,oW,List.map_replicate]
def aHW(L:List Int)(hl:L.length<16)(hp:zD L 0=true):aJ Tryz.prog 40 [.d (.sl 1 (iR L))] (aK []) (.ok (.eL [.lp 212 0,.d (ci 0)])) (aH (aK []) (YW L)):=by
 rw[<-aHV];exact aKF L hl hp
def NS{x:W4}(h:w.AA x=true):x.value.may=true/\(∀i(h:i<x.values.length),x.values[i].may=true)/\(∀i(h:i<x.names.length),x.names[i].value.may=true)/\(x.kind≠14->w.HU x.home=true):=by
 simp only[D4.AA,aE]at h;obtain⟨_,_,h3,h4,h5,_⟩:=h;simp only[W4.JZ,aE,gP,aUA]at h3;simp only[W4.DT,aE,aUA]at h4;have hA:x.values.all V.may=true:=by
  have:=h4.1;unfold U5 at this;by_cases e:x.values.all V.may=true
  ·exact e
  ·rw[aT7 e]at this;omega
 refine⟨h3.2,λi hi=>cV.1 hA _ (aY hi),λi hi=>cV.1 h5 _ (aY hi),λhk=>?_⟩;rcases h3.1 with e|e
 ·exact absurd e hk
 ·exact e
def QF:List Int->List Int->Bool
 |m::r,t::s=>(decide (t<=m)&&decide (m<=512))&&QF r s
 |_,_=>true
def GA(M F:List Int)(i:Nat)(h:i<M.length)(h2:i<F.length):QF (M.drop i) (F.drop i)=((decide (F[i]<=M[i])&&decide (M[i]<=512))&&QF (M.drop (i+1)) (F.drop (i+1))):=by
 rw[dE h,dE h2,QF]
def aFZ(M:List Int)(i:Nat)(h:i<M.length):(M.take (i+1)).sum=(M.take i).sum+M[i]:=by
 rw[aT h,List.sum_append];simp
def gS(i:Nat):Nat:=swp 0 212 (swp 1 196 i)
def gT(i:Nat):Nat:=swp 1 196 (swp 0 212 i)
def gTS(i:Nat):gT (gS i)=i:=by unfold gT gS;rw[fH,fH]
def gST(i:Nat):gS (gT i)=i:=by unfold gT gS;rw[fH,fH]
def aCR(g:Nat->Nat)(F:List ((Int×Int)×Int)):(R.mp false (l6 F) []).eZ g=.mp false (l6 F) []:=by
 simp only[R.eZ,l6,bH,bM];rfl
def MY(w:D4):R:=if w.sH=true then .mp false (l6 (lP w.aT4)) []else .dead
def aFJ(g:Nat->Nat)(w:D4):(MY w).eZ g=MY w:=by
 unfold MY;split
 ·exact aCR g _
 ·rfl
def aFO(w:D4)(hf:w.facets=[])(aXR:∀t∈w.aT4,t.bQ.cR<=2^35)(hlen:w.aT4.length<=2^30)(y4:(w.aT4.map (·.ref)).Nodup):
 aJ Tryz.prog 67 [.lp 212 0] (aK [(212,.cells false (w.wA 196)),(196,.mp false [] [])]) (.ok (.d (cb w.sH))) (aH (aK [(212,.cells false (w.wA 196)),(196,.mp false [] [])]) [(196,MY w)]):=by
 have k:=(aFP w hf aXR hlen y4).eZ (g:=gS) (gi:=gT) gTS gST;rw[rJ gTS gST,tZ gTS gST]at k;have e:lH gS [(1,if w.sH=true then R.mp false (l6 (lP w.aT4)) []else .dead)]=[(196,MY w)]:=by
  show [(gS 1,(MY w).eZ gS)]=_;rw[aFJ];rfl
 rw[e]at k;exact k
def aFK(h:w.sH=true):w.HY:=XH w λt ht=>by
 simp only[D4.sH,aE]at h;have:=cV.1 h.1 t ht;simp only[aE]at this;exact this.2
def xN(w:D4)(xl:Int):∀(T:List T4)(q:Int),ZE w xl T q=true->(∀t∈T,q<t.ref)/\(T.map (·.ref)).Nodup
 |[],q,h=>sM
 |t::r,q,h=>by
  simp only[ZE,aE,aUA]at h;obtain⟨h1,h2⟩:=xN w xl r t.ref h.2;refine⟨λu hu=>?_,?_⟩
  ·rcases aO.1 hu with rfl|hu
   ·exact h.1.1.1
   ·have:=h1 u hu;have:=h.1.1.1;omega
  ·rw[aG,aAD];refine⟨λhm=>?_,h2⟩;obtain⟨u,hu,e⟩:=aA4.1 hm;have:=h1 u hu;omega
def DU(x:X4):List Bool:=xY (oW x.parents) x.aU3
def YB(x:X4):Bool:=QF x.made (UR (x.parents.length+1) x.aT4)&&(decide (0<=x.last)&&(decide (x.last<=64*x.made.sum)&&((oD x.parents (DU x) x.aT4).sH&&decide (x.last+((oD x.parents (DU x) x.aT4).JW (lP x.aT4)).oL x.aT4<=64*x.made.sum))))
def y9(x:X4):Bool:=decide (x.parents.length<16)&&(zD x.parents 0&&(decide (x.made.length=x.parents.length+1)&&(E7 (x.parents.length+1) x.aU3 none&&(ZE (oD x.parents (DU x) []) x.last x.aT4 0&&YB x))))
def bJ(x:X4):D4:=⟨x.parents,xY (oW x.parents) x.aU3,x.aT4,lP x.aT4,x.last,x.made⟩
def DW(x:X4):C:=if y9 x=true then .ip (bJ x).aT1 else H5
def DV(x:X4):Int:=if y9 x=true then 0 else 71
def nC{x:X4}(m:Mem)(h:y9 x=false):A1 m (.eL [.d H5,.d (ci 71)]) (.eL [.d (DW x),.d (ci (DV x))]):=by
 unfold DW DV;rw[h,aT7 gO,aT7 gO];exact .eL (cs:=[H5,ci 71]) (.cons (.d _) (.cons (.d _) .nil))
def aC8{x:X4}{i:Nat}(h:y9 x=true)(hr:Rd m (.lp i 0) (.ip (bJ x).aT1)):A1 m (.eL [.lp i 0,.d (ci 0)]) (.eL [.d (DW x),.d (ci (DV x))]):=by
 unfold DW DV;rw[h,aUF rfl,aUF rfl];exact .eL (cs:=[.ip (bJ x).aT1,ci 0]) (.cons hr (.cons (.d _) .nil))
def rdN{L:List Int}(h0:m 212=some (.cells false [.d (.sl 1 (iR L)),.h 164,.h 188,.h 196,.d (ci 0),.h 180]))(h1:m 164=some (PR (oW L)))(h2:m 188=some (.mp false [] []))(h3:m 196=some (.mp false [] []))(h4:m 180=some (dU 3 1 (iR (List.replicate (L.length+1) 0)))):Rd m (.lp 212 0) (.ip (w0 L (oW L)).aT1):=
 .lp h0 (.cons (.d _) (.cons (.dU h1) (.cons (.mp (vs:=[]) h2 .nil) (.cons (.mp (vs:=[]) h3 .nil) (.cons (.d _) (.cons (.dU h4) .nil))))))
def aHH{α:Type}{es ce:Nat}{L:List α}{f:α->List C}{n:Int}(i:Nat)(e:n=i){k:List C->Prop}(h1:es=ce)(h2:0<es)(hi:i<L.length)(hk:k (f L[i])):PA es ce (L.map f) n k:=by
 subst e;exact cD h1 h2 hi hk
def G9(L:List Int)(cut:List Bool)(c:Int)(hc:cut.length=L.length+1)(he:(w0 L cut).vF c=true):aJ Tryz.prog 64 [.lp 212 0,.d (ci c)] (aK (QA L cut)) (.ok (.d (ci 0))) (aH (aK (QA L cut)) [(164,PR (cut.set c.toNat true))]):=by
 have h1:0<c/\c<(L.length:Int)+1:=by
  simp only[D4.vF,w0,aS,aE,aUA]at he;omega
 obtain⟨k,rfl⟩:=lX (show 0<=c by omega);exact VE L cut k oM he
def aHE(x:X4)(aXR:∀t∈x.aT4,t.bQ.cR<=2^35)(hlen:x.aT4.length<=2^30)(hpl:x.parents.length<=2^38)(n0:x.aU3.length<=2^38)(hml:x.made.length<=2^38)(hhm:∀t∈x.aT4,-9223372036854775808<=t.bQ.home/\t.bQ.home<=9223372036854775807):Pu 25 [.d (.agg x.aT1)] (.eL [.d (DW x),.d (ci (DV x))]):=by
 refine iC mix Tryz.func25 ?_;refine bl ?_;by_cases aYR:x.parents.length<16/\zD x.parents 0=true
 case neg=>
  refine aF (aD9 x.parents hpl aYR) ?_;conv=>whnf
  refine bl ?_;refine nC _ ?_;unfold y9;rw[<-Bool.and_assoc,show(decide (x.parents.length<16)&&zD x.parents 0)=false by simp only[gI,aU1];simp only[not_and,Bool.not_eq_true]at aYR;by_cases h:x.parents.length<16;exact .inr (aYR h);exact .inl h,c0]
 obtain⟨P0,hn2⟩:=aYR;have tO:y9 x=(decide (x.made.length=x.parents.length+1)&&(E7 (x.parents.length+1) x.aU3 none&&(ZE (oD x.parents (DU x) []) x.last x.aT4 0&&YB x))):=by
  unfold y9;rw[hn2,aUZ P0,cA,cA]
 refine dZ.mk (.eL [.lp 212 0,.d (ci 0)]) (YW x.parents) (aJ.l8 (aHW x.parents P0 hn2) tV tV tV ⟨.inr rfl,.inr rfl,.inr rfl,.inr rfl,.inr rfl,tV⟩) ?_;conv=>whnf
 repeat'(first|refine bl ?_|refine bS (λh=>?_) (λh=>?_)|refine HA (cs:=[.ip (w0 x.parents (oW x.parents)).aT1]) (o4 _) (.v _) (.cons (rdN rfl rfl rfl rfl rfl) .nil) (bw ?_))
 ·refine nC _ ?_;rw[tO,aU0 (by simp[w0]at h;omega),c0]
 have T9:x.made.length=x.parents.length+1:=by simp[w0]at h;omega
 rw[aUZ T9,cA]at tO;refine bV mix (λi:Nat=>i<=x.aU3.length/\E7 (x.parents.length+1) (x.aU3.drop i) (EM x.aU3 i)=E7 (x.parents.length+1) x.aU3 none) (I:=λi=>[(1,.lp 1 0),(2,.d H5),(3,.d (ci 0)),(4,.lp 212 0),(33,.d (.sl 1 (iR x.aU3))),(34,.d (ci x.aU3.length)),(35,.d (ci i))])
  (J:=λi=>(1,.cells false (x.aT1.map A.d))::QA x.parents (xY (oW x.parents) (x.aU3.take i))) (μ:=λi=>x.aU3.length -i) 1000 0 ⟨oM,rfl⟩ ?_ ?_
 ·refine cN.freeze [180] tV ⟨.same _,.same _,.same _,.same _,.same _,GR (qD (by simp only[aB])),.same _,tV⟩ ⟨⟨rfl,_,rfl,.cells (.same _)⟩,⟨rfl,_,rfl,.cells (.cons (.same _) (.cons (.same _) (.cons (.same _) (.cons (.same _) (.cons (.same _) (.cons (.rd (.dU (eX rfl rfl))) (.same _)))))))⟩,⟨rfl,_,rfl,.fW (.same _)⟩,⟨rfl,_,rfl,.mp rfl (.same _)⟩,⟨rfl,_,rfl,.mp rfl (.same _)⟩,tV⟩ ?_ ?_
  ·exact⟨⟨sn,tV⟩,tV,tV,⟨sn,tV⟩,tV,tV,tV,tV⟩
  ·exact⟨tV,⟨sn,sn,sn,tV⟩,aZ,tV,tV,tV⟩
 rintro i ⟨hi,h0⟩;have hcu:(xY (oW x.parents) (x.aU3.take i)).length=x.parents.length+1:=by rw[RX];simp[oW]
 repeat'(first|refine bl ?_|refine bS (λh=>?_) (λh=>?_)|refine cD rfl eD aM (bw ?_)|refine aHH (i -1) oM rfl eD oM (bw ?_))
 ·refine nC _ ?_;rw[tO,<-h0,C3 _ _ _ aM,OE _ _ aM oM];rw[show K3 (some x.aU3[i -1]) x.aU3[i]=false from aU0 oM,c0,c0,c0]
 ·have cX:i<x.aU3.length:=aM;have hpv:K3 (EM x.aU3 i) x.aU3[i]=true:=by rw[OE _ _ aM oM];exact aUZ aM
  rw[C3 _ _ _ cX,hpv,cA]at h0;have heq:(w0 x.parents (xY (oW x.parents) (x.aU3.take i))).vF x.aU3[i]=(decide (0<x.aU3[i])&&decide (x.aU3[i]<((x.parents.length+1:Nat):Int))):=by simp[D4.vF,w0]
  rw[<-heq]at h0;by_cases he:(w0 x.parents (xY (oW x.parents) (x.aU3.take i))).vF x.aU3[i]=true
  ·refine dZ.mk (.d (ci 0)) [(164,PR ((xY (oW x.parents) (x.aU3.take i)).set x.aU3[i].toNat true))] (aJ.l8 (G9 x.parents _ x.aU3[i] hcu he) ⟨sn,tV⟩ ⟨rfl,rfl,rfl,rfl,tV⟩ ⟨⟨sn,sn,sn,tV⟩,aZ,tV,tV,tV⟩ ⟨.inl sn,tV⟩) ?_;conv=>whnf
   refine bl ?_;refine⟨i+1,oM,⟨oM,?_⟩,?_⟩
   ·rw[he,cA]at h0;exact h0
   ·rw[NB _ _ _ cX];exact mZ
  ·refine dZ.mk (.d (ci 2)) [] (aJ.l8 (JF x.parents _ x.aU3[i] (by simpa using he)) ⟨sn,tV⟩ ⟨rfl,rfl,rfl,rfl,tV⟩ ⟨⟨sn,sn,sn,tV⟩,aZ,tV,tV,tV⟩ tV) ?_;conv=>whnf
   refine bl ?_;refine nC _ ?_;rw[tO,<-h0,show(w0 x.parents (xY (oW x.parents) (x.aU3.take i))).vF x.aU3[i]=false by simpa using he,c0,c0]
 ·have cX:i<x.aU3.length:=aM
  have hpv:K3 (EM x.aU3 i) x.aU3[i]=true:=by have q:i=0:=by assumption
                                             subst q;rfl
  rw[C3 _ _ _ cX,hpv,cA]at h0;have heq:(w0 x.parents (xY (oW x.parents) (x.aU3.take i))).vF x.aU3[i]=(decide (0<x.aU3[i])&&decide (x.aU3[i]<((x.parents.length+1:Nat):Int))):=by simp[D4.vF,w0]
  rw[<-heq]at h0;by_cases he:(w0 x.parents (xY (oW x.parents) (x.aU3.take i))).vF x.aU3[i]=true
  ·refine dZ.mk (.d (ci 0)) [(164,PR ((xY (oW x.parents) (x.aU3.take i)).set x.aU3[i].toNat true))] (aJ.l8 (G9 x.parents _ x.aU3[i] hcu he) ⟨sn,tV⟩ ⟨rfl,rfl,rfl,rfl,tV⟩ ⟨⟨sn,sn,sn,tV⟩,aZ,tV,tV,tV⟩ ⟨.inl sn,tV⟩) ?_;conv=>whnf
   refine bl ?_;refine⟨i+1,oM,⟨oM,?_⟩,?_⟩
   ·rw[he,cA]at h0;exact h0
   ·rw[NB _ _ _ cX];exact mZ
  ·refine dZ.mk (.d (ci 2)) [] (aJ.l8 (JF x.parents _ x.aU3[i] (by simpa using he)) ⟨sn,tV⟩ ⟨rfl,rfl,rfl,rfl,tV⟩ ⟨⟨sn,sn,sn,tV⟩,aZ,tV,tV,tV⟩ tV) ?_;conv=>whnf
   refine bl ?_;refine nC _ ?_;rw[tO,<-h0,show(w0 x.parents (xY (oW x.parents) (x.aU3.take i))).vF x.aU3[i]=false by simpa using he,c0,c0]
 have uJ:i=x.aU3.length:=oM;subst uJ;rw[dT (bT _),E7]at h0;rw[<-h0,cA]at tO;rw[gX]at hcu⊢;generalize hC:xY (oW x.parents) x.aU3=C at hcu⊢;rw[show DU x=C from hC]at tO;refine fU (cs:=[.ip (w0 x.parents C).aT1]) (o4 _) (.v _) (.cons (aER rfl rfl rfl rfl) .nil) ?_;conv=>whnf
 skip
 refine WH kK kK (by simp only[w0,aS];omega) (by simp only[w0,aS];omega) kK rfl ?_;conv=>whnf
 refine bl ?_
 rw[show List.replicate (((w0 x.parents C).made.length:Nat):Int).toNat ((zc Tryz.prog 8 3).map A.d)=bE (iR (List.replicate (x.parents.length+1) 0)) by
  have e:zc Tryz.prog 8 3=[ci 0]:=kK
  rw[e];simp[bE,iR,w0]]
 refine bV mix (λi:Nat=>i<=x.aT4.length/\(∀t∈x.aT4.take i,t.ref<=AG x.aT4 i)/\ZE (oD x.parents C []) x.last (x.aT4.drop i) (AG x.aT4 i)=ZE (oD x.parents C []) x.last x.aT4 0) (I:=λi=>[(1,.lp 1 0),(2,.d H5),(3,.d (ci 0)),(4,.lp 212 0),(8,.h 1024),(9,.d (ci (AG x.aT4 i))),(63,.d (.sl 17 (x.aT4.map T4.aT1))),(64,.d (ci x.aT4.length)),(65,.d (ci i))])
  (J:=λi=>[(1,.cells false (x.aT1.map A.d)),(212,aJE x.parents C),(188,.mp false (Q8 (x.aT4.take i)) []),(196,.mp false [] []),(1024,dU 3 1 (iR (UR (x.parents.length+1) (x.aT4.take i))))]) (μ:=λi=>x.aT4.length -i) 2000 0 ⟨oM,sM,rfl⟩ ?_ ?_
 ·refine cN.freeze [164] tV ⟨.same _,.same _,.same _,.same _,.same _,.same _,.same _,GR (qD (by simp only[aB])),.same _,tV⟩ ⟨⟨rfl,_,rfl,.cells (.same _)⟩,⟨rfl,_,rfl,.cells (.cons (.same _) (.cons (.rd (.dU (eX rfl rfl))) (.same _)))⟩,⟨rfl,_,rfl,.mp rfl (.same _)⟩,⟨rfl,_,rfl,.mp rfl (.same _)⟩,⟨rfl,_,rfl,.fW (.same _)⟩,tV⟩ ?_ ?_
  ·exact⟨⟨sn,tV⟩,tV,tV,⟨sn,tV⟩,⟨sn,tV⟩,tV,tV,tV,tV,tV⟩
  ·exact⟨tV,⟨sn,sn,tV⟩,tV,tV,aZ,tV⟩
 rintro i ⟨hi,hrf,h1⟩
 repeat'(first|refine bl ?_|refine bS (λh=>?_) (λh=>?_)|refine cD rfl eD aM (bw ?_))
 ·refine nC _ ?_;rw[tO,<-h1,LW _ _ _ _ aM,aU0 oM];simp only[c0]
 ·refine nC _ ?_;rw[tO,<-h1,LW _ _ _ _ aM,show decide (x.aT4[i].ref<=x.last)=false from aU0 oM];simp only[c0,kL]
 ·have cX:i<x.aT4.length:=aM;have aWE:=aY cX;refine fU (cs:=[.ip (oD x.parents C (x.aT4.take i)).aT1,.agg x.aT4[i].bQ.aT1]) (aG9 (oD x.parents C (x.aT4.take i)) x.aT4[i].bQ (aXR _ aWE) (hhm _ aWE)) (.v _) (.cons (aNM rfl rfl rfl) (.cons (.agg (wJ.data _ x.aT4[i].bQ.aT1)) .nil)) ?_;rw[aAC];rw[LW _ _ _ _ cX,aUZ aM,aUZ aM,cA,cA]at h1;by_cases hfm:(oD x.parents C []).AA x.aT4[i].bQ=true
  case neg=>
   have hfm:(oD x.parents C []).AA x.aT4[i].bQ=false:=by simpa using hfm
   rw[hfm]at h1⊢;conv=>whnf
   refine bl ?_;refine nC _ ?_;rw[tO,<-h1];simp only[c0]
  rw[hfm,cA]at h1;rw[hfm];obtain⟨m1,m2,m3,m4⟩:=NS hfm;conv=>whnf
  refine bl ?_;refine fT (cs:=x.aT4[i].bQ.aT1) (yX x.aT4[i].bQ (by have:=aXR _ aWE;omega) m1 m2 m3) ?_;conv=>whnf
  refine bl ?_;refine .BP (aJ1 (λt:T4=>t.ref) (λt=>.d (.ip t.bQ.aT1)) _ _ eD) ?_ ?_
  ·unfold Q8;rw[wZ,mN.2 (λt ht=>by have:=hrf t ht;simp only[aUA];omega)];rfl
  conv=>whnf
  repeat'(first|refine bl ?_|refine bS (λh=>?_) (λh=>?_))
  ·have aZG:¬x.aT4[i].bQ.kind=14:=aM;have hsd:=m4 aZG;have hhr:0<=x.aT4[i].bQ.home/\x.aT4[i].bQ.home<(x.parents.length:Int)+1:=by
    simp only[D4.HU,oD,zrs,aS,aE,aUA]at hsd;omega
   obtain⟨k,hk⟩:∃k:Nat,x.aT4[i].bQ.home=k:=⟨x.aT4[i].bQ.home.toNat,oM⟩;have hkl:k<(UR (x.parents.length+1) (x.aT4.take i)).length:=by rw[ZF];omega
   have hbv:=aF1 (x.parents.length+1) x.aT4 i hi _ (aY hkl);refine lG.mk k hk (by simp only[bE,aB];exact hkl) ?_;conv=>whnf
   skip
   refine fZ.mk [.d (ci (UR (x.parents.length+1) (x.aT4.take i))[k])] (gB _ _ [ci (UR (x.parents.length+1) (x.aT4.take i))[k]] (by rw[cK,aC hkl];rfl)) ?_;conv=>whnf
   refine bl ?_;refine lG.mk k hk (by simp only[bE,aB];exact hkl) ?_;conv=>whnf
   skip
   refine fZ.mk [.d (ci (UR (x.parents.length+1) (x.aT4.take i))[k])] (gB _ _ [ci (UR (x.parents.length+1) (x.aT4.take i))[k]] (by rw[cK,aC hkl];rfl)) ?_;conv=>whnf
   refine bl ?_;refine⟨i+1,oM,⟨oM,?_,h1⟩,?_⟩
   ·intro t ht;rw[aT cX,bN]at ht;have BB:AG x.aT4 (i+1)=x.aT4[i].ref:=by rw[AG,aC cX];rfl
    rw[BB];rcases ht with ht|ht
    ·have:=hrf t ht;omega
    ·simp only[aR]at ht;subst ht;omega
   ·rw[LX _ _ _ cX,yV,aT7 aZG,E3 _ _ cX];refine cN.freeze [2232] tV ⟨.same _,.same _,.same _,.same _,.same _,GR (by show A.d (ci _)=A.d (ci _);rw[AG,aC cX];rfl),.same _,.same _,GR (by show A.d (ci _)=A.d (ci _);simp),tV⟩ ⟨⟨rfl,_,rfl,.cells (.same _)⟩,⟨rfl,_,rfl,.cells (.same _)⟩,⟨rfl,_,rfl,.mp (by simp only[bP];rfl) (by rw[bP,bP];exact IX.append (.same _) (.cons (.rd (.lp (eX rfl rfl) (wJ.data _ x.aT4[i].bQ.aT1))) (.same _)))⟩,⟨rfl,_,rfl,.mp rfl (.same _)⟩,⟨rfl,_,rfl,aLU (by rw[show x.aT4[i].bQ.home.toNat=k by omega,bF,aC hkl,gZ];exact(tU _ k [ci ((UR (x.parents.length+1) (x.aT4.take i))[k]+1)]).trans (by rw[<-List.map_set]))⟩,tV⟩ ?_ ?_
    ·exact⟨⟨sn,tV⟩,tV,tV,⟨sn,tV⟩,⟨sn,tV⟩,tV,tV,tV,tV,tV⟩
    ·exact⟨tV,⟨sn,sn,tV⟩,by rw[<-E3 _ _ cX];exact aF0 _,tV,aZ,tV⟩
  ·refine⟨i+1,oM,⟨oM,?_,h1⟩,?_⟩
   ·intro t ht;rw[aT cX,bN]at ht;have BB:AG x.aT4 (i+1)=x.aT4[i].ref:=by rw[AG,aC cX];rfl
    rw[BB];rcases ht with ht|ht
    ·have:=hrf t ht;omega
    ·simp only[aR]at ht;subst ht;omega
   ·rw[LX _ _ _ cX,yV,aUF aM,E3 _ _ cX];refine cN.freeze [2232] tV ⟨.same _,.same _,.same _,.same _,.same _,GR (by show A.d (ci _)=A.d (ci _);rw[AG,aC cX];rfl),.same _,.same _,GR (by show A.d (ci _)=A.d (ci _);simp),tV⟩ ⟨⟨rfl,_,rfl,.cells (.same _)⟩,⟨rfl,_,rfl,.cells (.same _)⟩,⟨rfl,_,rfl,.mp (by simp only[bP];rfl) (by rw[bP,bP];exact IX.append (.same _) (.cons (.rd (.lp (eX rfl rfl) (wJ.data _ x.aT4[i].bQ.aT1))) (.same _)))⟩,⟨rfl,_,rfl,.mp rfl (.same _)⟩,⟨rfl,_,rfl,.fW (.same _)⟩,tV⟩ ?_ ?_
    ·exact⟨⟨sn,tV⟩,tV,tV,⟨sn,tV⟩,⟨sn,tV⟩,tV,tV,tV,tV,tV⟩
    ·exact⟨tV,⟨sn,sn,tV⟩,by rw[<-E3 _ _ cX];exact aF0 _,tV,aZ,tV⟩
 have uJ:i=x.aT4.length:=oM;subst uJ;rw[dT (bT _),ZE]at h1;rw[<-h1,cA]at tO;rw[gX];have hfb:=aF1 (x.parents.length+1) x.aT4 x.aT4.length (bT _);rw[gX]at hfb;have hfl:=ZF (x.parents.length+1) x.aT4;have hfr:YB x=(QF x.made (UR (x.parents.length+1) x.aT4)&&(decide (0<=x.last)&&(decide (x.last<=64*x.made.sum)&&((oD x.parents C x.aT4).sH&&decide (x.last+((oD x.parents C x.aT4).JW (lP x.aT4)).oL x.aT4<=64*x.made.sum))))):=by rw[<-hC];rfl
 rw[hfr]at tO;clear hfr;generalize hFh:UR (x.parents.length+1) x.aT4=Fh at hfb hfl tO⊢;refine bV mix (λa:Nat×Int=>a.1<=x.made.length/\QF (x.made.drop a.1) (Fh.drop a.1)=QF x.made Fh/\a.2=(x.made.take a.1).sum/\0<=a.2/\a.2<=512*a.1) (I:=λa=>[(1,.lp 1 0),(2,.d H5),(3,.d (ci 0)),(4,.lp 212 0),(8,.d (.sl 1 (iR Fh))),(13,.d (ci a.2)),(110,.d (.sl 1 (iR x.made))),(111,.d (ci x.made.length)),(112,.d (ci a.1))])
  (J:=λa=>[(1,.cells false (x.aT1.map A.d)),(212,.cells false ((oD x.parents C x.aT4).wA 196)),(196,.mp false [] [])]) (μ:=λa=>x.made.length -a.1) 3000 (0,0) ⟨sM,rfl,rfl,sM,sM⟩ ?_ ?_
 ·refine cN.freeze [188,1024] tV ⟨.same _,.same _,.same _,.same _,.rd (.dU (eX rfl rfl)),.same _,.same _,GR (qD (by simp only[aB])),.same _,tV⟩ ⟨⟨rfl,_,rfl,.cells (.same _)⟩,⟨rfl,_,rfl,.cells (.cons (.same _) (.cons (.same _) (.cons (.rd (aNL (eX rfl rfl))) (.same _))))⟩,⟨rfl,_,rfl,.mp rfl (.same _)⟩,tV⟩ ?_ ?_
  ·exact⟨⟨sn,tV⟩,tV,tV,⟨sn,tV⟩,tV,tV,tV,tV,tV,tV⟩
  ·exact⟨tV,⟨sn,tV⟩,tV,tV⟩
 rintro⟨i,sm⟩ ⟨hi,h2,hsm,hs0,hs1⟩;dsimp only at hi h2 hsm hs0 hs1⊢;have y4:=(xN _ _ _ _ h1.symm).2;have a0D:=aFO (oD x.parents C x.aT4) rfl aXR hlen y4;clear hrf h0 hpl n0 hml hhm
 repeat'(first|refine bl ?_|refine bS (λh=>?_) (λh=>?_)|refine cD rfl eD oM (bw ?_))
 ·refine nC _ ?_;rw[tO,<-h2,GA _ _ _ aM oM,aU0 oM];simp only[c0]
 ·refine nC _ ?_;rw[tO,<-h2,GA _ _ _ aM oM,show decide (x.made[i]<=512)=false from aU0 oM];simp only[c0,kL]
 ·have cX:i<x.made.length:=aM;have hF0:=hfb _ (aY (show i<Fh.length by omega));refine FC.mk (RG oM oM) ?_;conv=>whnf
  refine bl ?_;refine⟨(i+1,sm+x.made[i]),dM,⟨dM,?_,?_,dM,dM⟩,mZ⟩
  ·rw[GA _ _ _ cX oM,aUZ aM,aUZ aM,cA,cA]at h2;exact h2
  ·dsimp only;rw[aFZ _ _ cX,<-hsm]
 ·refine nC _ ?_;rw[tO,show decide (0<=x.last)=false from aU0 oM];simp only[c0,kL]
 ·refine nC _ ?_;rw[aI oM]at hsm;rw[tO,<-hsm,show decide (x.last<=64*sm)=false from aU0 oM];simp only[c0,kL]
 have uJ:i=x.made.length:=oM;subst uJ;rw[dT (bT _)]at h2;rw[<-h2,show QF [] (Fh.drop x.made.length)=true from rfl,cA,aUZ (by omega:0<=x.last),cA]at tO;rw[gX]at hsm;rw[<-hsm,aUZ (by omega:x.last<=64*sm),cA]at tO;by_cases hs:(oD x.parents C x.aT4).sH=true
 case neg=>
  have hs:(oD x.parents C x.aT4).sH=false:=by simpa using hs
  rw[show MY (oD x.parents C x.aT4)=.dead by unfold MY;rw[hs];rfl,hs]at a0D;refine xQ.BL (.d (cb false)) [(196,.dead)] (aJ.l8 a0D ⟨sn,tV⟩ ⟨rfl,rfl,tV⟩ ⟨⟨sn,tV⟩,tV,tV⟩ ⟨.inl sn,tV⟩) ?_;conv=>whnf
  refine bl ?_;refine nC _ ?_;rw[tO,hs];rfl
 rw[show MY (oD x.parents C x.aT4)=.mp false (l6 (lP x.aT4)) [] by unfold MY;rw[hs];rfl,hs]at a0D;have hac:=aFK hs;have hsb:=((oD x.parents C x.aT4).JW (lP x.aT4)).GU x.aT4;have a27:=((oD x.parents C x.aT4).JW (lP x.aT4)).GU ((oD x.parents C x.aT4).JW (lP x.aT4)).aT4;have a2U:((oD x.parents C x.aT4).JW (lP x.aT4)).oL x.aT4=((oD x.parents C x.aT4).JW (lP x.aT4)).oL ((oD x.parents C x.aT4).JW (lP x.aT4)).aT4:=rfl;have aXK:(((oD x.parents C x.aT4).JW (lP x.aT4)).aT4).length<=2^30:=hlen;rw[hs,cA]at tO;refine xQ.BL (.d (cb true)) [(196,.mp false (l6 (lP x.aT4)) [])] (aJ.l8 a0D ⟨sn,tV⟩ ⟨rfl,rfl,tV⟩ ⟨⟨sn,tV⟩,tV,tV⟩ ⟨.inl sn,tV⟩) ?_;conv=>whnf
 repeat'(first|refine bl ?_|refine bS (λh=>?_) (λh=>?_)|refine HA (cs:=[.ip ((oD x.parents C x.aT4).JW (lP x.aT4)).aT1]) (aFQ _ (HY.JW hac _) hlen) (.v _) (.cons (rdW rfl rfl) .nil) (bw ?_)|refine cH (G6 (iR x.made) (by simp only[aB];omega) sM) (bw ?_))
 ·refine nC _ ?_;rw[tO];exact aU0 oM
 ·have hB:y9 x=true:=by
   rw[tO];exact aUZ oM
  have hW:bJ x=(⟨x.parents,C,x.aT4,[],x.last,x.made⟩:D4).JW (lP x.aT4):=by
   unfold bJ;rw[hC];rfl
  refine aC8 hB ?_;rw[hW];exact rdW rfl rfl
structure D4.gA(w:D4):Prop where
 cR:∀t∈w.aT4,t.bQ.cR<=2^35
 len:w.aT4.length<=2^30
 nodup:(w.aT4.map (·.ref)).Nodup
 may:∀t∈w.aT4,t.bQ.value.may=true/\(∀i(h:i<t.bQ.values.length),t.bQ.values[i].may=true)/\(∀i(h:i<t.bQ.names.length),t.bQ.names[i].value.may=true)
 sides:0<w.made.length
def aEY(w:D4)(hw:0<w.made.length):Pu 156 [.d (.ip w.aT1)] (.d (cb false)):=by
 refine iC mix Tryz.func156 ?_
 repeat'(first|refine bl ?_|refine aF (o4 w) (bw ?_))
 all_goals(refine dP ?_;simp;intro e;rw[e]at hw;simp at hw)
def aE2(w:D4)(s:Int)(h1:-9223372036854775808<=s)(h2:s<=9223372036854775807):Pu 157 [.d (.ip w.aT1),.d (ci s)] (.d (cb (w.HU s))):=by
 refine iC mix Tryz.func157 ?_
 repeat'(first|refine bl ?_|refine bS (λh=>?_) (λh=>?_)|refine aF (o4 w) (bw ?_))
 all_goals(refine dP ?_;simp_all[D4.HU];try(intros;omega))
abbrev W4.zero:W4:=⟨0,0,V.zero,[],0,0,0,0,0,false,[],[]⟩
def D4.iI(w:D4)(r:Int):W4:=((w.find r).map (·.bQ)).getD W4.zero
def D4.aDH(w:D4)(r:Int):Int:=if w.mI r=true then 0 else 5
def aES:wJ m ([.d (.v (.int .u8 0)),.d (ci 0),.d (.v (.int .u8 0)),.d (ci 0),.d (.v (.string ByteArray.empty)),.d (.nl 5),.d (ci 0),.d (.nl 5),.d (ci 0),.d (ci 0),.d (ci 0),.d (ci 0),.d (.v (.int .u8 0)),.d (cb false),.d (.nl 17),.d (.nl 6)]:List A) W4.zero.aT1:=
 .cons (.d _) (.cons (.d _) (.cons (.d _) (.cons (.d _) (.cons (.d _) (.cons (.nz _ _) (.cons (.d _) (.cons (.nz _ _) (.cons (.d _) (.cons (.d _) (.cons (.d _) (.cons (.d _) (.cons (.d _) (.cons (.d _) (.cons (.nz _ _) (.cons (.nz _ _) .nil)))))))))))))))
def ZL(w:D4)(hg:w.gA)(r:Int):Pu 114 [.d (.ip w.aT1),.d (ci r)] (.eL [.d (.agg (w.iI r).aT1),.d (ci (w.aDH r))]):=by
 refine iC mix Tryz.func114 ?_
 repeat'(first|refine bl ?_|refine bS (λh=>?_) (λh=>?_)|refine aF (vQ w) (bw ?_)|refine aF (sB w r) (bw ?_))
 ·have hn:w.find r=none:=by
   have:=‹w.mI r=false›;unfold D4.mI at this;cases h:w.find r with
   |none=>rfl
   |some t=>rw[h]at this;simp at this
  have e1:w.iI r=W4.zero:=by unfold D4.iI;rw[hn];rfl
  have e2:w.aDH r=5:=by unfold D4.aDH;rw[aT7 (by simp_all)]
  rw[e1,e2];exact .eL (cs:=[.agg W4.zero.aT1,ci 5]) (.cons (.agg aES) (.cons (.d _) .nil))
 ·have hb:=‹w.mI r=true›;refine EA eD (λt ht=>?_) (λht=>?_)
  ·have hf:w.find r=some t:=ht;have hm:=cT ht;obtain⟨m1,m2,m3⟩:=hg.may t hm;conv=>whnf
   skip
   refine aF (yX t.bQ (by have:=hg.cR t hm;omega) m1 m2 m3) ?_;conv=>whnf
   refine bl ?_;have e1:w.iI r=t.bQ:=by unfold D4.iI;rw[hf];rfl
   have e2:w.aDH r=0:=by unfold D4.aDH;rw[aUF hb]
   rw[e1,e2];exact .eL (cs:=[.agg t.bQ.aT1,ci 0]) (.cons (.agg (wJ.data _ t.bQ.aT1)) (.cons (.d _) .nil))
  ·exfalso;have hf:w.find r=none:=ht;unfold D4.mI at hb;rw[hf]at hb;simp at hb
def SW(w:D4)(hg:w.gA)(r:Int):Pu 71 [.d (.ip w.aT1),.d (ci r)] (.eL [.d (.agg (w.iI r).aT1),.d (ci (w.aDH r))]):=by
 refine iC mix Tryz.func71 ?_
 repeat'(first|refine bl ?_|refine aF (ZL w hg r) (bw ?_))
 all_goals exact .eL (cs:=[.agg (w.iI r).aT1,ci (w.aDH r)]) (.cons (.agg (wJ.data _ (w.iI r).aT1)) (.cons (.d _) .nil))
def D4.nW(w:D4)(r:Int):List Int:=
 if w.aDH r≠0 then []
 else if(w.iI r).kind=14\/(w.iI r).kind=11 then [(w.iI r).of]
 else if(w.iI r).kind=15\/(w.iI r).kind=16 then [(w.iI r).of,(w.iI r).by_]
 else []
def AM(w:D4)(hg:w.gA)(r:Int):Pu 30 [.d (.ip w.aT1),.d (ci r)] (.eL [.d (.sl 1 (iR (w.nW r))),.d (ci (w.aDH r))]):=by
 refine iC mix Tryz.func30 ?_
 repeat'(first|refine bl ?_|refine bS (λh=>?_) (λh=>?_)|refine aF (SW w hg r) (bw ?_))
 all_goals
  unfold D4.nW
  first
  |(rw[aUF aM];exact .eL (cs:=[.sl 1 [],ci (w.aDH r)]) (.cons (.nz _ _) (.cons (.d _) .nil)))
  |(rw[aT7 oM,aUF oM];rw[show w.aDH r=0 by assumption];exact .eL (cs:=[.sl 1 (iR [(w.iI r).of]),ci 0]) (.cons (.dU (t:=25) rfl) (.cons (.d _) .nil)))
  |(rw[aT7 oM,aT7 oM,aUF oM];rw[show w.aDH r=0 by assumption];exact .eL (cs:=[.sl 1 (iR [(w.iI r).of,(w.iI r).by_]),ci 0]) (.cons (.dU (t:=25) rfl) (.cons (.d _) .nil)))
  |(rw[aT7 oM,aT7 oM,aT7 oM];rw[show w.aDH r=0 by assumption];exact .eL (cs:=[.sl 1 [],ci 0]) (.cons (.nz _ _) (.cons (.d _) .nil)))
def jL(L:List N4):List Int:=(L.map λn=>n.value.eI).flatten
def D0(L:List N4)(hL:V.dB (L.map (·.value))+L.length<=2^35):Pu 50 [.d (.sl 6 (L.map N4.aT1))] (.d (.sl 1 (iR (jL L)))):=by
 have SU:∀i(h:i<L.length),L[i].value.cR<=2^35:=λi h=>by
  have:=V.dG (L.map (·.value)) i (by simpa using h);rw[fO]at this;omega
 have hr2:∀i,(((L.take i).map λn=>n.value.eI).flatten).length<=V.dB (L.map (·.value)):=λi=>by
  have h3:=qN ((L.take i).map (·.value));rw[bH]at h3;have h4:=V.kA (L.map (·.value)) i;rw[<-List.map_take]at h4;exact cL h3 h4
 refine iC mix Tryz.func50 ?_;refine bl ?_;refine bV mix (λa:Nat×List Int=>a.1<=L.length/\a.2=((L.take a.1).map λn=>n.value.eI).flatten) (I:=λa=>[(6,.d (.sl 6 (L.map N4.aT1))),(7,.d (ci L.length)),(3,lv 1 900 (iR a.2)),(8,.d (ci a.1))])
  (J:=λa=>lm 900 25 1 (iR a.2) []) (μ:=λa=>L.length -a.1) 1000 (0,[]) ⟨sM,sM⟩ mZ ?_
 rintro⟨i,Q⟩ ⟨hi,hQ⟩;dsimp only at hi hQ⊢;have hlen:Q.length<=2^36:=by
  have h1:=hr2 i;rw[hQ];omega
 cases Q with
 |nil=>
  show vc _ _ _ _ _ [] _ _
  repeat'(first|refine bl ?_|refine bS (λh=>?_) (λh=>?_))
  ·refine cD rfl eD h ?_;have HG:((L.take (i+1)).map λn=>n.value.eI).flatten=((L.take i).map λn=>n.value.eI).flatten++L[i].value.eI:=by rw[iU (λn:N4=>n.value.eI) L i h]
   conv=>whnf
   refine bl ?_;refine dR (jG L[i].value (SU i h)) (.cons (.agg L[i].value.aT1) .nil) ?_;have hq:=L[i].value.iY;have WI:=SU i h;conv=>whnf
   skip
   refine n8 (by simp only[aB];omega) kK ?_;conv=>whnf
   refine E9.mk (λh1=>?_) (λh1=>?_)
   ·have h1:L[i].value.eI=[]:=by simpa using h1
    conv=>whnf
    refine bl ?_;refine⟨(i+1,[]),dM,⟨dM,by dsimp only;rw[HG,h1,dS,<-hQ]⟩,?_⟩;exact mZ
   ·have h1:L[i].value.eI≠[]:=by simpa using h1
    conv=>whnf
    refine bl ?_;refine⟨(i+1,L[i].value.eI),dM,⟨dM,by dsimp only;rw[HG,<-hQ,bZ]⟩,?_⟩;cases wV:L[i].value.eI with
    |nil=>exact absurd wV h1
    |cons r Q=>
     dsimp only[iR,List.map_cons,lv,lm];exact mv 1072 900
     all_goals exact cO rfl (by rw[wV];rfl)
  ·have e:L.take i=L:=aI oM;rw[e]at hQ;rw[show jL L=_ from hQ.symm];exact .one (.nz _ _)
 |cons r Q=>
  show vc _ _ _ _ _ [(900,dU 25 1 (iR (r::Q))),] _ _
  repeat'(first|refine bl ?_|refine bS (λh=>?_) (λh=>?_))
  ·refine cD rfl eD h ?_;have HG:((L.take (i+1)).map λn=>n.value.eI).flatten=((L.take i).map λn=>n.value.eI).flatten++L[i].value.eI:=by rw[iU (λn:N4=>n.value.eI) L i h]
   conv=>whnf
   refine bl ?_;refine dR (jG L[i].value (SU i h)) (.cons (.agg L[i].value.aT1) .nil) ?_;have hq:=L[i].value.iY;have WI:=SU i h;conv=>whnf
   skip
   refine n8 (by simp only[aB,bE];omega) kK ?_;conv=>whnf
   refine bl ?_;refine⟨(i+1,r::(Q++L[i].value.eI)),dM,⟨dM,by dsimp only;rw[HG,<-hQ];rfl⟩,?_⟩;refine mq 1072 900 ?_
   all_goals exact cO rfl (gG (r::Q) L[i].value.eI)
  ·have e:L.take i=L:=aI oM;rw[e]at hQ;rw[show jL L=_ from hQ.symm];exact .one (.dU (t:=25) rfl)

abbrev iG(d:Array Int):R:=dU 25 1 (iR d.toList)
abbrev eF(a b:Int):Bool:=decide (a<b)
def aNN:Go.Shelf.Ren:=⟨λx=>if x=43 then 107 else x,λx=>if x=22 then 31 else if x=23 then 25 else x,λx=>x⟩
def aNE:SlLaysE.n43 Tryz.prog aNN where
 mixed:=mix
 f43:=⟨Tryz.f107.name,kK,kK⟩
 t0:=kK
 a0:=λw=>by rfl
 z0:=λw=>by rfl
 v0:=λw=>by rfl
 t3:=kK
 a3:=λw=>by rfl
 z3:=λw=>by rfl
 v3:=λw=>by rfl
 t4:=kK
 a4:=λw=>by rfl
 z4:=λw=>by rfl
 v4:=λw=>by rfl
 t22:=kK
 a22:=λw=>by rfl
 z22:=λw=>by rfl
 v22:=λw=>by rfl
 a23:=λw=>by rfl
 z23:=λw=>by rfl
abbrev encI:Int->Value:=Value.int .i64
def aNI:OneCell encI:=λx=>rfl
def VG{w:World}{M:Nat->Prop}{m:Mem}{ρ:Nat->Value}:∀(L:List Int)(ys:List Value),A.bR w M m ρ (bE (iR L)).flatten ys↔ys=L.map encI
 |[],ys=>by simp[bE,A.bR]
 |x::L,ys=>by
  have ih:=VG (w:=w) (M:=M) (m:=m) (ρ:=ρ) L;simp only[bE,iR,aG,dL,bM,qY,A.bR,A.Den,C.Den]at ih⊢;constructor
  ·rintro⟨y,yr,rfl,rfl,h⟩;rw[(ih yr).1 h]
  ·intro h;exact⟨encI x,L.map encI,h,rfl,(ih _).2 rfl⟩
def DH(d:Array Int):Array Int:=(Go.Lib.compactUpTo d d.size).toArray
def PJ(d:Array Int):(Go.Lib.compactUpTo d d.size).length<=d.size:=by
 unfold Go.Lib.compactUpTo;rw[aB];exact cL (YC _ _) sM
def XQ(d:Array Int)(h:0<d.size):0<(Go.Lib.compactUpTo d d.size).length:=by
 unfold Go.Lib.compactUpTo;rw[aB];have:0∈(List.range d.size).filter (Go.Lib.keeps d):=a39.2 ⟨jI.2 h,by simp[Go.Lib.keeps]⟩;exact List.length_pos_of_mem this
def VD(d:Array Int)(h1:0<d.size)(hd:d.size<=2^40):aJ Tryz.prog 107 [.h 0] (aK [(0,iG d)]) (.ok (.h 1)) (aH (aK [(0,iG d)]) [(0,.dead),(1,iG (DH d))]):=by
 refine⟨kK,?_⟩;intro N T M0 S0 w0 ρ a w hs cX vs P2;have hm0:aK [(0,iG d)] 0=some (iG d):=rfl;have PE:∀i r,aK [(0,iG d)] i=some r->i=0/\r=iG d:=by
  intro i r h;simp only[aK]at h;cases hb:Nat.beq 0 i with
  |true=>rw[hb]at h;simp only[cond_true,aA]at h;exact⟨(bB hb).symm,h.symm⟩
  |false=>rw[hb]at h;cases h
 obtain⟨xs,aWZ,aWJ,hlen,hfz,aX5⟩:=hs.res 0 _ hm0;have hxs:=(VG _ _).1 aWJ;have hrl:(bE (iR d.toList)).length=d.size:=by simp[bE]
 rw[hrl]at aWZ;rcases aWZ with⟨rfl,hn,_⟩|⟨hxl,g,o,cap,cur,hρ,hcp,hg,hnc,hcm,aXM,htk⟩
 ·omega
 simp only[A.bR,A.Den]at P2;obtain⟨y,yr,rfl,hy,rfl⟩:=P2;have hyv:=eH hy hm0 (λe=>by cases e);rw[hρ]at hyv;subst hyv;have hc:∀j(h:j<d.size),w.cell? ⟨g,o+j,none⟩=some (encI d[j]!):=by
  intro j h;have:=vV.cells (.inr ⟨hxl,g,o,cap,cur,rfl,hcp,hg,hnc,hcm,aXM,htk⟩) rfl j (encI d[j]!) (by rw[hxs];simp[h]);exact this
 have hH:Go.Sort.Holds encI w g o d:=λj h=>⟨hc j h,by unfold World.frozen?;rw[hg];simp⟩;have aVN:=AnyE.slices_Compact aNE encI aNI (EqlAt.intD _ _ _) (NeqAt.intD _ _ _) (0:Int) (λw=>by rfl) g o cap d w hH oM hnc;refine aVN.mono ?_;rintro e w' ⟨rfl,q,rfl⟩;have n0:=PJ d;have a14:=XQ d h1;generalize hL:Go.Lib.compactUpTo d d.size=L at n0 a14;have hcA:DH d=L.toArray:=by unfold DH;rw[hL]
 rw[hcA];generalize y4:(L++List.replicate (d.size -L.length) (0:Int)).toArray=nd;have a21:nd.size=d.size:=by rw[<-y4];simp;omega
 have hgw:(Go.Sort.putRow encI (Go.Sort.ahead w q) g o nd).heap[g]?=some (.cells (Go.Sort.putCells encI o nd cur) 25 (0,0)):=by
  unfold Go.Sort.putRow Go.Sort.mapBlock;simp only[fN,if_true];rw[show(Go.Sort.ahead w q).heap=w.heap from rfl,hg];rfl
 have aW2:iF (λb=>b=g) w (Go.Sort.putRow encI (Go.Sort.ahead w q) g o nd):=
  ⟨rfl,rfl,rfl,by simp[Go.Sort.ahead],λb hb hn=>by
    unfold Go.Sort.putRow Go.Sort.mapBlock;simp only[fN];rw[aT7 (λe=>hn e.symm)]
    rfl⟩
 generalize hwE:Go.Sort.putRow encI (Go.Sort.ahead w q) g o nd=w' at hgw aW2;let ρ':Nat->Value:=dW ρ 1 (.slice (some ⟨g,o,none⟩) L.length cap);have hgm:dD M0 (aK [(0,iG d)]) ρ g:=.inr ⟨0,_,hm0,rfl,by rw[hρ];simp[blk];omega⟩;have hgo:=hs.own 0 _ g hm0 rfl (by rw[hρ];simp[blk];omega);have a0F:blk (ρ' 1)=some g:=by
  show blk (dW ρ 1 _ 1)=_;simp[dW,blk];omega
 have hm2:∀i r,aH (aK [(0,iG d)]) [(0,.dead),(1,iG L.toArray)] i=some r->(i=0/\r=.dead)\/(i=1/\r=iG L.toArray):=by
  intro i r hi;simp only[aH,aX]at hi;split at hi
  ·rename_i e;exact .inr ⟨e,(eY hi).symm⟩
  ·split at hi
   ·rename_i e;exact .inl ⟨e,(eY hi).symm⟩
   ·rename_i e1 e2;exact absurd (PE i r hi).1 e2
 have HG:dV (dD M0 (aK [(0,iG d)]) ρ) w w':=aW2.stays λb _ e=>by rw[e];exact hgm
 have Q2:∀b,dD M0 (aH (aK [(0,iG d)]) [(0,.dead),(1,iG L.toArray)]) ρ' b->b<w.heap.size->dD M0 (aK [(0,iG d)]) ρ b:=by
  rintro b (e|⟨i,r,e1,e2,e3⟩) _
  ·exact .inl e
  ·rcases hm2 i r e1 with⟨rfl,rfl⟩|⟨rfl,rfl⟩
   ·cases e2
   ·rw[a0F]at e3;rw[<-Option.some.inj e3];exact hgm
 have hon:gL (aK [(0,iG d)]) (aH (aK [(0,iG d)]) [(0,.dead),(1,iG L.toArray)]) ρ ρ':=by
  intro i hi;cases hq:aK [(0,iG d)] i with
  |none=>exact absurd hq hi
  |some r=>
   obtain⟨rfl,rfl⟩:=PE i r hq;exact⟨by simp[aH,aX],λhd=>absurd (by simp[aH,aX]) hd⟩
 refine⟨ρ',?_,hon,?_⟩
 ·exact{keeps:=hs.keeps.trans aW2 λb hb e=>by subst e;exact hgo.1.resolve_left oM
        size:=hs.size
        defers:=λds e=>eJ HG Q2 hon _ _ (hs.defers ds e)
        tmps:=λk=>A.dC HG Q2 hon _ _ (hs.tmps k)
        res:=λi r hi=>by
         rcases hm2 i r hi with⟨rfl,rfl⟩|⟨rfl,rfl⟩
         · trivial
         · refine⟨L.map encI,?_,(VG _ _).2 sM,?_,(λe=>by cases e),?_⟩
           · refine .inr ⟨by simp[bE],g,o,cap,_,?_,hcp,hgw,?_,hcm,?_,?_⟩
             · show dW ρ 1 _ 1=_
               simp[dW,bE]
             · simp[bE];omega
             · simp[Go.Sort.putCells];omega
             · simp only[bE,aB,Nat.mul_one]
               refine iQ λj=>?_;rw[cM];by_cases hj:j<L.length
               · rw[aUF (by simpa using hj),eA,jH]
                 unfold Go.Sort.putCells;rw[Array.getElem?_mapIdx,cF (by omega:o+j<cur.size)];simp only[dF];rw[aUF oM];have e1:o+j -o=j:=oM;rw[e1,<-y4];simp[hj,bX hj]
               · rw[aT7 (by simpa using hj),lD (by simpa using hj)]
           · intro e he
             simp only[bE,iR,aA4]at he;obtain⟨x,⟨y,_,rfl⟩,rfl⟩:=he;rfl
           · intro u hu
             obtain⟨x,_,rfl⟩:=aA4.1 hu;rfl
        own:=λi r b hi hl hb=>by
         rcases hm2 i r hi with⟨rfl,rfl⟩|⟨rfl,rfl⟩
         · cases hl
         · rw[a0F]at hb
           have:=eY hb;subst this;exact⟨hgo.1,hgo.2.1,cG hgo.2.2 aW2.size⟩
        apart:=λi j r s b hi l1 hj l2 c1 c2=>by
         rcases hm2 i r hi with⟨rfl,rfl⟩|⟨rfl,rfl⟩
         · cases l1
         · rcases hm2 j s hj with⟨rfl,rfl⟩|⟨rfl,rfl⟩
           · cases l2
           · rfl}
 ·refine⟨_,rfl,?_⟩;simp only[A.Den];refine⟨by simp[aH,aX],λ_=>?_⟩;show _=dW ρ 1 _ 1;simp[dW]
def j4(d:Array Int):(Go.Sort.sort eF d).toList=d.toList.mergeSort (λx y=>decide (x<=y)):=by
 have:=Go.Sort.sortInt d.toList;rw[sJ]at this;exact this
def xM(d:Array Int):(Go.Sort.sort eF d).size=d.size:=by
 have:=congrArg List.length (j4 d);simpa using this
def j5(f:FuncId)(hf:kW Tryz.prog f=true)(hc:∀(blk off cap:Nat)(zs:List Int)(w:World),Go.Sort.Holds encI w blk off zs.toArray->blk<w.heap.size->zs.length<4611686018427387904->Calls Tryz.prog f #[.slice (some ⟨blk,off,none⟩) zs.length cap] w λe w'=>e=.returned (.tuple #[])/\∃n os,w'=Go.Sort.grow (Go.Sort.putRow encI (Go.Sort.ahead w n) blk off (zs.mergeSort λx y=>decide (x<=y)).toArray) os)(d:Array Int)(h1:0<d.size)(hd:d.size<=2^39):
 aJ Tryz.prog f [.h 0] (aK [(0,iG d)]) (.ok (.eL [])) (aH (aK [(0,iG d)]) [(0,iG (Go.Sort.sort eF d))]):=by
 refine⟨hf,?_⟩;intro N T M0 S0 w0 ρ a w hs cX vs P2;have hm0:aK [(0,iG d)] 0=some (iG d):=rfl;obtain⟨xs,aWZ,aWJ,hlen,hfz,aX5⟩:=hs.res 0 _ hm0;have hxs:=(VG _ _).1 aWJ;have hrl:(bE (iR d.toList)).length=d.size:=by simp[bE]
 rw[hrl]at aWZ;rcases aWZ with⟨rfl,hn,_⟩|⟨hxl,g,o,cap,cur,hρ,hcp,hg,hnc,hcm,aXM,htk⟩
 ·omega
 simp only[A.bR,A.Den]at P2;obtain⟨y,yr,rfl,hy,rfl⟩:=P2;have hyv:=eH hy hm0 (λe=>by cases e);rw[hρ]at hyv;subst hyv;have hH:Go.Sort.Holds encI w g o d.toList.toArray:=λj h=>by
  have h:j<d.size:=by simpa using h
  refine⟨?_,by unfold World.frozen?;rw[hg];simp⟩;have:=vV.cells (.inr ⟨hxl,g,o,cap,cur,rfl,hcp,hg,hnc,hcm,aXM,htk⟩) rfl j (encI d[j]!) (by rw[hxs];simp[h]);simpa using this
 have hgo:=hs.own 0 _ g hm0 rfl (by rw[hρ];simp[blk];omega);have aVN:=hc g o cap d.toList w hH hgo.2.2 zM;rw[aAH]at aVN;refine aVN.mono ?_;rintro e w' ⟨rfl,q,os,rfl⟩;rw[<-j4 d,sJ];have vZ:=xM d;generalize Go.Sort.sort eF d=nd at vZ;have hgw:(Go.Sort.putRow encI (Go.Sort.ahead w q) g o nd).heap[g]?=some (.cells (Go.Sort.putCells encI o nd cur) 25 (0,0)):=by
  unfold Go.Sort.putRow Go.Sort.mapBlock;simp only[fN,if_true];rw[show(Go.Sort.ahead w q).heap=w.heap from rfl,hg];rfl
 have aW2:iF (λb=>b=g) w (Go.Sort.putRow encI (Go.Sort.ahead w q) g o nd):=
  ⟨rfl,rfl,rfl,by simp[Go.Sort.ahead],λb hb hn=>by
    unfold Go.Sort.putRow Go.Sort.mapBlock;simp only[fN];rw[aT7 (λe=>hn e.symm)]
    rfl⟩
 generalize Go.Sort.putRow encI (Go.Sort.ahead w q) g o nd=w1 at hgw aW2
 have EN:iF (λ_=>False) w1 (Go.Sort.grow w1 os):=⟨rfl,rfl,rfl,sM,λb hb _=>by
  unfold Go.Sort.grow
  exact fY hb⟩
 have hw:=hs.write (r':=iG nd) hm0 rfl rfl (λfz t es l' e=>by
  simp only[dU,R.fW.injEq]at e;obtain⟨rfl,rfl,rfl,rfl⟩:=e
  exact⟨false,25,_,rfl,by simp[bE,vZ]⟩) aW2 (λb _ e=>by rw[hρ,e];simp[blk];omega) (λhO HG hm=>?_)
 ·refine⟨ρ,?_,?_,⟨_,rfl,by simp[A.Den,A.bR]⟩⟩
  ·exact(hw.world (X:=λ_=>False) EN (λ_ _ e=>e.elim)).shrink λb e=>.inl e
  ·have h2:=gL.set (m:=aK [(0,iG d)]) (ρ:=ρ) 0 (iG nd) (ρ 0) (λ_ _=>⟨by rw[hm0];simp[dU],rfl,λfz t es l' e=>by
    rw[hm0]at e;simp only[dU,aA,R.fW.injEq]at e;obtain⟨rfl,rfl,rfl,rfl⟩:=e
    exact⟨false,25,_,rfl,by simp[bE,vZ]⟩⟩)
   rwa [jP]at h2
 ·refine⟨nd.toList.map encI,?_,(VG _ _).2 rfl,?_,(λe=>by cases e),?_⟩
  ·refine .inr ⟨by simp[bE],g,o,cap,_,?_,hcp,hgw,?_,hcm,?_,?_⟩
   ·rw[hρ];simp[bE,vZ]
   ·simp[bE];omega
   ·simp[Go.Sort.putCells];omega
   ·simp only[bE,aB,Nat.mul_one];refine iQ λj=>?_;rw[cM];by_cases hj:j<nd.toList.length
    ·have QB:j<nd.size:=by simpa using hj
     rw[aUF (by simpa using hj),eA,jH];unfold Go.Sort.putCells;rw[Array.getElem?_mapIdx,cF (by omega:o+j<cur.size)];simp only[dF];rw[aUF oM];have e1:o+j -o=j:=oM;rw[e1];simp[QB]
    ·rw[aT7 (by simpa using hj),lD (by simpa using hj)]
  ·intro e he;simp only[bE,iR,aA4]at he;obtain⟨x,⟨y,_,rfl⟩,rfl⟩:=he;rfl
  ·intro u hu;obtain⟨x,_,rfl⟩:=aA4.1 hu;rfl
def KY(f:FuncId)(B:Func)(h1:Tryz.prog.funcs[f]?=some {B with name:=((Tryz.prog.funcs[f]?).getD Tryz.f0).name})(h2:(((Tryz.prog.funcs[f]?).getD Tryz.f0).name== "runtime.NumGoroutine")=false):Bears Tryz.prog f B:=⟨_,h2,h1⟩
def aAN:List (Nat×Nat):=[(53,106),(64,161),(63,160),(78,198),(79,199),(70,189),(71,190),(72,191),(73,192),(74,193),(75,194),(59,195),(76,196),(77,197),(88,215),(89,216),(90,217),(91,218),(92,219),(68,220),(96,234)]
def aA3:List (Nat×Nat):=[(22,31),(23,25),(51,223),(67,251),(69,194),(61,244),(60,243),(44,127),(75,271),(79,185),(83,289),(84,290)]
def aAX:Go.Shelf.Ren:=⟨λx=>((aAN.find? λp=>Nat.beq p.1 x).map (·.2)).getD x,λx=>((aA3.find? λp=>Nat.beq p.1 x).map (·.2)).getD x,λx=>x⟩
def NA:SlLaysN.n53 Tryz.prog aAX:=by
 constructor
 all_goals first|exact mix|exact KY _ _ kK kK|(intro w;rfl)|kernel_rfl
def Q5(d:Array Int)(h1:0<d.size)(hd:d.size<=2^39):aJ Tryz.prog 106 [.h 0] (aK [(0,iG d)]) (.ok (.eL [])) (aH (aK [(0,iG d)]) [(0,iG (Go.Sort.sort eF d))]):=
 j5 _ kK (λb o c zs w=>AnyG.slices_Sort_int NA b o c zs w) d h1 hd
def j6(c:C)(hc:∀w M y,C.Den w M c y->∃p cap,y=.slice p 0 cap):Pu 106 [.d c] (.eL []):=λm=>⟨kK,λN T M0 S0 w0 ρ a w hs cX vs P2=>by
 simp only[A.bR,A.Den]at P2;obtain⟨y,yr,rfl,hy,rfl⟩:=P2;obtain⟨p,cap,rfl⟩:=hc _ _ _ hy;refine(AnyG.slices_Sort_int_none NA p cap w).mono ?_;rintro e w' ⟨rfl,rfl⟩
 exact⟨ρ,hs,gL.refl m ρ,_,rfl,by simp[A.Den,A.bR]⟩⟩
def aFN:Pu 106 [.d (.nl 1)] (.eL []):=j6 _ λw M y h=>by
 simp only[C.Den]at h;exact⟨_,_,h⟩
def rK(d:Array Int)(hd:d.size<=2^39):aJ Tryz.prog 106 [.h 0] (aK [(0,iG d)]) (.ok (.eL [])) (aH (aK [(0,iG d)]) [(0,iG (Go.Sort.sort eF d))]):=by
 by_cases h1:0<d.size
 ·exact Q5 d h1 hd
 have e:d= #[]:=jA oM;have es:=xM d;have e2:Go.Sort.sort eF d= #[]:=jA oM;rw[e2];subst e;have em:aH (aK [(0,iG #[])]) [(0,iG #[])]=aK [(0,iG #[])]:=by
  rw[hY];funext i;show aK [(0,iG #[]),(0,iG #[])] i=_;simp only[aK];cases Nat.beq 0 i<;>rfl
 rw[em];refine⟨kK,λN T M0 S0 w0 ρ a w hs cX vs P2=>?_⟩;have hm0:aK [(0,iG #[])] 0=some (iG #[]):=rfl;obtain⟨xs,aWZ,_⟩:=hs.res 0 _ hm0;simp only[A.bR,A.Den]at P2;obtain⟨y,yr,rfl,hy,rfl⟩:=P2;have hyv:=eH hy hm0 (λe=>by cases e);have hz:∃p cap,y=.slice p 0 cap:=by
  rcases aWZ with⟨_,_,a,h⟩|⟨_,g,o,cap,cur,h,_⟩
  ·exact⟨_,_,by rw[hyv,h]⟩
  ·exact⟨_,_,by rw[hyv,h];rfl⟩
 obtain⟨p,cap,rfl⟩:=hz;refine(AnyG.slices_Sort_int_none NA p cap w).mono ?_;rintro e w' ⟨rfl,rfl⟩;exact⟨ρ,hs,gL.refl _ ρ,_,rfl,by simp[A.Den,A.bR]⟩
def RW:Pu 107 [.d (.nl 1)] (.d (.nl 1)):=by
 refine iC mix Tryz.func107 ?_;refine bl ?_;exact .one (.d (.nl 1))
def PG:Pu 61 [.d (.nl 1)] (.d (.nl 1)):=by
 refine iC mix Tryz.func61 ?_;refine bl ?_;exact .one (.d _)
def xW(L:List Int)(hL:L.length<=2^38)(h0:L≠[]):∀(m:Mem)(d:Nat),m d=none->aJ Tryz.prog 61 [.d (.sl 1 (iR L))] m (.ok (.h d)) (aX m d (dU 25 1 (iR L))):=by
 refine iW mix (F:=A.h) (r:=dU 25 1 (iR L)) Tryz.func61 rfl kK (bD rfl) rfl (oJ _ _ _) (λ_ _=>rfl) (λi j hj=>by simpa [A.hs]using hj) (λg=>eT g _ _ _) ?_;refine bl ?_;refine BN.mk (λh=>absurd (by simpa using h) h0) ?_;conv=>whnf
 refine bl ?_;refine n8 (by simp only[aB,aS];omega) kK ?_;conv=>whnf
 refine bl ?_;exact⟨_,rfl,rfl⟩
def oZ(L:List Int):List Int:=(DH (Go.Sort.sort eF L.toArray)).toList
def AT:oZ []=[]:=by
 unfold oZ DH;have h:=xM (#[]:Array Int);have h2:=PJ (Go.Sort.sort eF #[]);have:Go.Lib.compactUpTo (Go.Sort.sort eF #[]) (Go.Sort.sort eF #[]).size=[]:=bL (by have:(#[]:Array Int).size=0:=rfl;omega);rw[this]
def xH(L:List Int):(oZ L).length<=L.length:=by
 unfold oZ DH;have h:=xM L.toArray;have h2:=PJ (Go.Sort.sort eF L.toArray);simp at h⊢;omega
def a6D(L:List Int)(h:L≠[]):oZ L≠[]:=by
 unfold oZ DH;have h1:=xM L.toArray;have h2:=XQ (Go.Sort.sort eF L.toArray) (by rw[h1];simp;exact gH.2 h);intro e;simp at e;rw[e]at h2;simp at h2
def CY:Pu 49 [.d (.nl 1)] (.d (.nl 1)):=by
 refine iC mix Tryz.func49 ?_
 repeat'(first|refine bl ?_|refine aF PG (bw ?_)|refine aF aFN (bw ?_)|refine aF RW (bw ?_))
 exact .one (.d (.nl 1))
def gC(i:Nat):Nat:=swp 0 500 (swp 1 501 i)
def gD(i:Nat):Nat:=swp 1 501 (swp 0 500 i)
def gCD(i:Nat):gD (gC i)=i:=by unfold gC gD;rw[fH,fH]
def gDC(i:Nat):gC (gD i)=i:=by unfold gC gD;rw[fH,fH]
def G8(d:Array Int)(h1:0<d.size)(hd:d.size<=2^40):aJ Tryz.prog 107 [.h 500] (aK [(500,iG d)]) (.ok (.h 501)) (aH (aK [(500,iG d)]) [(500,.dead),(501,iG (DH d))]):=by
 have k:=(VD d h1 hd).eZ gCD gDC;rw[rJ gCD gDC,tZ gCD gDC]at k;have e:lH gC [(0,iG d)]=[(500,iG d)]:=by
  simp only[lH,aG,bM,eT];rfl
 have e2:lH gC [(0,.dead),(1,iG (DH d))]=[(500,.dead),(501,iG (DH d))]:=by
  simp only[lH,aG,bM,eT];rfl
 rw[e,e2]at k;exact k
def WQ(L:List Int)(hL:L.length<=2^38)(h0:L≠[]):∀(m:Mem)(d:Nat),m d=none->aJ Tryz.prog 49 [.d (.sl 1 (iR L))] m (.ok (.h d)) (aX m d (dU 25 1 (iR (oZ L)))):=by
 refine iW mix (F:=A.h) (r:=dU 25 1 (iR (oZ L))) Tryz.func49 rfl kK (bD rfl) rfl (oJ _ _ _) (λ_ _=>rfl) (λi j hj=>by simpa [A.hs]using hj) (λg=>eT g _ _ _) ?_;have vZ:=xM L.toArray;have aWU:0<L.length:=gH.2 h0;have hLs:L.toArray.size=L.length:=sM
 repeat'(first|refine bl ?_|refine fQ (xW L hL h0) 500 rfl (bw ?_)|refine lN 500 (iG (Go.Sort.sort eF L.toArray)) ((Q5 L.toArray oM oM).AK (oJ _ _ _) (λg=>eT g _ _ _) (λg=>eT g _ _ _) rfl (by simp[A.lQ,A.hs]) (aK _) 500 rfl) (bw ?_)|refine dZ.mk (.h 501) [(500,.dead),(501,iG (DH (Go.Sort.sort eF L.toArray)))] (aJ.l8 (G8 _ oM oM) ⟨sn,tV⟩ ⟨rfl,tV⟩ ⟨aZ,tV⟩ ⟨.inl sn,.inr rfl,tV⟩) (bw ?_))
 exact⟨501,rfl,rfl⟩
def dl(L:List Int):A:=match L with
 |[]=>.d (.nl 1)
 |r::q=>.d (.sl 1 (iR (r::q)))
def W4.xB(x:W4):List Int:=(x.value.eI++jL x.names)++(x.values.map V.eI).flatten
def D4.oE(w:D4)(r:Int):List Int:=if w.aDH r≠0 then []else oZ (w.iI r).xB
def QC(w:D4)(hg:w.gA)(r:Int)(Q:A->List (Nat×R)->Prop)(q1:w.aDH r≠0->∀ml,Q (.eL [.d (.nl 1),.d (ci (w.aDH r))]) ml)(q2:w.aDH r=0->(w.iI r).xB=[]->∀ml,Q (.eL [.d (.nl 1),.d (ci 0)]) ml)
 (q3:w.aDH r=0->(w.iI r).xB≠[]->∀i ml,aK ml i=some (dU 25 1 (iR (oZ (w.iI r).xB)))->Q (.eL [.h i,.d (ci 0)]) ml):∀c,Tryz.f29.body=some c->vc Tryz.prog [] Tryz.f29.ntmps c (C9 0 [.d (.ip w.aT1),.d (ci r)]) [] 1 (JS Tryz.prog Tryz.f29 Q):=by
 intro c hc;cases hc
 repeat'(first|with_reducible (first|refine tG ?_|refine w9 ?_|refine nN.mk ?_)|((with_reducible refine wr ?_);(conv=>whnf))|((refine aF (SW w hg r) ?_);(conv=>whnf)))
 refine w1 (w1 ?_)
 repeat'(first|with_reducible (first|refine w2 ?_|refine w9 ?_|refine nN.mk ?_)|((with_reducible (first|refine wr ?_|refine wi ?_));(conv=>whnf))|((with_reducible refine nQ (λh=>?_) (λh=>?_))<;>(try rw[h])<;>(conv at h=>{simp})))
 ·skip
  refine bl ?_;exact q1 aM _
 have he:w.aDH r=0:=aM;have q2:=q2 he;have q3:=q3 he;have hx:(w.iI r).cR<=2^35:=by
  unfold D4.iI;cases hf:w.find r with
  |none=>exact bD rfl
  |some t=>exact hg.cR t (cT hf)
 generalize w.iI r=x at q2 q3 hx⊢;have hc:x.cR=x.value.cR+V.dB x.values+S4.dB x.code+x.names.length+V.dB (x.names.map (·.value)):=rfl;have wF:∀i(h:i<x.values.length),x.values[i].cR<=2^35:=λi h=>by have:=V.dG x.values i h;omega
 have hr0:=x.value.iY;have hvl:=V.eW x.values;have hr1:∀i,(((x.values.take i).map V.eI).flatten).length<=V.dB x.values:=λi=>cL (qN _) (V.kA _ _);have hr2:(jL x.names).length<=V.dB (x.names.map (·.value)):=by
  have h1:=qN (x.names.map (·.value));rw[bH]at h1;exact h1
 refine BH (λ_:Unit=>True) (λ_=>[(6,.lp 65 0),(8,lv 1 900 (iR (x.value.eI++jL x.names)))]) (λ_=>(65,.cells false (x.aT1.map A.d))::lm 900 25 1 (iR (x.value.eI++jL x.names)) []) 1000 ?_ ?_
 ·by_cases hv:x.value.eI=[]
  ·skip
   repeat'(first|refine bl ?_|refine jV (O4 x.value oM hv) (.cons (.agg x.value.aT1) .nil) (bw ?_)|refine cH (D0 x.names oM) (bw ?_))
   refine n8 (by simp only[aB];omega) kK ?_;conv=>whnf
   refine E9.mk (λh1=>?_) (λh1=>?_)
   ·have h1:jL x.names=[]:=by simpa using h1
    conv=>whnf
    refine bl ?_;refine⟨(),tV,?_⟩;rw[hv,h1];exact mZ
   ·have h1:jL x.names≠[]:=by simpa using h1
    conv=>whnf
    refine bl ?_;refine⟨(),tV,?_⟩;rw[hv,bZ];cases wV:jL x.names with
    |nil=>exact absurd wV h1
    |cons r0 Q0=>
     dsimp only[iR,List.map_cons,lv,lm];exact mv 153 900
     all_goals exact cO rfl rfl
  ·skip
   repeat'(first|refine bl ?_|refine xQ.fresh A.h (dU 25 1 (iR x.value.eI)) (λm d hd=>(O3 x.value oM hv m d hd).mR (.cons (.agg x.value.aT1) .nil)) rfl (bw ?_)|refine cH (D0 x.names oM) (bw ?_))
   refine n8 (by simp only[aB,bE];omega) kK ?_;conv=>whnf
   refine bl ?_;refine⟨(),tV,?_⟩;cases wV:x.value.eI with
   |nil=>exact absurd wV hv
   |cons r0 Q0=>
    dsimp only[iR,List.map_cons,List.cons_append,lv,lm];refine mq 153 900 ?_
    all_goals exact cO rfl (gG (r0::Q0) (jL x.names))
 rintro _ _;refine bl ?_;refine cY mix (λa:Nat×List Int=>a.1<=x.values.length/\a.2=(x.value.eI++jL x.names)++((x.values.take a.1).map V.eI).flatten) (I:=λa=>[(28,.d (.sl 5 (x.values.map V.row))),(29,.d (ci x.values.length)),(8,lv 1 900 (iR a.2)),(30,.d (ci a.1))])
  (J:=λa=>lm 900 25 1 (iR a.2) []) (μ:=λa=>x.values.length -a.1) 2000 (0,x.value.eI++jL x.names) 0
  (λQ:List Int=>Q=x.xB) (λQ=>[(8,dl Q)]) (λQ=>[]) 4000 ⟨sM,sM⟩ (by dsimp only;generalize x.value.eI++jL x.names=L1;cases L1<;>exact mZ) ?_ ?_
 ·rintro⟨i,Q⟩ ⟨hi,hQ⟩;dsimp only at hi hQ⊢;have hlen:Q.length<=2^36:=by
   have h1:=hr1 i;rw[hQ];simp only[aU];omega
  cases Q with
  |nil=>
   show vc _ _ _ _ _ [] _ _
   repeat'(first|refine bl ?_|refine bS (λh=>?_) (λh=>?_))
   ·refine eE V.cP rfl eD h ?_;have HG:(x.value.eI++jL x.names)++((x.values.take (i+1)).map V.eI).flatten=(x.value.eI++jL x.names)++((x.values.take i).map V.eI).flatten++x.values[i].eI:=by rw[iU V.eI x.values i h,<-List.append_assoc]
    conv=>whnf
    refine bl ?_;refine dR (jG x.values[i] (wF i h)) (.cons (.agg x.values[i].aT1) .nil) ?_;have hq:=x.values[i].iY;have WI:=wF i h;conv=>whnf
    skip
    refine n8 (by simp only[aB];omega) kK ?_;conv=>whnf
    refine E9.mk (λh1=>?_) (λh1=>?_)
    ·have h1:x.values[i].eI=[]:=by simpa using h1
     conv=>whnf
     refine bl ?_;refine⟨(i+1,[]),dM,⟨dM,by dsimp only;rw[HG,h1,dS,<-hQ]⟩,?_⟩;exact mZ
    ·have h1:x.values[i].eI≠[]:=by simpa using h1
     conv=>whnf
     refine bl ?_;refine⟨(i+1,x.values[i].eI),dM,⟨dM,by dsimp only;rw[HG,<-hQ,bZ]⟩,?_⟩;cases wV:x.values[i].eI with
     |nil=>exact absurd wV h1
     |cons r Q=>
      dsimp only[iR,List.map_cons,lv,lm];exact mv 2064 900
      all_goals first|exact cO rfl rfl|exact cO rfl (by rw[wV];rfl)
   ·rw[aI oM]at hQ;exact⟨[],hQ,mZ⟩
  |cons r Q=>
   show vc _ _ _ _ _ [(900,dU 25 1 (iR (r::Q))),] _ _
   repeat'(first|refine bl ?_|refine bS (λh=>?_) (λh=>?_))
   ·refine eE V.cP rfl eD h ?_;have HG:(x.value.eI++jL x.names)++((x.values.take (i+1)).map V.eI).flatten=(x.value.eI++jL x.names)++((x.values.take i).map V.eI).flatten++x.values[i].eI:=by rw[iU V.eI x.values i h,<-List.append_assoc]
    conv=>whnf
    refine bl ?_;refine dR (jG x.values[i] (wF i h)) (.cons (.agg x.values[i].aT1) .nil) ?_;have hq:=x.values[i].iY;have WI:=wF i h;conv=>whnf
    skip
    refine n8 (by simp only[aB,bE];omega) kK ?_;conv=>whnf
    refine bl ?_;refine⟨(i+1,r::(Q++x.values[i].eI)),dM,⟨dM,by dsimp only;rw[HG,<-hQ];rfl⟩,?_⟩;refine mq 2064 900 ?_
    all_goals exact cO rfl (gG (r::Q) x.values[i].eI)
   ·rw[aI oM]at hQ;exact⟨r::Q,hQ,cN.freeze [900] tV ⟨.rd (.dU (eX rfl rfl)),tV⟩ tV ⟨tV,tV⟩ tV⟩
 rintro Q hQ;subst hQ;have hlL:x.xB.length<=2^38:=by
  have h1:=hr1 x.values.length;rw[gX]at h1;unfold W4.xB;simp only[aU];omega
 cases hL:x.xB with
 |nil=>
  rw[hL]at q2
  repeat'(first|refine bl ?_|refine aF CY (bw ?_))
  exact q2 rfl _
 |cons r0 Q0=>
  rw[hL]at q3 hlL
  repeat'(first|refine bl ?_|refine fQ (WQ (r0::Q0) hlL sM) 5000 rfl (bw ?_))
  exact q3 sM 5000 _ rfl
def vN(h:w.aDH r=0):w.oE r=oZ (w.iI r).xB:=by unfold D4.oE;rw[aT7 (by simpa using h)]
def D8(h:w.aDH r≠0):w.oE r=[]:=by unfold D4.oE;rw[aUF h]
def a5R(w:D4)(hg:w.gA)(r:Int)(h0:w.oE r=[]):Pu 29 [.d (.ip w.aT1),.d (ci r)] (.eL [.d (.nl 1),.d (ci (w.aDH r))]):=by
 refine CV mix Tryz.func29 rfl kK (bD rfl) rfl (QC w hg r _ (λh ml=>?_) (λh h2 ml=>?_) (λh h2 i ml hi=>?_) _ rfl)
 ·exact .eL (cs:=[.nl 1,ci (w.aDH r)]) (.cons (.d _) (.cons (.d _) .nil))
 ·rw[h];exact .eL (cs:=[.nl 1,ci 0]) (.cons (.d _) (.cons (.d _) .nil))
 ·exact absurd ((vN h).symm.trans h0) (a6D _ h2)
def aDZ(w:D4)(hg:w.gA)(r:Int)(h0:w.oE r≠[]):∀(m:Mem)(d:Nat),m d=none->aJ Tryz.prog 29 [.d (.ip w.aT1),.d (ci r)] m (.ok (.eL [.h d,.d (ci 0)])) (aX m d (dU 25 1 (iR (w.oE r)))):=by
 refine iW mix (F:=λd=>.eL [.h d,.d (ci 0)]) (r:=dU 25 1 (iR (w.oE r))) Tryz.func29 rfl kK (bD rfl) rfl (oJ _ _ _) (λ_ _=>rfl) (λi j hj=>by simpa [A.hs,A.lQ]using hj) (λg=>eT g _ _ _) (QC w hg r _ (λh ml=>?_) (λh h2 ml=>?_) (λh h2 i ml hi=>?_) _ rfl)
 ·exact absurd (D8 h) h0
 ·exact absurd (by rw[vN h,h2,AT]) h0
 ·exact⟨i,rfl,by rw[vN h];exact hi⟩
def D4.aLX(w:D4)(r:Int):List Int:=w.oE r++w.nW r
def tP(w:D4)(r:Int):(w.nW r).length<=2:=by
 unfold D4.nW
 repeat' split
 all_goals simp
def N7(x:W4):x.xB.length<=x.cR:=by
 have h1:=x.value.iY;have h2:=qN x.values;have h3:=qN (x.names.map (·.value));rw[bH]at h3;have hc:x.cR=x.value.cR+V.dB x.values+S4.dB x.code+x.names.length+V.dB (x.names.map (·.value)):=rfl;unfold W4.xB jL;simp only[aU];have h4:((x.names.map λn=>n.value.eI).flatten).length<=V.dB (x.names.map (·.value)):=h3;omega
def aB0(w:D4)(hg:w.gA)(r:Int):(w.iI r).cR<=2^35:=by
 unfold D4.iI;cases hf:w.find r with
 |none=>exact bD rfl
 |some t=>exact hg.cR t (cT hf)
def AJ(w:D4)(hg:w.gA)(r:Int):(w.oE r).length<=2^35:=by
 by_cases h:w.aDH r=0
 ·rw[vN h];exact cL (xH _) (cL (N7 _) (aB0 w hg r))
 ·rw[D8 h];simp
def a53(w:D4)(hg:w.gA)(r:Int):Pu 47 [.d (.ip w.aT1),.d (ci r)] (.d (.sl 1 (iR (w.aLX r)))):=by
 have h1:=AJ w hg r;have h2:=tP w r;refine iC mix Tryz.func47 ?_;unfold D4.aLX;by_cases h0:w.oE r=[]
 ·rw[h0]
  repeat'(first|refine bl ?_|refine aF (a5R w hg r h0) (bw ?_)|refine aF (AM w hg r) (bw ?_))
  refine n8 (by simp only[aB];omega) kK ?_;conv=>whnf
  refine E9.mk (λh=>?_) (λh=>?_)
  ·have h:w.nW r=[]:=by simpa using h
   conv=>whnf
   refine bl ?_;rw[h];exact .one (.nz _ _)
  ·conv=>whnf
   refine bl ?_;exact .one (.dU (t:=25) rfl)
 ·skip
  repeat'(first|refine bl ?_|refine fQ (aDZ w hg r h0) 500 rfl (bw ?_)|refine aF (AM w hg r) (bw ?_))
  refine n8 (by simp only[aB,bE];omega) kK ?_;conv=>whnf
  refine bl ?_;exact .one (.dU (t:=25) (congrArg (λq=>some (R.fW false 25 1 q)) (gG _ _)))

def iZ(F:List (Int×Int)):List (Ky×A):=F.map λf=>(kI f.1,.d (ci f.2))
def cR(F:List (Int×Int))(r:Int):Int:=((F.find? λf=>decide (f.1=r)).map (·.2)).getD 0
def kJ(F:List (Int×Int))(r:Int):Bool:=(F.find? λf=>decide (f.1=r)).isSome
def xG(F:List (Int×Int))(r v:Int):List (Int×Int):=F.map λf=>if f.1=r then(r,v)else f
def mP:kJ F r=true↔r∈F.map (·.1):=by
 unfold kJ;rw[List.find?_isSome];constructor
 ·rintro⟨f,h1,h2⟩;exact aA4.2 ⟨f,h1,by simpa using h2⟩
 ·intro h;obtain⟨f,h1,rfl⟩:=aA4.1 h;exact⟨f,h1,sM⟩
def V1(F:List (Int×Int))(r:Int):fL (kI r) (iZ F)=(F.find? λf=>decide (f.1=r)).map λf=>.d (ci f.2):=wZ (λf:Int×Int=>f.1) (λf=>A.d (ci f.2)) r F
def P3(hk:KC.fits P kt (.int .i64 0)=true)(F:List (Int×Int)):kH P kt (kI r) (iZ F)=true:=aJ1 (λf:Int×Int=>f.1) (λf=>A.d (ci f.2)) r F hk
def lkC(hk:KC.fits P kt (.int .i64 0)=true)(h0:k1 (.d (ci 0))->k0)(h1:k1 (.d (ci (cR F r)))):n5 (kH P kt (kI r) (iZ F)) (fL (kI r) (iZ F)) k1 k0:=by
 have hf:=P3 (P:=P) (r:=r) hk F;have hg:=V1 F r;unfold cR at h1;cases h:F.find? λf=>decide (f.1=r)with
 |none=>rw[h]at hg h1;exact .BP hf hg (h0 h1)
 |some f=>rw[h]at hg h1;exact .CL _ hf hg h1
def lkE(e:kv=iZ F)(hk:KC.fits P kt (.int .i64 0)=true)(h0:k1 (.d (ci 0))->k0)(h1:k1 (.d (ci (cR F r)))):n5 (kH P kt (kI r) kv) (fL (kI r) kv) k1 k0:=by
 subst e;exact lkC hk h0 h1
def aBP{X1 X0:Prop}(hk:KC.fits P kt (.int .i64 0)=true)(h1:kJ F r=true->X1)(h0:kJ F r=false->X0):aB4 (kH P kt (kI r) (iZ F)) (fL (kI r) (iZ F)) X1 X0:=by
 have hf:=P3 (P:=P) (r:=r) hk F;have hg:=V1 F r;unfold kJ at h1 h0;cases h:F.find? λf=>decide (f.1=r)with
 |none=>rw[h]at hg h0;exact .BP hf hg (h0 rfl)
 |some f=>rw[h]at hg h1;exact .CL hf (by rw[hg];simp) (h1 rfl)
def EE(F:List (Int×Int))(r v:Int):((iZ F).map λp=>if p.1=kI r then(kI r,.d (ci v))else p)=iZ (xG F r v):=by
 unfold iZ xG;rw[bH,bH];refine cQ λf _=>?_;simp only[Function.comp];by_cases e:f.1=r
 ·simp[e]
 ·have:¬kI f.1=kI r:=by simp[kI,e]
  rw[aT7 this,aT7 e]
def vP(F:List (Int×Int))(r v:Int):iZ F++[(kI r,.d (ci v))]=iZ (F++[(r,v)]):=by simp[iZ]
def PQ(F:List (Int×Int))(r v q:Int)(h:kJ F r=true):cR (xG F r v) q=if q=r then v else cR F q:=by
 unfold cR xG;induction F with
 |nil=>simp[kJ]at h
 |cons f F ih=>
  rw[aG,eN,eN];by_cases e:f.1=r
  ·simp only[e,if_true];by_cases e2:q=r
   ·simp[e2]
   ·have:¬r=q:=λx=>e2 x.symm;simp only[this,decide_false,e2,if_false];clear ih h;induction F with
    |nil=>rfl
    |cons g F ih=>
     rw[aG,eN,eN];by_cases e3:g.1=r
     ·have:¬r=q:=λx=>e2 x.symm;simp only[e3,if_true,this,decide_false];exact ih
     ·simp only[e3,if_false];by_cases e4:g.1=q
      ·simp[e4]
      ·simp only[e4,decide_false];exact ih
  ·simp only[e,if_false];by_cases e2:f.1=q
   ·have:¬q=r:=λx=>e (e2.trans x);simp[e2,this]
   ·simp only[e2,decide_false];refine ih ?_;unfold kJ at h⊢;rw[eN]at h;simpa [e]using h
def PN(F:List (Int×Int))(r v q:Int)(h:kJ F r=false):cR (F++[(r,v)]) q=if q=r then v else cR F q:=by
 unfold cR;rw[y3];cases hq:F.find? λf=>decide (f.1=q)with
 |some f=>
  have:¬q=r:=by
   rintro rfl;unfold kJ at h;rw[hq]at h;cases h
  simp[this]
 |none=>
  simp only[Option.none_or,eN,List.find?_nil];by_cases e:q=r
  ·subst e;simp
  ·have:¬r=q:=λx=>e x.symm;simp[e,this]
def uC(F:List (Int×Int))(r:Int)(h:kJ F r=false):cR F r=0:=by
 unfold cR;unfold kJ at h;cases hq:F.find? λf=>decide (f.1=r)with
 |none=>rfl
 |some f=>rw[hq]at h;cases h
def rT(F:List (Int×Int))(r:Int)(h:kJ F r=true):∃f∈F,f.1=r/\f.2=cR F r:=by
 unfold cR;unfold kJ at h;cases hq:F.find? λf=>decide (f.1=r)with
 |none=>rw[hq]at h;cases h
 |some f=>exact⟨f,cT hq,by simpa using iD hq,rfl⟩
def aKD(F:List (Int×Int)):A.lQ ((iZ F).map (·.2))=[]:=by
 have e:(iZ F).map (·.2)=(F.map λf=>ci f.2).map A.d:=by unfold iZ;rw[bH,bH];rfl
 rw[e,wX]
def aEP:rB ml (R.mp fz (iZ F) []).hs:=by
 show rB _ (A.lQ ((iZ F).map (·.2))++[]);rw[aKD];trivial
def KS{i:Nat}{g:Nat->Nat}(h:aK ml i=some (.mp fz kv []))(he:kv=iZ F):(aK ml i).map (R.eZ g)=some (.mp fz (iZ F) []):=by
 rw[h,he];show some (R.mp fz ((iZ F).map λp=>(p.1,p.2.eZ g)) [])=_;congr 2;unfold iZ;rw[bH];rfl
def B8(b:UInt8):Bool:=!((decide ((b.toNat:Int)<97)||decide (122<(b.toNat:Int)))&&(decide ((b.toNat:Int)<48)||decide (57<(b.toNat:Int))))
def gN(s:ByteArray):Bool:=match s.data.toList with
 |[]=>false
 |b::r=>decide (s.size<=32)&&(decide (97<=(b.toNat:Int))&&decide ((b.toNat:Int)<=122))&&(b::r).all B8
def aM2(s:ByteArray)(i:Nat)(b:UInt8)(h:s.data.toList[i]?=some b):s[i]?=some b:=by
 have cX:i<s.data.toList.length:=(bA.1 h).1;have aW3:i<s.size:=by simpa using cX
 rw[getElem?_pos s i aW3];have:s[i]=s.data[i]:=rfl;rw[this];rw[aC cX]at h;simpa using h
def YX(b:UInt8):B8 b=true↔((97<=(b.toNat:Int)/\(b.toNat:Int)<=122)\/(48<=(b.toNat:Int)/\(b.toNat:Int)<=57)):=by
 simp only[B8,eC,gI,Bool.or_eq_false_iff,aU1];omega
def lF(s:ByteArray):Pu 187 [.d (.v (.string s))] (.d (cb (gN s))):=by
 refine iC mix Tryz.func187 ?_;cases hd:s.data.toList with
 |nil=>
  have hz:s={data:= #[]}:=by rw[EL];have:=congrArg List.length hd;simpa using this
  have hn:gN s=false:=by unfold gN;rw[hd]
  rw[hn];subst hz;refine bl ?_
  all_goals exact dP rfl
 |cons b0 r=>
  have vZ:s.size=r.length+1:=by have:=congrArg List.length hd;simpa using this
  have hZ:¬s={data:= #[]}:=by rw[EL];omega
  have hn:gN s=(decide (s.size<=32)&&(decide (97<=(b0.toNat:Int))&&decide ((b0.toNat:Int)<=122))&&(b0::r).all B8):=by unfold gN;rw[hd]
  have hg:s[(0:Int).toNat]?=some b0:=aM2 s 0 b0 (by rw[hd];rfl);rw[hn]
  repeat'(first|refine bl ?_|refine bS (λh=>?_) (λh=>?_)|refine aJL.mk b0 eD hg kK (bw ?_))
  ·exact absurd aM hZ
  ·refine dP ?_;rw[aU0 (by omega:¬s.size<=32)];rfl
  ·refine dP ?_;rw[aU0 (by omega:¬(97:Int)<=b0.toNat)];simp
  ·refine dP ?_;rw[aU0 (by omega:¬(b0.toNat:Int)<=122)];simp
  rw[aUZ (by omega:s.size<=32),aUZ (by omega:(97:Int)<=b0.toNat),aUZ (by omega:(b0.toNat:Int)<=122),cA,cA];refine xR.mk kK ?_;conv=>whnf
  refine bl ?_;have hbc:FH s=(b0::r).map λb=>[.v (.int .u8 b.toNat)]:=by unfold FH;rw[hd]
  rw[hbc];generalize hl:b0::r=l;have hll:l.length<=32:=by rw[<-hl,aQ];omega
  refine bV mix (λi:Nat=>i<=l.length/\(l.take i).all B8=true) (I:=λi=>[(23,.d (.sl 1 (l.map λb=>[.v (.int .u8 b.toNat)]))),(24,.d (ci l.length)),(25,.d (ci i))])
   (J:=λi=>[]) (μ:=λi=>l.length -i) 1000 0 ⟨oM,sM⟩ mZ ?_
  rintro i ⟨hi,h0⟩
  repeat'(first|refine bl ?_|refine bS (λh=>?_) (λh=>?_)|refine cD rfl eD aM (bw ?_))
  all_goals first
   |(have cX:i<l.length:=by assumption
     refine⟨i+1,oM,⟨oM,?_⟩,mZ⟩;rw[aT cX,gQ,h0,cA];simp only[o9,List.all_nil,o6]
     rw[YX];omega)
   |(have cX:i<l.length:=by assumption
     refine dP ?_;have:l.all B8=false:=by
      rw[iA];exact⟨l[i],aY cX,by rw[YX];omega⟩
     rw[this];rfl)
   |(rw[aI oM]at h0
     rw[h0];exact dP rfl)
abbrev sR(L:List ByteArray):List (List C):=L.map λs=>[.v (.string s)]
abbrev kS(s:ByteArray):Ky:=.one (.str s)
def J9{α:Type}(key:α->ByteArray)(val:α->A)(r:ByteArray):∀L:List α,fL (kS r) (L.map λt=>(kS (key t),val t))=(L.find? λt=>decide (key t=r)).map val
 |[]=>rfl
 |t::L=>by
  simp only[aG,fL,eN];by_cases h:key t=r
  ·simp[h]
  ·have:¬kS r=kS (key t):=by simp[kS];exact λe=>h e.symm
   simp only[this,if_false,h,decide_false];exact J9 key val r L
def aND{α:Type}(key:α->ByteArray)(val:α->A)(r:ByteArray)(L:List α)(hk:KC.fits P kt (.str ByteArray.empty)=true):kH P kt (kS r) (L.map λt=>(kS (key t),val t))=true:=by
 have h1:(kS r).fits P kt=true:=hk;unfold kH;rw[h1,cA,cV];intro p hp;obtain⟨t,_,rfl⟩:=aA4.1 hp;rfl
def MA(F:List (ByteArray×Int)):List (Ky×A):=F.map λf=>(kS f.1,.d (ci f.2))
def xX(F:List (ByteArray×Int))(r:ByteArray):Int:=((F.find? λf=>decide (f.1=r)).map (·.2)).getD 0
def CK(F:List (ByteArray×Int))(r:ByteArray):Bool:=(F.find? λf=>decide (f.1=r)).isSome
def Y4(F:List (ByteArray×Int))(r:ByteArray)(v:Int):List (ByteArray×Int):=F.map λf=>if f.1=r then(r,v)else f
def SY{F:List (ByteArray×Int)}{r:ByteArray}:CK F r=true↔r∈F.map (·.1):=by
 unfold CK;rw[List.find?_isSome];constructor
 ·rintro⟨f,h1,h2⟩;exact aA4.2 ⟨f,h1,by simpa using h2⟩
 ·intro h;obtain⟨f,h1,rfl⟩:=aA4.1 h;exact⟨f,h1,sM⟩
def aDW(F:List (ByteArray×Int))(r:ByteArray):fL (kS r) (MA F)=(F.find? λf=>decide (f.1=r)).map λf=>.d (ci f.2):=J9 (λf:ByteArray×Int=>f.1) (λf=>A.d (ci f.2)) r F
def X9{r:ByteArray}(hk:KC.fits P kt (.str ByteArray.empty)=true)(F:List (ByteArray×Int)):kH P kt (kS r) (MA F)=true:=aND (λf:ByteArray×Int=>f.1) (λf=>A.d (ci f.2)) r F hk
def aL3{F:List (ByteArray×Int)}{r:ByteArray}(hk:KC.fits P kt (.str ByteArray.empty)=true)(h0:k1 (.d (ci 0))->k0)(h1:k1 (.d (ci (xX F r)))):n5 (kH P kt (kS r) (MA F)) (fL (kS r) (MA F)) k1 k0:=by
 have hf:=X9 (P:=P) (r:=r) hk F;have hg:=aDW F r;unfold xX at h1;cases h:F.find? λf=>decide (f.1=r)with
 |none=>rw[h]at hg h1;exact .BP hf hg (h0 h1)
 |some f=>rw[h]at hg h1;exact .CL _ hf hg h1
def aL4{F:List (ByteArray×Int)}{r:ByteArray}(e:kv=MA F)(hk:KC.fits P kt (.str ByteArray.empty)=true)(h0:k1 (.d (ci 0))->k0)(h1:k1 (.d (ci (xX F r)))):n5 (kH P kt (kS r) kv) (fL (kS r) kv) k1 k0:=by
 subst e;exact aL3 hk h0 h1
def aMG{F:List (ByteArray×Int)}{r:ByteArray}{X1 X0:Prop}(hk:KC.fits P kt (.str ByteArray.empty)=true)(h1:CK F r=true->X1)(h0:CK F r=false->X0):aB4 (kH P kt (kS r) (MA F)) (fL (kS r) (MA F)) X1 X0:=by
 have hf:=X9 (P:=P) (r:=r) hk F;have hg:=aDW F r;unfold CK at h1 h0;cases h:F.find? λf=>decide (f.1=r)with
 |none=>rw[h]at hg h0;exact .BP hf hg (h0 rfl)
 |some f=>rw[h]at hg h1;exact .CL hf (by rw[hg];simp) (h1 rfl)
def aHU(F:List (ByteArray×Int))(r:ByteArray)(v:Int):((MA F).map λp=>if p.1=kS r then(kS r,.d (ci v))else p)=MA (Y4 F r v):=by
 unfold MA Y4;rw[bH,bH];refine cQ λf _=>?_;simp only[Function.comp];by_cases e:f.1=r
 ·simp[e]
 ·have:¬kS f.1=kS r:=by simp[kS,e]
  rw[aT7 this,aT7 e]
def YS(F:List (ByteArray×Int))(r:ByteArray)(v:Int):MA F++[(kS r,.d (ci v))]=MA (F++[(r,v)]):=by simp[MA]
def aCF(F:List (ByteArray×Int))(r:ByteArray)(v:Int)(q:ByteArray)(h:CK F r=true):xX (Y4 F r v) q=if q=r then v else xX F q:=by
 unfold xX Y4;induction F with
 |nil=>simp[CK]at h
 |cons f F ih=>
  rw[aG,eN,eN];by_cases e:f.1=r
  ·simp only[e,if_true];by_cases e2:q=r
   ·simp[e2]
   ·have:¬r=q:=λx=>e2 x.symm;simp only[this,decide_false,e2,if_false];clear ih h;induction F with
    |nil=>rfl
    |cons g F ih=>
     rw[aG,eN,eN];by_cases e3:g.1=r
     ·have:¬r=q:=λx=>e2 x.symm;simp only[e3,if_true,this,decide_false];exact ih
     ·simp only[e3,if_false];by_cases e4:g.1=q
      ·simp[e4]
      ·simp only[e4,decide_false];exact ih
  ·simp only[e,if_false];by_cases e2:f.1=q
   ·have:¬q=r:=λx=>e (e2.trans x);simp[e2,this]
   ·simp only[e2,decide_false];refine ih ?_;unfold CK at h⊢;rw[eN]at h;simpa [e]using h
def aCE(F:List (ByteArray×Int))(r:ByteArray)(v:Int)(q:ByteArray)(h:CK F r=false):xX (F++[(r,v)]) q=if q=r then v else xX F q:=by
 unfold xX;rw[y3];cases hq:F.find? λf=>decide (f.1=q)with
 |some f=>
  have:¬q=r:=by
   rintro rfl;unfold CK at h;rw[hq]at h;cases h
  simp[this]
 |none=>
  simp only[Option.none_or,eN,List.find?_nil];by_cases e:q=r
  ·subst e;simp
  ·have:¬r=q:=λx=>e x.symm;simp[e,this]
def PM(F:List (ByteArray×Int))(r:ByteArray)(h:CK F r=false):xX F r=0:=by
 unfold xX;unfold CK at h;cases hq:F.find? λf=>decide (f.1=r)with
 |none=>rfl
 |some f=>rw[hq]at h;cases h
def RT(F:List (ByteArray×Int))(r:ByteArray)(h:CK F r=true):∃f∈F,f.1=r/\f.2=xX F r:=by
 unfold xX;unfold CK at h;cases hq:F.find? λf=>decide (f.1=r)with
 |none=>rw[hq]at h;cases h
 |some f=>exact⟨f,cT hq,by simpa using iD hq,rfl⟩
def aNH{i:Nat}{g:Nat->Nat}{F:List (ByteArray×Int)}(h:aK ml i=some (.mp fz kv []))(he:kv=MA F):(aK ml i).map (R.eZ g)=some (.mp fz (MA F) []):=by
 rw[h,he];show some (R.mp fz ((MA F).map λp=>(p.1,p.2.eZ g)) [])=_;congr 2;unfold MA;rw[bH];rfl
def aDJ{F:List (ByteArray×Int)}:rB ml (R.mp fz (MA F) []).hs:=by
 have e:(MA F).map (·.2)=(F.map λf=>ci f.2).map A.d:=by unfold MA;rw[bH,bH];rfl
 show rB _ (A.lQ ((MA F).map (·.2))++[]);rw[e,wX];trivial
def UT(L:List ByteArray)(hL:L.length<=2^38):Pu 188 [.d (.sl 1 (sR L))] (.d (cb (!decide L.Nodup))):=by
 refine iC mix Tryz.func188 ?_;refine bl ?_;refine bV mix (λs:Nat×List (ByteArray×Int)=>s.1<=L.length/\s.2.map (·.1)=L.take s.1/\(∀f∈s.2,f.2=1)/\(L.take s.1).Nodup) (I:=λs=>[(3,.h 9),(7,.d (.sl 1 (sR L))),(8,.d (ci L.length)),(9,.d (ci s.1))])
  (J:=λs=>[(9,.mp false (MA s.2) [])]) (μ:=λs=>L.length -s.1) 1000 (0,[]) ⟨sM,sM,sM,sM⟩ mZ ?_
 rintro⟨i,F⟩ ⟨h1,h2,h3,h4⟩;dsimp only at h1 h2 h3 h4⊢;have hcb:∀r,0<=xX F r/\xX F r<=1:=λr=>by
  cases hh:CK F r with
  |true=>obtain⟨f,g1,g2,g3⟩:=RT F r hh;have:=h3 f g1;omega
  |false=>rw[PM F r hh];omega
 repeat'(first|refine bl ?_|refine bS (λh=>?_) (λh=>?_)|refine cD rfl eD aM (bw ?_))
 ·have cX:i<L.length:=aM;have TW:=hcb L[i];have J3:=aT cX;have hme:L[i]∈L.take i->¬L.Nodup:=λhm hn=>by
   obtain⟨j,hj,e⟩:=dH.1 hm;rw[cW]at hj;rw[aGO]at e;have:=(a4A hn).1 e;omega
  generalize L[i]=s at TW J3 hme⊢;refine aL3 eD (λh=>h) ?_;conv=>whnf
  refine bl ?_;refine aMG eD (λhh=>?_) (λhh=>?_)
  ·conv=>whnf
   repeat'(first|refine bl ?_|refine bS (λh=>?_) (λh=>?_)|refine aL4 (aHU F s (xX F s+1)) eD (λh=>h) (bw ?_))
   ·have hm:s∈L.take i:=by rw[<-h2];exact SY.1 hh
    rw[aU0 (hme hm)];exact dP rfl
   ·exfalso;rw[aCF F s _ s hh,aUF rfl]at h;obtain⟨f,hf,_,g3⟩:=RT F s hh;have:=h3 f hf;omega
  ·conv=>whnf
   repeat'(first|refine bl ?_|refine bS (λh=>?_) (λh=>?_)|refine aL4 (YS F s (xX F s+1)) eD (λh=>h) (bw ?_))
   ·exfalso;rw[aCE F s _ s hh,aUF rfl,PM F s hh]at h;omega
   ·have hns:s∉L.take i:=λe=>by rw[<-h2]at e;rw[SY.2 e]at hh;cases hh
    refine⟨(i+1,F++[(s,xX F s+1)]),dM,⟨dM,by dsimp only;rw[bP,h2,J3];rfl,?_,?_⟩,?_⟩
    ·dsimp only;intro f hf;rcases bN.1 hf with hf|hf
     ·exact h3 f hf
     ·rw[aR.1 hf,PM F s hh];rfl
    ·dsimp only;rw[J3];refine iS.2 ⟨h4,sM,λx hx y hy e=>?_⟩;rw[aR.1 hy]at e;exact hns (e▸hx)
    ·have aZJ:=YS F s (xX F s+1)
     (refine cN.swap 5000 5001 ?_ ?_ ?_ ?_ ?_<;>repeat'(first|exact aW|exact rfl|exact sn|refine bI ?_ ?_))
     all_goals first|exact aDJ|exact aNH rfl aZJ
 ·rw[aI oM]at h4;rw[aUZ h4];exact dP rfl
def BA(N:List N4):Bool:=decide (N.length<=64)&&(N.all (λn=>gN n.name&&n.value.may)&&decide ((N.map (·.name)).Nodup))
def dlS(L:List ByteArray):A:=match L with
 |[]=>.d (.nl 1)
 |r::q=>.d (.sl 1 (sR (r::q)))
def aBI(L M:List ByteArray):bE (sR L)++bE (sR M)=bE (sR (L++M)):=by simp[bE]
def TM(N:List N4)(hN:V.dB (N.map (·.value))<=2^35)(hl:N.length<=2^38):Pu 159 [.d (.sl 6 (N.map N4.aT1))] (.d (cb (BA N))):=by
 have hnb:∀i(h:i<N.length),N[i].value.cR<=2^40:=λi h=>by
  have:=V.dG (N.map (·.value)) i (by simpa using h);rw[fO]at this;omega
 refine iC mix Tryz.func159 ?_
 repeat'(first|refine bl ?_|refine bS (λh=>?_) (λh=>?_))
 ·refine dP ?_;unfold BA;rw[aU0 oM];rfl
 have h64:N.length<=64:=oM;refine cY mix (λi:Nat=>i<=N.length/\(N.take i).all (λn=>gN n.name&&n.value.may)=true) (I:=λi=>[(9,.d (.sl 6 (N.map N4.aT1))),(10,.d (ci N.length)),(3,lv 1 900 (sR ((N.take i).map (·.name)))),(11,.d (ci i))])
  (J:=λi=>lm 900 9 1 (sR ((N.take i).map (·.name))) []) (μ:=λi=>N.length -i) 2000 0 0
  (λ_:Unit=>N.all (λn=>gN n.name&&n.value.may)=true) (λ_=>[(3,dlS (N.map (·.name)))]) (λ_=>[]) 4000 ⟨oM,sM⟩ mZ ?_ ?_
 ·rintro i ⟨hi,h0⟩;generalize hQ:(N.take i).map (·.name)=Q;have hQl:Q.length<=64:=by rw[<-hQ];simp;omega
  have pG:∀(h:i<N.length),(gN N[i].name&&N[i].value.may)=false->BA N=false:=λh e=>by
   unfold BA;have:N.all (λn=>gN n.name&&n.value.may)=false:=by
    rw[iA];exact⟨N[i],aY h,by simp[e]⟩
   rw[this];simp
  have aX9:∀(h:i<N.length),(gN N[i].name&&N[i].value.may)=true->(N.take (i+1)).all (λn=>gN n.name&&n.value.may)=true/\(N.take (i+1)).map (·.name)=Q++[N[i].name]:=λh e=>by
   rw[aT h,gQ,h0,bP,hQ];simp[e]
  cases Q with
  |nil=>
   show vc _ _ _ _ _ [] _ _
   repeat'(first|refine bl ?_|refine bS (λh=>?_) (λh=>?_)|refine cD rfl eD aM (bw ?_)|refine aF (lF _) (bw ?_)|refine dR (AL N[i].value (hnb i aM)) (.cons (.agg N[i].value.aT1) .nil) (bw ?_))
   ·exact dP (pG aM (by simp_all)).symm
   ·exact dP (pG aM (by simp_all)).symm
   ·obtain⟨y1,y2⟩:=aX9 aM (by simp_all);refine n8 sM kK ?_;conv=>whnf
    refine E9.mk (λh=>by cases h) (λh=>?_);conv=>whnf
    refine bl ?_;refine⟨i+1,oM,⟨oM,y1⟩,?_⟩;rw[y2];exact mv 2152 900
    all_goals exact cO rfl rfl
   ·rw[aI oM]at h0 hQ;refine⟨(),h0,?_⟩;rw[hQ];exact mZ
  |cons q0 Q=>
   show vc _ _ _ _ _ [(900,dU 9 1 (sR (q0::Q)))] _ _
   repeat'(first|refine bl ?_|refine bS (λh=>?_) (λh=>?_)|refine cD rfl eD aM (bw ?_)|refine aF (lF _) (bw ?_)|refine dR (AL N[i].value (hnb i aM)) (.cons (.agg N[i].value.aT1) .nil) (bw ?_))
   ·exact dP (pG aM (by simp_all)).symm
   ·exact dP (pG aM (by simp_all)).symm
   ·obtain⟨y1,y2⟩:=aX9 aM (by simp_all);simp only[aQ]at hQl;refine n8 (by simp only[aB,bE,aQ,cE,aS];omega) kK ?_;conv=>whnf
    refine bl ?_;refine⟨i+1,oM,⟨oM,y1⟩,?_⟩;rw[y2];refine mq 2152 900 ?_
    all_goals exact cO rfl (aBI (q0::Q) [N[i].name])
   ·rw[aI oM]at h0 hQ;refine⟨(),h0,?_⟩;rw[hQ];exact cN.freeze [900] tV ⟨.rd (.dU (eX rfl rfl)),tV⟩ tV ⟨tV,tV⟩ trivial
 rintro _ aWV;have aWW:BA N=decide ((N.map (·.name)).Nodup):=by unfold BA;rw[aWV,aUZ h64];simp
 have htw:=UT (N.map (·.name)) (by simp only[aB];omega);rw[aWW];generalize N.map (·.name)=LL at htw⊢;cases LL with
 |nil=>
  repeat'(first|refine bl ?_|refine dR htw (.cons (.nl _ _) .nil) (bw ?_))
  exact dP sM
 |cons l0 LL=>
  repeat'(first|refine bl ?_|refine aF htw (bw ?_))
  exact dP sM
def E4.sV(v:E4):Bool:=decide (v.kind=0/\v.n=0/\v.s.size=0/\v.l.length=0)
def wS(v:E4):Pu 238 [.d (.agg v.aT1)] (.d (cb v.sV)):=by
 refine iC mix Tryz.func238 ?_
 repeat'(first|refine bl ?_|refine bS (λh=>?_) (λh=>?_))
 all_goals(refine dP ?_;simp_all[E4.sV,EL])
mutual
def E4.me:E4->Int->Int->Bool×Int
 |.mk k n s l,p,d=>if p -1<0\/(k≠1/\n≠0)\/(k≠3/\l.length≠0)\/(k≠2/\k≠4/\s.size≠0)then(false,p -1)else if k=1 then(true,p -1)else if k=2 then(decide (s.size<=256),p -1)else if k=4 then(gN s,p -1)else if k=3/\0<d then E4.A9 l (p -1) (d -1)else(false,p -1)
def E4.A9:List E4->Int->Int->Bool×Int
 |[],n,_=>(true,n)
 |v::r,n,d=>match E4.me v n d with
  |(false,n')=>(false,n')
  |(true,n')=>E4.A9 r n' d
end
def E4.GB(v:E4)(p d:Int):v.me p d=if p -1<0\/(v.kind≠1/\v.n≠0)\/(v.kind≠3/\v.l.length≠0)\/(v.kind≠2/\v.kind≠4/\v.s.size≠0)then(false,p -1)else if v.kind=1 then(true,p -1)else if v.kind=2 then(decide (v.s.size<=256),p -1)else if v.kind=4 then(gN v.s,p -1)else if v.kind=3/\0<d then E4.A9 v.l (p -1) (d -1)else(false,p -1):=by cases v;rw[E4.me];rfl
mutual
def E4.aL7:∀(v:E4)(p d:Int),0<=p->p<=512->-1<=(v.me p d).2/\(v.me p d).2<=512/\((v.me p d).1=true->0<=(v.me p d).2)
 |.mk k n s l,p,d,h0,h1=>by
  rw[E4.me];by_cases hc:p -1<0\/(k≠1/\n≠0)\/(k≠3/\l.length≠0)\/(k≠2/\k≠4/\s.size≠0)
  ·rw[aUF hc];simp;omega
  ·rw[aT7 hc];have hp:¬p -1<0:=λh=>hc (.inl h);have ih:=E4.V3 l (p -1) (d -1) oM oM
   repeat' split
   all_goals first|exact ih|(simp;omega)
def E4.V3:∀(l:List E4)(p d:Int),0<=p->p<=512->-1<=(E4.A9 l p d).2/\(E4.A9 l p d).2<=512/\((E4.A9 l p d).1=true->0<=(E4.A9 l p d).2)
 |[],n,d,h0,h1=>by rw[E4.A9];simp;omega
 |v::r,n,d,h0,h1=>by
  rw[E4.A9];have h2:=E4.aL7 v n d h0 h1;generalize E4.me v n d=q at h2⊢;obtain⟨b,m⟩:=q;cases b with
  |false=>simpa using⟨h2.1,h2.2.1⟩
  |true=>exact E4.V3 r m d (h2.2.2 rfl) h2.2.1
end
def E4.KN:List E4->Int->Int->Int->Int
 |[],_,_,_=>-1
 |v::r,n,d,i=>match E4.me v n d with
  |(false,_)=>i
  |(true,n')=>E4.KN r n' d (i+1)
def E4.TN:∀(l:List E4)(i:Nat)(h:i<l.length)(n d n':Int),E4.A9 (l.take i) n d=(true,n')->E4.A9 (l.take (i+1)) n d=E4.me l[i] n' d
 |v::r,0,h,n,d,n',e=>by
  simp only[fD,E4.A9,aD,true_and]at e;subst e;simp only[cC,fD,E4.A9,eK];generalize E4.me v n d=q;obtain⟨b,x⟩:=q;cases b<;>rfl
 |v::r,i+1,h,n,d,n',e=>by
  simp only[cC,E4.A9,cJ]at e⊢;generalize E4.me v n d=q at e⊢;obtain⟨b,x⟩:=q;cases b with
  |false=>simp at e
  |true=>exact E4.TN r i (by simpa using h) x d n' e
def E4.OA:∀(l:List E4)(i:Nat)(n d n':Int),E4.A9 (l.take i) n d=(false,n')->E4.A9 l n d=(false,n')
 |[],i,n,d,n',e=>by simpa using e
 |v::r,0,n,d,n',e=>by simp[E4.A9]at e
 |v::r,i+1,n,d,n',e=>by
  simp only[cC,E4.A9]at e⊢;generalize E4.me v n d=q at e⊢;obtain⟨b,x⟩:=q;cases b with
  |false=>exact e
  |true=>exact E4.OA r i x d n' e
def E4.YN:∀(l:List E4)(i:Nat)(h:i<l.length)(n d n' m k:Int),E4.A9 (l.take i) n d=(true,n')->E4.me l[i] n' d=(false,m)->E4.KN l n d k=k+i
 |v::r,0,h,n,d,n',m,k,e,e2=>by
  simp only[fD,E4.A9,aD,true_and]at e;subst e;simp only[eK]at e2;rw[E4.KN,e2];simp
 |v::r,i+1,h,n,d,n',m,k,e,e2=>by
  simp only[cC,E4.A9,cJ]at e e2;rw[E4.KN];generalize E4.me v n d=q at e⊢;obtain⟨b,x⟩:=q;cases b with
  |false=>simp at e
  |true=>
   have:=E4.YN r i (by simpa using h) x d n' m (k+1) e e2;simp only[this];omega
def E4.YO:∀(l:List E4)(n d n' k:Int),E4.A9 l n d=(true,n')->E4.KN l n d k=-1
 |[],n,d,n',k,e=>rfl
 |v::r,n,d,n',k,e=>by
  rw[E4.A9]at e;rw[E4.KN];generalize E4.me v n d=q at e⊢;obtain⟨b,x⟩:=q;cases b with
  |false=>simp at e
  |true=>exact E4.YO r x d n' (k+1) e
def E4.N9:∀(l:List E4)(n d k:Int),0<=k->decide (0<=E4.KN l n d k)=!(E4.A9 l n d).1
 |[],n,d,k,hk=>by simp[E4.KN,E4.A9]
 |v::r,n,d,k,hk=>by
  rw[E4.KN,E4.A9];generalize E4.me v n d=q;obtain⟨b,x⟩:=q;cases b with
  |false=>simpa using hk
  |true=>exact E4.N9 r x d (k+1) oM
def KK(n d:Int):List (Nat×R):=[(0,fV n),(108,.cells false [.lp 0 0]),(116,fV d)]
def MO(k:FuncId)(L:List E4)(n d:Int)(h0:0<=n)(h1:n<=512)(hf:∀i(h:i<L.length),∀n,0<=n->n<=512->aJ Tryz.prog k [.d (.agg L[i].aT1),.lp 108 0,.lp 116 0] (aK (KK n d)) (.ok (.d (cb (!(L[i].me n (d -1)).1)))) (aH (aK (KK n d)) [(0,fV (L[i].me n (d -1)).2)]))(hL:L.length<=2^40):
 aJ Tryz.prog 227 [.d (.sl 4 (L.map E4.row)),.fn (.func k) [] [.lp 108 0,.lp 116 0]] (aK (KK n d)) (.ok (.d (ci (E4.KN L n (d -1) 0)))) (aH (aK (KK n d)) [(0,fV (E4.A9 L n (d -1)).2)]):=by
 refine wE mix 200 Tryz.func227 tV ⟨tV,tV⟩ ?_;refine bl ?_;refine bV mix (λa:Nat×Int=>a.1<=L.length/\E4.A9 (L.take a.1) n (d -1)=(true,a.2)) (I:=λa=>[(0,.d (.sl 4 (L.map E4.row))),(1,.fn (.func k) [] [.lp 108 0,.lp 116 0]),(7,.d (ci L.length)),(8,.d (ci a.1))])
  (J:=λa=>KK a.2 d) (μ:=λa=>L.length -a.1) 100 (0,n) ⟨dM,rfl⟩ mZ ?_
 rintro⟨i,q⟩ ⟨hi,hq⟩;have hb:=E4.V3 (L.take i) n (d -1) h0 h1;rw[hq]at hb;dsimp only at hi hq hb⊢;have hq0:=hb.2.2 rfl
 repeat'(first|refine bl ?_|refine bS (λh=>?_) (λh=>?_))
 ·refine eE E4.cP rfl eD aM ?_;conv=>whnf
  skip
  have hc:=hf i aM q hq0 hb.2.1;have HG:=E4.TN L i aM n (d -1) q hq;generalize hz:E4.me L[i] q (d -1)=z at hc HG;obtain⟨b,m⟩:=z;refine dZ.mk (.d (cb (!b))) [(0,fV m)] (aJ.l8 hc ⟨sn,sn,tV⟩ ⟨rfl,rfl,rfl,tV⟩ ⟨tV,⟨sn,tV⟩,tV,tV⟩ ⟨.inl sn,tV⟩) ?_;conv=>whnf
  cases b with
  |false=>
   refine bl ?_;refine dA ?_ ⟨.inr ?_,.inl rfl,.inr rfl,.inr rfl,tV⟩
   ·rw[E4.YN L i aM n (d -1) q m 0 hq hz];simp
   ·rw[E4.OA L (i+1) n (d -1) m HG];rfl
  |true=>
   refine bl ?_;refine⟨(i+1,m),dM,⟨dM,HG⟩,?_⟩;exact mZ
 ·rw[aI oM]at hq;refine dA ?_ ⟨.inr ?_,.inl rfl,.inr rfl,.inr rfl,tV⟩
  ·rw[E4.YO L n (d -1) q 0 hq]
  ·rw[hq];rfl
def FM(k:FuncId)(L:List E4)(n d:Int)(h0:0<=n)(h1:n<=512)(hf:∀i(h:i<L.length),∀n,0<=n->n<=512->aJ Tryz.prog k [.d (.agg L[i].aT1),.lp 108 0,.lp 116 0] (aK (KK n d)) (.ok (.d (cb (!(L[i].me n (d -1)).1)))) (aH (aK (KK n d)) [(0,fV (L[i].me n (d -1)).2)]))(hL:L.length<=2^40):
 aJ Tryz.prog 205 [.d (.sl 4 (L.map E4.row)),.fn (.func k) [] [.lp 108 0,.lp 116 0]] (aK (KK n d)) (.ok (.d (cb (!(E4.A9 L n (d -1)).1)))) (aH (aK (KK n d)) [(0,fV (E4.A9 L n (d -1)).2)]):=by
 refine wE mix 200 Tryz.func205 tV ⟨tV,tV⟩ ?_;refine bl ?_;refine dZ.mk (.d (ci (E4.KN L n (d -1) 0))) [(0,fV (E4.A9 L n (d -1)).2)] (aJ.l8 (MO k L n d h0 h1 hf hL) ⟨sn,sn,tV⟩ ⟨rfl,rfl,rfl,tV⟩ ⟨tV,⟨sn,tV⟩,tV,tV⟩ ⟨.inl sn,tV⟩) ?_;conv=>whnf
 refine bl ?_;refine dA ?_ ⟨.inr rfl,.inl rfl,.inr rfl,.inr rfl,tV⟩;rw[<-E4.N9 L n (d -1) 0 oM]
def TL(v:E4)(n d:Int)(h0:0<=n)(h1:n<=512)(hd:1<=d)(hd2:d<=100)(hf:aJ Tryz.prog 255 [.d (.agg v.aT1),.lp 0 0,.d (ci (d -1))] (aK [(0,fV n)]) (.ok (.d (cb (v.me n (d -1)).1))) (aH (aK [(0,fV n)]) [(0,fV (v.me n (d -1)).2)])):
 aJ Tryz.prog 258 [.d (.agg v.aT1),.lp 108 0,.lp 116 0] (aK (KK n d)) (.ok (.d (cb (!(v.me n (d -1)).1)))) (aH (aK (KK n d)) [(0,fV (v.me n (d -1)).2)]):=by
 refine wE mix 200 Tryz.func258 tV ⟨tV,tV⟩ ?_;refine bl ?_;refine dZ.mk (.d (cb (v.me n (d -1)).1)) [(0,fV (v.me n (d -1)).2)] ((aJ.l8 hf ⟨sn,tV⟩ ⟨rfl,tV⟩ ⟨tV,tV⟩ ⟨.inl sn,tV⟩).mR (.cons (.agg v.aT1) (.cons (.same _) (.cons (.same _) .nil)))) ?_;conv=>whnf
 refine bl ?_;exact dA rfl ⟨.inr rfl,.inl rfl,.inr rfl,.inr rfl,tV⟩
def KL(v:E4)(hv:v.cR<=2^40)(p d:Int)(h0:0<=p)(h1:p<=512)(hd:0<=d)(hd2:d<=100):
 aJ Tryz.prog 255 [.d (.agg v.aT1),.lp 0 0,.d (ci d)] (aK [(0,fV p)]) (.ok (.d (cb (v.me p d).1))) (aH (aK [(0,fV p)]) [(0,fV (v.me p d).2)]):=by
 refine wE mix 100 Tryz.func255 tV ⟨tV,tV⟩ ?_;have AZ:=v.fA;have hln:=E4.eW v.l
 repeat'(first|refine bl ?_|refine bS (λh=>?_) (λh=>?_)|refine aF (lF _) (bw ?_))
 all_goals(try simp only[EL,<-List.length_eq_zero_iff]at*)
 all_goals first
  |(exfalso;omega)
  |(have e:v.me p d=(false,p -1):=by rw[E4.GB,aUF oM]
    refine dA ?_ ⟨.inr ?_,.inl rfl,tV⟩<;>rw[e]<;>rfl)
  |(have e:v.me p d=(true,p -1):=by rw[E4.GB,aT7 oM,aUF oM]
    refine dA ?_ ⟨.inr ?_,.inl rfl,tV⟩<;>rw[e]<;>rfl)
  |(have e:v.me p d=(decide (v.s.size<=256),p -1):=by rw[E4.GB,aT7 oM,aT7 oM,aUF oM]
    refine dA ?_ ⟨.inr ?_,.inl rfl,tV⟩<;>rw[e]
    · dsimp only
      rw[show decide ((v.s.size:Int)<=256)=decide (v.s.size<=256)from decide_eq_decide.2 oM]
    · rfl)
  |(have e:v.me p d=(gN v.s,p -1):=by rw[E4.GB,aT7 oM,aT7 oM,aT7 oM,aUF oM]
    refine dA ?_ ⟨.inr ?_,.inl rfl,tV⟩<;>rw[e]<;>rfl)
  |(have e:v.me p d=(false,p -1):=by rw[E4.GB,aT7 oM,aT7 oM,aT7 oM,aT7 oM,aT7 oM]
    refine dA ?_ ⟨.inr ?_,.inl rfl,tV⟩<;>rw[e]<;>rfl)
  |skip
 all_goals
  have e:v.me p d=E4.A9 v.l (p -1) (d -1):=by
   rw[E4.GB,aT7 oM,aT7 oM,aT7 oM,aT7 oM,aUF oM]
  refine dZ.mk (.d (cb (!(E4.A9 v.l (p -1) (d -1)).1))) [(0,fV (E4.A9 v.l (p -1) (d -1)).2)] (aJ.l8 (FM 258 v.l (p -1) d oM oM (λi h m hm0 hm1=>have vZ:=v.gM i h;have hcg:=E4.dG v.l i h;TL v.l[i] m d hm0 hm1 oM hd2 (KL v.l[i] oM m (d -1) hm0 hm1 oM oM)) oM) ⟨sn,sn,tV⟩ ⟨rfl,rfl,rfl,tV⟩ ⟨tV,⟨sn,tV⟩,tV,tV⟩ ⟨.inl sn,tV⟩) ?_;conv=>whnf
  refine bl ?_;refine dA ?_ ⟨.inr ?_,.inl rfl,tV⟩
  ·rw[e];simp;try rfl
  ·rw[e];rfl
 termination_by SizeOf.sizeOf v
def aA1:((List.range 64).all λk=>RK (yI Tryz.prog aA0 5 (.fn 254) [.d (.v (.int .u8 k))] .nil 1) (.d (ci (H6 k))))=true:=kK
def aED(x:Int)(h0:0<=x)(h1:x<=63):Pu 254 [.d (.v (.int .u8 x))] (.d (ci (H6 x))):=by
 obtain⟨k,rfl⟩:=lX h0;have:=cV.1 aA1 k (jI.2 oM);exact zO mix this rfl
def aD3:((List.range 256).all λk=> !TK k||decide (k<=63))=true:=kK
def aHS(x:Int)(h0:0<=x)(h1:x<256)(h:TK x=true):x<=63:=by
 obtain⟨k,rfl⟩:=lX h0;have:=cV.1 aD3 k (jI.2 oM);rw[h]at this;simp at this;omega
def aKT(x:Int):Bool:=TK x&&decide (H6 x=1)
def aGL(x:Int)(h0:0<=x)(h1:x<256):Pu 245 [.d (ck x)] (.d (cb (aKT x))):=by
 refine iC mix Tryz.func245 ?_;unfold aKT;have ham:=IB x;cases hm:TK x with
 |false=>
  rw[hm]at ham
  repeat'(first|refine bl ?_|refine aF ham (bw ?_))
  exact dP sM
 |true=>
  rw[hm]at ham
  repeat'(first|refine bl ?_|refine aF ham (bw ?_)|refine aF (aED x h0 (aHS x h0 h1 hm)) (bw ?_))
  all_goals exact dP (by simp_all)
def E4.MR(v:E4):Bool:=(v.me 512 16).1
def yD(v:E4)(hv:v.cR<=2^40):Pu 246 [.d (.agg v.aT1)] (.d (cb v.MR)):=by
 refine iC mix Tryz.func246 ?_;have hc1:=KL v hv 512 16 oM oM oM oM;unfold E4.MR;generalize v.me 512 16=z1 at hc1⊢;obtain⟨b1,m1⟩:=z1
 repeat'(first|refine bl ?_|(refine lN 17 (fV m1) ((hc1.AK rfl (λg=>rfl) (λg=>rfl) rfl (by simp[A.lQ,A.hs]) (aK _) 17 rfl).mR (.cons (.agg v.aT1) (.cons (.same _) (.cons (.same _) .nil)))) ?_;(conv=>whnf)))
 exact dP rfl
def E4.sW(v:E4):Bool:=v.sV||v.MR
def FR(v:E4)(hv:v.cR<=2^40):Pu 243 [.d (.agg v.aT1)] (.d (cb v.sW)):=by
 refine iC mix Tryz.func243 ?_
 repeat'(first|refine bl ?_|refine bS (λh=>?_) (λh=>?_)|refine dR (wS v) (.cons (.agg v.aT1) .nil) (bw ?_)|refine dR (yD v hv) (.cons (.agg v.aT1) .nil) (bw ?_))
 all_goals(refine dP ?_;simp_all[E4.sW])
def uP{L:List A}{cs:List C}{x y:Bool}(h:wJ m L cs)(e:x=y):A1 m (.eL [.agg L,.d (cb x)]) (.eL [.d (.agg cs),.d (cb y)]):=by
 subst e;exact .eL (cs:=[.agg cs,cb x]) (.cons (.agg h) (.cons (.d _) .nil))
abbrev E4.zero:E4:=.mk 0 0 ByteArray.empty []
def S4.aIX(v:S4):S4:=.mk 0 v.name .empty 0 0 (v.a) .zero [] [] [] []
def S4.aKL(v:S4):Bool:=gN v.name&&v.a.sW
def aCZ(v:S4)(hv:v.cR<=2^40)(h0:0<=v.FD)(h1:v.FD<256):Pu 242 [.d (.agg v.aT1)] (.eL [.d (.agg v.aIX.aT1),.d (cb v.aKL)]):=by
 have AZ:=v.fA;have hca:v.a.cR<=2^40:=oM;have hcb:v.b.cR<=2^40:=oM;refine iC mix Tryz.func242 ?_
 repeat'(first|refine bl ?_|refine bS (λh=>?_) (λh=>?_)|refine cH (lF _) (bw ?_)|refine jV (FR v.a hca) (.cons (.agg v.a.aT1) .nil) (bw ?_))
 all_goals(refine uP (by repeat'(first|exact .nil|refine .cons (.d _) ?_|refine .cons (.nz _ _) ?_)) ?_;simp_all[S4.aKL])
def S4.aIY(v:S4):S4:=.mk 0 v.name .empty v.FD 0 (v.a) (v.b) [] [] [] []
def S4.aKM(v:S4):Bool:=gN v.name&&(aKT v.FD&&(v.a.MR&&(v.b.sW&&(v.b.sV||(decide (v.FD≠1)&&decide (v.FD≠32))))))
def aC0(v:S4)(hv:v.cR<=2^40)(h0:0<=v.FD)(h1:v.FD<256):Pu 244 [.d (.agg v.aT1)] (.eL [.d (.agg v.aIY.aT1),.d (cb v.aKM)]):=by
 have AZ:=v.fA;have hca:v.a.cR<=2^40:=oM;have hcb:v.b.cR<=2^40:=oM;refine iC mix Tryz.func244 ?_
 repeat'(first|refine bl ?_|refine bS (λh=>?_) (λh=>?_)|refine aF (lF _) (bw ?_)|refine aF (aGL v.FD h0 h1) (bw ?_)|refine dR (FR v.b hcb) (.cons (.agg v.b.aT1) .nil) (bw ?_)|refine dR (yD v.a hca) (.cons (.agg v.a.aT1) .nil) (bw ?_)|refine jV (wS v.b) (.cons (.agg v.b.aT1) .nil) (bw ?_))
 all_goals(refine uP (by repeat'(first|exact .nil|refine .cons (.d _) ?_|refine .cons (.nz _ _) ?_)) ?_;simp_all[S4.aKM])
def S4.aIZ(v:S4):S4:=.mk 0 v.name .empty 0 0 (v.a) (v.b) [] [] [] []
def S4.aKN(v:S4):Bool:=gN v.name&&(v.a.MR&&v.b.MR)
def aC1(v:S4)(hv:v.cR<=2^40)(h0:0<=v.FD)(h1:v.FD<256):Pu 248 [.d (.agg v.aT1)] (.eL [.d (.agg v.aIZ.aT1),.d (cb v.aKN)]):=by
 have AZ:=v.fA;have hca:v.a.cR<=2^40:=oM;have hcb:v.b.cR<=2^40:=oM;refine iC mix Tryz.func248 ?_
 repeat'(first|refine bl ?_|refine bS (λh=>?_) (λh=>?_)|refine cH (lF _) (bw ?_)|refine jV (yD v.a hca) (.cons (.agg v.a.aT1) .nil) (bw ?_)|refine jV (yD v.b hcb) (.cons (.agg v.b.aT1) .nil) (bw ?_))
 all_goals(refine uP (by repeat'(first|exact .nil|refine .cons (.d _) ?_|refine .cons (.nz _ _) ?_)) ?_;simp_all[S4.aKN])
def S4.aI0(v:S4):S4:=.mk 0 .empty .empty 0 0 (v.a) (v.b) v.t v.e [] []
def S4.aKO(v:S4):Bool:=v.a.sW&&v.b.sW
def aC2(v:S4)(hv:v.cR<=2^40)(h0:0<=v.FD)(h1:v.FD<256):Pu 249 [.d (.agg v.aT1)] (.eL [.d (.agg v.aI0.aT1),.d (cb v.aKO)]):=by
 have AZ:=v.fA;have hca:v.a.cR<=2^40:=oM;have hcb:v.b.cR<=2^40:=oM;refine iC mix Tryz.func249 ?_
 repeat'(first|refine bl ?_|refine bS (λh=>?_) (λh=>?_)|refine jV (FR v.a hca) (.cons (.agg v.a.aT1) .nil) (bw ?_)|refine jV (FR v.b hcb) (.cons (.agg v.b.aT1) .nil) (bw ?_))
 all_goals(refine uP (by repeat'(first|exact .nil|refine .cons (.d _) ?_|refine .cons (.nz _ _) ?_)) ?_;simp_all[S4.aKO])
def S4.aI1(v:S4):S4:=.mk 0 .empty .empty v.FD 0 (v.a) .zero v.t v.e [] []
def S4.aKP(v:S4):Bool:=v.a.MR&&TK v.FD
def aC3(v:S4)(hv:v.cR<=2^40)(h0:0<=v.FD)(h1:v.FD<256):Pu 250 [.d (.agg v.aT1)] (.eL [.d (.agg v.aI1.aT1),.d (cb v.aKP)]):=by
 have AZ:=v.fA;have hca:v.a.cR<=2^40:=oM;have hcb:v.b.cR<=2^40:=oM;refine iC mix Tryz.func250 ?_
 repeat'(first|refine bl ?_|refine bS (λh=>?_) (λh=>?_)|refine cH (IB v.FD) (bw ?_)|refine jV (yD v.a hca) (.cons (.agg v.a.aT1) .nil) (bw ?_))
 all_goals(refine uP (by repeat'(first|exact .nil|refine .cons (.d _) ?_|refine .cons (.nz _ _) ?_)) ?_;simp_all[S4.aKP])
def S4.aI2(v:S4):S4:=.mk 0 .empty .empty 0 0 (v.a) .zero [] [] [] []
def S4.aKQ(v:S4):Bool:=v.a.sW
def aC4(v:S4)(hv:v.cR<=2^40)(h0:0<=v.FD)(h1:v.FD<256):Pu 251 [.d (.agg v.aT1)] (.eL [.d (.agg v.aI2.aT1),.d (cb v.aKQ)]):=by
 have AZ:=v.fA;have hca:v.a.cR<=2^40:=oM;have hcb:v.b.cR<=2^40:=oM;refine iC mix Tryz.func251 ?_
 repeat'(first|refine bl ?_|refine jV (FR v.a hca) (.cons (.agg v.a.aT1) .nil) (bw ?_))
 all_goals(refine uP (by repeat'(first|exact .nil|refine .cons (.d _) ?_|refine .cons (.nz _ _) ?_)) ?_;simp_all[S4.aKQ])
def S4.aI3(v:S4):S4:=.mk 0 .empty .empty 0 0 .zero .zero [] [] [] []
def S4.aKR(v:S4):Bool:=true
def aC5(v:S4)(hv:v.cR<=2^40)(h0:0<=v.FD)(h1:v.FD<256):Pu 252 [.d (.agg v.aT1)] (.eL [.d (.agg v.aI3.aT1),.d (cb v.aKR)]):=by
 have AZ:=v.fA;have hca:v.a.cR<=2^40:=oM;have hcb:v.b.cR<=2^40:=oM;refine iC mix Tryz.func252 ?_;refine bl ?_
 all_goals(refine uP (by repeat'(first|exact .nil|refine .cons (.d _) ?_|refine .cons (.nz _ _) ?_)) ?_;simp_all[S4.aKR])
def S4.aI4(v:S4):S4:=.mk 0 v.name .empty 0 0 (v.a) .zero [] [] [] []
def S4.aKS(v:S4):Bool:=gN v.name&&v.a.MR
def aC6(v:S4)(hv:v.cR<=2^40)(h0:0<=v.FD)(h1:v.FD<256):Pu 253 [.d (.agg v.aT1)] (.eL [.d (.agg v.aI4.aT1),.d (cb v.aKS)]):=by
 have AZ:=v.fA;have hca:v.a.cR<=2^40:=oM;have hcb:v.b.cR<=2^40:=oM;refine iC mix Tryz.func253 ?_
 repeat'(first|refine bl ?_|refine bS (λh=>?_) (λh=>?_)|refine cH (lF _) (bw ?_)|refine jV (yD v.a hca) (.cons (.agg v.a.aT1) .nil) (bw ?_))
 all_goals(refine uP (by repeat'(first|exact .nil|refine .cons (.d _) ?_|refine .cons (.nz _ _) ?_)) ?_;simp_all[S4.aKS])
def S6(k:FuncId)(caps:List C)(p:ByteArray->Bool)(L:List ByteArray)(hf:∀i(h:i<L.length),∀m,aJ Tryz.prog k ([.d (.v (.string L[i]))]++caps.map A.d) m (.ok (.d (cb (p L[i])))) m)(hL:L.length<=2^40):Pu 259 [.d (.sl 1 (sR L)),.d (.fn (.func k) [] caps)] (.d (ci (idxOf p L))):=by
 refine iC mix Tryz.func259 ?_;refine bl ?_;refine bV mix (λi:Nat=>i<=L.length/\(L.take i).any p=false) (I:=λi=>[(0,.d (.sl 1 (sR L))),(1,.d (.fn (.func k) [] caps)),(7,.d (ci L.length)),(8,.d (ci i))])
  (J:=λi=>[]) (μ:=λi=>L.length -i) 100 0 ⟨oM,rfl⟩ mZ ?_
 rintro i ⟨hi,h0⟩
 repeat'(first|refine bl ?_|refine bS (λh=>?_) (λh=>?_))
 ·refine cD rfl eD h ?_;conv=>whnf
  skip
  refine aF (hf i h) ?_;conv=>whnf
  repeat'(first|refine bl ?_|refine bS (λh=>?_) (λh=>?_))
  ·exact oF (CN p L i aM h0 aM).symm
  ·refine⟨i+1,oM,⟨oM,A2 p L i aM h0 aM⟩,?_⟩;exact mZ
 ·rw[aI oM]at h0;exact oF (CM p L h0).symm
def JD(k:FuncId)(caps:List C)(p:ByteArray->Bool)(L:List ByteArray)(hf:∀i(h:i<L.length),∀m,aJ Tryz.prog k ([.d (.v (.string L[i]))]++caps.map A.d) m (.ok (.d (cb (p L[i])))) m)(hL:L.length<=2^40):Pu 256 [.d (.sl 1 (sR L)),.d (.fn (.func k) [] caps)] (.d (cb (L.any p))):=by
 refine iC mix Tryz.func256 ?_;refine bl ?_;refine aF (S6 k caps p L hf hL) ?_;conv=>whnf
 refine bl ?_;exact dP (yH p L)
def aAV(s:ByteArray):Pu 257 [.d (.v (.string s))] (.d (cb (!gN s))):=by
 refine iC mix Tryz.func257 ?_
 repeat'(first|refine bl ?_|refine aF (lF _) (bw ?_))
 exact dP rfl
def S4.sU(v:S4):S4:=
 if v.bQ=1 then .mk 0 v.name .empty 0 v.bQ v.a .zero [] [] [] []
 else if v.bQ=2\/v.bQ=3\/v.bQ=4\/v.bQ=8 then .mk 0 v.name .empty 0 v.bQ .zero .zero [] [] [] []
 else if v.bQ=14 then .mk 0 v.name .empty v.FD v.bQ v.a .zero [] [] [] []
 else if v.bQ=15\/v.bQ=16 then .mk 0 v.name v.second 0 v.bQ v.a .zero [] [] [] []
 else if v.bQ=5\/v.bQ=10 then .mk 0 v.name v.second 0 v.bQ .zero .zero [] [] [] []
 else if v.bQ=12 then .mk 0 v.name .empty 0 v.bQ .zero .zero [] [] v.c v.w
 else .mk 0 v.name .empty 0 v.bQ .zero .zero [] [] [] []
def S4.okM(v:S4):Bool:=
 if v.bQ=1 then gN v.name&&v.a.sW
 else if v.bQ=2\/v.bQ=3\/v.bQ=4\/v.bQ=8 then gN v.name
 else if v.bQ=14 then gN v.name&&(v.a.MR&&TK v.FD)
 else if v.bQ=15\/v.bQ=16 then gN v.name&&(v.a.MR&&(gN v.second&&decide (v.second≠v.name)))
 else if v.bQ=5\/v.bQ=10 then gN v.name&&(gN v.second&&decide (v.second≠v.name))
 else if v.bQ=12 then gN v.name&&(decide (v.w.length<=64)&&(!(v.w.any λs=> !gN s)&&decide v.w.Nodup))
 else false
def aD2(v:S4)(hv:v.cR<=2^38):Pu 247 [.d (.agg v.aT1)] (.eL [.d (.agg v.sU.aT1),.d (cb v.okM)]):=by
 have AZ:=v.fA;have hca:v.a.cR<=2^40:=oM;have hcw:v.w.length<=2^38:=oM;refine iC mix Tryz.func247 ?_
 repeat'(first|refine bl ?_|refine bS (λh=>?_) (λh=>?_)|refine aF (lF _) (bw ?_)|refine cH (lF _) (bw ?_)|refine cH (IB v.FD) (bw ?_)|refine jV (FR v.a hca) (.cons (.agg v.a.aT1) .nil) (bw ?_)|refine jV (yD v.a hca) (.cons (.agg v.a.aT1) .nil) (bw ?_)|refine cH (UT v.w hcw) (bw ?_)|refine cH (JD 257 [] (λs=> !gN s) v.w (λi h=>aAV v.w[i]) oM) (bw ?_))
 all_goals first
  |(have e:v.sU=.mk 0 v.name .empty 0 v.bQ v.a .zero [] [] [] []:=by unfold S4.sU;rw[aUF oM]
    rw[e];refine uP (by repeat'(first|exact .nil|refine .cons (.d _) ?_|refine .cons (.nz _ _) ?_)) ?_
    unfold S4.okM;rw[aUF oM];(try(first|(simp_all;done)|(rw[aU0 (by omega:¬v.w.length<=64)];simp;done)|(rw[aUZ (by omega:v.w.length<=64)];simp_all;done)|(obtain⟨x,hx,BF⟩:=h;rw[show(v.w.any λs=> !gN s)=true from dQ.2 ⟨x,hx,by simp[BF]⟩];simp;done)|(rename_i hxx _;obtain⟨x,hx,BF⟩:=hxx;rw[show(v.w.any λs=> !gN s)=true from dQ.2 ⟨x,hx,by simp[BF]⟩];simp;done)));done)
  |(have e:v.sU=.mk 0 v.name .empty 0 v.bQ .zero .zero [] [] [] []:=by unfold S4.sU;rw[aT7 oM,aUF oM]
    rw[e];refine uP (by repeat'(first|exact .nil|refine .cons (.d _) ?_|refine .cons (.nz _ _) ?_)) ?_
    unfold S4.okM;rw[aT7 oM,aUF oM];(try(first|(simp_all;done)|(rw[aU0 (by omega:¬v.w.length<=64)];simp;done)|(rw[aUZ (by omega:v.w.length<=64)];simp_all;done)|(obtain⟨x,hx,BF⟩:=h;rw[show(v.w.any λs=> !gN s)=true from dQ.2 ⟨x,hx,by simp[BF]⟩];simp;done)|(rename_i hxx _;obtain⟨x,hx,BF⟩:=hxx;rw[show(v.w.any λs=> !gN s)=true from dQ.2 ⟨x,hx,by simp[BF]⟩];simp;done)));done)
  |(have e:v.sU=.mk 0 v.name .empty v.FD v.bQ v.a .zero [] [] [] []:=by unfold S4.sU;rw[aT7 oM,aT7 oM,aUF oM]
    rw[e];refine uP (by repeat'(first|exact .nil|refine .cons (.d _) ?_|refine .cons (.nz _ _) ?_)) ?_
    unfold S4.okM;rw[aT7 oM,aT7 oM,aUF oM];(try(first|(simp_all;done)|(rw[aU0 (by omega:¬v.w.length<=64)];simp;done)|(rw[aUZ (by omega:v.w.length<=64)];simp_all;done)|(obtain⟨x,hx,BF⟩:=h;rw[show(v.w.any λs=> !gN s)=true from dQ.2 ⟨x,hx,by simp[BF]⟩];simp;done)|(rename_i hxx _;obtain⟨x,hx,BF⟩:=hxx;rw[show(v.w.any λs=> !gN s)=true from dQ.2 ⟨x,hx,by simp[BF]⟩];simp;done)));done)
  |(have e:v.sU=.mk 0 v.name v.second 0 v.bQ v.a .zero [] [] [] []:=by unfold S4.sU;rw[aT7 oM,aT7 oM,aT7 oM,aUF oM]
    rw[e];refine uP (by repeat'(first|exact .nil|refine .cons (.d _) ?_|refine .cons (.nz _ _) ?_)) ?_
    unfold S4.okM;rw[aT7 oM,aT7 oM,aT7 oM,aUF oM];(try(first|(simp_all;done)|(rw[aU0 (by omega:¬v.w.length<=64)];simp;done)|(rw[aUZ (by omega:v.w.length<=64)];simp_all;done)|(obtain⟨x,hx,BF⟩:=h;rw[show(v.w.any λs=> !gN s)=true from dQ.2 ⟨x,hx,by simp[BF]⟩];simp;done)|(rename_i hxx _;obtain⟨x,hx,BF⟩:=hxx;rw[show(v.w.any λs=> !gN s)=true from dQ.2 ⟨x,hx,by simp[BF]⟩];simp;done)));done)
  |(have e:v.sU=.mk 0 v.name v.second 0 v.bQ .zero .zero [] [] [] []:=by unfold S4.sU;rw[aT7 oM,aT7 oM,aT7 oM,aT7 oM,aUF oM]
    rw[e];refine uP (by repeat'(first|exact .nil|refine .cons (.d _) ?_|refine .cons (.nz _ _) ?_)) ?_
    unfold S4.okM;rw[aT7 oM,aT7 oM,aT7 oM,aT7 oM,aUF oM];(try(first|(simp_all;done)|(rw[aU0 (by omega:¬v.w.length<=64)];simp;done)|(rw[aUZ (by omega:v.w.length<=64)];simp_all;done)|(obtain⟨x,hx,BF⟩:=h;rw[show(v.w.any λs=> !gN s)=true from dQ.2 ⟨x,hx,by simp[BF]⟩];simp;done)|(rename_i hxx _;obtain⟨x,hx,BF⟩:=hxx;rw[show(v.w.any λs=> !gN s)=true from dQ.2 ⟨x,hx,by simp[BF]⟩];simp;done)));done)
  |(have e:v.sU=.mk 0 v.name .empty 0 v.bQ .zero .zero [] [] v.c v.w:=by unfold S4.sU;rw[aT7 oM,aT7 oM,aT7 oM,aT7 oM,aT7 oM,aUF oM]
    rw[e];refine uP (by repeat'(first|exact .nil|refine .cons (.d _) ?_|refine .cons (.nz _ _) ?_)) ?_
    unfold S4.okM;rw[aT7 oM,aT7 oM,aT7 oM,aT7 oM,aT7 oM,aUF oM];(try(first|(simp_all;done)|(rw[aU0 (by omega:¬v.w.length<=64)];simp;done)|(rw[aUZ (by omega:v.w.length<=64)];simp_all;done)|(obtain⟨x,hx,BF⟩:=h;rw[show(v.w.any λs=> !gN s)=true from dQ.2 ⟨x,hx,by simp[BF]⟩];simp;done)|(rename_i hxx _;obtain⟨x,hx,BF⟩:=hxx;rw[show(v.w.any λs=> !gN s)=true from dQ.2 ⟨x,hx,by simp[BF]⟩];simp;done)));done)
  |(have e:v.sU=.mk 0 v.name .empty 0 v.bQ .zero .zero [] [] [] []:=by unfold S4.sU;rw[aT7 oM,aT7 oM,aT7 oM,aT7 oM,aT7 oM,aT7 oM]
    rw[e];refine uP (by repeat'(first|exact .nil|refine .cons (.d _) ?_|refine .cons (.nz _ _) ?_)) ?_
    unfold S4.okM;rw[aT7 oM,aT7 oM,aT7 oM,aT7 oM,aT7 oM,aT7 oM];(try(first|(simp_all;done)|(rw[aU0 (by omega:¬v.w.length<=64)];simp;done)|(rw[aUZ (by omega:v.w.length<=64)];simp_all;done)|(obtain⟨x,hx,BF⟩:=h;rw[show(v.w.any λs=> !gN s)=true from dQ.2 ⟨x,hx,by simp[BF]⟩];simp;done)|(rename_i hxx _;obtain⟨x,hx,BF⟩:=hxx;rw[show(v.w.any λs=> !gN s)=true from dQ.2 ⟨x,hx,by simp[BF]⟩];simp;done)));done)
abbrev kB(n:Int):Ky:=.one (.int .u8 n)
def CJ:List (Ky×A):=[(kB 1,.fn (.func 242) [] []),(kB 2,.fn (.func 244) [] []),(kB 3,.fn (.func 247) [] []),(kB 4,.fn (.func 248) [] []),(kB 5,.fn (.func 249) [] []),(kB 6,.fn (.func 250) [] []),(kB 7,.fn (.func 251) [] []),(kB 8,.fn (.func 252) [] []),(kB 9,.fn (.func 253) [] [])]
def P4:R:=.mp false CJ []
def NT:∀(m:Mem)(d:Nat),m d=none->aJ Tryz.prog 237 [] m (.ok (.h d)) (aX m d P4):=by
 refine iW mix (F:=A.h) (r:=P4) Tryz.func237 rfl kK (bD rfl) rfl rfl (λ_ _=>rfl) (λi j hj=>by simpa [A.hs]using hj) (λg=>rfl) ?_
 repeat'(first|refine bl ?_|refine aB4.BP kK kK (bw ?_))
 exact⟨_,rfl,rfl⟩
def S4.KM(v b:S4)(ok:Bool):Bool:=ok&&(decide (v.name=b.name)&&(decide (v.second=b.second)&&(decide (v.FD=b.FD)&&(decide (v.bQ=b.bQ)&&(decide (b.a.sV=v.a.sV)&&(decide (b.b.sV=v.b.sV)&&(decide (b.t.length=v.t.length)&&(decide (b.e.length=v.e.length)&&(decide (b.c.length=v.c.length)&&decide (b.w.length=v.w.length))))))))))
def aKC(v:S4)(hk:fL (kB v.op) CJ=none)(hf:kH Tryz.prog 203 (kB v.op) CJ=true):Pu 233 [.d (.agg v.aT1)] (.d (cb false)):=by
 refine iC mix Tryz.func233 ?_
 repeat'(first|refine bl ?_|refine xQ.fresh A.h P4 NT rfl (bw ?_))
 refine .BP hf hk ?_;conv=>whnf
 refine bl ?_;exact dP rfl
def aNF{v b:S4}{ok:Bool}(h1:ok=true)(h2:v.name=b.name)(h3:v.second=b.second)(h4:v.FD=b.FD)(h5:v.bQ=b.bQ)(h6:b.a.sV=v.a.sV)(h7:b.b.sV=v.b.sV)(h8:(b.t.length:Int)=v.t.length)(h9:(b.e.length:Int)=v.e.length)(h10:(b.c.length:Int)=v.c.length):
 decide ((b.w.length:Int)=v.w.length)=(ok&&(decide (v.name=b.name)&&(decide (v.second=b.second)&&(decide (v.FD=b.FD)&&(decide (v.bQ=b.bQ)&&(decide (b.a.sV=v.a.sV)&&(decide (b.b.sV=v.b.sV)&&(decide (b.t.length=v.t.length)&&(decide (b.e.length=v.e.length)&&(decide (b.c.length=v.c.length)&&decide (b.w.length=v.w.length))))))))))):=by
 rw[h1,aUZ h2,aUZ h3,aUZ h4,aUZ h5,aUZ h6,aUZ h7,aUZ (by omega:b.t.length=v.t.length),aUZ (by omega:b.e.length=v.e.length),aUZ (by omega:b.c.length=v.c.length),show decide ((b.w.length:Int)=v.w.length)=decide (b.w.length=v.w.length)from decide_eq_decide.2 oM];simp
def yN(v b:S4)(ok:Bool)(k:FuncId)(hk:fL (kB v.op) CJ=some (.fn (.func k) [] []))(hf:kH Tryz.prog 203 (kB v.op) CJ=true)(hc:Pu k [.d (.agg v.aT1)] (.eL [.d (.agg b.aT1),.d (cb ok)])):Pu 233 [.d (.agg v.aT1)] (.d (cb (v.KM b ok))):=by
 refine iC mix Tryz.func233 ?_
 repeat'(first|refine bl ?_|refine xQ.fresh A.h P4 NT rfl (bw ?_))
 refine .CL _ hf hk ?_;conv=>whnf
 repeat'(first|refine bl ?_|refine bS (λh=>?_) (λh=>?_)|refine dR hc (.cons (.agg v.aT1) .nil) (bw ?_)|refine jV (wS b.a) (.cons (.agg b.a.aT1) .nil) (bw ?_)|refine jV (wS b.b) (.cons (.agg b.b.aT1) .nil) (bw ?_)|refine jV (wS v.a) (.cons (.agg v.a.aT1) .nil) (bw ?_)|refine jV (wS v.b) (.cons (.agg v.b.aT1) .nil) (bw ?_))
 all_goals(refine dP ?_;unfold S4.KM;first|(simp_all;done)|(simp_all;omega;done)|(simp only[aB];exact aNF aM aM aM aM aM aM aM aM aM aM))
def S4.aKB(v:S4):Bool:=
 if v.op=1 then v.KM v.aIX v.aKL else if v.op=2 then v.KM v.aIY v.aKM else if v.op=3 then v.KM v.sU v.okM else if v.op=4 then v.KM v.aIZ v.aKN else if v.op=5 then v.KM v.aI0 v.aKO
 else if v.op=6 then v.KM v.aI1 v.aKP else if v.op=7 then v.KM v.aI2 v.aKQ else if v.op=8 then v.KM v.aI3 v.aKR else if v.op=9 then v.KM v.aI4 v.aKS else false
def Z9(x:Int):kH Tryz.prog 203 (kB x) CJ=true:=kK
def aFV(v:S4)(hv:v.cR<=2^38)(ha:0<=v.FD/\v.FD<256):Pu 233 [.d (.agg v.aT1)] (.d (cb v.aKB)):=by
 have hf:=Z9 v.op;have hv2:v.cR<=2^40:=oM;unfold S4.aKB;by_cases h1:v.op=1
 ·rw[aUF h1];exact yN v _ _ _ (by rw[h1];rfl) hf (aCZ v hv2 ha.1 ha.2)
 rw[aT7 h1];by_cases h2:v.op=2
 ·rw[aUF h2];exact yN v _ _ _ (by rw[h2];rfl) hf (aC0 v hv2 ha.1 ha.2)
 rw[aT7 h2];by_cases h3:v.op=3
 ·rw[aUF h3];exact yN v _ _ _ (by rw[h3];rfl) hf (aD2 v hv)
 rw[aT7 h3];by_cases h4:v.op=4
 ·rw[aUF h4];exact yN v _ _ _ (by rw[h4];rfl) hf (aC1 v hv2 ha.1 ha.2)
 rw[aT7 h4];by_cases h5:v.op=5
 ·rw[aUF h5];exact yN v _ _ _ (by rw[h5];rfl) hf (aC2 v hv2 ha.1 ha.2)
 rw[aT7 h5];by_cases h6:v.op=6
 ·rw[aUF h6];exact yN v _ _ _ (by rw[h6];rfl) hf (aC3 v hv2 ha.1 ha.2)
 rw[aT7 h6];by_cases h7:v.op=7
 ·rw[aUF h7];exact yN v _ _ _ (by rw[h7];rfl) hf (aC4 v hv2 ha.1 ha.2)
 rw[aT7 h7];by_cases h8:v.op=8
 ·rw[aUF h8];exact yN v _ _ _ (by rw[h8];rfl) hf (aC5 v hv2 ha.1 ha.2)
 rw[aT7 h8];by_cases h9:v.op=9
 ·rw[aUF h9];exact yN v _ _ _ (by rw[h9];rfl) hf (aC6 v hv2 ha.1 ha.2)
 rw[aT7 h9];refine aKC v ?_ hf;unfold CJ;simp only[fL,kB,Ky.one.injEq,KC.int.injEq,true_and,h1,h2,h3,h4,h5,h6,h7,h8,h9,if_false]
def S4.tl(v:S4)(n:Int):Bool×Int×Int:=if n=512 then(false,512,4)else if v.aKB=true then(true,0,0)else(false,n,160)
mutual
def S4.wk:S4->Int->Bool×Int×Int×Int
 |.mk op n1 n2 ab wh a b t e c w,n=>match S4.tl (.mk op n1 n2 ab wh a b t e c w) n with
  |(false,q)=>(false,n+1,q)
  |(true,_)=>match S4.vS t (n+1)with
   |(false,q)=>(false,q)
   |(true,m,_)=>match S4.vS e m with
    |(false,q)=>(false,q)
    |(true,m,_)=>S4.vS c m
def S4.vS:List S4->Int->Bool×Int×Int×Int
 |[],n=>(true,n,0,0)
 |v::r,n=>match S4.wk v n with
  |(false,q)=>(false,q)
  |(true,m,_)=>S4.vS r m
end
def S4.aLC(v:S4)(n:Int):v.wk n=match v.tl n with
 |(false,q)=>(false,n+1,q)
 |(true,_)=>match S4.vS v.t (n+1)with
  |(false,q)=>(false,q)
  |(true,m,_)=>match S4.vS v.e m with
   |(false,q)=>(false,q)
   |(true,m,_)=>S4.vS v.c m:=by cases v;rw[S4.wk];rfl
abbrev WE(q:Bool×Int×Int×Int):Prop:=0<=q.2.1/\q.2.1<=513/\(q.1=true->q.2.1<=512/\q.2.2=(0,0))
def S4.aF3(v:S4)(n:Int):(v.tl n).1=true->n≠512/\(v.tl n).2=(0,0):=by
 unfold S4.tl;split
 ·simp
 ·split
  ·intro;exact⟨aM,rfl⟩
  ·simp
mutual
def S4.aMY:∀(v:S4)(n:Int),0<=n->n<=512->WE (v.wk n)
 |.mk op n1 n2 ab wh a b t e c w,n,h0,h1=>by
  rw[S4.wk];have h2:=S4.aF3 (.mk op n1 n2 ab wh a b t e c w) n;generalize S4.tl (.mk op n1 n2 ab wh a b t e c w) n=q at h2⊢;obtain⟨x,y⟩:=q;cases x with
  |false=>simp[WE];omega
  |true=>
   have i1:=S4.wI t (n+1) oM (by have:=(h2 rfl).1;omega);dsimp only;generalize S4.vS t (n+1)=q at i1⊢;obtain⟨x,m,z⟩:=q;cases x with
   |false=>exact i1
   |true=>
    have i2:=S4.wI e m i1.1 (i1.2.2 rfl).1;dsimp only;generalize S4.vS e m=q2 at i2⊢;obtain⟨y,k,z2⟩:=q2;cases y with
    |false=>exact i2
    |true=>exact S4.wI c k i2.1 (i2.2.2 rfl).1
def S4.wI:∀(l:List S4)(n:Int),0<=n->n<=512->WE (S4.vS l n)
 |[],n,h0,h1=>by rw[S4.vS];simp[WE];omega
 |v::r,n,h0,h1=>by
  rw[S4.vS];have i1:=S4.aMY v n h0 h1;generalize S4.wk v n=q at i1⊢;obtain⟨x,m,z⟩:=q;cases x with
  |false=>exact i1
  |true=>exact S4.wI r m i1.1 (i1.2.2 rfl).1
end
def S4.aF9(l:List S4)(i:Nat)(h:i<l.length)(n:Int):S4.vS (l.drop i) n=match S4.wk l[i] n with
 |(false,q)=>(false,q)
 |(true,m,_)=>S4.vS (l.drop (i+1)) m:=by
 rw[dE h,S4.vS]
def AW(n a e:Int):List (Nat×R):=[(0,fV n),(1,fV a),(2,fV e)]
def ZT(v:S4)(hv:v.cR<=2^38)(ha:0<=v.FD/\v.FD<256)(q n d:Int):aJ Tryz.prog 232 [.d (ci n),.d (ci d),.d (.agg v.aT1),.lp 1 0,.lp 2 0] (aK (AW q 0 0)) (.ok (.d (cb (v.tl n).1))) (aH (aK (AW q 0 0)) [(1,fV (v.tl n).2.1),(2,fV (v.tl n).2.2)]):=by
 refine wE mix 100 Tryz.func232 tV ⟨tV,tV,tV⟩ ?_
 repeat'(first|refine bl ?_|refine bS (λh=>?_) (λh=>?_)|refine dR (aFV v hv ha) (.cons (.agg v.aT1) .nil) (bw ?_))
 all_goals(first
  |(have e:v.tl n=(false,512,4):=by unfold S4.tl;simp_all
    rw[e]
    subst_vars
    exact em;done)
  |(have e:v.tl n=(true,0,0):=by unfold S4.tl;simp_all
    rw[e]
    exact em;done)
  |(have e:v.tl n=(false,n,160):=by unfold S4.tl;simp_all
    rw[e]
    exact em;done)
  |skip)
end Go.Pv
