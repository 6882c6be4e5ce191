import Derived.Test.YtpdcbahjjmooiaaGreatA23
import Derived.Sort.AssemblyPlain
/- A program logic over the model, contracts of the functions that the law reaches: part 24. (Names and blanks were shortened by program.) -/
set_option linter.unusedVariables false
set_option linter.unusedSimpArgs false
set_option linter.constructorNameAsVariable false
set_option linter.unusedSectionVars false
set_option linter.deprecated false
set_option maxRecDepth 100000
set_option maxHeartbeats 8000000
open Go Go.Proofs
namespace Go.Pv
open Go.RowKit
variable{m:Mem}
theorem aKJ(L:List V)(hL:V.dB L<=2^37)(h:U5 L=0):∀m,aJ Tryz.prog 121 [.d (.sl 5 (L.map V.row))] m (.ok (.eL [.d (.agg [.v (.int .u8 3),ci 0,.v (.string ByteArray.empty),.sl 5 (L.map V.row),ci 0]),.d (ci (U5 L))])) m:=by
 have e:ofC L=[.v (.int .u8 3),ci 0,.v (.string ByteArray.empty),.sl 5 (L.map V.row),ci 0]:=by
  unfold ofC;unfold U5 at h;rw[if_pos];·rfl
  repeat' split at h
  ·exact⟨by assumption,by assumption⟩
  ·cases h
  ·cases h
 rw[<-e];exact aJA L hL
theorem aKK(L:List V)(hL:V.dB L<=2^37)(h:¬U5 L=0):∀m,aJ Tryz.prog 121 [.d (.sl 5 (L.map V.row))] m (.ok (.eL [.d (.agg [.v (.int .u8 0),ci 0,.v (.string ByteArray.empty),.nl 5,ci 0]),.d (ci (U5 L))])) m:=by
 have e:ofC L=zV:=by
  unfold ofC;unfold U5 at h;rw[if_neg];rintro⟨h1,h2⟩;rw[if_pos h1,if_pos h2]at h;exact h rfl
 have h2:=aJA L hL;rw[e]at h2;exact h2
theorem ZO{α:Type}(p:α->Bool)(L:List α)(i:Nat)(h:i<L.length)(h0:(L.take i).all p=true)(hp:p L[i]=true):(L.take (i+1)).all p=true:=by
 rw[iT,gQ,h0];simp[aC h,hp]
def W4.HE(x b:W4):Bool:=decide (x.kind≠0)&&(decide (x.kind<=16)&&(decide (x.n=b.n)&&(decide (x.lost=b.lost)&&(decide (x.of=b.of)&&(decide (x.by_=b.by_)&&(decide (x.set=b.set)&&(decide (x.full=b.full)&&decide (x.home=b.home))))))))
def W4.BZ(x b:W4):Bool:=decide (x.values.length=b.values.length)&&(decide (x.code.length=b.code.length)&&(decide (x.names.length=b.names.length)&&(!b.value.blank||x.value.blank)))
def W4.JZ(x:W4)(w:D4):Bool:=(decide (x.kind=14)||w.HU x.home)&&x.value.may
def W4.DT(x:W4):Bool:=decide (U5 x.values=0)&&decide (x.names.length<=64)
def W4.NQ(x:W4):Bool:=x.names.all λn=>n.value.may
def W4.YA(x:W4):Bool:=
 if x.kind=3\/x.kind=8\/x.kind=9 then decide (0<=x.n)&&(decide (x.n<=9007199254740992)&&(decide (0<=x.lost)&&decide (x.lost<=x.n)))
 else if x.kind=10 then x.full||x.value.blank
 else if x.kind=12 then(S4.C4 x.code 0).1
 else if x.kind=14 then TK x.set
 else true
def D4.AA(w:D4)(x:W4):Bool:=x.HE x.bare&&(x.BZ x.bare&&(x.JZ w&&(x.DT&&(x.NQ&&x.YA))))
theorem aG9(w:D4)(x:W4)(hx:x.cR<=2^35)(hh:-9223372036854775808<=x.home/\x.home<=9223372036854775807):∀m,aJ Tryz.prog 65 [.d (.ip w.cells),.d (.agg x.cells)] m (.ok (.d (cb (w.AA x)))) m:=by
 have hcc:x.cR=x.value.cR+V.dB x.values+S4.dB x.code+x.names.length+V.dB (x.names.map (·.value)):=rfl;have hnb:∀i(h:i<x.names.length),x.names[i].value.cR<=2^40:=λi h=>by
  have:=V.dG (x.names.map (·.value)) i (by simpa using h);rw[fO]at this;omega
 refine iC mix Tryz.func65 ?_;obtain⟨b,hb⟩:∃b,b=x.bare:=⟨_,rfl⟩;have hbo:=aGP x;rw[<-hb]at hbo;have hF:w.AA x=(x.HE b&&(x.BZ b&&(x.JZ w&&(x.DT&&(x.NQ&&x.YA))))):=by rw[hb];rfl
 rw[hF];clear hF hb
 repeat'(first|refine bl ?_|refine bS (λh=>?_) (λh=>?_)|refine fT (cs:=x.cells) hbo (bw ?_))
 any_goals(first
  |(have e:x.HE b=false:=by(unfold W4.HE;simp_all;done)
    refine dP ?_;rw[e];rfl)
  |(have e:x.HE b=false:=by(unfold W4.HE;simp_all;omega)
    refine dP ?_;rw[e];rfl)
  |(have e:x.BZ b=false:=by(unfold W4.BZ;simp_all;done)
    refine dP ?_;rw[e,c0,kL])
  |(have e:x.BZ b=false:=by(unfold W4.BZ;simp_all;omega)
    refine dP ?_;rw[e,c0,kL]))
 have e1:x.HE b=true:=by unfold W4.HE;simp_all
 repeat'(first|refine bl ?_|refine bS (λh=>?_) (λh=>?_)|refine fT (cs:=b.value.cells) (I6 b.value) (bw ?_)|refine fT (cs:=x.value.cells) (I6 x.value) (bw ?_))
 any_goals(have e:x.BZ b=false:=by(unfold W4.BZ;simp_all;done)
           refine dP ?_;rw[e,c0,kL])
 all_goals
  have e2:x.BZ b=true:=by(unfold W4.BZ;simp_all;omega)
  rw[e1,e2,cA,cA];clear e1 e2
 repeat'(first|refine bl ?_|refine bS (λh=>?_) (λh=>?_)|refine aF (aIL w x.home hh.1 hh.2) (bw ?_)|refine fT (cs:=x.value.cells) (rW x.value (by omega)) (bw ?_))
 any_goals(have e:x.JZ w=false:=by(unfold W4.JZ;simp_all;done)
           refine dP ?_;rw[e,c0])
 all_goals
  have e3:x.JZ w=true:=by(unfold W4.JZ;simp_all;done)
  rw[e3,cA];clear e3
 all_goals by_cases hof:U5 x.values=0
 repeat'(first|refine bl ?_|refine bS (λh=>?_) (λh=>?_)|refine aF (aKJ x.values (by omega) hof) (bw ?_)|refine aF (aKK x.values (by omega) hof) (bw ?_))
 any_goals(first
  |(have e:x.DT=false:=by(unfold W4.DT;simp_all;done)
    refine dP ?_;rw[e,c0])
  |(have e:x.DT=false:=by(unfold W4.DT;simp_all;omega)
    refine dP ?_;rw[e,c0]))
 any_goals(exfalso;omega)
 all_goals
  have e4:x.DT=true:=by(unfold W4.DT;simp_all;omega)
  rw[e4,cA];clear e4;have hnl:x.names.length<=64:=by omega
  refine bV mix (λi:Nat=>i<=x.names.length/\(x.names.take i).all (λn=>n.value.may)=true) (I:=λi=>[(3,.lp 1 0),(137,.d (.sl 6 (x.names.map N4.cells))),(138,.d (ci x.names.length)),(139,.d (ci i))])
   (J:=λi=>[(1,.cells false (x.cells.map A.d))]) (μ:=λi=>x.names.length -i) 1000 0 ⟨by omega,rfl⟩ (by exact mv 5000 5001) ?_
  rintro i ⟨hi,h0⟩
 repeat'(first|refine bl ?_|refine bS (λh=>?_) (λh=>?_)|refine cD rfl (by decide) (by assumption) (bw ?_)|refine fT (cs:=(x.names[i]'(by assumption)).value.cells) (rW (x.names[i]'(by assumption)).value (hnb i (by assumption))) (bw ?_)|refine fT (cs:=x.value.cells) (I6 x.value) (bw ?_)|refine aF (IB x.set) (bw ?_))
 any_goals refine lN 1104 (fV (S4.C4 x.code 0).2) ((EX x.code (by omega) 0 (by omega) (by omega)).AK rfl (λg=>rfl) (λg=>rfl) rfl (by simp[A.lQ,A.hs]) (aK _) 1104 rfl) (bw ?_)
 repeat'(first|refine bl ?_|fail)
 all_goals first
  |(refine Exists.intro (i+1) ⟨by omega,⟨by omega,ZO (λn=>n.value.may) x.names i (by assumption) h0 (by assumption)⟩,by exact mv 5000 5001⟩;done)
  |(have e5:x.NQ=true:=by(have q:=h0;rw[aI (by omega)]at q;exact q)
    refine dP ?_;rw[e5,cA];unfold W4.YA;simp_all;done)
  |(have e5:x.NQ=true:=by(have q:=h0;rw[aI (by omega)]at q;exact q)
    refine dP ?_;rw[e5,cA];unfold W4.YA;simp_all;omega)
  |(have e5:x.NQ=false:=by(unfold W4.NQ;rw[iA];exact⟨x.names[i]'(by assumption),aY _,by simp_all⟩)
    refine dP ?_;rw[e5,c0];done)
def oW(L:List Int):List Bool:=List.replicate (L.length+1) false
def K3(p:Option Int)(c:Int):Bool:=match p with
 |none=>true
 |some q=>decide (q<c)
def E7(n:Nat):List Int->Option Int->Bool
 |[],_=>true
 |c::r,p=>K3 p c&&(decide (0<c)&&decide (c<n))&&E7 n r (some c)
def xY(c:List Bool)(l:List Int):List Bool:=l.foldl (λa k=>a.set k.toNat true) c
theorem RX(l:List Int):∀c:List Bool,(xY c l).length=c.length:=by
 induction l with
 |nil=>intro c;rfl
 |cons a r ih=>intro c;simp only[xY,fX]at ih⊢;rw[ih];simp
theorem NB(c:List Bool)(l:List Int)(i:Nat)(h:i<l.length):xY c (l.take (i+1))=(xY c (l.take i)).set l[i].toNat true:=by
 simp only[xY];rw[aT h,iB];rfl
def EM(l:List Int):Nat->Option Int
 |0=>none
 |i+1=>l[i]?
theorem C3(n:Nat)(l:List Int)(i:Nat)(h:i<l.length):E7 n (l.drop i) (EM l i)=(K3 (EM l i) l[i]&&(decide (0<l[i])&&decide (l[i]<n))&&E7 n (l.drop (i+1)) (EM l (i+1))):=by
 rw[dE h,E7];simp only[EM,aC h]
theorem OE(l:List Int)(i:Nat)(h:0<i)(h2:i<=l.length):EM l i=some (l[i -1]'(by omega)):=by
 cases i with
 |zero=>omega
 |succ k=>simp only[EM,pL];exact aC (by omega)
def Q8(T:List T4):List (Ky×A):=T.map λt=>(kI t.ref,.d (.ip t.bQ.cells))
def zrs(L:List Int):List Int:=List.replicate (L.length+1) 0
def oD(L:List Int)(C:List Bool)(T:List T4):D4:=⟨L,C,T,[],0,zrs L⟩
def aJE(L:List Int)(C:List Bool):R:=.cells false [.d (.sl 1 (iR L)),.d (.sl 1 (C.map λb=>[cb b])),.h 188,.h 196,.d (ci 0),.d (.sl 1 (iR (zrs L)))]
theorem aNM{L:List Int}{C:List Bool}{T:List T4}{st:List (Ky×Nat)}(h0:m 212=some (aJE L C))(h2:m 188=some (.mp false (Q8 T) st))(h3:m 196=some (.mp false [] [])):Rd m (.lp 212 0) (.ip (oD L C T).cells):=by
 refine .lp h0 (.cons (.d _) (.cons (.d _) (.cons ?_ (.cons (.mp (vs:=[]) h3 .nil) (.cons (.d _) (.cons (.d _) .nil))))))
 have:=Rd.mp (m:=m) (vs:=T.map λt=>.ip t.bQ.cells) h2 (by
  have e:(Q8 T).map (·.2)=(T.map λt=>Go.Pv.C.ip t.bQ.cells).map A.d:=by unfold Q8;rw[bH,bH];rfl
  rw[e];exact wJ.data _ _)
 have e:(Q8 T).map (·.1)=T.map λt=>kI t.ref:=by unfold Q8;rw[bH];rfl
 rw[e]at this;exact this
def AG(T:List T4):Nat->Int
 |0=>0
 |i+1=>((T[i]?).map (·.ref)).getD 0
def ZE(w:D4)(xl:Int):List T4->Int->Bool
 |[],_=>true
 |t::r,last=>(decide (last<t.ref)&&decide (t.ref<=xl))&&w.AA t.bQ&&ZE w xl r t.ref
theorem LW(w:D4)(xl:Int)(T:List T4)(i:Nat)(h:i<T.length)(q:Int):ZE w xl (T.drop i) q=((decide (q<T[i].ref)&&decide (T[i].ref<=xl))&&w.AA T[i].bQ&&ZE w xl (T.drop (i+1)) (AG T (i+1))):=by
 rw[dE h,ZE,AG,aC h];rfl
def yV(a:List Int)(t:T4):List Int:=if t.bQ.kind=14 then a else a.set t.bQ.home.toNat (a.getD t.bQ.home.toNat 0+1)
def UR(n:Nat)(T:List T4):List Int:=T.foldl yV (List.replicate n 0)
theorem LX(n:Nat)(T:List T4)(i:Nat)(h:i<T.length):UR n (T.take (i+1))=yV (UR n (T.take i)) T[i]:=by
 unfold UR;rw[aT h,iB];rfl
theorem W0(a:List Int)(t:T4):(yV a t).length=a.length:=by
 unfold yV;split<;>simp
theorem aCY(T:List T4):∀a:List Int,(T.foldl yV a).length=a.length:=by
 induction T with
 |nil=>intro a;rfl
 |cons t r ih=>intro a;rw[fX,ih,W0]
theorem ZF(n:Nat)(T:List T4):(UR n T).length=n:=by
 unfold UR;rw[aCY];simp
theorem aHF{a:List Int}{b:Int}(h:∀v∈a,0<=v/\v<=b)(hb:0<=b)(k:Nat):0<=a.getD k 0/\a.getD k 0<=b:=by
 rw[bF];cases e:a[k]? with
 |none=>simp;exact hb
 |some v=>simp only[gZ];exact h v (c6 e)
theorem aBW(a:List Int)(t:T4)(b:Int)(hb:0<=b)(h:∀v∈a,0<=v/\v<=b):∀v∈yV a t,0<=v/\v<=b+1:=by
 intro v hv;unfold yV at hv;split at hv
 ·have:=h v hv;omega
 ·rcases oI hv with x|x
  ·have:=h v x;omega
  ·have:=aHF h hb t.bQ.home.toNat;omega
theorem aF1(n:Nat)(T:List T4)(i:Nat)(hi:i<=T.length):∀v∈UR n (T.take i),0<=v/\v<=i:=by
 induction i with
 |zero=>intro v hv;simp[UR]at hv;omega
 |succ k ih=>
  rw[LX n T k (by omega)];intro v hv;have:=aBW _ _ (k:Int) (by omega) (ih (by omega)) v hv
  push_cast;exact this
theorem E3(T:List T4)(i:Nat)(h:i<T.length):Q8 (T.take (i+1))=Q8 (T.take i)++[(kI T[i].ref,.d (.ip T[i].bQ.cells))]:=by
 unfold Q8;rw[aT h,bP];rfl
theorem aIO(T:List T4):A.lQ ((Q8 T).map (·.2))=[]:=by
 have e:(Q8 T).map (·.2)=(T.map λt=>C.ip t.bQ.cells).map A.d:=by unfold Q8;rw[bH,bH];rfl
 rw[e,wX]
theorem aF0{ml:List (Nat×R)}(T:List T4):rB ml (A.lQ ((Q8 T).map (·.2))++[]):=by
 rw[aIO];trivial
theorem aNL{T:List T4}{st:List (Ky×Nat)}(h:m 188=some (.mp false (Q8 T) st)):Rd m (.h 188) (.im (T.map λt=>kI t.ref) (T.map λt=>.ip t.bQ.cells)):=by
 have:=Rd.mp (m:=m) (vs:=T.map λt=>.ip t.bQ.cells) h (by
  have e:(Q8 T).map (·.2)=(T.map λt=>Go.Pv.C.ip t.bQ.cells).map A.d:=by unfold Q8;rw[bH,bH];rfl
  rw[e];exact wJ.data _ _)
 have e:(Q8 T).map (·.1)=T.map λt=>kI t.ref:=by unfold Q8;rw[bH];rfl
 rw[e]at this;exact this
theorem aLU{fz:Bool}{t:TypeId}{es:Nat}{l l':List (List A)}(h:l=l'):ZN m (.fW fz t es l) (.fW fz t es l'):=h▸.fW (.same _)
theorem cvE{a b:A}(h:a=b):Cv m a b:=h▸.same _
theorem aAC(L:List Int)(C:List Bool)(T:List T4)(x:W4):(oD L C T).AA x=(oD L C []).AA x:=rfl
def YW(L:List Int):List (Nat×R):=[(212,.cells false [.d (.sl 1 (iR L)),.h 164,.h 188,.h 196,.d (ci 0),.h 180]),(164,PR (oW L)),(180,dU 3 1 (iR (List.replicate (L.length+1) 0))),(188,.mp false [] []),(196,.mp false [] [])]
theorem aHV(L:List Int):aKE L=YW L:=by
 simp only[aKE,YW,PR,oW,List.map_replicate]
theorem aHW(L:List Int)(hl:L.length<16)(hp:okP L 0=true):aJ Tryz.prog 40 [.d (.sl 1 (iR L))] (aK []) (.ok (.eL [.lp 212 0,.d (ci 0)])) (aH (aK []) (YW L)):=by
 rw[<-aHV];exact aKF L hl hp
theorem NS{w:D4}{x:W4}(h:w.AA x=true):x.value.may=true/\(∀i(h:i<x.values.length),x.values[i].may=true)/\(∀i(h:i<x.names.length),x.names[i].value.may=true)/\(x.kind≠14->w.HU x.home=true):=by
 simp only[D4.AA,aE]at h;obtain⟨_,_,h3,h4,h5,_⟩:=h;simp only[W4.JZ,aE,gP,decide_eq_true_eq]at h3;simp only[W4.DT,aE,decide_eq_true_eq]at h4;have hA:x.values.all V.may=true:=by
  have:=h4.1;unfold U5 at this;by_cases e:x.values.all V.may=true
  ·exact e
  ·rw[if_neg e]at this;omega
 refine⟨h3.2,λi hi=>cV.1 hA _ (aY hi),λi hi=>cV.1 h5 _ (aY hi),λhk=>?_⟩;rcases h3.1 with e|e
 ·exact absurd e hk
 ·exact e
def QF:List Int->List Int->Bool
 |m::r,t::s=>(decide (t<=m)&&decide (m<=512))&&QF r s
 |_,_=>true
theorem GA(M F:List Int)(i:Nat)(h:i<M.length)(h2:i<F.length):QF (M.drop i) (F.drop i)=((decide (F[i]<=M[i])&&decide (M[i]<=512))&&QF (M.drop (i+1)) (F.drop (i+1))):=by
 rw[dE h,dE h2,QF]
theorem aFZ(M:List Int)(i:Nat)(h:i<M.length):(M.take (i+1)).sum=(M.take i).sum+M[i]:=by
 rw[aT h,List.sum_append];simp
def gS(i:Nat):Nat:=swp 0 212 (swp 1 196 i)
def gT(i:Nat):Nat:=swp 1 196 (swp 0 212 i)
theorem gTS(i:Nat):gT (gS i)=i:=by unfold gT gS;rw[fH,fH]
theorem gST(i:Nat):gS (gT i)=i:=by unfold gT gS;rw[fH,fH]
theorem aCR(g:Nat->Nat)(F:List ((Int×Int)×Int)):(R.mp false (l6 F) []).eZ g=.mp false (l6 F) []:=by
 simp only[R.eZ,l6,bH,bM];rfl
def MY(w:D4):R:=if w.sH=true then .mp false (l6 (lP w.things)) []else .dead
theorem aFJ(g:Nat->Nat)(w:D4):(MY w).eZ g=MY w:=by
 unfold MY;split
 ·exact aCR g _
 ·rfl
theorem aFO(w:D4)(hf:w.facets=[])(hcnt:∀t∈w.things,t.bQ.cR<=2^35)(hlen:w.things.length<=2^30)(hnd:(w.things.map (·.ref)).Nodup):
 aJ Tryz.prog 67 [.lp 212 0] (aK [(212,.cells false (w.wA 196)),(196,.mp false [] [])]) (.ok (.d (cb w.sH))) (aH (aK [(212,.cells false (w.wA 196)),(196,.mp false [] [])]) [(196,MY w)]):=by
 have k:=(aFP w hf hcnt hlen hnd).eZ (g:=gS) (gi:=gT) gTS gST;rw[rJ gTS gST,tZ gTS gST]at k;have e:lH gS [(1,if w.sH=true then R.mp false (l6 (lP w.things)) []else .dead)]=[(196,MY w)]:=by
  show [(gS 1,(MY w).eZ gS)]=_;rw[aFJ];rfl
 rw[e]at k;exact k
theorem aFK{w:D4}(h:w.sH=true):w.HY:=XH w λt ht=>by
 simp only[D4.sH,aE]at h;have:=cV.1 h.1 t ht;simp only[aE]at this;exact this.2
theorem xN(w:D4)(xl:Int):∀(T:List T4)(q:Int),ZE w xl T q=true->(∀t∈T,q<t.ref)/\(T.map (·.ref)).Nodup
 |[],q,h=>by simp
 |t::r,q,h=>by
  simp only[ZE,aE,decide_eq_true_eq]at h;obtain⟨h1,h2⟩:=xN w xl r t.ref h.2;refine⟨λu hu=>?_,?_⟩
  ·rcases aO.1 hu with rfl|hu
   ·exact h.1.1.1
   ·have:=h1 u hu;have:=h.1.1.1;omega
  ·rw[aG,gR];refine⟨λhm=>?_,h2⟩;obtain⟨u,hu,e⟩:=aM.1 hm;have:=h1 u hu;omega
def DU(x:X4):List Bool:=xY (oW x.parents) x.cuts
def YB(x:X4):Bool:=QF x.made (UR (x.parents.length+1) x.things)&&(decide (0<=x.last)&&(decide (x.last<=64*x.made.sum)&&((oD x.parents (DU x) x.things).sH&&decide (x.last+((oD x.parents (DU x) x.things).JW (lP x.things)).oL x.things<=64*x.made.sum))))
def y9(x:X4):Bool:=decide (x.parents.length<16)&&(okP x.parents 0&&(decide (x.made.length=x.parents.length+1)&&(E7 (x.parents.length+1) x.cuts none&&(ZE (oD x.parents (DU x) []) x.last x.things 0&&YB x))))
def bJ(x:X4):D4:=⟨x.parents,xY (oW x.parents) x.cuts,x.things,lP x.things,x.last,x.made⟩
def DW(x:X4):C:=if y9 x=true then .ip (bJ x).cells else H5
def DV(x:X4):Int:=if y9 x=true then 0 else 71
theorem nC{x:X4}(m:Mem)(h:y9 x=false):A1 m (.eL [.d H5,.d (ci 71)]) (.eL [.d (DW x),.d (ci (DV x))]):=by
 unfold DW DV;rw[h,if_neg gO,if_neg gO];exact .eL (cs:=[H5,ci 71]) (.cons (.d _) (.cons (.d _) .nil))
theorem aC8{x:X4}{i:Nat}(h:y9 x=true)(hr:Rd m (.lp i 0) (.ip (bJ x).cells)):A1 m (.eL [.lp i 0,.d (ci 0)]) (.eL [.d (DW x),.d (ci (DV x))]):=by
 unfold DW DV;rw[h,if_pos rfl,if_pos rfl];exact .eL (cs:=[.ip (bJ x).cells,ci 0]) (.cons hr (.cons (.d _) .nil))
theorem rdN{L:List Int}(h0:m 212=some (.cells false [.d (.sl 1 (iR L)),.h 164,.h 188,.h 196,.d (ci 0),.h 180]))(h1:m 164=some (PR (oW L)))(h2:m 188=some (.mp false [] []))(h3:m 196=some (.mp false [] []))(h4:m 180=some (dU 3 1 (iR (List.replicate (L.length+1) 0)))):Rd m (.lp 212 0) (.ip (w0 L (oW L)).cells):=
 .lp h0 (.cons (.d _) (.cons (.dU h1) (.cons (.mp (vs:=[]) h2 .nil) (.cons (.mp (vs:=[]) h3 .nil) (.cons (.d _) (.cons (.dU h4) .nil))))))
theorem aHH{α:Type}{es ce:Nat}{L:List α}{f:α->List C}{n:Int}(i:Nat)(e:n=i){k:List C->Prop}(h1:es=ce)(h2:0<es)(hi:i<L.length)(hk:k (f L[i])):PA es ce (L.map f) n k:=by
 subst e;exact cD h1 h2 hi hk
theorem G9(L:List Int)(cut:List Bool)(c:Int)(hc:cut.length=L.length+1)(he:(w0 L cut).vF c=true):aJ Tryz.prog 64 [.lp 212 0,.d (ci c)] (aK (w0M L cut)) (.ok (.d (ci 0))) (aH (aK (w0M L cut)) [(164,PR (cut.set c.toNat true))]):=by
 have h1:0<c/\c<(L.length:Int)+1:=by
  simp only[D4.vF,w0,aS,aE,decide_eq_true_eq]at he;omega
 obtain⟨k,rfl⟩:=lX (show 0<=c by omega);exact VE L cut k (by omega) he
theorem aHE(x:X4)(hcnt:∀t∈x.things,t.bQ.cR<=2^35)(hlen:x.things.length<=2^30)(hpl:x.parents.length<=2^38)(hcl:x.cuts.length<=2^38)(hml:x.made.length<=2^38)(hhm:∀t∈x.things,-9223372036854775808<=t.bQ.home/\t.bQ.home<=9223372036854775807):∀m,aJ Tryz.prog 25 [.d (.agg x.cells)] m (.ok (.eL [.d (DW x),.d (ci (DV x))])) m:=by
 refine iC mix Tryz.func25 ?_;refine bl ?_;by_cases hnew:x.parents.length<16/\okP x.parents 0=true
 case neg=>
  refine aF (aD9 x.parents hpl hnew) ?_;conv=>whnf
  refine bl ?_;refine nC _ ?_;unfold y9;rw[<-Bool.and_assoc,show(decide (x.parents.length<16)&&okP x.parents 0)=false by simp only[gI,decide_eq_false_iff_not];simp only[not_and,Bool.not_eq_true]at hnew;by_cases h:x.parents.length<16;exact .inr (hnew h);exact .inl h,c0]
 obtain⟨hn1,hn2⟩:=hnew;have hb1:y9 x=(decide (x.made.length=x.parents.length+1)&&(E7 (x.parents.length+1) x.cuts none&&(ZE (oD x.parents (DU x) []) x.last x.things 0&&YB x))):=by
  unfold y9;rw[hn2,decide_eq_true hn1,cA,cA]
 refine dZ.mk (.eL [.lp 212 0,.d (ci 0)]) (YW x.parents) (aJ.hP (aHW x.parents hn1 hn2) trivial trivial trivial ⟨.inr rfl,.inr rfl,.inr rfl,.inr rfl,.inr rfl,trivial⟩) ?_;conv=>whnf
 repeat'(first|refine bl ?_|refine bS (λh=>?_) (λh=>?_)|refine HA (cs:=[.ip (w0 x.parents (oW x.parents)).cells]) (o4 _) (.v _) (.cons (rdN rfl rfl rfl rfl rfl) .nil) (bw ?_))
 ·refine nC _ ?_;rw[hb1,decide_eq_false (by simp[w0]at h;omega),c0]
 have hmd:x.made.length=x.parents.length+1:=by simp[w0]at h;omega
 rw[decide_eq_true hmd,cA]at hb1;refine bV mix (λi:Nat=>i<=x.cuts.length/\E7 (x.parents.length+1) (x.cuts.drop i) (EM x.cuts i)=E7 (x.parents.length+1) x.cuts none) (I:=λi=>[(1,.lp 1 0),(2,.d H5),(3,.d (ci 0)),(4,.lp 212 0),(33,.d (.sl 1 (iR x.cuts))),(34,.d (ci x.cuts.length)),(35,.d (ci i))])
  (J:=λi=>(1,.cells false (x.cells.map A.d))::w0M x.parents (xY (oW x.parents) (x.cuts.take i))) (μ:=λi=>x.cuts.length -i) 1000 0 ⟨by omega,rfl⟩ ?_ ?_
 ·refine cN.freeze [180] trivial ⟨.same _,.same _,.same _,.same _,.same _,cvE (qD (by simp only[aB])),.same _,trivial⟩ ⟨⟨rfl,_,rfl,.cells (.same _)⟩,⟨rfl,_,rfl,.cells (.cons (.same _) (.cons (.same _) (.cons (.same _) (.cons (.same _) (.cons (.same _) (.cons (.rd (.dU (eX rfl rfl))) (.same _)))))))⟩,⟨rfl,_,rfl,.fW (.same _)⟩,⟨rfl,_,rfl,.mp rfl (.same _)⟩,⟨rfl,_,rfl,.mp rfl (.same _)⟩,trivial⟩ ?_ ?_
  ·exact⟨⟨sn,trivial⟩,trivial,trivial,⟨sn,trivial⟩,trivial,trivial,trivial,trivial⟩
  ·exact⟨trivial,⟨sn,sn,sn,trivial⟩,aZ,trivial,trivial,trivial⟩
 rintro i ⟨hi,h0⟩;have hcu:(xY (oW x.parents) (x.cuts.take i)).length=x.parents.length+1:=by rw[RX];simp[oW]
 repeat'(first|refine bl ?_|refine bS (λh=>?_) (λh=>?_)|refine cD rfl (by decide) (by assumption) (bw ?_)|refine aHH (i -1) (by omega) rfl (by decide) (by omega) (bw ?_))
 ·refine nC _ ?_;rw[hb1,<-h0,C3 _ _ _ (by assumption),OE _ _ (by assumption) (by omega)];rw[show K3 (some x.cuts[i -1]) x.cuts[i]=false from decide_eq_false (by omega),c0,c0,c0]
 ·have hlt:i<x.cuts.length:=by assumption
  have hpv:K3 (EM x.cuts i) x.cuts[i]=true:=by rw[OE _ _ (by assumption) (by omega)];exact decide_eq_true (by assumption)
  rw[C3 _ _ _ hlt,hpv,cA]at h0;have heq:(w0 x.parents (xY (oW x.parents) (x.cuts.take i))).vF x.cuts[i]=(decide (0<x.cuts[i])&&decide (x.cuts[i]<((x.parents.length+1:Nat):Int))):=by simp[D4.vF,w0]
  rw[<-heq]at h0;by_cases he:(w0 x.parents (xY (oW x.parents) (x.cuts.take i))).vF x.cuts[i]=true
  ·refine dZ.mk (.d (ci 0)) [(164,PR ((xY (oW x.parents) (x.cuts.take i)).set x.cuts[i].toNat true))] (aJ.hP (G9 x.parents _ x.cuts[i] hcu he) ⟨sn,trivial⟩ ⟨rfl,rfl,rfl,rfl,trivial⟩ ⟨⟨sn,sn,sn,trivial⟩,aZ,trivial,trivial,trivial⟩ ⟨.inl sn,trivial⟩) ?_;conv=>whnf
   refine bl ?_;refine⟨i+1,by omega,⟨by omega,?_⟩,?_⟩
   ·rw[he,cA]at h0;exact h0
   ·rw[NB _ _ _ hlt];exact mv 5000 5001
  ·refine dZ.mk (.d (ci 2)) [] (aJ.hP (JF x.parents _ x.cuts[i] (by simpa using he)) ⟨sn,trivial⟩ ⟨rfl,rfl,rfl,rfl,trivial⟩ ⟨⟨sn,sn,sn,trivial⟩,aZ,trivial,trivial,trivial⟩ trivial) ?_;conv=>whnf
   refine bl ?_;refine nC _ ?_;rw[hb1,<-h0,show(w0 x.parents (xY (oW x.parents) (x.cuts.take i))).vF x.cuts[i]=false by simpa using he,c0,c0]
 ·have hlt:i<x.cuts.length:=by assumption
  have hpv:K3 (EM x.cuts i) x.cuts[i]=true:=by have q:i=0:=by assumption
                                               subst q;rfl
  rw[C3 _ _ _ hlt,hpv,cA]at h0;have heq:(w0 x.parents (xY (oW x.parents) (x.cuts.take i))).vF x.cuts[i]=(decide (0<x.cuts[i])&&decide (x.cuts[i]<((x.parents.length+1:Nat):Int))):=by simp[D4.vF,w0]
  rw[<-heq]at h0;by_cases he:(w0 x.parents (xY (oW x.parents) (x.cuts.take i))).vF x.cuts[i]=true
  ·refine dZ.mk (.d (ci 0)) [(164,PR ((xY (oW x.parents) (x.cuts.take i)).set x.cuts[i].toNat true))] (aJ.hP (G9 x.parents _ x.cuts[i] hcu he) ⟨sn,trivial⟩ ⟨rfl,rfl,rfl,rfl,trivial⟩ ⟨⟨sn,sn,sn,trivial⟩,aZ,trivial,trivial,trivial⟩ ⟨.inl sn,trivial⟩) ?_;conv=>whnf
   refine bl ?_;refine⟨i+1,by omega,⟨by omega,?_⟩,?_⟩
   ·rw[he,cA]at h0;exact h0
   ·rw[NB _ _ _ hlt];exact mv 5000 5001
  ·refine dZ.mk (.d (ci 2)) [] (aJ.hP (JF x.parents _ x.cuts[i] (by simpa using he)) ⟨sn,trivial⟩ ⟨rfl,rfl,rfl,rfl,trivial⟩ ⟨⟨sn,sn,sn,trivial⟩,aZ,trivial,trivial,trivial⟩ trivial) ?_;conv=>whnf
   refine bl ?_;refine nC _ ?_;rw[hb1,<-h0,show(w0 x.parents (xY (oW x.parents) (x.cuts.take i))).vF x.cuts[i]=false by simpa using he,c0,c0]
 have hil:i=x.cuts.length:=by omega
 subst hil;rw[dT (bT _),E7]at h0;rw[<-h0,cA]at hb1;rw[gX]at hcu⊢;generalize hC:xY (oW x.parents) x.cuts=C at hcu⊢;rw[show DU x=C from hC]at hb1;refine fU (cs:=[.ip (w0 x.parents C).cells]) (o4 _) (.v _) (.cons (aER rfl rfl rfl rfl) .nil) ?_;conv=>whnf
 skip
 refine WH (by kernel_rfl) (by kernel_rfl) (by simp only[w0,aS];omega) (by simp only[w0,aS];omega) (by kernel_rfl) rfl ?_;conv=>whnf
 refine bl ?_
 rw[show List.replicate (((w0 x.parents C).made.length:Nat):Int).toNat ((zc Tryz.prog 8 3).map A.d)=bE (iR (List.replicate (x.parents.length+1) 0)) by
  have e:zc Tryz.prog 8 3=[ci 0]:=by kernel_rfl
  rw[e];simp[bE,iR,w0]]
 refine bV mix (λi:Nat=>i<=x.things.length/\(∀t∈x.things.take i,t.ref<=AG x.things i)/\ZE (oD x.parents C []) x.last (x.things.drop i) (AG x.things i)=ZE (oD x.parents C []) x.last x.things 0) (I:=λi=>[(1,.lp 1 0),(2,.d H5),(3,.d (ci 0)),(4,.lp 212 0),(8,.h 1024),(9,.d (ci (AG x.things i))),(63,.d (.sl 17 (x.things.map T4.cells))),(64,.d (ci x.things.length)),(65,.d (ci i))])
  (J:=λi=>[(1,.cells false (x.cells.map A.d)),(212,aJE x.parents C),(188,.mp false (Q8 (x.things.take i)) []),(196,.mp false [] []),(1024,dU 3 1 (iR (UR (x.parents.length+1) (x.things.take i))))]) (μ:=λi=>x.things.length -i) 2000 0 ⟨by omega,by simp,rfl⟩ ?_ ?_
 ·refine cN.freeze [164] trivial ⟨.same _,.same _,.same _,.same _,.same _,.same _,.same _,cvE (qD (by simp only[aB])),.same _,trivial⟩ ⟨⟨rfl,_,rfl,.cells (.same _)⟩,⟨rfl,_,rfl,.cells (.cons (.same _) (.cons (.rd (.dU (eX rfl rfl))) (.same _)))⟩,⟨rfl,_,rfl,.mp rfl (.same _)⟩,⟨rfl,_,rfl,.mp rfl (.same _)⟩,⟨rfl,_,rfl,.fW (.same _)⟩,trivial⟩ ?_ ?_
  ·exact⟨⟨sn,trivial⟩,trivial,trivial,⟨sn,trivial⟩,⟨sn,trivial⟩,trivial,trivial,trivial,trivial,trivial⟩
  ·exact⟨trivial,⟨sn,sn,trivial⟩,trivial,trivial,aZ,trivial⟩
 rintro i ⟨hi,hrf,h1⟩
 repeat'(first|refine bl ?_|refine bS (λh=>?_) (λh=>?_)|refine cD rfl (by decide) (by assumption) (bw ?_))
 ·refine nC _ ?_;rw[hb1,<-h1,LW _ _ _ _ (by assumption),decide_eq_false (by omega)];simp only[c0]
 ·refine nC _ ?_;rw[hb1,<-h1,LW _ _ _ _ (by assumption),show decide (x.things[i].ref<=x.last)=false from decide_eq_false (by omega)];simp only[c0,kL]
 ·have hlt:i<x.things.length:=by assumption
  have hmem:=aY hlt;refine fU (cs:=[.ip (oD x.parents C (x.things.take i)).cells,.agg x.things[i].bQ.cells]) (aG9 (oD x.parents C (x.things.take i)) x.things[i].bQ (hcnt _ hmem) (hhm _ hmem)) (.v _) (.cons (aNM rfl rfl rfl) (.cons (.agg (wJ.data _ x.things[i].bQ.cells)) .nil)) ?_;rw[aAC];rw[LW _ _ _ _ hlt,decide_eq_true (by assumption),decide_eq_true (by assumption),cA,cA]at h1;by_cases hfm:(oD x.parents C []).AA x.things[i].bQ=true
  case neg=>
   have hfm:(oD x.parents C []).AA x.things[i].bQ=false:=by simpa using hfm
   rw[hfm]at h1⊢;conv=>whnf
   refine bl ?_;refine nC _ ?_;rw[hb1,<-h1];simp only[c0]
  rw[hfm,cA]at h1;rw[hfm];obtain⟨m1,m2,m3,m4⟩:=NS hfm;conv=>whnf
  refine bl ?_;refine fT (cs:=x.things[i].bQ.cells) (yX x.things[i].bQ (by have:=hcnt _ hmem;omega) m1 m2 m3) ?_;conv=>whnf
  refine bl ?_;refine .BP (aJ1 (λt:T4=>t.ref) (λt=>.d (.ip t.bQ.cells)) _ _ (by decide)) ?_ ?_
  ·unfold Q8;rw[wZ,mN.2 (λt ht=>by have:=hrf t ht;simp only[decide_eq_true_eq];omega)];rfl
  conv=>whnf
  repeat'(first|refine bl ?_|refine bS (λh=>?_) (λh=>?_))
  ·have hk14:¬x.things[i].bQ.kind=14:=by assumption
   have hsd:=m4 hk14;have hhr:0<=x.things[i].bQ.home/\x.things[i].bQ.home<(x.parents.length:Int)+1:=by
    simp only[D4.HU,oD,zrs,aS,aE,decide_eq_true_eq]at hsd;omega
   obtain⟨k,hk⟩:∃k:Nat,x.things[i].bQ.home=k:=⟨x.things[i].bQ.home.toNat,by omega⟩;have hkl:k<(UR (x.parents.length+1) (x.things.take i)).length:=by rw[ZF];omega
   have hbv:=aF1 (x.parents.length+1) x.things i hi _ (aY hkl);refine lG.mk k hk (by simp only[bE,aB];exact hkl) ?_;conv=>whnf
   skip
   refine fZ.mk [.d (ci (UR (x.parents.length+1) (x.things.take i))[k])] (gB _ _ [ci (UR (x.parents.length+1) (x.things.take i))[k]] (by rw[cK,aC hkl];rfl)) ?_;conv=>whnf
   refine bl ?_;refine lG.mk k hk (by simp only[bE,aB];exact hkl) ?_;conv=>whnf
   skip
   refine fZ.mk [.d (ci (UR (x.parents.length+1) (x.things.take i))[k])] (gB _ _ [ci (UR (x.parents.length+1) (x.things.take i))[k]] (by rw[cK,aC hkl];rfl)) ?_;conv=>whnf
   refine bl ?_;refine⟨i+1,by omega,⟨by omega,?_,h1⟩,?_⟩
   ·intro t ht;rw[aT hlt,bN]at ht;have hl1:AG x.things (i+1)=x.things[i].ref:=by rw[AG,aC hlt];rfl
    rw[hl1];rcases ht with ht|ht
    ·have:=hrf t ht;omega
    ·simp only[aR]at ht;subst ht;omega
   ·rw[LX _ _ _ hlt,yV,if_neg hk14,E3 _ _ hlt];refine cN.freeze [2232] trivial ⟨.same _,.same _,.same _,.same _,.same _,cvE (by show A.d (ci _)=A.d (ci _);rw[AG,aC hlt];rfl),.same _,.same _,cvE (by show A.d (ci _)=A.d (ci _);simp),trivial⟩ ⟨⟨rfl,_,rfl,.cells (.same _)⟩,⟨rfl,_,rfl,.cells (.same _)⟩,⟨rfl,_,rfl,.mp (by simp only[bP];rfl) (by rw[bP,bP];exact IX.append (.same _) (.cons (.rd (.lp (eX rfl rfl) (wJ.data _ x.things[i].bQ.cells))) (.same _)))⟩,⟨rfl,_,rfl,.mp rfl (.same _)⟩,⟨rfl,_,rfl,aLU (by rw[show x.things[i].bQ.home.toNat=k by omega,bF,aC hkl,gZ];exact(tU _ k [ci ((UR (x.parents.length+1) (x.things.take i))[k]+1)]).trans (by rw[<-qS]))⟩,trivial⟩ ?_ ?_
    ·exact⟨⟨sn,trivial⟩,trivial,trivial,⟨sn,trivial⟩,⟨sn,trivial⟩,trivial,trivial,trivial,trivial,trivial⟩
    ·exact⟨trivial,⟨sn,sn,trivial⟩,by rw[<-E3 _ _ hlt];exact aF0 _,trivial,aZ,trivial⟩
  ·refine⟨i+1,by omega,⟨by omega,?_,h1⟩,?_⟩
   ·intro t ht;rw[aT hlt,bN]at ht;have hl1:AG x.things (i+1)=x.things[i].ref:=by rw[AG,aC hlt];rfl
    rw[hl1];rcases ht with ht|ht
    ·have:=hrf t ht;omega
    ·simp only[aR]at ht;subst ht;omega
   ·rw[LX _ _ _ hlt,yV,if_pos (by assumption),E3 _ _ hlt];refine cN.freeze [2232] trivial ⟨.same _,.same _,.same _,.same _,.same _,cvE (by show A.d (ci _)=A.d (ci _);rw[AG,aC hlt];rfl),.same _,.same _,cvE (by show A.d (ci _)=A.d (ci _);simp),trivial⟩ ⟨⟨rfl,_,rfl,.cells (.same _)⟩,⟨rfl,_,rfl,.cells (.same _)⟩,⟨rfl,_,rfl,.mp (by simp only[bP];rfl) (by rw[bP,bP];exact IX.append (.same _) (.cons (.rd (.lp (eX rfl rfl) (wJ.data _ x.things[i].bQ.cells))) (.same _)))⟩,⟨rfl,_,rfl,.mp rfl (.same _)⟩,⟨rfl,_,rfl,.fW (.same _)⟩,trivial⟩ ?_ ?_
    ·exact⟨⟨sn,trivial⟩,trivial,trivial,⟨sn,trivial⟩,⟨sn,trivial⟩,trivial,trivial,trivial,trivial,trivial⟩
    ·exact⟨trivial,⟨sn,sn,trivial⟩,by rw[<-E3 _ _ hlt];exact aF0 _,trivial,aZ,trivial⟩
 have hil:i=x.things.length:=by omega
 subst hil;rw[dT (bT _),ZE]at h1;rw[<-h1,cA]at hb1;rw[gX];have hfb:=aF1 (x.parents.length+1) x.things x.things.length (bT _);rw[gX]at hfb;have hfl:=ZF (x.parents.length+1) x.things;have hfr:YB x=(QF x.made (UR (x.parents.length+1) x.things)&&(decide (0<=x.last)&&(decide (x.last<=64*x.made.sum)&&((oD x.parents C x.things).sH&&decide (x.last+((oD x.parents C x.things).JW (lP x.things)).oL x.things<=64*x.made.sum))))):=by rw[<-hC];rfl
 rw[hfr]at hb1;clear hfr;generalize hFh:UR (x.parents.length+1) x.things=Fh at hfb hfl hb1⊢;refine bV mix (λa:Nat×Int=>a.1<=x.made.length/\QF (x.made.drop a.1) (Fh.drop a.1)=QF x.made Fh/\a.2=(x.made.take a.1).sum/\0<=a.2/\a.2<=512*a.1) (I:=λa=>[(1,.lp 1 0),(2,.d H5),(3,.d (ci 0)),(4,.lp 212 0),(8,.d (.sl 1 (iR Fh))),(13,.d (ci a.2)),(110,.d (.sl 1 (iR x.made))),(111,.d (ci x.made.length)),(112,.d (ci a.1))])
  (J:=λa=>[(1,.cells false (x.cells.map A.d)),(212,.cells false ((oD x.parents C x.things).wA 196)),(196,.mp false [] [])]) (μ:=λa=>x.made.length -a.1) 3000 (0,0) ⟨by simp,rfl,rfl,by simp,by simp⟩ ?_ ?_
 ·refine cN.freeze [188,1024] trivial ⟨.same _,.same _,.same _,.same _,.rd (.dU (eX rfl rfl)),.same _,.same _,cvE (qD (by simp only[aB])),.same _,trivial⟩ ⟨⟨rfl,_,rfl,.cells (.same _)⟩,⟨rfl,_,rfl,.cells (.cons (.same _) (.cons (.same _) (.cons (.rd (aNL (eX rfl rfl))) (.same _))))⟩,⟨rfl,_,rfl,.mp rfl (.same _)⟩,trivial⟩ ?_ ?_
  ·exact⟨⟨sn,trivial⟩,trivial,trivial,⟨sn,trivial⟩,trivial,trivial,trivial,trivial,trivial,trivial⟩
  ·exact⟨trivial,⟨sn,trivial⟩,trivial,trivial⟩
 rintro⟨i,sm⟩ ⟨hi,h2,hsm,hs0,hs1⟩;dsimp only at hi h2 hsm hs0 hs1⊢;have hnd:=(xN _ _ _ _ h1.symm).2;have hsnd:=aFO (oD x.parents C x.things) rfl hcnt hlen hnd;clear hrf h0 hpl hcl hml hhm
 repeat'(first|refine bl ?_|refine bS (λh=>?_) (λh=>?_)|refine cD rfl (by decide) (by omega) (bw ?_))
 ·refine nC _ ?_;rw[hb1,<-h2,GA _ _ _ (by assumption) (by omega),decide_eq_false (by omega)];simp only[c0]
 ·refine nC _ ?_;rw[hb1,<-h2,GA _ _ _ (by assumption) (by omega),show decide (x.made[i]<=512)=false from decide_eq_false (by omega)];simp only[c0,kL]
 ·have hlt:i<x.made.length:=by assumption
  have hF0:=hfb _ (aY (show i<Fh.length by omega));refine FC.mk (RG (by omega) (by omega)) ?_;conv=>whnf
  refine bl ?_;refine⟨(i+1,sm+x.made[i]),by dsimp only;omega,⟨by dsimp only;omega,?_,?_,by dsimp only;omega,by dsimp only;omega⟩,by exact mv 5000 5001⟩
  ·rw[GA _ _ _ hlt (by omega),decide_eq_true (by assumption),decide_eq_true (by assumption),cA,cA]at h2;exact h2
  ·dsimp only;rw[aFZ _ _ hlt,<-hsm]
 ·refine nC _ ?_;rw[hb1,show decide (0<=x.last)=false from decide_eq_false (by omega)];simp only[c0,kL]
 ·refine nC _ ?_;rw[aI (by omega)]at hsm;rw[hb1,<-hsm,show decide (x.last<=64*sm)=false from decide_eq_false (by omega)];simp only[c0,kL]
 have hil:i=x.made.length:=by omega
 subst hil;rw[dT (bT _)]at h2;rw[<-h2,show QF [] (Fh.drop x.made.length)=true from rfl,cA,decide_eq_true (by omega:0<=x.last),cA]at hb1;rw[gX]at hsm;rw[<-hsm,decide_eq_true (by omega:x.last<=64*sm),cA]at hb1;by_cases hs:(oD x.parents C x.things).sH=true
 case neg=>
  have hs:(oD x.parents C x.things).sH=false:=by simpa using hs
  rw[show MY (oD x.parents C x.things)=.dead by unfold MY;rw[hs];rfl,hs]at hsnd;refine xQ.BL (.d (cb false)) [(196,.dead)] (aJ.hP hsnd ⟨sn,trivial⟩ ⟨rfl,rfl,trivial⟩ ⟨⟨sn,trivial⟩,trivial,trivial⟩ ⟨.inl sn,trivial⟩) ?_;conv=>whnf
  refine bl ?_;refine nC _ ?_;rw[hb1,hs];rfl
 rw[show MY (oD x.parents C x.things)=.mp false (l6 (lP x.things)) [] by unfold MY;rw[hs];rfl,hs]at hsnd;have hac:=aFK hs;have hsb:=((oD x.parents C x.things).JW (lP x.things)).GU x.things;have hsb2:=((oD x.parents C x.things).JW (lP x.things)).GU ((oD x.parents C x.things).JW (lP x.things)).things;have hsame:((oD x.parents C x.things).JW (lP x.things)).oL x.things=((oD x.parents C x.things).JW (lP x.things)).oL ((oD x.parents C x.things).JW (lP x.things)).things:=rfl;have hlen2:(((oD x.parents C x.things).JW (lP x.things)).things).length<=2^30:=hlen;rw[hs,cA]at hb1;refine xQ.BL (.d (cb true)) [(196,.mp false (l6 (lP x.things)) [])] (aJ.hP hsnd ⟨sn,trivial⟩ ⟨rfl,rfl,trivial⟩ ⟨⟨sn,trivial⟩,trivial,trivial⟩ ⟨.inl sn,trivial⟩) ?_;conv=>whnf
 repeat'(first|refine bl ?_|refine bS (λh=>?_) (λh=>?_)|refine HA (cs:=[.ip ((oD x.parents C x.things).JW (lP x.things)).cells]) (aFQ _ (HY.JW hac _) hlen) (.v _) (.cons (rdW rfl rfl) .nil) (bw ?_)|refine cH (G6 (iR x.made) (by simp only[aB];omega) (by simp)) (bw ?_))
 ·refine nC _ ?_;rw[hb1];exact decide_eq_false (by omega)
 ·have hB:y9 x=true:=by
   rw[hb1];exact decide_eq_true (by omega)
  have hW:bJ x=(⟨x.parents,C,x.things,[],x.last,x.made⟩:D4).JW (lP x.things):=by
   unfold bJ;rw[hC];rfl
  refine aC8 hB ?_;rw[hW];exact rdW rfl rfl
structure D4.gA(w:D4):Prop where
 cR:∀t∈w.things,t.bQ.cR<=2^35
 len:w.things.length<=2^30
 nodup:(w.things.map (·.ref)).Nodup
 may:∀t∈w.things,t.bQ.value.may=true/\(∀i(h:i<t.bQ.values.length),t.bQ.values[i].may=true)/\(∀i(h:i<t.bQ.names.length),t.bQ.names[i].value.may=true)
 sides:0<w.made.length
theorem aEY(w:D4)(hw:0<w.made.length):∀m,aJ Tryz.prog 156 [.d (.ip w.cells)] m (.ok (.d (cb false))) m:=by
 refine iC mix Tryz.func156 ?_
 repeat'(first|refine bl ?_|refine aF (o4 w) (bw ?_))
 all_goals(refine dP ?_;simp;intro e;rw[e]at hw;simp at hw)
theorem aE2(w:D4)(s:Int)(h1:-9223372036854775808<=s)(h2:s<=9223372036854775807):∀m,aJ Tryz.prog 157 [.d (.ip w.cells),.d (ci s)] m (.ok (.d (cb (w.HU s)))) m:=by
 refine iC mix Tryz.func157 ?_
 repeat'(first|refine bl ?_|refine bS (λh=>?_) (λh=>?_)|refine aF (o4 w) (bw ?_))
 all_goals(refine dP ?_;simp_all[D4.HU];try(intros;omega))
abbrev W4.zero:W4:=⟨0,0,V.zero,[],0,0,0,0,0,false,[],[]⟩
def D4.iI(w:D4)(r:Int):W4:=((w.find r).map (·.bQ)).getD W4.zero
def D4.kK(w:D4)(r:Int):Int:=if w.mI r=true then 0 else 5
theorem aES:wJ m ([.d (.v (.int .u8 0)),.d (ci 0),.d (.v (.int .u8 0)),.d (ci 0),.d (.v (.string ByteArray.empty)),.d (.nl 5),.d (ci 0),.d (.nl 5),.d (ci 0),.d (ci 0),.d (ci 0),.d (ci 0),.d (.v (.int .u8 0)),.d (cb false),.d (.nl 17),.d (.nl 6)]:List A) W4.zero.cells:=
 .cons (.d _) (.cons (.d _) (.cons (.d _) (.cons (.d _) (.cons (.d _) (.cons (.nz _ _) (.cons (.d _) (.cons (.nz _ _) (.cons (.d _) (.cons (.d _) (.cons (.d _) (.cons (.d _) (.cons (.d _) (.cons (.d _) (.cons (.nz _ _) (.cons (.nz _ _) .nil)))))))))))))))
theorem ZL(w:D4)(hg:w.gA)(r:Int):∀m,aJ Tryz.prog 114 [.d (.ip w.cells),.d (ci r)] m (.ok (.eL [.d (.agg (w.iI r).cells),.d (ci (w.kK r))])) m:=by
 refine iC mix Tryz.func114 ?_
 repeat'(first|refine bl ?_|refine bS (λh=>?_) (λh=>?_)|refine aF (vQ w) (bw ?_)|refine aF (sB w r) (bw ?_))
 ·have hn:w.find r=none:=by
   have:=‹w.mI r=false›;unfold D4.mI at this;cases h:w.find r with
   |none=>rfl
   |some t=>rw[h]at this;simp at this
  have e1:w.iI r=W4.zero:=by unfold D4.iI;rw[hn];rfl
  have e2:w.kK r=5:=by unfold D4.kK;rw[if_neg (by simp_all)]
  rw[e1,e2];exact .eL (cs:=[.agg W4.zero.cells,ci 5]) (.cons (.agg aES) (.cons (.d _) .nil))
 ·have hb:=‹w.mI r=true›;refine EA (by decide) (λt ht=>?_) (λht=>?_)
  ·have hf:w.find r=some t:=ht;have hm:=cT ht;obtain⟨m1,m2,m3⟩:=hg.may t hm;conv=>whnf
   skip
   refine aF (yX t.bQ (by have:=hg.cR t hm;omega) m1 m2 m3) ?_;conv=>whnf
   refine bl ?_;have e1:w.iI r=t.bQ:=by unfold D4.iI;rw[hf];rfl
   have e2:w.kK r=0:=by unfold D4.kK;rw[if_pos hb]
   rw[e1,e2];exact .eL (cs:=[.agg t.bQ.cells,ci 0]) (.cons (.agg (wJ.data _ t.bQ.cells)) (.cons (.d _) .nil))
  ·exfalso;have hf:w.find r=none:=ht;unfold D4.mI at hb;rw[hf]at hb;simp at hb
theorem SW(w:D4)(hg:w.gA)(r:Int):∀m,aJ Tryz.prog 71 [.d (.ip w.cells),.d (ci r)] m (.ok (.eL [.d (.agg (w.iI r).cells),.d (ci (w.kK r))])) m:=by
 refine iC mix Tryz.func71 ?_
 repeat'(first|refine bl ?_|refine aF (ZL w hg r) (bw ?_))
 all_goals exact .eL (cs:=[.agg (w.iI r).cells,ci (w.kK r)]) (.cons (.agg (wJ.data _ (w.iI r).cells)) (.cons (.d _) .nil))
def D4.nW(w:D4)(r:Int):List Int:=
 if w.kK r≠0 then []
 else if(w.iI r).kind=14\/(w.iI r).kind=11 then [(w.iI r).of]
 else if(w.iI r).kind=15\/(w.iI r).kind=16 then [(w.iI r).of,(w.iI r).by_]
 else []
theorem AM(w:D4)(hg:w.gA)(r:Int):∀m,aJ Tryz.prog 30 [.d (.ip w.cells),.d (ci r)] m (.ok (.eL [.d (.sl 1 (iR (w.nW r))),.d (ci (w.kK r))])) m:=by
 refine iC mix Tryz.func30 ?_
 repeat'(first|refine bl ?_|refine bS (λh=>?_) (λh=>?_)|refine aF (SW w hg r) (bw ?_))
 all_goals
  unfold D4.nW
  first
  |(rw[if_pos (by assumption)];exact .eL (cs:=[.sl 1 [],ci (w.kK r)]) (.cons (.nz _ _) (.cons (.d _) .nil)))
  |(rw[if_neg (by omega),if_pos (by omega)];rw[show w.kK r=0 by assumption];exact .eL (cs:=[.sl 1 (iR [(w.iI r).of]),ci 0]) (.cons (.dU (t:=25) rfl) (.cons (.d _) .nil)))
  |(rw[if_neg (by omega),if_neg (by omega),if_pos (by omega)];rw[show w.kK r=0 by assumption];exact .eL (cs:=[.sl 1 (iR [(w.iI r).of,(w.iI r).by_]),ci 0]) (.cons (.dU (t:=25) rfl) (.cons (.d _) .nil)))
  |(rw[if_neg (by omega),if_neg (by omega),if_neg (by omega)];rw[show w.kK r=0 by assumption];exact .eL (cs:=[.sl 1 [],ci 0]) (.cons (.nz _ _) (.cons (.d _) .nil)))
def jL(L:List N4):List Int:=(L.map λn=>n.value.eI).flatten
theorem D0(L:List N4)(hL:V.dB (L.map (·.value))+L.length<=2^35):∀m,aJ Tryz.prog 50 [.d (.sl 6 (L.map N4.cells))] m (.ok (.d (.sl 1 (iR (jL L))))) m:=by
 have hc3:∀i(h:i<L.length),L[i].value.cR<=2^35:=λi h=>by
  have:=V.dG (L.map (·.value)) i (by simpa using h);rw[fO]at this;omega
 have hr2:∀i,(((L.take i).map λn=>n.value.eI).flatten).length<=V.dB (L.map (·.value)):=λi=>by
  have h3:=qN ((L.take i).map (·.value));rw[bH]at h3;have h4:=V.kA (L.map (·.value)) i;rw[<-List.map_take]at h4;exact cL h3 h4
 refine iC mix Tryz.func50 ?_;refine bl ?_;refine bV mix (λa:Nat×List Int=>a.1<=L.length/\a.2=((L.take a.1).map λn=>n.value.eI).flatten) (I:=λa=>[(6,.d (.sl 6 (L.map N4.cells))),(7,.d (ci L.length)),(3,lv 1 900 (iR a.2)),(8,.d (ci a.1))])
  (J:=λa=>lm 900 25 1 (iR a.2) []) (μ:=λa=>L.length -a.1) 1000 (0,[]) ⟨by simp,by simp⟩ (by exact mv 5000 5001) ?_
 rintro⟨i,Q⟩ ⟨hi,hQ⟩;dsimp only at hi hQ⊢;have hlen:Q.length<=2^36:=by
  have h1:=hr2 i;rw[hQ];omega
 cases Q with
 |nil=>
  show vc _ _ _ _ _ [] _ _
  repeat'(first|refine bl ?_|refine bS (λh=>?_) (λh=>?_))
  ·refine cD rfl (by decide) h ?_;have hst:((L.take (i+1)).map λn=>n.value.eI).flatten=((L.take i).map λn=>n.value.eI).flatten++L[i].value.eI:=by rw[iU (λn:N4=>n.value.eI) L i h]
   conv=>whnf
   refine bl ?_;refine dR (jG L[i].value (hc3 i h)) (.cons (.agg L[i].value.cells) .nil) ?_;have hq:=L[i].value.iY;have hq2:=hc3 i h;conv=>whnf
   skip
   refine n8 (by simp only[aB];omega) (by kernel_rfl) ?_;conv=>whnf
   refine E9.mk (λh1=>?_) (λh1=>?_)
   ·have h1:L[i].value.eI=[]:=by simpa using h1
    conv=>whnf
    refine bl ?_;refine⟨(i+1,[]),by dsimp only;omega,⟨by dsimp only;omega,by dsimp only;rw[hst,h1,dS,<-hQ]⟩,?_⟩;exact mv 5000 5001
   ·have h1:L[i].value.eI≠[]:=by simpa using h1
    conv=>whnf
    refine bl ?_;refine⟨(i+1,L[i].value.eI),by dsimp only;omega,⟨by dsimp only;omega,by dsimp only;rw[hst,<-hQ,bZ]⟩,?_⟩;cases hrr:L[i].value.eI with
    |nil=>exact absurd hrr h1
    |cons r Q=>
     dsimp only[iR,List.map_cons,lv,lm];exact mv 1072 900
     all_goals exact cO rfl (by rw[hrr];rfl)
  ·have e:L.take i=L:=aI (by omega);rw[e]at hQ;rw[show jL L=_ from hQ.symm];exact .one (.nz _ _)
 |cons r Q=>
  show vc _ _ _ _ _ [(900,dU 25 1 (iR (r::Q))),] _ _
  repeat'(first|refine bl ?_|refine bS (λh=>?_) (λh=>?_))
  ·refine cD rfl (by decide) h ?_;have hst:((L.take (i+1)).map λn=>n.value.eI).flatten=((L.take i).map λn=>n.value.eI).flatten++L[i].value.eI:=by rw[iU (λn:N4=>n.value.eI) L i h]
   conv=>whnf
   refine bl ?_;refine dR (jG L[i].value (hc3 i h)) (.cons (.agg L[i].value.cells) .nil) ?_;have hq:=L[i].value.iY;have hq2:=hc3 i h;conv=>whnf
   skip
   refine n8 (by simp only[aB,bE];omega) (by kernel_rfl) ?_;conv=>whnf
   refine bl ?_;refine⟨(i+1,r::(Q++L[i].value.eI)),by dsimp only;omega,⟨by dsimp only;omega,by dsimp only;rw[hst,<-hQ];rfl⟩,?_⟩;refine mq 1072 900 ?_
   all_goals exact cO rfl (gG (r::Q) L[i].value.eI)
  ·have e:L.take i=L:=aI (by omega);rw[e]at hQ;rw[show jL L=_ from hQ.symm];exact .one (.dU (t:=25) rfl)
theorem sN(L:List Int)(r:Int)(hL:L.length<=2^38):∀m,aJ Tryz.prog 26 [.d (.sl 1 (iR L)),.d (ci r)] m (.ok (.d (cb (L.any λx=>decide (x=r))))) m:=by
 refine iC mix Tryz.func26 ?_;refine bl ?_;refine bV mix (λi:Nat=>i<=L.length/\(L.take i).any (λx=>decide (x=r))=false) (I:=λi=>[(0,.d (.sl 1 (iR L))),(1,.d (ci r)),(5,.d (ci i))])
  (J:=λi=>[]) (μ:=λi=>L.length -i) 100 0 ⟨by omega,rfl⟩ (by exact mv 5000 5001) ?_
 rintro i ⟨hi,h0⟩
 repeat'(first|refine bl ?_|refine bS (λh=>?_) (λh=>?_)|refine cD rfl (by decide) (by assumption) (bw ?_))
 ·have hlt:i<L.length:=by assumption
  refine dP ?_;exact(dQ.2 ⟨L[i],aY hlt,by simpa using‹L[i]=r›⟩).symm
 ·have hlt:i<L.length:=by assumption
  refine⟨i+1,by omega,⟨by omega,A2 (λx=>decide (x=r)) L i hlt h0 (by simpa using‹¬L[i]=r›)⟩,?_⟩;exact mv 5000 5001
 ·rw[aI (by omega)]at h0;rw[h0];exact dP rfl
theorem aDR(a:Int):∀m,aJ Tryz.prog 220 [.d (ci a)] m (.ok (.d (cb false))) m:=by
 refine iC mix Tryz.func220 ?_;refine bl ?_;refine dP ?_;simp
theorem nE(a b:Int):∀m,aJ Tryz.prog 195 [.d (ci a),.d (ci b)] m (.ok (.d (cb (decide (a<b))))) m:=by
 refine iC mix Tryz.func195 ?_
 repeat'(first|refine bl ?_|refine aF (aDR _) (bw ?_))
 all_goals(refine dP ?_;try simp_all)
abbrev iG(d:Array Int):R:=dU 25 1 (iR d.toList)
abbrev eF(a b:Int):Bool:=decide (a<b)
theorem fY(d:Array Int)(i:Nat)(h:i<d.size):(bE (iR d.toList))[i]?=some [.d (ci d[i]!)]:=by
 refine gB _ _ [ci d[i]!] ?_;rw[cK];simp[h]
theorem XJ(d:Array Int)(i:Nat)(v:Int):(bE (iR d.toList)).set i [.d (ci v)]=bE (iR (d.setIfInBounds i v).toList):=by
 refine(tU _ i [ci v]).trans ?_;rw[Array.toList_setIfInBounds,iR,iR,qS]
theorem B0(a:Nat):∀(j:Nat)(d:Array Int),(Go.Sort.insInner eF a j d).size=d.size
 |0,d=>rfl
 |j+1,d=>by
  rw[Go.Sort.insInner];split
  ·rw[B0 a j];simp[Go.Sort.swp]
  ·rfl
theorem MP(a j:Nat)(f:Array Int)(h:¬(a<j/\f[j]! <f[j -1]!)):Go.Sort.insInner eF a j f=f:=by
 cases j with
 |zero=>rfl
 |succ k=>
  rw[Go.Sort.insInner,if_neg];simpa using h
theorem S8(a j:Nat)(f:Array Int)(h:a<j)(h2:f[j]! <f[j -1]!):Go.Sort.insInner eF a j f=Go.Sort.insInner eF a (j -1) (Go.Sort.swp f j (j -1)):=by
 cases j with
 |zero=>omega
 |succ k=>
  rw[Go.Sort.insInner,if_pos];·rfl
  simpa using⟨h,h2⟩
theorem jD(f:Array Int)(i j:Nat):((bE (iR f.toList)).set i [.d (ci f[j]!)]).set j [.d (ci f[i]!)]=bE (iR (Go.Sort.swp f i j).toList):=by
 rw[XJ,XJ];rfl
theorem VX(d:Array Int)(a b:Nat)(ha:a<=b)(hb:b<=d.size)(hd:d.size<=2^40):aJ Tryz.prog 189 [.h 0,.d (ci a),.d (ci b)] (aK [(0,iG d)]) (.ok (.eL [])) (aH (aK [(0,iG d)]) [(0,iG (Go.Sort.insertionSort eF d a b))]):=by
 refine wE mix 100 Tryz.func189 trivial ⟨aZ,trivial⟩ ?_;refine bl ?_;refine bV mix (λs:Nat×Array Int=>a+1<=s.1/\s.1<=b+1/\s.2.size=d.size/\Go.Sort.insOuter eF a b s.1 s.2=Go.Sort.insertionSort eF d a b) (I:=λs=>[(0,.h 0),(1,.d (ci a)),(2,.d (ci b)),(6,.d (ci s.1))])
  (J:=λs=>[(0,iG s.2)]) (μ:=λs=>b+1 -s.1) 200 (a+1,d) ⟨by simp,by simpa using ha,rfl,rfl⟩ (by exact mv 5000 5001) ?_
 rintro⟨i,e⟩ ⟨h1,h2,h3,h4⟩;dsimp only at h1 h2 h3 h4⊢
 repeat'(first|refine bl ?_|refine bS (λh=>?_) (λh=>?_))
 ·refine bV mix (λs:Nat×Array Int=>s.1<=i/\s.2.size=d.size/\Go.Sort.insInner eF a s.1 s.2=Go.Sort.insInner eF a i e) (I:=λs=>[(0,.h 0),(1,.d (ci a)),(2,.d (ci b)),(6,.d (ci i)),(7,.d (ci s.1))])
   (J:=λs=>[(0,iG s.2)]) (μ:=λs=>s.1) 300 (i,e) ⟨by simp,h3,rfl⟩ (by exact mv 5000 5001) ?_
  rintro⟨j,f⟩ ⟨g1,g2,g3⟩;dsimp only at g1 g2 g3⊢
  repeat'(first|refine bl ?_|refine bS (λh=>?_) (λh=>?_)|refine ow j (bw ?_)|refine ow2 (j -1) (bw ?_)|(refine fZ.mk _ (fY f j (by omega)) ?_;(conv=>whnf))|(refine fZ.mk _ (fY f (j -1) (by omega)) ?_;(conv=>whnf))|(refine fZ.mk _ ((jH (by omega)).trans (fY f (j -1) (by omega))) ?_;(conv=>whnf))|refine cH (nE _ _) (bw ?_))
  ·refine⟨(j -1,Go.Sort.swp f j (j -1)),by dsimp only;omega,⟨by dsimp only;omega,by simp[Go.Sort.swp,g2],?_⟩,?_⟩
   ·dsimp only;rw[<-S8 a j f (by assumption) (by assumption)];exact g3
   ·refine mq 5000 5001 ?_;exact cO rfl (jD f j (j -1))
  all_goals
   have hst:Go.Sort.insInner eF a j f=f:=MP a j f (by omega);rw[hst]at g3;refine⟨(i+1,f),by dsimp only;omega,⟨by dsimp only;omega,by dsimp only;omega,g2,?_⟩,by exact mv 5000 5001⟩;dsimp only;rw[<-h4,Go.Sort.insOuter.eq_def eF a b i e,if_pos (by assumption),g3]
 ·refine dA rfl ⟨.inr ?_,.inl rfl,trivial⟩;rw[<-h4,Go.Sort.insOuter.eq_def eF a b i e,if_neg (by omega)];rfl
end Go.Pv
