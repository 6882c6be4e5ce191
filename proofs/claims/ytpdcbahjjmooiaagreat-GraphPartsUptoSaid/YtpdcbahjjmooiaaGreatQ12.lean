import Derived.Test.YtpdcbahjjmooiaaGreatQ11
import Derived.Test.YtpdcbahjjmooiaaGreatRows
import Derived.Deep.Slices
import Derived.ChangeArms
import Derived.ChangeMaps5
/- Contracts of functions that the law reaches, and their logic. No conditions. -/
set_option linter.all false
set_option maxRecDepth 100000
set_option maxHeartbeats 8000000
open Go Go.Proofs
namespace Go.Pv
open Go.RowKit
variable{w:D4}{r:Int}{F:List (Int×Int)}{n i es:Nat}{t:TypeId}{cs:List Value}{m:Mem}
mutual
def S4.ab:S4->Prop
 |.mk _ _ _ x _ _ _ t e c _=>(0<=x/\x<256)/\S4.abL t/\S4.abL e/\S4.abL c
def S4.abL:List S4->Prop
 |[]=>True
 |v::r=>S4.ab v/\S4.abL r
end
def S4.aJM(v:S4)(h:v.ab):(0<=v.FD/\v.FD<256)/\S4.abL v.t/\S4.abL v.e/\S4.abL v.c:=by cases v;exact h
def S4.XE:∀(l:List S4)(i:Nat)(h:i<l.length),S4.abL l->l[i].ab
 |v::r,0,h,hl=>hl.1
 |v::r,i+1,h,hl=>S4.XE r i (by simpa using h) hl.2
def wkB:List (List S4)->Int->Bool×Int×Int×Int
 |[],n=>(true,n,0,0)
 |b::r,n=>match S4.vS b n with
  |(false,q)=>(false,q)
  |(true,m,_)=>wkB r m
def S4.aB1(v:S4)(n:Int)(h0:0<=n)(h1:n<=512):v.wk n=match v.tl n with
 |(false,q)=>(false,n+1,q)
 |(true,_)=>wkB [v.t,v.e,v.c] (n+1):=by
 rw[S4.aLC];have h2:=S4.aF3 v n;generalize v.tl n=q at h2⊢;obtain⟨x,y⟩:=q;cases x with
 |false=>rfl
 |true=>
  have tO:=S4.wI v.t (n+1) oM (by have:=(h2 rfl).1;omega);dsimp only;rw[wkB];generalize S4.vS v.t (n+1)=q1 at tO⊢;obtain⟨x1,m1,z1⟩:=q1;cases x1 with
  |false=>rfl
  |true=>
   have uB:=S4.wI v.e m1 tO.1 (tO.2.2 rfl).1;dsimp only;rw[wkB];generalize S4.vS v.e m1=q2 at uB⊢;obtain⟨x2,m2,z2⟩:=q2;cases x2 with
   |false=>rfl
   |true=>
    have hb3:=S4.wI v.c m2 uB.1 (uB.2.2 rfl).1;dsimp only;rw[wkB];generalize S4.vS v.c m2=q3 at hb3⊢;obtain⟨x3,m3,z3⟩:=q3;cases x3 with
    |false=>rfl
    |true=>
     have:=(hb3.2.2 rfl).2;simp only at this;subst this;rfl
abbrev aM3(v:S4):List (List C):=[[jX v.t],[jX v.e],[jX v.c]]
abbrev UK:A:=.fn (.func 232) [] [.lp 1 0,.lp 2 0]
def R0(l:List S4)(hv:S4.dB l<=2^38)(ha:S4.abL l)(d n:Int)(hd:0<=d)(hd2:d+S4.dB l<=2^40)(h0:0<=n)(h1:n<=512):aJ Tryz.prog 231 [.d (jX l),.d (ci d),.lp 0 0,UK] (aK (AW n 0 0)) (.ok (.d (cb (S4.vS l n).1))) (aH (aK (AW n 0 0)) [(0,fV (S4.vS l n).2.1),(1,fV (S4.vS l n).2.2.1),(2,fV (S4.vS l n).2.2.2)]):=by
 have hl:=S4.eW l;refine wE mix 100 Tryz.func231 tV ⟨tV,tV,tV,tV⟩ ?_;refine bl ?_;refine bV mix (λa:Nat×Int=>a.1<=l.length/\(0<=a.2/\a.2<=512)/\S4.vS (l.drop a.1) a.2=S4.vS l n) (I:=λa=>[(1,.d (ci d)),(2,.lp 0 0),(3,UK),(14,.d (jX l)),(15,.d (ci l.length)),(16,.d (ci a.1))])
  (J:=λa=>AW a.2 0 0) (μ:=λa=>l.length -a.1) 100 (0,n) ⟨dM,⟨h0,h1⟩,rfl⟩ mZ ?_
 rintro⟨i,q⟩ ⟨hi,hqb,hq⟩;dsimp only at hi hq hqb⊢
 repeat'(first|refine bl ?_|refine bS (λh=>?_) (λh=>?_)|refine eE S4.cP rfl eD aM (bw ?_))
 ·exfalso;omega
 ·have cX:i<l.length:=aM;have hcg:=S4.dG l i cX;have AZ:=l[i].fA;have hab:=S4.XE l i cX ha;have aZ5:=S4.aJM _ hab;have hdr:=S4.aF9 l i cX q;rw[S4.aB1 _ _ hqb.1 hqb.2]at hdr;have hc1:=ZT l[i] oM aZ5.1 (q+1) q d;have htb:=S4.aF3 l[i] q;generalize S4.tl l[i] q=z at hc1 htb hdr;obtain⟨b,a1,e1⟩:=z;refine dZ.mk (.d (cb b)) [(1,fV a1),(2,fV e1)] ((aJ.l8 hc1 ⟨sn,sn,tV⟩ ⟨rfl,rfl,rfl,tV⟩ ⟨tV,tV,tV,tV⟩ ⟨.inl sn,.inl sn,tV⟩).mR (.cons (.same _) (.cons (.same _) (.cons (.agg l[i].aT1) (.cons (.same _) (.cons (.same _) .nil)))))) ?_;conv=>whnf
  cases b with
  |false=>
   refine bl ?_;have e:S4.vS l n=(false,q+1,a1,e1):=by rw[<-hq,hdr]
   rw[e];exact em
  |true=>
   obtain⟨hq5,h00⟩:=htb rfl;simp only[aD]at h00;obtain⟨rfl,rfl⟩:=h00;dsimp only at hdr;refine bl ?_;refine cY mix (λa:Nat×Int=>a.1<=3/\(0<=a.2/\a.2<=512)/\wkB ([l[i].t,l[i].e,l[i].c].drop a.1) a.2=wkB [l[i].t,l[i].e,l[i].c] (q+1)) (I:=λa=>[(1,.d (ci d)),(2,.lp 0 0),(3,UK),(14,.d (jX l)),(15,.d (ci l.length)),(16,.d (ci i)),(44,.h 900),(45,.d (ci 3)),(46,.d (ci a.1))])
    (J:=λa=>(900,dU 29 1 (aM3 l[i]))::AW a.2 0 0) (μ:=λa=>3 -a.1) 2000 (0,q+1) 2
    (λm:Int=>(0<=m/\m<=512)/\wkB [l[i].t,l[i].e,l[i].c] (q+1)=(true,m,0,0)) (λm=>[(1,.d (ci d)),(2,.lp 0 0),(3,UK),(14,.d (jX l)),(15,.d (ci l.length)),(16,.d (ci i))]) (λm=>AW m 0 0) 4000 ⟨dM,dM,rfl⟩ (mv 348 900) ?_ ?_
   ·rintro⟨j,m⟩ ⟨hj,hm,hw⟩;dsimp only at hj hm hw⊢;have step:∀b:List S4,S4.dB b<S4.dB l->S4.abL b->aJ Tryz.prog 231 [.d (jX b),.d (ci (d+1)),.lp 0 0,UK] (aK (AW m 0 0)) (.ok (.d (cb (S4.vS b m).1))) (aH (aK (AW m 0 0)) [(0,fV (S4.vS b m).2.1),(1,fV (S4.vS b m).2.2.1),(2,fV (S4.vS b m).2.2.2)]):=λb hb uB=>R0 b oM uB (d+1) m oM oM hm.1 hm.2;obtain rfl|rfl|rfl|rfl:j=0\/j=1\/j=2\/j=3:=oM
    ·skip
     repeat'(first|refine bl ?_|refine lG.mk 0 rfl (by simp[bE]) (bw ?_))
     have wF:=step l[i].t oM aZ5.2.1;have uB:=S4.wI l[i].t m hm.1 hm.2;simp only[List.drop_succ_cons,n6]at hw;rw[wkB]at hw;generalize S4.vS l[i].t m=z at wF uB hw;obtain⟨b,m2,a2,e2⟩:=z;refine dZ.mk (.d (cb b)) [(0,fV m2),(1,fV a2),(2,fV e2)] (aJ.l8 wF ⟨sn,sn,sn,tV⟩ ⟨rfl,rfl,rfl,tV⟩ ⟨tV,tV,tV,tV⟩ ⟨.inl sn,.inl sn,.inl sn,tV⟩) ?_;conv=>whnf
     cases b with
     |false=>
      refine bl ?_;have e:S4.vS l n=(false,m2,a2,e2):=by rw[<-hq,hdr,<-hw]
      rw[e];exact em
     |true=>
      obtain⟨g1,g2,g3⟩:=uB;obtain⟨g4,g5⟩:=g3 rfl;simp only[aD]at g5;obtain⟨rfl,rfl⟩:=g5;dsimp only at hw g1 g4;refine bl ?_;refine⟨(1,m2),dM,⟨dM,⟨g1,g4⟩,?_⟩,?_⟩
      ·dsimp only;exact hw
      ·exact mZ
    ·skip
     repeat'(first|refine bl ?_|refine lG.mk 1 rfl (by simp[bE]) (bw ?_))
     have wF:=step l[i].e oM aZ5.2.2.1;have uB:=S4.wI l[i].e m hm.1 hm.2;simp only[List.drop_succ_cons,n6]at hw;rw[wkB]at hw;generalize S4.vS l[i].e m=z at wF uB hw;obtain⟨b,m2,a2,e2⟩:=z;refine dZ.mk (.d (cb b)) [(0,fV m2),(1,fV a2),(2,fV e2)] (aJ.l8 wF ⟨sn,sn,sn,tV⟩ ⟨rfl,rfl,rfl,tV⟩ ⟨tV,tV,tV,tV⟩ ⟨.inl sn,.inl sn,.inl sn,tV⟩) ?_;conv=>whnf
     cases b with
     |false=>
      refine bl ?_;have e:S4.vS l n=(false,m2,a2,e2):=by rw[<-hq,hdr,<-hw]
      rw[e];exact em
     |true=>
      obtain⟨g1,g2,g3⟩:=uB;obtain⟨g4,g5⟩:=g3 rfl;simp only[aD]at g5;obtain⟨rfl,rfl⟩:=g5;dsimp only at hw g1 g4;refine bl ?_;refine⟨(2,m2),dM,⟨dM,⟨g1,g4⟩,?_⟩,?_⟩
      ·dsimp only;exact hw
      ·exact mZ
    ·skip
     repeat'(first|refine bl ?_|refine lG.mk 2 rfl (by simp[bE]) (bw ?_))
     have wF:=step l[i].c oM aZ5.2.2.2;have uB:=S4.wI l[i].c m hm.1 hm.2;simp only[List.drop_succ_cons,n6]at hw;rw[wkB]at hw;generalize S4.vS l[i].c m=z at wF uB hw;obtain⟨b,m2,a2,e2⟩:=z;refine dZ.mk (.d (cb b)) [(0,fV m2),(1,fV a2),(2,fV e2)] (aJ.l8 wF ⟨sn,sn,sn,tV⟩ ⟨rfl,rfl,rfl,tV⟩ ⟨tV,tV,tV,tV⟩ ⟨.inl sn,.inl sn,.inl sn,tV⟩) ?_;conv=>whnf
     cases b with
     |false=>
      refine bl ?_;have e:S4.vS l n=(false,m2,a2,e2):=by rw[<-hq,hdr,<-hw]
      rw[e];exact em
     |true=>
      obtain⟨g1,g2,g3⟩:=uB;obtain⟨g4,g5⟩:=g3 rfl;simp only[aD]at g5;obtain⟨rfl,rfl⟩:=g5;dsimp only at hw g1 g4;refine bl ?_;refine⟨(3,m2),dM,⟨dM,⟨g1,g4⟩,?_⟩,?_⟩
      ·dsimp only;exact hw
      ·exact mZ
    ·skip
     refine bl ?_;rw[dT sM,wkB]at hw;refine⟨m,⟨hm,hw.symm⟩,?_⟩;exact mZ
   rintro m ⟨hm,hw⟩;refine bl ?_;refine⟨(i+1,m),dM,⟨dM,hm,?_⟩,?_⟩
   ·dsimp only;rw[hw]at hdr;rw[<-hq,hdr]
   ·exact mZ
 ·rw[dT oM]at hq;rw[<-hq,S4.vS];exact em
 termination_by S4.dB l
def gE(i:Nat):Nat:=swp 0 17 (swp 2 9 i)
def gF(i:Nat):Nat:=swp 2 9 (swp 0 17 i)
def gEF(i:Nat):gF (gE i)=i:=by unfold gE gF;rw[fH,fH]
def gFE(i:Nat):gE (gF i)=i:=by unfold gE gF;rw[fH,fH]
def aLB(l:List S4)(hv:S4.dB l<=2^38)(ha:S4.abL l):aJ Tryz.prog 231 [.d (jX l),.d (ci 0),.lp 17 0,.fn (.func 232) [] [.lp 1 0,.lp 9 0]] (aK [(17,fV 0),(1,fV 0),(9,fV 0)]) (.ok (.d (cb (S4.vS l 0).1))) (aH (aK [(17,fV 0),(1,fV 0),(9,fV 0)]) [(17,fV (S4.vS l 0).2.1),(1,fV (S4.vS l 0).2.2.1),(9,fV (S4.vS l 0).2.2.2)]):=by
 have k:=(R0 l hv ha 0 0 oM oM oM oM).eZ gEF gFE;rw[rJ gEF gFE,tZ gEF gFE]at k;exact k
def I9(l:List S4):Int:=(S4.vS l 0).2.2.2
def ckA(l:List S4):Int:=(S4.vS l 0).2.2.1
def ZS(l:List S4)(hv:S4.dB l<=2^38)(ha:S4.abL l):Pu 214 [.d (jX l)] (.eL [.d (ci (ckA l)),.d (ci (I9 l))]):=by
 refine iC mix Tryz.func214 ?_;have k:=aLB l hv ha;unfold ckA I9;generalize S4.vS l 0=z at k⊢;obtain⟨b,m1,a1,e1⟩:=z
 repeat'(first|refine bl ?_|refine dZ.mk (.d (cb b)) [(17,fV m1),(1,fV a1),(9,fV e1)] (aJ.l8 k ⟨sn,sn,sn,tV⟩ ⟨rfl,rfl,rfl,tV⟩ ⟨tV,tV,tV,tV⟩ ⟨.inl sn,.inl sn,.inl sn,tV⟩) (bw ?_))
 exact .eL (cs:=[ci a1,ci e1]) (.cons (.d _) (.cons (.d _) .nil))
def VB(l:List S4)(hv:S4.dB l<=2^38)(ha:S4.abL l):Pu 186 [.d (jX l)] (.d (ci (I9 l))):=by
 refine iC mix Tryz.func186 ?_
 repeat'(first|refine bl ?_|refine aF (ZS l hv ha) (bw ?_))
 exact oF rfl
def aI6(l:List S4):Bool:=decide (I9 l=0)
def aGU(l:List S4)(hv:S4.dB l<=2^38)(ha:S4.abL l):Pu 158 [.d (jX l)] (.d (cb (aI6 l))):=by
 refine iC mix Tryz.func158 ?_
 repeat'(first|refine bl ?_|refine aF (VB l hv ha) (bw ?_))
 exact dP rfl
def D4.aP(w:D4):List Int:=w.aT4.map (·.ref)
def a6E(T:List Int)(k:Nat)(h:k<T.length):(bE (iR T))[k]?=some [.d (ci T[k])]:=by
 refine gB _ _ [ci T[k]] ?_;rw[cK,aC h];rfl

def PL(d:Array Int):∀(m:Nat)(x:Int),x∈Go.Lib.compactUpTo d m↔∃j,j<m/\d[j]! =x
 |0,x=>by simp[Go.Lib.compactUpTo]
 |m+1,x=>by
  rw[Go.Lib.compactUpTo_succ,bN,PL d m x];constructor
  ·rintro(⟨j,hj,e⟩|h)
   ·exact⟨j,oM,e⟩
   ·split at h
    ·exact⟨m,oM,(aR.1 h).symm⟩
    ·simp at h
  ·rintro⟨j,hj,e⟩;by_cases hk:Go.Lib.keeps d m=true
   ·rw[aUF hk];by_cases hjm:j<m
    ·exact .inl ⟨j,hjm,e⟩
    ·have:j=m:=oM;subst this;exact .inr (by simp[e])
   ·rw[aT7 hk];refine .inl ?_;by_cases hjm:j<m
    ·exact⟨j,hjm,e⟩
    ·have:j=m:=oM;subst this;unfold Go.Lib.keeps at hk;simp only[aUA,not_or,Decidable.not_not]at hk;exact⟨j -1,oM,by rw[<-hk.2];exact e⟩
def GS(L:List Int):(Go.Sort.sort eF L.toArray).toList=L.mergeSort (λx y=>decide (x<=y)):=Go.Sort.sortInt L
def ID(d:Array Int)(j:Nat)(h:j<d.size):d[j]! =d.toList[j]'(by simpa using h):=by
 rw[getElem!_pos d j h];simp
def o3(L:List Int)(x:Int):x∈oZ L↔x∈L:=by
 unfold oZ DH;rw[jY,PL];have h1:x∈(Go.Sort.sort eF L.toArray).toList↔x∈L:=by rw[GS];simp
 rw[<-h1,dH];constructor
 ·rintro⟨j,hj,e⟩;exact⟨j,by simpa using hj,by rw[<-ID _ _ hj];exact e⟩
 ·rintro⟨j,hj,e⟩;have QB:j<(Go.Sort.sort eF L.toArray).size:=by simpa using hj
  exact⟨j,QB,by rw[ID _ _ QB];exact e⟩
def GD:∀{A B:List Int},A.Nodup->(∀x∈A,x∈B)->A.length<=B.length
 |[],B,_,_=>sM
 |a::A,B,h,hs=>by
  have h1:=aAD.1 h;have ha:a∈B:=hs a sM;have h2:∀x∈A,x∈B.erase a:=λx hx=>by
   have hZ:x≠a:=λe=>h1.1 (e▸hx);exact(List.mem_erase_of_ne hZ).2 (hs x (by simp[hx]))
  have h3:=GD h1.2 h2;have h4:=List.length_erase_of_mem ha;have:0<B.length:=List.length_pos_of_mem ha;simp only[aQ];omega
def D4.EP(w:D4):Prop:=(w.aT4.map (·.ref)).Pairwise (· <·)
def aIM{L M:List Int}(hM:M.Pairwise (· <·))(hp:L.Perm M):(Go.Sort.sort eF L.toArray)=M.toArray:=by
 have h:(Go.Sort.sort eF L.toArray).toList=M:=by
  rw[GS];have h1:(L.mergeSort λx y=>decide (x<=y)).Perm M:=(List.mergeSort_perm _ _).trans hp;have h2:(L.mergeSort λx y=>decide (x<=y)).Pairwise λa b=>decide (a<=b)=true:=List.pairwise_mergeSort (λa b c h1 h2=>by simp only[aUA]at*;omega) (λa b=>by simp only[gP,aUA];omega) L;have h3:M.Pairwise λa b=>decide (a<=b)=true:=hM.imp λh=>by simp only[aUA];omega
  exact h1.eq_of_pairwise (λa b _ _ h1 h2=>by simp only[aUA]at*;omega) h2 h3
 exact Array.ext' (by rw[h])
def K6(w:D4)(hl:w.aT4.length<=2^30)(hr:w.EP):∀(m:Mem)(d:Nat),m d=none->aJ Tryz.prog 83 [.d (.ip w.aT1)] m (.ok (.h d)) (aX m d (dU 25 1 (iR w.aP))):=by
 refine iW mix (F:=A.h) (r:=dU 25 1 (iR w.aP)) Tryz.func83 rfl kK (bD rfl) rfl (oJ _ _ _) (λ_ _=>rfl) (λi j hj=>by simpa [A.hs]using hj) (λg=>eT g _ _ _) ?_;refine bl ?_;have hb:Tryz.prog.bytesOf 25=8:=kK;have hz:(zc Tryz.prog 8 25).length=Tryz.prog.cellsOf 25:=kK;have XO:0<Tryz.prog.cellsOf 25:=bD kK;refine xR.mk ?_ ?_
 ·rw[aE];refine⟨aUZ ⟨hz,XO,oM,oM,?_,?_⟩,rfl⟩
  ·rw[hb,aB];omega
  ·rw[aB];omega
 conv=>whnf
 refine bl ?_;refine xI rfl ?_;conv=>whnf
 refine bl ?_;refine cY mix (λa:Option (Ky×C)×List T4×List Int=>(a.2.2++a.2.1.map (·.ref)).Perm w.aP) (I:=λa=>[(3,.h 900),(15,.h 97)])
  (J:=λa=>[(900,dU 25 1 (iR a.2.2)),(97,.di a.1 (a.2.1.map T4.kv))]) (μ:=λa=>a.2.1.length) 1000 (none,w.aT4,[]) 0
  (λQ:List Int=>Q.Perm w.aP) (λQ=>[(3,.h 900)]) (λQ=>[(900,dU 25 1 (iR Q))]) 2000 (.refl _) (mv 49 900) ?_ ?_
 ·rintro⟨cur,L,Q⟩ hp;dsimp only at hp⊢;have hlen:=hp.length_eq;unfold D4.aP at hlen;simp only[aU,aB]at hlen;refine bl ?_;refine EI (λh0=>?_) (λi hi=>?_)
  ·conv=>whnf
   refine bl ?_;subst h0;refine⟨Q,by simpa using hp,?_⟩;exact mZ
  ·conv=>whnf
   refine bl ?_;refine n8 (by simp only[aB,bE,cE,aS];omega) kK ?_;conv=>whnf
   refine bl ?_;refine⟨(some (T4.kv L[i]),L.eraseIdx i,Q++[L[i].ref]),xL _ _ hi,?_,?_⟩
   ·dsimp only;refine List.Perm.trans ?_ hp;rw[bG];refine qX _ ?_;have:=(CU L i hi).map (λt:T4=>t.ref);exact this.symm
   ·skip
    refine mq 1064 900 ?_
    all_goals exact cO rfl (gG Q [L[i].ref])
 rintro Q hQ;have hlen:=hQ.length_eq;unfold D4.aP at hlen;rw[aB]at hlen;have hs:=aIM hr hQ
 repeat'(first|refine bl ?_|refine lN 900 (iG (Go.Sort.sort eF Q.toArray)) ((rK Q.toArray (by simp only[nJ];omega)).AK (oJ _ _ _) (λg=>eT g _ _ _) (λg=>eT g _ _ _) rfl (by simp[A.lQ,A.hs]) (aK _) 900 rfl) (bw ?_))
 rw[hs];exact⟨_,rfl,rfl⟩
def xP:List Bool->Int->List Int
 |[],_=>[]
 |b::r,k=>if b=true then k::xP r (k+1)else xP r (k+1)
def aBH(L M:List T4):bE (L.map T4.aT1)++bE (M.map T4.aT1)=bE ((L++M).map T4.aT1):=by simp[bE]
def D4.tell(w:D4):X4:=⟨w.parents,xP w.cut 0,w.aT4,w.last,w.made⟩
def ZC(w:D4)(hg:w.gA)(hr:w.EP)(h1:w.parents.length<=2^38)(h2:w.made.length<=2^38)(h3:w.cut.length<=2^36):Pu 38 [.d (.ip w.aT1)] (.d (.agg w.tell.aT1)):=by
 refine iC mix Tryz.func38 ?_
 repeat'(first|refine bl ?_|refine aF (vQ w) (bw ?_)|refine cH (G6 (iR w.made) (by simp only[aB];omega) sM) (bw ?_)|refine cH (DG (iR w.parents) (by simp only[aB];omega) sM) (bw ?_))
 have hyl:∀(L:List Bool)(k:Int),(xP L k).length<=L.length:=λL=>by
  induction L with
  |nil=>intro k;simp[xP]
  |cons b r ih=>intro k;rw[xP];have:=ih (k+1);split<;>simp only[aQ]<;>omega
 refine cY mix (λa:Nat×List Int=>a.1<=w.cut.length/\a.2++xP (w.cut.drop a.1) a.1=xP w.cut 0) (I:=λa=>[(0,.d (.ip w.aT1)),(2,.lp 1 0),(3,.lp 145 0),(29,.d (.sl 1 (w.cut.map λb=>[cb b]))),(30,.d (ci w.cut.length)),(31,.d (ci a.1))])
  (J:=λa=>(1,.cells false (List.map A.d (zc Tryz.prog 8 27)))::(145,.cells false [.d (.sl 1 (iR w.parents)),lv 1 900 (iR a.2),.d (.nl 17),.d (ci w.last),.d (.sl 1 (iR w.made))])::lm 900 3 1 (iR a.2) []) (μ:=λa=>w.cut.length -a.1) 1000 (0,[]) 0
  (λ_:Unit=>True) (λ_=>[(0,.d (.ip w.aT1)),(2,.lp 1 0),(3,.lp 145 0)]) (λ_=>[(1,.cells false (List.map A.d (zc Tryz.prog 8 27))),(145,.cells false [.d (.sl 1 (iR w.parents)),.d (.sl 1 (iR (xP w.cut 0))),.d (.nl 17),.d (ci w.last),.d (.sl 1 (iR w.made))])]) 2000 ⟨sM,sM⟩ mZ ?_ ?_
 ·rintro⟨i,Q⟩ ⟨hi,hQ⟩;dsimp only at hi hQ⊢;have hql:Q.length<=w.cut.length:=by
   have h5:=congrArg List.length hQ;have h6:=hyl w.cut 0;simp only[aU]at h5;omega
  have HG:∀(h:i<w.cut.length),(w.cut[i]=true->(Q++[(i:Int)])++xP (w.cut.drop (i+1)) ((i+1:Nat):Int)=xP w.cut 0)/\(w.cut[i]=false->Q++xP (w.cut.drop (i+1)) ((i+1:Nat):Int)=xP w.cut 0):=λh=>by
   rw[dE h,xP]at hQ;rw[show(i:Int)+1=((i+1:Nat):Int) by omega]at hQ;constructor<;>intro e<;>rw[e]at hQ
   ·rw[aUF rfl]at hQ;rw[bG];exact hQ
   ·rw[aT7 gO]at hQ;exact hQ
  cases Q with
  |nil=>
   show vc _ _ _ _ _ [(1,.cells false (List.map A.d (zc Tryz.prog 8 27))),(145,.cells false [.d (.sl 1 (iR w.parents)),.d (.nl 1),.d (.nl 17),.d (ci w.last),.d (.sl 1 (iR w.made))])] _ _
   repeat'(first|refine bl ?_|refine bS (λh=>?_) (λh=>?_)|refine cD rfl eD aM (bw ?_))
   ·refine n8 (by simp only[aB,bE,cE,aS];omega) kK ?_;conv=>whnf
    refine E9.mk (λh=>by cases h) (λh=>?_);conv=>whnf
    refine bl ?_;refine⟨(i+1,[(i:Int)]),dM,⟨dM,(HG aM).1 aM⟩,?_⟩;dsimp only[iR,List.map_cons,List.map_nil,lv,lm];exact mv 1088 900
    all_goals exact cO rfl rfl
   ·refine⟨(i+1,[]),dM,⟨dM,(HG aM).2 aM⟩,?_⟩;dsimp only[iR,List.map_cons,List.map_nil,lv,lm];exact mZ
   ·rw[dT oM,xP,dS]at hQ;refine⟨(),tV,?_⟩;rw[<-hQ];exact cN.freeze [] tV ⟨.same _,.same _,.same _,tV⟩ ⟨⟨rfl,_,rfl,.cells (.same _)⟩,⟨rfl,_,rfl,.cells (.cons (.same _) (.cons (.rd (.nz _ _)) (.same _)))⟩,tV⟩ ⟨tV,⟨sn,tV⟩,⟨sn,tV⟩,tV⟩ ⟨tV,tV,tV⟩
  |cons q0 Q=>
   show vc _ _ _ _ _ [(1,.cells false (List.map A.d (zc Tryz.prog 8 27))),(145,.cells false [.d (.sl 1 (iR w.parents)),.h 900,.d (.nl 17),.d (ci w.last),.d (.sl 1 (iR w.made))]),(900,dU 3 1 (iR (q0::Q)))] _ _
   repeat'(first|refine bl ?_|refine bS (λh=>?_) (λh=>?_)|refine cD rfl eD aM (bw ?_))
   ·refine n8 (by simp only[aB,bE,cE,aS];omega) kK ?_;conv=>whnf
    refine bl ?_;refine⟨(i+1,q0::(Q++[(i:Int)])),dM,⟨dM,(HG aM).1 aM⟩,?_⟩;dsimp only[iR,List.map_cons,List.map_nil,lv,lm];refine mq 1088 900 ?_
    all_goals exact cO rfl (gG (q0::Q) [(i:Int)])
   ·refine⟨(i+1,q0::Q),dM,⟨dM,(HG aM).2 aM⟩,?_⟩;dsimp only[iR,List.map_cons,List.map_nil,lv,lm];exact mZ
    all_goals exact cO rfl rfl
   ·rw[dT oM,xP,dS]at hQ;refine⟨(),tV,?_⟩;rw[<-hQ];exact cN.freeze [900] tV ⟨.same _,.same _,.same _,tV⟩ ⟨⟨rfl,_,rfl,.cells (.same _)⟩,⟨rfl,_,rfl,.cells (.cons (.same _) (.cons (.rd (.dU (eX rfl rfl))) (.same _)))⟩,tV⟩ ⟨tV,⟨sn,tV⟩,⟨sn,tV⟩,tV⟩ ⟨tV,tV,tV⟩
 rintro _ _
 repeat'(first|refine bl ?_|refine fQ (K6 w hg.len hr) 3000 rfl (bw ?_))
 have E0:w.aP.length=w.aT4.length:=by unfold D4.aP;rw[aB]
 refine cY mix (λi:Nat=>i<=w.aT4.length) (I:=λi=>[(0,.d (.ip w.aT1)),(2,.lp 1 0),(3,.lp 145 0),(45,.d (.sl 1 (iR w.aP))),(46,.d (ci w.aP.length)),(47,.d (ci i))])
  (J:=λi=>(1,.cells false (List.map A.d (zc Tryz.prog 8 27)))::(145,.cells false [.d (.sl 1 (iR w.parents)),.d (.sl 1 (iR (xP w.cut 0))),lv 17 900 ((w.aT4.take i).map T4.aT1),.d (ci w.last),.d (.sl 1 (iR w.made))])::lm 900 93 17 ((w.aT4.take i).map T4.aT1) []) (μ:=λi=>w.aT4.length -i) 5000 0 2
  (λ_:Unit=>True) (λ_=>[(2,.lp 1 0),(3,.lp 145 0)]) (λ_=>[(1,.cells false (List.map A.d (zc Tryz.prog 8 27))),(145,.cells false [.d (.sl 1 (iR w.parents)),.d (.sl 1 (iR (xP w.cut 0))),.d (.sl 17 (w.aT4.map T4.aT1)),.d (ci w.last),.d (.sl 1 (iR w.made))])]) 7000 oM ?_ ?_ ?_
 ·refine cN.freeze [3000] tV ⟨.same _,.same _,.same _,.rd (.dU (eX rfl rfl)),GR (qD (by simp only[aB,bE])),.same _,tV⟩ ⟨⟨rfl,_,rfl,.cells (.same _)⟩,⟨rfl,_,rfl,.cells (.same _)⟩,tV⟩ ⟨tV,⟨sn,tV⟩,⟨sn,tV⟩,tV,tV,tV,tV⟩ ?_;rw[fD];exact⟨tV,tV,tV⟩
 ·intro i hi;have HG:∀(h:i<w.aT4.length),w.aP[i]' oM =w.aT4[i].ref/\w.find w.aT4[i].ref=some w.aT4[i]/\w.aT4.take (i+1)=w.aT4.take i++[w.aT4[i]]:=λh=>by
   refine⟨by simp[D4.aP],?_,aT h⟩;unfold D4.find;cases hf:w.aT4.find? λt=>decide (t.ref=w.aT4[i].ref)with
   |none=>
    have:=mN.1 hf w.aT4[i] (aY h);simp at this
   |some t=>
    have e1:=iD hf;simp only[aUA]at e1;obtain⟨j,hj,e2⟩:=dH.1 (cT hf);subst e2;have hn:=hg.nodup;have:j=i:=by
     refine(a4A (h₀:=by simpa using hj) (h₁:=by simpa using h) hn).1 ?_;simpa using e1
    subst this;rfl
  have aZI:(w.aT4.take i).length<=w.aT4.length:=zM;have hgl:=hg.len;generalize hQ:w.aT4.take i=Q at HG aZI⊢;cases Q with
  |nil=>
   show vc _ _ _ _ _ [(1,.cells false (List.map A.d (zc Tryz.prog 8 27))),(145,.cells false [.d (.sl 1 (iR w.parents)),.d (.sl 1 (iR (xP w.cut 0))),.d (.nl 17),.d (ci w.last),.d (.sl 1 (iR w.made))])] _ _
   repeat'(first|refine bl ?_|refine bS (λh=>?_) (λh=>?_)|refine cD rfl eD aM (bw ?_))
   ·have cX:i<w.aP.length:=aM;obtain⟨s1,s2,s3⟩:=HG oM;refine EA eD (λt ht=>?_) (λht=>?_)
    ·have e:t=w.aT4[i]' oM :=eY ((show w.find w.aP[i]=some t from ht).symm.trans (by rw[s1];exact s2));subst e;have hm:=aY (show i<w.aT4.length by omega);obtain⟨m1,m2,m3⟩:=hg.may _ hm;have hcn:=hg.cR _ hm;conv=>whnf
     repeat' refine cH (yX _ oM m1 m2 m3) (bw ?_)
     rw[s1];refine n8 (by simp only[aB,bE,cE,aS,aQ]at*;omega) kK ?_;conv=>whnf
     refine E9.mk (λh=>by cases h) (λh=>?_);conv=>whnf
     refine bl ?_;refine⟨i+1,oM,oM,?_⟩;rw[s3];dsimp only[List.nil_append,List.map_cons,List.map_nil,lv,lm];exact mv 5144 900
     all_goals exact cO rfl rfl
    ·exfalso;have:w.find w.aP[i]=none:=ht;rw[s1,s2]at this;cases this
   ·rw[aI oM]at hQ;refine⟨(),tV,?_⟩;rw[hQ];exact cN.freeze [] tV ⟨.same _,.same _,tV⟩ ⟨⟨rfl,_,rfl,.cells (.same _)⟩,⟨rfl,_,rfl,.cells (.cons (.same _) (.cons (.same _) (.cons (.rd (.nz _ _)) (.same _))))⟩,tV⟩ ⟨⟨sn,tV⟩,⟨sn,tV⟩,tV⟩ ⟨tV,tV,tV⟩
  |cons q0 Q=>
   show vc _ _ _ _ _ [(1,.cells false (List.map A.d (zc Tryz.prog 8 27))),(145,.cells false [.d (.sl 1 (iR w.parents)),.d (.sl 1 (iR (xP w.cut 0))),.h 900,.d (ci w.last),.d (.sl 1 (iR w.made))]),(900,dU 93 17 ((q0::Q).map T4.aT1))] _ _
   repeat'(first|refine bl ?_|refine bS (λh=>?_) (λh=>?_)|refine cD rfl eD aM (bw ?_))
   ·have cX:i<w.aP.length:=aM;obtain⟨s1,s2,s3⟩:=HG oM;refine EA eD (λt ht=>?_) (λht=>?_)
    ·have e:t=w.aT4[i]' oM :=eY ((show w.find w.aP[i]=some t from ht).symm.trans (by rw[s1];exact s2));subst e;have hm:=aY (show i<w.aT4.length by omega);obtain⟨m1,m2,m3⟩:=hg.may _ hm;have hcn:=hg.cR _ hm;conv=>whnf
     repeat' refine cH (yX _ oM m1 m2 m3) (bw ?_)
     rw[s1];refine n8 (by simp only[aB,bE,cE,aS,aQ]at*;omega) kK ?_;conv=>whnf
     refine bl ?_;refine⟨i+1,oM,oM,?_⟩;rw[s3];dsimp only[List.cons_append,List.map_cons,List.map_nil,lv,lm];refine mq 5144 900 ?_
     all_goals exact cO rfl (aBH (q0::Q) [w.aT4[i]])
    ·exfalso;have:w.find w.aP[i]=none:=ht;rw[s1,s2]at this;cases this
   ·rw[aI oM]at hQ;refine⟨(),tV,?_⟩;rw[hQ];exact cN.freeze [900] tV ⟨.same _,.same _,tV⟩ ⟨⟨rfl,_,rfl,.cells (.same _)⟩,⟨rfl,_,rfl,.cells (.cons (.same _) (.cons (.same _) (.cons (.rd (.dU (eX rfl rfl))) (.same _))))⟩,tV⟩ ⟨⟨sn,tV⟩,⟨sn,tV⟩,tV⟩ ⟨tV,tV,tV⟩
 rintro _ _;refine bl ?_;exact .one (.agg (wJ.data _ w.tell.aT1))
def D4.pK(w:D4)(r:Int):Bool:=decide (1<=r)&&(w.mI r||decide (r<=w.last))
def D4.zE(w:D4)(u:U4):Bool:=w.HU u.side&&(aI6 u.code&&(BA u.names&&((u.seen.all w.pK&&decide u.seen.Nodup)&&(jL u.names).all λr=>w.mI r&&decide (r∈u.seen))))
def D4.I9(w:D4)(u:U4):Int:=if w.zE u=true then 0 else 190
def aIG(h:r<1):w.pK r=false:=by unfold D4.pK;rw[aU0 oM];rfl
def aIH(h1:w.mI r=false)(h2:w.tell.last<r):w.pK r=false:=by
 have h2:w.last<r:=h2;unfold D4.pK;rw[h1,aU0 (by omega:¬r<=w.last)];simp
def aII(h:1<=r)(h1:w.mI r=true):w.pK r=true:=by unfold D4.pK;rw[h1,aUZ h];rfl
def aIJ(h:1<=r)(h2:r<=w.tell.last):w.pK r=true:=by
 have h2:r<=w.last:=h2;unfold D4.pK;rw[aUZ h,aUZ h2];simp
structure U4.gA(u:U4):Prop where
 side:-9223372036854775808<=u.side/\u.side<=9223372036854775807
 code:S4.dB u.code<=2^38
 FD:S4.abL u.code
 names:V.dB (u.names.map (·.value))<=2^34
 nlen:u.names.length<=2^34
 seen:u.seen.length<=2^35
structure D4.qV(w:D4):Prop extends w.gA where
 EP:w.EP
 pl:w.parents.length<=2^38
 ml:w.made.length<=2^38
 cl:w.cut.length<=2^36
 pos:∀t∈w.aT4,0<t.ref
def aA9(w:D4)(hw:w.qV)(u:U4)(hu:u.gA):Pu 104 [.d (.ip w.aT1),.d (.agg u.aT1)] (.d (ci (w.I9 u))):=by
 have pG:∀m,w.zE u=false->A1 m (.d (ci 190)) (.d (ci (w.I9 u))):=λm h=>by unfold D4.I9;rw[h];exact oF rfl
 have hm:=hw.ml;refine iC mix Tryz.func104 ?_
 repeat'(first|refine bl ?_|refine bS (λh=>?_) (λh=>?_)|refine aF (aEY w hw.sides) (bw ?_)|refine aF (aE2 w u.side hu.side.1 hu.side.2) (bw ?_)|refine aF (aGU u.code hu.code hu.FD) (bw ?_)|refine aF (TM u.names (by have:=hu.names;omega) (by have:=hu.nlen;omega)) (bw ?_))
 ·exact pG _ (by unfold D4.zE;simp_all)
 ·exact pG _ (by unfold D4.zE;simp_all)
 ·exact pG _ (by unfold D4.zE;simp_all)
 have hck:w.zE u=((u.seen.all w.pK&&decide u.seen.Nodup)&&(jL u.names).all λr=>w.mI r&&decide (r∈u.seen)):=by unfold D4.zE;simp_all
 have hsl:=hu.seen;refine cY mix (λs:Nat×List (Int×Int)=>s.1<=u.seen.length/\s.2.map (·.1)=u.seen.take s.1/\(∀f∈s.2,f.2=1)/\(u.seen.take s.1).Nodup/\(u.seen.take s.1).all w.pK=true) (I:=λs=>[(0,.d (.ip w.aT1)),(3,.lp 1 0),(5,.h 169),(33,.d (.sl 1 (iR u.seen))),(34,.d (ci u.seen.length)),(35,.d (ci s.1))])
  (J:=λs=>[(1,.cells false (u.aT1.map A.d)),(169,.mp false (iZ s.2) [])]) (μ:=λs=>u.seen.length -s.1) 1000 (0,[]) 0
  (λF:List (Int×Int)=>F.map (·.1)=u.seen/\(∀f∈F,f.2=1)/\(u.seen.all w.pK&&decide u.seen.Nodup)=true) (λF=>[(0,.d (.ip w.aT1)),(3,.lp 1 0),(5,.h 169)]) (λF=>[(1,.cells false (u.aT1.map A.d)),(169,.mp false (iZ F) [])]) 2000 ⟨sM,sM,sM,sM,sM⟩ mZ ?_ ?_
 ·rintro⟨i,F⟩ ⟨g1,g2,g3,g4,g5⟩;dsimp only at g1 g2 g3 g4 g5⊢;have hcb:∀r,0<=cR F r/\cR F r<=1:=λr=>by
   cases hh:kJ F r with
   |true=>obtain⟨f,k1,k2,k3⟩:=rT F r hh;have:=g3 f k1;omega
   |false=>rw[uC F r hh];omega
  repeat'(first|refine bl ?_|refine bS (λh=>?_) (λh=>?_)|refine cD rfl eD aM (bw ?_))
  ·have cX:i<u.seen.length:=aM;have TW:=hcb u.seen[i];have J3:=aT cX;have aX4:w.pK u.seen[i]=false->w.zE u=false:=λe=>by
    rw[hck];have:u.seen.all w.pK=false:=by rw[iA];exact⟨_,aY cX,by simp[e]⟩
    rw[this];simp
   have hme:u.seen[i]∈u.seen.take i->w.zE u=false:=λhm=>by
    have hn:¬u.seen.Nodup:=λhn=>by
     obtain⟨j,hj,e⟩:=dH.1 hm;rw[cW]at hj;rw[aGO]at e;have:=(a4A hn).1 e;omega
    rw[hck,aU0 hn];simp
   generalize u.seen[i]=r at TW J3 aX4 hme⊢;refine lkC eD (λh=>h) ?_;conv=>whnf
   refine bl ?_;refine aBP eD (λhh=>?_) (λhh=>?_)
   ·conv=>whnf
    have hr:r∈u.seen.take i:=by rw[<-g2];exact mP.1 hh
    repeat'(first|refine bl ?_|refine bS (λh=>?_) (λh=>?_)|refine aF (sB w _) (bw ?_)|refine aF (ZC w hw.togA hw.EP hw.pl hw.ml hw.cl) (bw ?_)|refine lkE (EE F r (cR F r+1)) eD (λh=>h) (bw ?_))
    all_goals first
     |exact pG _ (hme hr)
     |(exfalso
       rw[PQ F r _ r hh,aUF rfl]at h;obtain⟨f,hf,_,k3⟩:=rT F r hh
       have:=g3 f hf;omega)
   ·conv=>whnf
    have hr:r∉u.seen.take i:=λe=>by rw[<-g2]at e;rw[mP.2 e]at hh;cases hh
    repeat'(first|refine bl ?_|refine bS (λh=>?_) (λh=>?_)|refine aF (sB w _) (bw ?_)|refine aF (ZC w hw.togA hw.EP hw.pl hw.ml hw.cl) (bw ?_)|refine lkE (vP F r (cR F r+1)) eD (λh=>h) (bw ?_))
    all_goals first
     |exact pG _ (aX4 (aIG aM))
     |exact pG _ (aX4 (aIH aM aM))
     |(exfalso
       rw[PN F r _ r hh,aUF rfl,uC F r hh]at h
       omega)
     |(have hso:w.pK r=true:=by first|exact aII aM aM|exact aIJ aM aM
       refine⟨(i+1,F++[(r,cR F r+1)]),dM,⟨dM,by dsimp only;rw[bP,g2,J3];rfl,?_,?_,?_⟩,?_⟩
       · dsimp only
         intro f hf;rcases bN.1 hf with hf|hf
         · exact g3 f hf
         · rw[aR.1 hf,uC F r hh];rfl
       · dsimp only
         rw[J3];refine iS.2 ⟨g4,sM,λx hx y hy e=>?_⟩;rw[aR.1 hy]at e;exact hr (e▸hx)
       · dsimp only
         rw[J3,gQ,g5];simp[hso]
       · have aZJ:=vP F r (cR F r+1)
         (refine cN.swap 5000 5001 ?_ ?_ ?_ ?_ ?_<;>repeat'(first|exact aW|exact rfl|exact sn|exact aZ|exact wW|exact IK rfl|exact cO rfl rfl|exact aD4 rfl|exact KS rfl rfl|exact aEP|(refine qD ?_;simp only[aB,bE];done)|(refine aDO ?_;(try dsimp only);omega)|refine bI ?_ ?_))
         all_goals first|exact aEP|exact KS rfl aZJ)
  ·rw[aI oM]at g2 g4 g5;exact⟨F,⟨g2,g3,by rw[g5,aUZ g4];rfl⟩,mZ⟩
 rintro F ⟨f1,f2,f3⟩;refine bl ?_;rw[f3,cA]at hck;have hnb:∀i(h:i<u.names.length),u.names[i].value.cR<=2^35:=λi h=>by
  have:=V.dG (u.names.map (·.value)) i (by simpa using h);rw[fO]at this;have:=hu.names;omega
 have E0:=hu.nlen;have aWE:∀r,0<cR F r↔r∈u.seen:=λr=>by
  rw[<-f1];constructor
  ·intro hc;cases hh:kJ F r with
   |true=>exact mP.1 hh
   |false=>rw[uC F r hh]at hc;omega
  ·intro hm;obtain⟨f,k1,k2,k3⟩:=rT F r (mP.2 hm);have:=f2 f k1;omega
 have hcb:∀r,0<=cR F r/\cR F r<=1:=λr=>by
  cases hh:kJ F r with
  |true=>obtain⟨f,k1,k2,k3⟩:=rT F r hh;have:=f2 f k1;omega
  |false=>rw[uC F r hh];omega
 refine cY mix (λi:Nat=>i<=u.names.length/\(jL (u.names.take i)).all (λr=>w.mI r&&decide (r∈u.seen))=true) (I:=λi=>[(0,.d (.ip w.aT1)),(5,.h 169),(66,.d (.sl 6 (u.names.map N4.aT1))),(67,.d (ci u.names.length)),(68,.d (ci i))])
  (J:=λi=>[(169,.mp false (iZ F) [])]) (μ:=λi=>u.names.length -i) 3000 0 2
  (λ_:Unit=>(jL u.names).all (λr=>w.mI r&&decide (r∈u.seen))=true) (λF=>[]) (λF=>[]) 6000 ⟨oM,by simp[jL]⟩ mZ ?_ ?_
 ·rintro i ⟨hi,h0⟩
  repeat'(first|refine bl ?_|refine bS (λh=>?_) (λh=>?_)|refine cD rfl eD aM (bw ?_)|refine dR (jG u.names[i].value (by have:=hnb i aM;omega)) (.cons (.agg u.names[i].value.aT1) .nil) (bw ?_))
  ·have cX:i<u.names.length:=aM;have HG:jL (u.names.take (i+1))=jL (u.names.take i)++u.names[i].value.eI:=by
    unfold jL;rw[aT cX,bP,fJ];simp
   have aVM:∀r∈u.names[i].value.eI,r∈jL u.names:=λr hr=>by
    unfold jL;exact List.mem_flatten.2 ⟨_,aA4.2 ⟨_,aY cX,rfl⟩,hr⟩
   have aX4:∀r∈u.names[i].value.eI,(w.mI r&&decide (r∈u.seen))=false->w.zE u=false:=λr hr e=>by
    rw[hck,iA];exact⟨r,aVM r hr,by rw[e];simp⟩
   have hrl:=u.names[i].value.iY;have a24:=hnb i cX;generalize u.names[i].value.eI=R at HG aX4 hrl;refine cY mix (λj:Nat=>j<=R.length/\(R.take j).all (λr=>w.mI r&&decide (r∈u.seen))=true) (I:=λj=>[(0,.d (.ip w.aT1)),(5,.h 169),(66,.d (.sl 6 (u.names.map N4.aT1))),(67,.d (ci u.names.length)),(68,.d (ci i)),(74,.d (.sl 1 (iR R))),(75,.d (ci R.length)),(76,.d (ci j))])
    (J:=λj=>[(169,.mp false (iZ F) [])]) (μ:=λj=>R.length -j) 4000 0 4
    (λ_:Unit=>R.all (λr=>w.mI r&&decide (r∈u.seen))=true) (λ_=>[(0,.d (.ip w.aT1)),(5,.h 169),(66,.d (.sl 6 (u.names.map N4.aT1))),(67,.d (ci u.names.length)),(68,.d (ci i))]) (λ_=>[(169,.mp false (iZ F) [])]) 5000 ⟨oM,sM⟩ mZ ?_ ?_
   ·rintro j ⟨hj,hj0⟩
    repeat'(first|refine bl ?_|refine bS (λh=>?_) (λh=>?_)|refine cD rfl eD aM (bw ?_)|refine aF (sB w _) (bw ?_)|refine lkC eD (λh=>h) (bw ?_))
    ·have hl2:j<R.length:=aM;exact pG _ (aX4 _ (aY hl2) (by rw[show w.mI R[j]=false by assumption];rfl))
    ·have hl2:j<R.length:=aM;have hz:cR F R[j]=0:=aM;refine pG _ (aX4 _ (aY hl2) ?_);rw[aU0 (λhm=>by have:=(aWE _).2 hm;omega)];simp
    ·have hl2:j<R.length:=aM;have hz:¬cR F R[j]=0:=aM;have wF:=hcb R[j];refine⟨j+1,oM,⟨oM,?_⟩,mZ⟩;rw[aT hl2,gQ,hj0,cA];simp only[o9,List.all_nil,o6];rw[show w.mI R[j]=true by assumption,aUZ ((aWE _).1 oM)];rfl
    ·rw[aI oM]at hj0;exact⟨(),hj0,mZ⟩
   rintro _ hR;refine bl ?_;refine⟨i+1,oM,⟨oM,by rw[HG,gQ,h0,hR];rfl⟩,mZ⟩
  ·rw[aI oM]at h0;exact⟨(),h0,mZ⟩
 rintro _ aWV;refine bl ?_;unfold D4.I9;rw[hck,aWV];exact oF rfl
def aCC{u:U4}(h:¬w.I9 u=0):w.zE u=false/\w.I9 u=190:=by
 unfold D4.I9 at*;cases hc:w.zE u<;>simp[hc]at h⊢
def XP{u:U4}(h:w.I9 u=0):w.zE u=true:=by
 unfold D4.I9 at*;cases hc:w.zE u<;>simp[hc]at h⊢
def D4.s8(w:D4)(l:List U4):Int:=if l.all w.zE=true then 0 else 190
def yG(w:D4)(hw:w.qV)(l:List U4)(hl:l.length<=2^30)(hu:∀i(h:i<l.length),l[i].gA):Pu 45 [.d (.ip w.aT1),.d (.sl 4 (l.map U4.aT1))] (.d (ci (w.s8 l))):=by
 have hsd:=hw.sides;refine iC mix Tryz.func45 ?_
 repeat'(first|refine bl ?_|refine bS (λh=>?_) (λh=>?_)|refine aF (o4 w) (bw ?_))
 ·exfalso;simp_all
 refine bV mix (λi:Nat=>i<=l.length/\(l.take i).all w.zE=true) (I:=λi=>[(0,.d (.ip w.aT1)),(15,.d (.sl 4 (l.map U4.aT1))),(16,.d (ci l.length)),(17,.d (ci i))])
  (J:=λi=>[]) (μ:=λi=>l.length -i) 1000 0 ⟨oM,sM⟩ mZ ?_
 rintro i ⟨hi,h0⟩
 repeat'(first|refine bl ?_|refine bS (λh=>?_) (λh=>?_)|refine cD rfl eD aM (bw ?_)|refine dR (aA9 w hw l[i] (hu i aM)) (.cons (.same _) (.cons (.agg l[i].aT1) .nil)) (bw ?_))
 ·have cX:i<l.length:=aM;obtain⟨c1,c2⟩:=aCC (show ¬w.I9 l[i]=0 by assumption);have e:w.s8 l=190:=by
   unfold D4.s8;rw[aT7];intro h;rw[cV.1 h _ (aY cX)]at c1;cases c1
  rw[e,c2];exact oF rfl
 ·have cX:i<l.length:=aM;refine⟨i+1,oM,⟨oM,?_⟩,mZ⟩;rw[aT cX,gQ,h0];simp[XP (show w.I9 l[i]=0 by assumption)]
 ·rw[aI oM]at h0;unfold D4.s8;rw[aUF h0];exact oF rfl
def IG(u:U4):(jL u.names).length<=V.dB (u.names.map (·.value)):=by
 have h1:=qN (u.names.map (·.value));rw[bH]at h1;exact h1
def over(A:List Int)(i:Nat):List Int:=List.replicate i 77++A.drop i
def Q9(w:D4)(xl:Int):∀(T:List T4)(q:Int),ZE w xl T q=true->(∀t∈T,w.AA t.bQ=true)/\(T.map (·.ref)).Pairwise (· <·)
 |[],q,h=>sM
 |t::r,q,h=>by
  simp only[ZE,aE,aUA]at h;obtain⟨h1,h2⟩:=Q9 w xl r t.ref h.2;obtain⟨h3,_⟩:=xN w xl r t.ref h.2;refine⟨λu hu=>?_,?_⟩
  ·rcases aO.1 hu with rfl|hu
   ·exact h.1.2
   ·exact h1 u hu
  ·rw[aG,List.pairwise_cons];refine⟨λa ha=>?_,h2⟩;obtain⟨u,hu,rfl⟩:=aA4.1 ha;exact h3 u hu
structure RI(x:X4):Prop where
 b:y9 x=true
 made:x.made.length=x.parents.length+1
 th:ZE (oD x.parents (DU x) []) x.last x.aT4 0=true
 snd:(oD x.parents (DU x) x.aT4).sH=true
def aL0{x:X4}(h:y9 x=true):RI x:=by
 have h0:=h;unfold y9 at h0;simp only[aE,aUA]at h0;obtain⟨_,_,h3,_,h5,h6⟩:=h0;refine⟨h,h3,h5,?_⟩;unfold YB at h6;simp only[aE]at h6;exact h6.2.2.2.1
def vM:w.mI r=true↔r∈w.aP:=by
 unfold D4.mI D4.find D4.aP;rw[List.find?_isSome];constructor
 ·rintro⟨t,h1,h2⟩;exact aA4.2 ⟨t,h1,by simpa using h2⟩
 ·intro h;obtain⟨t,h1,rfl⟩:=aA4.1 h;exact⟨t,h1,sM⟩
def J1{x:X4}(h:RI x)(aXR:∀t∈x.aT4,t.bQ.cR<=2^20)(hlen:x.aT4.length<=60)(hpl:x.parents.length<=40):(bJ x).qV where
 cR:=λt ht=>cL (aXR t ht) (bD rfl)
 len:=by show x.aT4.length<=2^30;omega
 nodup:=(xN _ _ _ _ h.th).2
 may:=λt ht=>by
  obtain⟨a,b,c,_⟩:=NS ((Q9 _ _ _ _ h.th).1 t ht);exact⟨a,b,c⟩
 sides:=by show 0<x.made.length;rw[h.made];omega
 EP:=(Q9 _ _ _ _ h.th).2
 pl:=by show x.parents.length<=2^38;omega
 ml:=by show x.made.length<=2^38;rw[h.made];omega
 cl:=by
  show(xY (oW x.parents) x.aU3).length<=2^36;rw[RX];unfold oW;rw[aS];omega
 pos:=(xN _ _ _ _ h.th).1
def aXA(w:D4):∀(m:Mem)(d:Nat),m d=none->aJ Tryz.prog 46 [.d (.ip w.aT1)] m (.ok (.fn (.func 105) [] [.lp d 0])) (aX m d (.cells false [.d (.ip w.aT1)])):=by
 refine iW mix (F:=λd=>.fn (.func 105) [] [.lp d 0]) (r:=.cells false [.d (.ip w.aT1)]) Tryz.func46 rfl kK (bD rfl) rfl rfl (λ_ _=>rfl) (λi j hj=>by simpa [A.hs,A.lQ]using hj) (λg=>rfl) ?_;refine bl ?_;exact⟨_,rfl,rfl⟩
def a55(hg:w.gA)(i:Nat)(h:i<w.aT4.length):w.find w.aT4[i].ref=some w.aT4[i]:=by
 unfold D4.find;cases hf:w.aT4.find? λt=>decide (t.ref=w.aT4[i].ref)with
 |none=>
  have:=mN.1 hf w.aT4[i] (aY h);simp at this
 |some t=>
  have e1:=iD hf;simp only[aUA]at e1;obtain⟨j,hj,e2⟩:=dH.1 (cT hf);subst e2;have hn:=hg.nodup;have:j=i:=by
   refine(a4A (h₀:=by simpa using hj) (h₁:=by simpa using h) hn).1 ?_;simpa using e1
  subst this;rfl
abbrev kR(L:List Int):List (List C):=L.map λk=>[ck k]
def a66(T:List Int)(k:Nat)(h:k<T.length):(bE (kR T))[k]?=some [.d (ck T[k])]:=by
 refine gB _ _ [ck T[k]] ?_;rw[cK,aC h];rfl

def aEM(low:List Nat)(i:Nat):Nat:=low[i]?.getD i
def lB(low:List Nat)(i:Nat):Nat:=if h:aEM low i<i then lB low (aEM low i)else i
 termination_by i
def aFH(low:List Nat)(i:Nat):lB low i<=i:=by
 induction i using Nat.strongRecOn with
 |ind i ih=>
  rw[lB];split
  ·rename_i h;have:=ih _ h;omega
  ·exact bT _
def aP2(low:List Nat)(i:Nat):¬aEM low (lB low i)<lB low i:=by
 induction i using Nat.strongRecOn with
 |ind i ih=>
  rw[lB];split
  ·rename_i h;exact ih _ h
  ·rename_i h;exact h
def aOM(low:List Nat)(M m x:Nat)(hM:M<low.length):aEM (low.set M m) x=if x=M then m else aEM low x:=by
 unfold aEM;rw[List.getElem?_set];by_cases h:M=x
 ·subst h;simp[hM]
 ·have:¬x=M:=λe=>h e.symm;simp[h,this]
def a46(low:List Nat)(M m:Nat)(hM:M<low.length)(h1:¬aEM low M<M)(h2:¬aEM low m<m)(hm:m<=M)(x:Nat):lB (low.set M m) x=if lB low x=M then m else lB low x:=by
 induction x using Nat.strongRecOn with
 |ind x ih=>
  by_cases hx:aEM low x<x
  ·have hZ:x≠M:=by rintro rfl;exact h1 hx
   have e:aEM (low.set M m) x=aEM low x:=by rw[aOM _ _ _ _ hM,aT7 hZ]
   have e1:lB low x=lB low (aEM low x):=by rw[lB,dif_pos hx]
   rw[e1,lB,dif_pos (by rw[e];exact hx),e];exact ih _ hx
  ·have e1:lB low x=x:=by rw[lB,dif_neg hx]
   rw[e1];by_cases hxM:x=M
   ·subst hxM;rw[aUF rfl];have e:aEM (low.set x m) x=m:=by rw[aOM _ _ _ _ hM,aUF rfl]
    by_cases cX:m<x
    ·rw[lB,dif_pos (by rw[e];exact cX),e,lB,dif_neg];rw[aOM _ _ _ _ hM,aT7 oM];exact h2
    ·rw[lB,dif_neg (by rw[e];exact cX)];omega
   ·rw[aT7 hxM,lB,dif_neg];rw[aOM _ _ _ _ hM,aT7 hxM];exact hx
def XR(F:List (Int×Int))(i:Nat)(low:List Nat)(r:Int):List Nat:=if kJ F r=true then low.set (max (lB low i) (lB low (cR F r).toNat)) (min (lB low i) (lB low (cR F r).toNat))else low
structure aNU(F:List (Int×Int))(n:Nat):Prop where
 val:∀f∈F,0<=f.2/\f.2<n
def aNU.at(h:aNU F n){r:Int}(hr:kJ F r=true):0<=cR F r/\cR F r<n:=by
 obtain⟨f,h1,h2,h3⟩:=rT F r hr;have:=h.val f h1;omega
def aFY(F:List (Int×Int))(i:Nat)(low:List Nat)(r:Int):(XR F i low r).length=low.length:=by
 unfold XR;split<;>simp
def aNC{low:List Nat}(hF:aNU F low.length)(hi:i<low.length)(hr:kJ F r=true)(x:Nat):lB (XR F i low r) x=if lB low x=max (lB low i) (lB low (cR F r).toNat)then min (lB low i) (lB low (cR F r).toNat)else lB low x:=by
 have hk:=hF.at hr;have l1:=aFH low i;have l2:=aFH low (cR F r).toNat;have r1:=aP2 low i;have r2:=aP2 low (cR F r).toNat;unfold XR;rw[aUF hr];generalize lB low i=a at*;generalize lB low (cR F r).toNat=b at*;refine a46 low _ _ oM ?_ ?_ oM x
 ·rcases aPA a b with h|h
  ·rw[Nat.max_eq_right h];exact r2
  ·rw[Nat.max_eq_left h];exact r1
 ·rcases aPA a b with h|h
  ·rw[aL2 h];exact r1
  ·rw[aO1 h];exact r2
def a3P{low:List Nat}(hF:aNU F low.length)(hi:i<low.length){x y:Nat}(h:lB low x=lB low y):lB (XR F i low r) x=lB (XR F i low r) y:=by
 by_cases hr:kJ F r=true
 ·rw[aNC hF hi hr,aNC hF hi hr,h]
 ·unfold XR;rw[aT7 hr];exact h
def a4X{low:List Nat}(hF:aNU F low.length)(hi:i<low.length)(hr:kJ F r=true):lB (XR F i low r) i=lB (XR F i low r) (cR F r).toNat:=by
 rw[aNC hF hi hr,aNC hF hi hr];generalize lB low i=a;generalize lB low (cR F r).toNat=b;split<;>split<;>omega
def aCU(F:List (Int×Int))(i:Nat):∀(L:List Int)(low:List Nat),(L.foldl (XR F i) low).length=low.length
 |[],low=>rfl
 |r::L,low=>by rw[fX,aCU F i L,aFY]
def aPG{F:List (Int×Int)}{i:Nat}{x y:Nat}:∀(L:List Int)(low:List Nat),aNU F low.length->i<low.length->lB low x=lB low y->lB (L.foldl (XR F i) low) x=lB (L.foldl (XR F i) low) y
 |[],low,_,_,h=>h
 |r::L,low,hF,hi,h=>by
  rw[fX];exact aPG L _ (by rw[aFY];exact hF) (by rw[aFY];exact hi) (a3P hF hi h)
def a0N{F:List (Int×Int)}{i:Nat}:∀(L:List Int)(low:List Nat),aNU F low.length->i<low.length->∀r∈L,kJ F r=true->lB (L.foldl (XR F i) low) i=lB (L.foldl (XR F i) low) (cR F r).toNat
 |[],low,_,_,r,h,_=>by simp at h
 |q::L,low,hF,hi,r,h,hr=>by
  rw[fX];have hF':aNU F (XR F i low q).length:=by rw[aFY];exact hF
  have hi':i<(XR F i low q).length:=by rw[aFY];exact hi
  rcases aO.1 h with rfl|h
  ·exact aPG L _ hF' hi' (a4X hF hi hr)
  ·exact a0N L _ hF' hi' r h hr
def aH6(F:List (Int×Int))(E:Nat->List Int):Nat->Nat->List Nat->List Nat
 |0,_,low=>low
 |n+1,k,low=>aH6 F E n (k+1) ((E k).foldl (XR F k) low)
def aZF(F:List (Int×Int))(E:Nat->List Int):∀(n k:Nat)(low:List Nat),(aH6 F E n k low).length=low.length
 |0,k,low=>rfl
 |n+1,k,low=>by rw[aH6,aZF F E n,aCU]
def aQ3{F:List (Int×Int)}{E:Nat->List Int}{x y:Nat}:∀(n k:Nat)(low:List Nat),aNU F low.length->k+n<=low.length->lB low x=lB low y->lB (aH6 F E n k low) x=lB (aH6 F E n k low) y
 |0,k,low,_,_,h=>h
 |n+1,k,low,hF,hk,h=>by
  rw[aH6];exact aQ3 n (k+1) _ (by rw[aCU];exact hF) (by rw[aCU];omega) (aPG _ _ hF oM h)
def a0L{F:List (Int×Int)}{E:Nat->List Int}:∀(n k:Nat)(low:List Nat),aNU F low.length->k+n<=low.length->∀i,k<=i->i<k+n->∀r∈E i,kJ F r=true->lB (aH6 F E n k low) i=lB (aH6 F E n k low) (cR F r).toNat
 |0,k,low,_,_,i,h1,h2,r,h,hr=>oM
 |n+1,k,low,hF,hk,i,h1,h2,r,h,hr=>by
  rw[aH6];have hF':aNU F ((E k).foldl (XR F k) low).length:=by rw[aCU];exact hF
  have hk':k+1+n<=((E k).foldl (XR F k) low).length:=by rw[aCU];omega
  by_cases e:i=k
  ·subst e;exact aQ3 n _ _ hF' hk' (a0N _ _ hF oM r h hr)
  ·exact a0L n (k+1) _ hF' hk' i oM oM r h hr

def a47(hg:w.gA)(r:Int):(w.aLX r).length<=2^35+2:=by
 unfold D4.aLX;rw[aU];have:=AJ w hg r;have:=tP w r;omega

variable{x:X4}{l:List U4}
open Classical in

def aAU:RK (yI Tryz.prog aA0 60 (.fn 9) [] .nil 1) (.d (cb true))=true:=kK
def D9:Pu 9 [] (.d (cb true)):=zO mix aAU rfl
open Go.Proofs.YtpdcbahjjmooiaaGreat (Rows.uptoBulk Rows.uptoBulkAll)
abbrev rI{H:Type}(d:DataW H):Nat:=Rows.uptoBulk d
abbrev rZ{H:Type}(l:List (DataW H)):Nat:=Rows.uptoBulkAll l
section
variable{H:Type}(enc:TypeId×Value->H)(P:Program)(w:World)
def sL(l:List C)(cs:List Value):Prop:=C.bR w (λ_=>False) l cs/\∀y∈cs,y.oneCell'=true
def xF(n:Nat)(t:TypeId)(cs:List Value)(d:DataW H):Prop:=∃ps,DataW.trod enc P w 0 (λ_=>true) true n t cs=some (d,ps)
def TrF(n:Nat):List TypeId->List Value->List (DataW H)->Prop
 |[],cs,ds=>cs=[]/\ds=[]
 |t::ts,cs,ds=>∃a b d r,cs=a++b/\ds=d::r/\xF enc P w n t a d/\TrF n ts b r
end
section
variable{H:Type}{enc:TypeId×Value->H}{P:Program}{w:World}
def sL.app{l m:List C}{a b:List Value}(h:sL w l a)(h':sL w m b):sL w (l++m) (a++b):=by
 refine⟨C.iH h.1 h'.1,λy hy=>?_⟩;rcases bN.1 hy with e|e
 ·exact h.2 y e
 ·exact h'.2 y e
def sL.nil:sL w [] []:=⟨by simp[C.bR],sM⟩
def sL.one{x:Value}(h:x.oneCell'=true):sL w [.v x] [x]:=by
 refine⟨?_,by simpa using h⟩;simp[C.bR,C.Den]
def sL.len{l:List C}{a:List Value}(h:sL w l a):l.length=a.length:=(C.xJ.1 h.1).1
def kQ{k:IntKind}{d:DataW H}(ht:P.underlying t=some (.int k))(h:xF enc P w n t cs d):∃i,sL w [.v (.int k i)] cs/\1<=rI d/\k.min<=i/\i<=k.max:=by
 obtain⟨ps,h⟩:=h;obtain⟨i,rfl,hx,hw⟩:=DataW.trod_int ht h;simp only[aD]at hx;simp only[Lit.wf,aE,aUA]at hw;exact⟨i,sL.one rfl,by rw[hx.1];simp[rI,Rows.uptoBulk],hw.1,hw.2⟩
def aIP{d:DataW H}(ht:P.underlying t=some .bool)(h:xF enc P w n t cs d):∃b,sL w [.v (.bool b)] cs/\1<=rI d:=by
 obtain⟨ps,h⟩:=h;obtain⟨i,rfl,hx⟩:=DataW.trod_bool ht h;simp only[aD]at hx;exact⟨i,sL.one rfl,by rw[hx.1];simp[rI,Rows.uptoBulk]⟩
def GX{d:DataW H}(ht:P.underlying t=some .string)(h:xF enc P w n t cs d):∃s,sL w [.v (.string s)] cs/\1<=rI d:=by
 obtain⟨ps,h⟩:=h;cases n with
 |zero=>simp[DataW.trod]at h
 |succ n=>
  unfold DataW.trod at h;rw[ht]at h;split at h<;>try(simp at h;done)
  all_goals(rename_i hu;try(cases hu;done))
  rename_i s;split at h
  ·simp only[aA,aD]at h;exact⟨_,sL.one rfl,by rw[<-h.1];simp[rI,Rows.uptoBulk]⟩
  ·cases h
def aP0{b:Nat}:∀{l:List C}{cs:List Value}{off:Nat},sL w l cs->(∀i,i<cs.length->w.cell? ⟨b,off+i,none⟩=cs[i]?)->C.sS w (λ_=>False) b off l
 |[],cs,off,_,_=>by simp[C.sS]
 |c::l,cs,off,h,hc=>by
  obtain⟨h1,h2⟩:=h;simp only[C.bR]at h1;obtain⟨y,yr,rfl,hy,hr⟩:=h1;simp only[C.sS];refine⟨⟨y,by simpa using hc 0 sM,h2 y sM,hy⟩,?_⟩;refine aP0 (l:=l) (cs:=yr) ⟨hr,λz hz=>h2 z (by simp[hz])⟩ λi hi=>?_;have:=hc (i+1) zM;rw[show off+1+i=off+(i+1) by omega,this];simp
def mE(d:DataW H)(r:List (DataW H)):rZ (d::r)=rI d+rZ r:=by simp[rZ,rI,Rows.uptoBulkAll]
def RO{a:Addr}(h:a.spot=none)(i:Nat):a.add i=⟨a.block,a.off+i,none⟩:=by
 unfold Addr.add;cases a;simp only at h;subst h;split<;>simp_all
def ZH{α:Type}{row:α->List C}{m:α->Nat}{p:α->Prop}{n:Nat}{e:TypeId}{es:Nat}{a:Addr}(aWU:0<es)(ha:a.spot=none)
 (ih:∀cs(d:DataW H),xF enc P w n e cs d->∃x,sL w (row x) cs/\m x<=rI d/\p x):∀(els:List (DataW H×List MemPlace))(k:Nat),
 (∀i,i<els.length->(w.cells? 0 (a.add ((k+i)*es)) es).bind (DataW.trod enc P w 0 (λ_=>true) true n e)=els[i]?)->
 ∃l:List α,l.length=els.length/\C.lS w (λ_=>False) a.block es (a.off+k*es) (l.map row)/\(l.map m).sum<=rZ (els.map (·.1))/\∀x∈l,p x
 |[],k,h=>⟨[],rfl,by simp[C.lS],sM,sM⟩
 |x::els,k,h=>by
  have h0:=h 0 sM;simp only[iE,iK,Option.bind_eq_some_iff]at h0;obtain⟨cs,TW,htr⟩:=h0;obtain⟨y,hy,hm,hp⟩:=ih cs x.1 ⟨x.2,htr⟩
  obtain⟨l,hl,hd,hs,hq⟩:=ZH aWU ha ih els (k+1) (λi hi=>by
   have:=h (i+1) zM;rw[show k+(i+1)=k+1+i by omega]at this
   rw[this];simp)
  obtain⟨_,hlen,aW7⟩:=World.cells?_some TW;refine⟨y::l,by simp[hl],?_,?_,?_⟩
  ·simp only[aG,C.lS];refine⟨by rw[hy.len,hlen],aP0 hy λi hi=>?_,?_⟩
   ·rw[<-aW7 i oM,RO ha,RO (by rfl)]
   ·rw[show a.off+k*es+es=a.off+(k+1)*es by rw[gY];omega];exact hd
  ·simp only[aG,gU,mE];omega
  ·intro z hz;rcases aO.1 hz with e|e
   ·exact e▸hp
   ·exact hq z e
def oV{α:Type}(row:α->List C)(m:α->Nat)(p:α->Prop){n:Nat}{t e:TypeId}(es:Nat){cs:List Value}{d:DataW H}(ht:P.underlying t=some (.slice e))(wP:P.cellsOf e=es)(aWU:0<es)
 (ih:∀k,k<n->∀cs(d:DataW H),xF enc P w k e cs d->∃x,sL w (row x) cs/\m x<=rI d/\p x)(h:xF enc P w n t cs d):
 ∃l:List α,sL w [.sl es (l.map row)] cs/\(l.map m).sum+1<=rI d/\∀x∈l,p x:=by
 obtain⟨ps,h⟩:=h;rcases DataW.trod_slice ht h with⟨rfl,hx⟩|⟨a,len,cap,elems,rest,k,rfl,rfl,hx,_,hl,_,hlen,O2,_,_⟩
 ·simp only[aD]at hx;refine⟨[],⟨?_,by simp[Value.oneCell']⟩,by rw[hx.1];simp[rI,Rows.uptoBulk],sM⟩;simp[C.bR,C.Den]
 ·simp only[aD]at hx;rw[wP]at O2;have hb:rI d=rZ (elems.map (·.1))+rZ (rest.map (·.1))+1:=by rw[hx.1];simp[rI,rZ,Rows.uptoBulk]
  cases elems with
  |nil=>
   simp only[cS]at hlen;subst hlen;refine⟨[],⟨?_,by simp[Value.oneCell']⟩,zM,sM⟩;simp[C.bR,C.Den]
  |cons x elems=>
   have h0:=O2 0 (by rw[<-hlen];simp);simp only[Nat.zero_mul,iK,Option.bind_eq_some_iff]at h0;obtain⟨cs,TW,_⟩:=h0;obtain⟨_,_,aW7⟩:=World.cells?_some TW;have hc0:=aW7 0 aWU;rw[show(a.add 0).add 0=a by simp[Addr.add]]at hc0;have n0:cs.length=es:=(World.cells?_some TW).2.1;rw[aC oM]at hc0;unfold World.cell? at hc0;have ha:a.spot=none/\a.block<w.heap.size:=by
    split at hc0
    ·rename_i heq;split at hc0
     ·cases hc0
     ·rename_i hs;exact⟨by simpa using hs,(aL.1 heq).1⟩
    ·cases hc0
   obtain⟨l,hll,hd,hs,hq⟩:=ZH (row:=row) (m:=m) (p:=p) aWU ha.1 (ih k oM) (x::elems) 0 (λi hi=>by rw[fF];exact O2 i (by rw[<-hlen];exact hi));refine⟨l,⟨?_,by simp[Value.oneCell']⟩,oM,hq⟩;simp only[C.bR,C.Den];refine⟨_,[],rfl,⟨some a,cap,?_,?_,eV ⟨a.block,a.off,?_,λe=>e,ha.2,?_⟩⟩,rfl⟩
   ·rw[aB,hll,hlen]
   ·rw[aB,hll,hlen];exact hl
   ·cases a;simp_all
   ·simpa using hd
def u7(P:Program)(t:TypeId):Option (List TypeId):=match P.underlying t with
 |some (.struct fs)=>if go fs.toList 0 (P.cellsOf t)then some (fs.toList.map (·.type))else none
 |_=>none
where go:List Field->Nat->Nat->Bool
 |[],k,n=>k==n
 |f::r,k,n=>f.offset==k&&go r (k+P.cellsOf f.type) n
def ZG{n:Nat}{N:Nat}{cs:List Value}:∀(fs:List Field)(k:Nat)(xs:List (DataW H×List MemPlace)),u7.go P fs k N=true->cs.length=N->xs.length=fs.length->
 (∀(i:Nat)(f:Field),fs[i]?=some f->DataW.trod enc P w 0 (λ_=>true) true n f.type ((cs.drop f.offset).take (P.cellsOf f.type))=xs[i]?)->
 TrF enc P w n (fs.map (·.type)) (cs.drop k) (xs.map (·.1))
 |[],k,xs,hg,hl,hx,h=>by
  simp only[u7.go,beq_iff_eq]at hg;cases xs with
  |nil=>exact⟨zM,rfl⟩
  |cons=>simp at hx
 |f::fs,k,xs,hg,hl,hx,h=>by
  simp only[u7.go,aE,beq_iff_eq]at hg;cases xs with
  |nil=>simp at hx
  |cons x xs=>
   have h0:=h 0 f sM;rw[hg.1]at h0;refine⟨(cs.drop k).take (P.cellsOf f.type),cs.drop (k+P.cellsOf f.type),x.1,xs.map (·.1),?_,rfl,⟨x.2,by rw[h0];simp⟩,?_⟩
   ·rw[<-List.drop_drop,gJ]
   ·exact ZG fs _ xs hg.2 hl (by simpa using hx) λi f' hf=>by
     have:=h (i+1) f' (by simpa using hf);simpa using this
def p9{ts:List TypeId}{d:DataW H}(ht:u7 P t=some ts)(h:xF enc P w n t cs d):∃k ds,n=k+1/\rI d=rZ ds+1/\TrF enc P w k ts cs ds:=by
 obtain⟨ps,h⟩:=h;unfold u7 at ht;split at ht
 ·rename_i fs hfs;obtain⟨xs,k,hk,hx,hl,hxl,hf⟩:=DataW.trod_struct hfs h;split at ht
  ·rename_i hg;cases ht;simp only[aD]at hx;exact⟨k,xs.map (·.1),hk,by rw[hx.1];simp[rI,rZ,Rows.uptoBulk],by simpa using ZG (enc:=enc) (w:=w) (n:=k) (cs:=cs) fs.toList 0 xs hg hl (by simpa using hxl) (λi f h=>hf i f (by simpa using h))⟩
  ·cases ht
 ·cases ht
end
structure R4 where
 parents:List Int
 aU3:List Bool
 aT4:List T4
 last:Int
 made:List Int
def R4.aT1(w:R4):List C:=[.sl 1 (iR w.parents),.sl 1 (w.aU3.map λb=>[cb b]),.sl 17 (w.aT4.map T4.aT1),ci w.last,.sl 1 (iR w.made)]
def R4.find(w:R4)(r:Int):Option T4:=w.aT4.find? λt=>decide (t.ref=r)
def R4.mI(w:R4)(r:Int):Bool:=(w.find r).isSome
def R4.iI(w:R4)(r:Int):W4:=((w.find r).map (·.bQ)).getD W4.zero
def aSH{α:Type}(p:α->Bool)(L:List α)(i:Nat)(h:i<L.length)(h0:(L.take i).find? p=none)(hp:p L[i]=false):(L.take (i+1)).find? p=none:=by
 rw[aT h,y3,h0];simp[hp]
def aTS{α:Type}(p:α->Bool)(L:List α)(i:Nat)(h:i<L.length)(h0:(L.take i).find? p=none)(hp:p L[i]=true):L.find? p=some L[i]:=by
 have e:L=L.take i++L.drop i:=(gJ i L).symm;conv=>lhs;rw[e]
 rw[y3,h0,dE h,eN,hp];rfl
abbrev wH:List A:=[.d (.v (.int .u8 0)),.d (ci 0),.d (.v (.int .u8 0)),.d (ci 0),.d (.v (.string ByteArray.empty)),.d (.nl 5),.d (ci 0),.d (.nl 5),.d (ci 0),.d (ci 0),.d (ci 0),.d (ci 0),.d (.v (.int .u8 0)),.d (cb false),.d (.nl 17),.d (.nl 6)]
def zP(w:R4)(r:Int)(hl:w.aT4.length<=2^30):Pu 52 [.d (.ip w.aT1),.d (ci r)] (.eL [.d (.agg (w.iI r).aT1),.d (cb (w.mI r))]):=by
 refine iC mix Tryz.func52 ?_;refine bl ?_;refine bV mix (λi:Nat=>i<=w.aT4.length/\(w.aT4.take i).find? (λt=>decide (t.ref=r))=none) (I:=λi=>[(0,.d (.ip w.aT1)),(1,.d (ci r)),(4,.lp 1 0),(5,.d (cb false)),(6,.d (ci i))])
  (J:=λi=>[(1,.cells false wH)]) (μ:=λi=>w.aT4.length -i) 100 0 ⟨oM,rfl⟩ mZ ?_
 rintro i ⟨hi,h0⟩
 repeat'(first|refine bl ?_|refine bS (λh=>?_) (λh=>?_)|refine cD rfl eD aM (bw ?_))
 ·have cX:i<w.aT4.length:=aM;have hf:w.find r=some w.aT4[i]:=aTS _ _ i cX h0 (by simpa using‹w.aT4[i].ref=r›);have e1:w.iI r=w.aT4[i].bQ:=by unfold R4.iI;rw[hf];rfl
  have e2:w.mI r=true:=by unfold R4.mI;rw[hf];rfl
  rw[e1,e2];exact .eL (cs:=[.agg w.aT4[i].bQ.aT1,cb true]) (.cons (.agg (wJ.data _ w.aT4[i].bQ.aT1)) (.cons (.d _) .nil))
 ·have cX:i<w.aT4.length:=aM;exact⟨i+1,oM,⟨oM,aSH _ _ i cX h0 (by simpa using‹¬w.aT4[i].ref=r›)⟩,mZ⟩
 ·rw[aI oM]at h0;have hf:w.find r=none:=h0;have e1:w.iI r=W4.zero:=by unfold R4.iI;rw[hf];rfl
  have e2:w.mI r=false:=by unfold R4.mI;rw[hf];rfl
  rw[e1,e2];exact .eL (cs:=[.agg W4.zero.aT1,cb false]) (.cons (.agg aES) (.cons (.d _) .nil))
structure R4.wt(w:R4):Prop where
 len:w.aT4.length<=2^30
 cR:∀t∈w.aT4,t.bQ.cR<=2^35
 kind:∀t∈w.aT4,0<=t.bQ.kind/\t.bQ.kind<256
def R4.AF{w:R4}(h:w.wt)(r:Int):0<=(w.iI r).kind/\(w.iI r).kind<256:=by
 unfold R4.iI;cases hf:w.find r with
 |none=>exact⟨Int.le_refl _,(by decide:(0:Int)<256)⟩
 |some t=>exact h.kind t (cT hf)
def R4.zB(w:R4)(r:Int):Int:=(w.iI r).kind
def aQI(w:R4)(r:Int)(hw:w.wt):Pu 101 [.d (.ip w.aT1),.d (ci r)] (.d (ci (w.zB r))):=by
 refine iC mix Tryz.func101 ?_;obtain⟨h0,h1⟩:=R4.AF hw r
 repeat'(first|refine bl ?_|refine aF (zP w r hw.len) (bw ?_))
 exact .one (.d _)
def y5(k:Int):Bool:=decide (k=14)||(decide (k=15)||decide (k=16))
def aH5(k:Int):Pu 100 [.d (ci k)] (.d (cb (y5 k))):=by
 refine iC mix Tryz.func100 ?_
 repeat'(first|refine bl ?_|refine bS (λh=>?_) (λh=>?_))
 all_goals(refine dP ?_;simp_all[y5])
def R4.pX(w:R4):Nat->Int->List Int
 |0,_=>[]
 |n+1,r=>match w.find r with
  |none=>[]
  |some t=>r::(if y5 t.bQ.kind=true then w.pX n t.bQ.of else [])
def R4.CT(w:R4)(r:Int):List Int:=w.pX (w.aT4.length+1) r
def R4.aQU(w:R4):∀(n:Nat)(r:Int),(w.pX n r).length<=n
 |0,_=>by simp[R4.pX]
 |n+1,r=>by
  rw[R4.pX];split
  ·simp
  ·rw[aQ];split
   ·have:=R4.aQU w n (by assumption:T4).bQ.of;omega
   ·simp
def Rd.UN{rows:List (List A)}{L:List (List C)}(h:m i=some (.fW false t es rows))(hr:rows=bE L):Rd m (.h i) (.sl es L):=.dU (by rw[h,hr];rfl)
def aUT{w:R4}(h:w.mI r=false):w.pX (n+1) r=[]:=by
 unfold R4.mI at h;rw[R4.pX];cases hf:w.find r with
 |none=>rfl
 |some t=>rw[hf]at h;cases h
def aSA{w:R4}(h:w.mI r=true)(hk:y5 (w.iI r).kind=false):w.pX (n+1) r=[r]:=by
 unfold R4.mI at h;unfold R4.iI at hk;rw[R4.pX];cases hf:w.find r with
 |none=>rw[hf]at h;cases h
 |some t=>rw[hf]at hk;simp only[dF,gZ]at hk;simp[hk]
def aUS{w:R4}(h:w.mI r=true)(hk:y5 (w.iI r).kind=true):w.pX (n+1) r=r::w.pX n (w.iI r).of:=by
 unfold R4.mI at h;unfold R4.iI at hk⊢;rw[R4.pX];cases hf:w.find r with
 |none=>rw[hf]at h;cases h
 |some t=>rw[hf]at hk;simp only[dF,gZ]at hk⊢;simp[hk]
def aVD(w:R4)(r:Int)(hw:w.wt):Pu 99 [.d (.ip w.aT1),.d (ci r)] (.d (.sl 1 (iR (w.CT r)))):=by
 have hlen:=hw.len;refine iC mix Tryz.func99 ?_;refine bl ?_;refine cY mix (λa:(Nat×Int)×List Int=>a.1.1<=w.aT4.length+1/\a.2.length<=a.1.1/\a.2++w.pX (w.aT4.length+1 -a.1.1) a.1.2=w.CT r) (I:=λa=>[(0,.d (.ip w.aT1)),(1,.d (ci a.1.2)),(5,lv 1 900 (iR a.2)),(6,.d (ci a.1.1))])
  (J:=λa=>lm 900 25 1 (iR a.2) []) (μ:=λa=>w.aT4.length+1 -a.1.1) 2000 ((0,r),[]) 0
  (λQ:List Int=>Q=w.CT r) (λQ=>[(5,dl Q)]) (λQ=>[]) 4000 ⟨sM,sM,by simp[R4.CT]⟩ mZ ?_ ?_
 ·rintro⟨⟨i,s⟩,Q⟩ ⟨hi,hQl,hQ⟩;dsimp only at hi hQl hQ⊢;obtain⟨hk0,hk1⟩:=R4.AF hw s;cases Q with
  |nil=>
   show vc _ _ _ _ _ [] _ _
   repeat'(first|refine bl ?_|refine bS (λh=>?_) (λh=>?_)|refine aF (zP w s hw.len) (bw ?_))
   ·have hwl:w.CT r=[]:=by
     rw[<-hQ,bZ];obtain⟨k,hk⟩:∃k,w.aT4.length+1 -i=k+1:=⟨w.aT4.length -i,oM⟩;rw[hk,aUT aM]
    rw[hwl];exact .one (.nz _ _)
   ·refine n8 (by simp only[cE,aS];omega) kK ?_;conv=>whnf
    refine E9.mk (λh1=>absurd h1 sM) (λh1=>?_);conv=>whnf
    repeat'(first|refine bl ?_|refine bS (λh=>?_) (λh=>?_)|refine aF (aH5 (w.iI s).kind) (bw ?_))
    ·have hwl:w.CT r=[s]:=by
      rw[<-hQ,bZ];obtain⟨k,hk⟩:∃k,w.aT4.length+1 -i=k+1:=⟨w.aT4.length -i,oM⟩;rw[hk,aSA aM aM]
     rw[hwl];exact .one (.dU (t:=25) rfl)
    ·refine⟨((i+1,(w.iI s).of),[s]),dM,⟨dM,sM,?_⟩,?_⟩
     ·dsimp only;rw[<-hQ];obtain⟨k,hk⟩:∃k,w.aT4.length+1 -i=k+1:=⟨w.aT4.length -i,oM⟩;rw[hk,aUS aM aM,show w.aT4.length+1 -(i+1)=k by omega];rfl
     ·dsimp only[iR,List.map_cons,List.map_nil,lv,lm];exact mv 2168 900
      all_goals exact cO rfl rfl
   ·refine⟨[],?_,mZ⟩;rw[<-hQ,show w.aT4.length+1 -i=0 by omega];rfl
  |cons q0 Q=>
   show vc _ _ _ _ _ [(900,dU 25 1 (iR (q0::Q)))] _ _
   repeat'(first|refine bl ?_|refine bS (λh=>?_) (λh=>?_)|refine aF (zP w s hw.len) (bw ?_))
   ·have hwl:w.CT r=q0::Q:=by
     rw[<-hQ];obtain⟨k,hk⟩:∃k,w.aT4.length+1 -i=k+1:=⟨w.aT4.length -i,oM⟩;rw[hk,aUT aM,dS]
    rw[hwl];exact .one (.dU (t:=25) rfl)
   ·refine n8 (by simp only[cE,aS,aB,bE];omega) kK ?_;conv=>whnf
    repeat'(first|refine bl ?_|refine bS (λh=>?_) (λh=>?_)|refine aF (aH5 (w.iI s).kind) (bw ?_))
    ·have hwl:w.CT r=q0::(Q++[s]):=by
      rw[<-hQ];obtain⟨k,hk⟩:∃k,w.aT4.length+1 -i=k+1:=⟨w.aT4.length -i,oM⟩;rw[hk,aSA aM aM];rfl
     rw[hwl];exact .one (Rd.UN (t:=25) rfl (gG (q0::Q) [s]))
    ·refine⟨((i+1,(w.iI s).of),q0::(Q++[s])),dM,⟨dM,by simp at hQl⊢;omega,?_⟩,?_⟩
     ·dsimp only;rw[<-hQ];obtain⟨k,hk⟩:∃k,w.aT4.length+1 -i=k+1:=⟨w.aT4.length -i,oM⟩;rw[hk,aUS aM aM,show w.aT4.length+1 -(i+1)=k by omega];simp
     ·dsimp only[iR,List.map_cons,List.map_nil,lv,lm];refine mq 2168 900 ?_
      all_goals exact cO rfl (gG (q0::Q) [s])
   ·refine⟨q0::Q,?_,cN.freeze [900] tV ⟨.rd (.dU (eX rfl rfl)),tV⟩ tV ⟨tV,tV⟩ tV⟩;rw[<-hQ,show w.aT4.length+1 -i=0 by omega];simp[R4.pX]
 ·rintro Q hQ;cases Q with
  |nil=>
   refine bl ?_;rw[<-hQ];exact .one (.nz _ _)
  |cons q0 Q=>
   refine bl ?_;rw[<-hQ];exact .one (.d _)
def aD8(k set:Int):Int:=if k=1 then 3 else if k=2\/k=3 then 9 else if k=4 then 12 else if k=5\/k=6\/k=8\/k=12 then 16 else if k=9 then 13 else if k=10 then 1 else if k=11 then 8 else if k=13 then 33 else if k=14 then set else 0
def R4.MD(w:R4):Nat->Int->Option Int
 |0,_=>none
 |n+1,r=>match w.find r with
  |none=>some 0
  |some t=>if t.bQ.kind=15\/t.bQ.kind=16 then R4.MD w n t.bQ.of else some (aD8 t.bQ.kind t.bQ.set)
def R4.aTG{w:R4}{v:Int}(h:w.MD (n+1) r=some v)(hb:w.mI r=false):v=0:=by
 unfold R4.mI at hb;rw[R4.MD]at h;cases hf:w.find r with
 |none=>rw[hf]at h;exact(eY h).symm
 |some t=>rw[hf]at hb;cases hb
def R4.aPV{w:R4}{v:Int}(h:w.MD (n+1) r=some v)(hb:w.mI r=true)(h1:¬(w.iI r).kind=15)(h2:¬(w.iI r).kind=16):v=aD8 (w.iI r).kind (w.iI r).set:=by
 unfold R4.mI at hb;unfold R4.iI at h1 h2⊢;rw[R4.MD]at h;cases hf:w.find r with
 |none=>rw[hf]at hb;cases hb
 |some t=>
  rw[hf]at h h1 h2;simp only[dF,gZ]at h1 h2⊢;simpa [h1,h2]using h.symm
def R4.aVX{w:R4}{v:Int}(h:w.MD (n+1) r=some v)(hb:w.mI r=true)(h1:(w.iI r).kind=15\/(w.iI r).kind=16):w.MD n (w.iI r).of=some v:=by
 unfold R4.mI at hb;unfold R4.iI at h1⊢;rw[R4.MD]at h;cases hf:w.find r with
 |none=>rw[hf]at hb;cases hb
 |some t=>
  rw[hf]at h h1;simp only[dF,gZ]at h1⊢;simpa [h1]using h
def aOQ(w:R4)(hw:w.wt):∀(n:Nat)(r v:Int),w.MD n r=some v->Pu 155 [.d (.ip w.aT1),.d (ci r)] (.d (.v (.int .u8 v)))
 |0,r,v,hv=>by cases hv
 |n+1,r,v,hv=>by
  obtain⟨hk0,hk1⟩:=R4.AF hw r;refine iC mix Tryz.func155 ?_
  repeat'(first|refine bl ?_|refine bS (λh=>?_) (λh=>?_)|refine aF (zP w r hw.len) (bw ?_)|(refine aF (aOQ w hw n (w.iI r).of v (R4.aVX hv aM (by first|exact .inl aM|exact .inr aM))) ?_;(conv=>whnf)))
  all_goals first
   |(refine CW (R4.aTG hv aM).symm;done)
   |(refine CW ?_
     have hb:=R4.aPV hv aM oM oM;rw[hb];simp_all[aD8]
     done)
   |(refine CW ?_
     have hb:=R4.aPV hv aM oM oM;rw[hb];simp_all[aD8]
     omega)
   |exact CW rfl
def aUI(L:List V):Pu 139 [.d (.sl 5 (L.map V.row))] (.d (.agg (V.mk 3 0 ByteArray.empty L 0).aT1)):=by
 refine iC mix Tryz.func139 ?_;refine bl ?_
 all_goals exact .one (.agg (wJ.data _ (V.mk 3 0 ByteArray.empty L 0).aT1))
def W4.refs(x:W4):List Int:=(x.vA.map V.refs).flatten
def aHQ(L:List V):((L.map V.refs).flatten).length<=V.dB L:=by
 induction L with
 |nil=>simp
 |cons v r ih=>
  have:=V.EO v;simp only[aG,dL,aU,V.dB];omega
def aOR(x:W4)(hx:x.cR<=2^35):Pu 73 [.d (.agg x.aT1)] (.d (.sl 1 (iR x.refs))):=by
 have hvc:=x.aF6;have hvl:=V.eW x.vA;have a2P:∀i,(((x.vA.take i).map V.refs).flatten).length<=2^36:=λi=>by
  have h1:=aHQ (x.vA.take i);have h2:=V.kA x.vA i;omega
 refine iC mix Tryz.func73 ?_
 repeat'(first|refine bl ?_|refine fT (cs:=x.aT1) (aBZ x oM) (bw ?_))
 refine cY mix (λa:Nat×List Int=>a.1<=x.vA.length/\a.2=((x.vA.take a.1).map V.refs).flatten) (I:=λa=>[(3,lv 1 900 (iR a.2)),(4,.d (aF5 x.vA)),(5,.d (ci a.1))])
  (J:=λa=>lm 900 25 1 (iR a.2) []) (μ:=λa=>x.vA.length -a.1) 2000 (0,[]) 0
  (λQ:List Int=>Q=x.refs) (λQ=>[(3,dl Q)]) (λQ=>[]) 4000 ⟨sM,sM⟩ mZ ?_ ?_
 ·rintro⟨i,Q⟩ ⟨hi,hQ⟩;dsimp only at hi hQ⊢;have hlen:Q.length<=2^36:=by
   have h1:=a2P i;rw[hQ];omega
  cases Q with
  |nil=>
   show vc _ _ _ _ _ [] _ _
   repeat'(first|refine bl ?_|refine bS (λh=>?_) (λh=>?_))
   ·refine cD rfl eD h ?_;have HG:((x.vA.take (i+1)).map V.refs).flatten=((x.vA.take i).map V.refs).flatten++V.refs x.vA[i]:=iU V.refs x.vA i h;have hq:=V.EO x.vA[i];have WI:=V.dG x.vA i h;conv=>whnf
    repeat' refine aF (aPR x.vA[i] oM) (bw ?_)
    refine n8 (by simp only[aB];omega) kK ?_;conv=>whnf
    refine E9.mk (λh1=>?_) (λh1=>?_)
    ·have h1:V.refs x.vA[i]=[]:=by simpa using h1
     conv=>whnf
     refine bl ?_;refine⟨(i+1,[]),dM,⟨dM,by dsimp only;rw[HG,h1,dS,<-hQ]⟩,?_⟩;exact mZ
    ·have h1:V.refs x.vA[i]≠[]:=by simpa using h1
     conv=>whnf
     refine bl ?_;refine⟨(i+1,V.refs x.vA[i]),dM,⟨dM,by dsimp only;rw[HG,<-hQ,bZ]⟩,?_⟩;cases wV:V.refs x.vA[i]with
     |nil=>exact absurd wV h1
     |cons r Q=>
      dsimp only[iR,List.map_cons,lv,lm];exact mv 2080 900
      all_goals first|exact cO rfl rfl|exact cO rfl (by rw[wV];rfl)
   ·rw[aI oM]at hQ;exact⟨[],hQ,mZ⟩
  |cons r Q=>
   show vc _ _ _ _ _ [(900,dU 25 1 (iR (r::Q)))] _ _
   repeat'(first|refine bl ?_|refine bS (λh=>?_) (λh=>?_))
   ·refine cD rfl eD h ?_;have HG:((x.vA.take (i+1)).map V.refs).flatten=((x.vA.take i).map V.refs).flatten++V.refs x.vA[i]:=iU V.refs x.vA i h;have hq:=V.EO x.vA[i];have WI:=V.dG x.vA i h;conv=>whnf
    repeat' refine aF (aPR x.vA[i] oM) (bw ?_)
    refine n8 (by simp only[aB,bE];omega) kK ?_;conv=>whnf
    refine bl ?_;refine⟨(i+1,r::(Q++V.refs x.vA[i])),dM,⟨dM,by dsimp only;rw[HG,<-hQ];rfl⟩,?_⟩;refine mq 2080 900 ?_
    all_goals exact cO rfl (gG (r::Q) (V.refs x.vA[i]))
   ·rw[aI oM]at hQ;exact⟨r::Q,hQ,cN.freeze [900] tV ⟨.rd (.dU (eX rfl rfl)),tV⟩ tV ⟨tV,tV⟩ tV⟩
 ·rintro Q hQ;cases Q with
  |nil=>
   refine bl ?_;rw[<-hQ];exact .one (.nz _ _)
  |cons q0 Q=>
   refine bl ?_;rw[<-hQ];exact .one (.d _)
def aBY(r k of:Int)(b:Bool)(t:T4):Bool:=decide (t.ref≠r)&&(decide (t.bQ.kind=k)&&(if b=true then decide (t.bQ.by_=of)else decide (t.bQ.of=of)))
def R4.QN(w:R4)(r k of:Int)(b:Bool):Bool:=w.aT4.any (aBY r k of b)
def aLI(w:R4)(hw:w.wt)(r k of:Int)(b:Bool):Pu 154 [.d (.ip w.aT1),.d (ci r),.d (ci k),.d (ci of),.d (cb b)] (.d (cb (w.QN r k of b))):=by
 have hlen:=hw.len;have hkd:∀i(h:i<w.aT4.length),0<=w.aT4[i].bQ.kind/\w.aT4[i].bQ.kind<256:=λi h=>hw.kind _ (aY h);refine iC mix Tryz.func154 ?_;refine bl ?_;refine bV mix (λi:Nat=>i<=w.aT4.length/\(w.aT4.take i).any (aBY r k of b)=false) (I:=λi=>[(0,.d (.ip w.aT1)),(1,.d (ci r)),(2,.d (ci k)),(3,.d (ci of)),(4,.d (cb b)),(11,.d (ci i))])
  (J:=λi=>[]) (μ:=λi=>w.aT4.length -i) 1000 0 ⟨oM,rfl⟩ mZ ?_
 rintro i ⟨hi,h0⟩
 repeat'(first|refine bl ?_|refine bS (λh=>?_) (λh=>?_))
 ·refine cD rfl eD aM ?_;have cX:i<w.aT4.length:=aM;obtain⟨hk0,hk1⟩:=hkd i cX;conv=>whnf
  repeat'(first|refine bl ?_|refine bS (λh=>?_) (λh=>?_)|refine cD rfl eD cX (bw ?_))
  all_goals cases b
  all_goals try first
   |(exact dP (dQ.2 ⟨w.aT4[i],aY cX,by simp_all[aBY]⟩).symm)
  all_goals try(refine⟨i+1,oM,⟨oM,A2 (aBY r k of true) w.aT4 i cX h0 ?_⟩,mZ⟩)
  all_goals try(refine⟨i+1,oM,⟨oM,A2 (aBY r k of false) w.aT4 i cX h0 ?_⟩,mZ⟩)
  all_goals try simp_all[aBY]
 ·rw[aI oM]at h0;exact dP h0.symm
abbrev vR(L:List V):List (List C):=L.map V.aT1
def dlV(L:List V):A:=match L with
 |[]=>.d (.nl 5)
 |v::L=>.d (.sl 5 (vR (v::L)))
abbrev zVA:List A:=[.d (.v (.int .u8 0)),.d (ci 0),.d (.v (.string ByteArray.empty)),.d (.nl 5),.d (ci 0)]
def aPL(a:List V)(b:V):bE (vR a)++[b.aT1.map A.d]=bE (vR (a++[b])):=by rw[vR,vR,bP,ER];rfl
def z7:∀(v:V),v.cR<=2^35->Pu 152 [.d (.agg v.aT1)] (.d (.agg v.aT1)):=by
 intro v hv;have hce:v.cR=1+V.dB v.l:=by cases v;rfl
 have n0:V.dB v.l<=2^35:=oM;have hll:=V.eW v.l;refine iC mix Tryz.func152 ?_;refine bl ?_;refine cY mix (λa:Nat×List V=>a.1<=v.l.length/\a.2=v.l.take a.1) (I:=λa=>[(1,.lp 1 0),(2,.lp 9 0),(3,lv 5 900 (vR a.2)),(4,.d (ci a.1))])
  (J:=λa=>lm 900 88 5 (vR a.2) [(1,.cells false (v.aT1.map A.d)),(9,.cells false zVA)]) (μ:=λa=>v.l.length -a.1) 2000 (0,[]) 0
  (λQ:List V=>Q=v.l) (λQ=>[(1,.lp 1 0),(2,.lp 9 0),(3,dlV Q)]) (λQ=>[(1,.cells false (v.aT1.map A.d)),(9,.cells false zVA)]) 4000 ⟨sM,sM⟩ mZ ?_ ?_
 ·rintro⟨i,Q⟩ ⟨hi,hQ⟩;dsimp only at hi hQ⊢;cases Q with
  |nil=>
   show vc _ _ _ _ _ [(1,.cells false (v.aT1.map A.d)),(9,.cells false zVA)] _ _
   repeat'(first|refine bl ?_|refine bS (λh=>?_) (λh=>?_))
   ·refine eE V.cP rfl eD h ?_;have cX:i<v.l.length:=h;have hq:=V.dG v.l i cX;have a0W:V.cR v.l[i]<v.cR:=oM;conv=>whnf
    repeat' refine aF (z7 v.l[i] oM) (bw ?_)
    refine n8 (by simp only[cE,aS];omega) kK ?_;conv=>whnf
    refine E9.mk (λh1=>absurd h1 sM) (λh1=>?_);conv=>whnf
    refine bl ?_;refine⟨(i+1,[v.l[i]]),dM,⟨dM,by dsimp only;rw[aT cX,<-hQ];rfl⟩,?_⟩;dsimp only[vR,List.map_cons,List.map_nil,lv,lm];exact mv 2104 900
    all_goals exact cO rfl rfl
   ·rw[aI oM]at hQ;exact⟨[],hQ,mZ⟩
  |cons r Q=>
   show vc _ _ _ _ _ [(900,dU 88 5 (vR (r::Q))),(1,.cells false (v.aT1.map A.d)),(9,.cells false zVA)] _ _
   repeat'(first|refine bl ?_|refine bS (λh=>?_) (λh=>?_))
   ·refine eE V.cP rfl eD h ?_;have cX:i<v.l.length:=h;have hq:=V.dG v.l i cX;have a0W:V.cR v.l[i]<v.cR:=oM;have hql:(r::Q).length<=i:=by rw[hQ,cW];omega
    conv=>whnf
    repeat' refine aF (z7 v.l[i] oM) (bw ?_)
    refine n8 (by simp only[cE,aS,aB,bE];omega) kK ?_;conv=>whnf
    refine bl ?_;refine⟨(i+1,r::(Q++[v.l[i]])),dM,⟨dM,by dsimp only;rw[aT cX,<-hQ];rfl⟩,?_⟩;dsimp only[vR,List.map_cons,List.map_nil,lv,lm];refine mq 2104 900 ?_
    all_goals exact cO rfl (aPL (r::Q) v.l[i])
   ·rw[aI oM]at hQ;exact⟨r::Q,hQ,cN.freeze [900] tV ⟨.same _,.same _,.rd (.dU (eX rfl rfl)),tV⟩ ⟨⟨rfl,_,rfl,.cells (.same _)⟩,⟨rfl,_,rfl,.cells (.same _)⟩,tV⟩ ⟨⟨nofun,tV⟩,⟨nofun,tV⟩,tV,tV⟩ ⟨tV,tV,tV⟩⟩
 ·rintro Q rfl;have e:v.aT1=[.v (.int .u8 v.kind),ci v.n,.v (.string v.s),.sl 5 (v.l.map V.row),ci v.r]:=rfl;have er:V.row=V.aT1:=funext V.cP;rw[e,er];cases hl:v.l with
  |nil=>
   refine bl ?_;exact .one (.agg (.cons (.d _) (.cons (.d _) (.cons (.d _) (.cons (.nz _ _) (.cons (.d _) .nil))))))
  |cons q0 Q=>
   refine bl ?_;exact .one (.agg (wJ.data _ [.v (.int .u8 v.kind),ci v.n,.v (.string v.s),.sl 5 (vR (q0::Q)),ci v.r]))
 termination_by v=>v.cR
abbrev eR(L:List E4):List (List C):=L.map E4.aT1
def dlE(L:List E4):A:=match L with
 |[]=>.d (.nl 4)
 |v::L=>.d (.sl 4 (eR (v::L)))
abbrev zEA:List A:=[.d (.v (.int .u8 0)),.d (ci 0),.d (.v (.string ByteArray.empty)),.d (.nl 4)]
def aS5(a:List E4)(b:E4):bE (eR a)++[b.aT1.map A.d]=bE (eR (a++[b])):=by rw[eR,eR,bP,ER];rfl
def N3:∀(v:E4),v.cR<=2^35->Pu 185 [.d (.agg v.aT1)] (.d (.agg v.aT1)):=by
 intro v hv;have hce:v.cR=1+E4.dB v.l:=by cases v;rfl
 have n0:E4.dB v.l<=2^35:=oM;have hll:=E4.eW v.l;refine iC mix Tryz.func185 ?_;refine bl ?_;refine cY mix (λa:Nat×List E4=>a.1<=v.l.length/\a.2=v.l.take a.1) (I:=λa=>[(1,.lp 1 0),(2,.lp 9 0),(3,lv 4 900 (eR a.2)),(4,.d (ci a.1))])
  (J:=λa=>lm 900 207 4 (eR a.2) [(1,.cells false (v.aT1.map A.d)),(9,.cells false zEA)]) (μ:=λa=>v.l.length -a.1) 2000 (0,[]) 0
  (λQ:List E4=>Q=v.l) (λQ=>[(1,.lp 1 0),(2,.lp 9 0),(3,dlE Q)]) (λQ=>[(1,.cells false (v.aT1.map A.d)),(9,.cells false zEA)]) 4000 ⟨sM,sM⟩ mZ ?_ ?_
 ·rintro⟨i,Q⟩ ⟨hi,hQ⟩;dsimp only at hi hQ⊢;cases Q with
  |nil=>
   show vc _ _ _ _ _ [(1,.cells false (v.aT1.map A.d)),(9,.cells false zEA)] _ _
   repeat'(first|refine bl ?_|refine bS (λh=>?_) (λh=>?_))
   ·refine eE E4.cP rfl eD h ?_;have cX:i<v.l.length:=h;have hq:=E4.dG v.l i cX;have a0W:E4.cR v.l[i]<v.cR:=oM;conv=>whnf
    repeat' refine aF (N3 v.l[i] oM) (bw ?_)
    refine n8 (by simp only[cE,aS];omega) kK ?_;conv=>whnf
    refine E9.mk (λh1=>absurd h1 sM) (λh1=>?_);conv=>whnf
    refine bl ?_;refine⟨(i+1,[v.l[i]]),dM,⟨dM,by dsimp only;rw[aT cX,<-hQ];rfl⟩,?_⟩;dsimp only[eR,List.map_cons,List.map_nil,lv,lm];exact mv 2104 900
    all_goals exact cO rfl rfl
   ·rw[aI oM]at hQ;exact⟨[],hQ,mZ⟩
  |cons r Q=>
   show vc _ _ _ _ _ [(900,dU 207 4 (eR (r::Q))),(1,.cells false (v.aT1.map A.d)),(9,.cells false zEA)] _ _
   repeat'(first|refine bl ?_|refine bS (λh=>?_) (λh=>?_))
   ·refine eE E4.cP rfl eD h ?_;have cX:i<v.l.length:=h;have hq:=E4.dG v.l i cX;have a0W:E4.cR v.l[i]<v.cR:=oM;have hql:(r::Q).length<=i:=by rw[hQ,cW];omega
    conv=>whnf
    repeat' refine aF (N3 v.l[i] oM) (bw ?_)
    refine n8 (by simp only[cE,aS,aB,bE];omega) kK ?_;conv=>whnf
    refine bl ?_;refine⟨(i+1,r::(Q++[v.l[i]])),dM,⟨dM,by dsimp only;rw[aT cX,<-hQ];rfl⟩,?_⟩;dsimp only[eR,List.map_cons,List.map_nil,lv,lm];refine mq 2104 900 ?_
    all_goals exact cO rfl (aS5 (r::Q) v.l[i])
   ·rw[aI oM]at hQ;exact⟨r::Q,hQ,cN.freeze [900] tV ⟨.same _,.same _,.rd (.dU (eX rfl rfl)),tV⟩ ⟨⟨rfl,_,rfl,.cells (.same _)⟩,⟨rfl,_,rfl,.cells (.same _)⟩,tV⟩ ⟨⟨nofun,tV⟩,⟨nofun,tV⟩,tV,tV⟩ ⟨tV,tV,tV⟩⟩
 ·rintro Q rfl;have e:v.aT1=[.v (.int .u8 v.kind),ci v.n,.v (.string v.s),.sl 4 (v.l.map E4.row)]:=rfl;have er:E4.row=E4.aT1:=funext E4.cP;rw[e,er];cases hl:v.l with
  |nil=>
   refine bl ?_;exact .one (.agg (.cons (.d _) (.cons (.d _) (.cons (.d _) (.cons (.nz _ _) .nil)))))
  |cons q0 Q=>
   refine bl ?_;exact .one (.agg (wJ.data _ [.v (.int .u8 v.kind),ci v.n,.v (.string v.s),.sl 4 (eR (q0::Q))]))
 termination_by v=>v.cR
abbrev PC(L:List S4):List (List C):=L.map S4.aT1
def dlC(L:List S4):A:=match L with
 |[]=>.d (.nl 17)
 |v::L=>.d (.sl 17 (PC (v::L)))
def aS4(a:List S4)(b:S4):bE (PC a)++[b.aT1.map A.d]=bE (PC (a++[b])):=by rw[PC,PC,bP,ER];rfl
def aV3{k:Nat}{α:Type}{L:List α}{f:α->List C}(h:L=[]):Cv m (.d (.nl k)) (.d (.sl es (L.map f))):=by subst h;exact .rd (.nz _ _)
def GP:∀(c:List S4),S4.dB c<=2^35->Pu 153 [.d (.sl 17 (c.map S4.row))] (.d (.sl 17 (c.map S4.row))):=by
 intro c hv;have hll:=S4.eW c;refine iC mix Tryz.func153 ?_;refine bl ?_;refine cY mix (λa:Nat×List S4=>a.1<=c.length/\a.2=c.take a.1) (I:=λa=>[(0,.d (.sl 17 (c.map S4.row))),(3,lv 17 900 (PC a.2)),(4,.d (ci a.1))])
  (J:=λa=>lm 900 210 17 (PC a.2) []) (μ:=λa=>c.length -a.1) 2000 (0,[]) 0
  (λQ:List S4=>Q=c) (λQ=>[(3,dlC Q)]) (λQ=>[]) 4000 ⟨sM,sM⟩ mZ ?_ ?_
 ·rintro⟨i,Q⟩ ⟨hi,hQ⟩;dsimp only at hi hQ⊢;cases Q with
  |nil=>
   show vc _ _ _ _ _ [] _ _
   repeat'(first|refine bl ?_|refine bS (λh=>?_) (λh=>?_))
   ·refine eE S4.cP rfl eD h ?_;have cX:i<c.length:=h;have hq:=S4.dG c i cX;have AZ:=c[i].fA;have hdt:S4.dB c[i].t<S4.dB c:=oM;have hde:S4.dB c[i].e<S4.dB c:=oM;have hdc:S4.dB c[i].c<S4.dB c:=oM;conv=>whnf
    repeat'(with_reducible (first|refine w9 ?_|refine nN.mk ?_))
    refine w1 ?_
    repeat'(first|with_reducible refine w9 ?_|((with_reducible refine wu ?_);(conv=>whnf))|with_reducible refine aJH.mk kK ?_|((refine jV (N3 c[i].a oM) (.cons (.agg c[i].a.aT1) .nil) ?_);(conv=>whnf))|((refine jV (N3 c[i].b oM) (.cons (.agg c[i].b.aT1) .nil) ?_);(conv=>whnf)))
    refine w1 ?_
    repeat'(first|with_reducible refine w9 ?_|((with_reducible refine wu ?_);(conv=>whnf))|with_reducible refine aJH.mk kK ?_|((refine cH (GP c[i].t oM) ?_);(conv=>whnf))|((refine cH (GP c[i].e oM) ?_);(conv=>whnf))|((refine cH (GP c[i].c oM) ?_);(conv=>whnf)))
    refine w1 ?_
    repeat'(first|with_reducible (first|refine w9 ?_|refine nN.mk ?_)|((with_reducible refine wr ?_);(conv=>whnf)))
    refine BH (λ_:Unit=>True) (λ_=>[(0,.d (.sl 17 (c.map S4.row))),(3,lv 17 900 (PC ([]))),(4,.d (ci i)),(5,.lp 2064 0)]) (λ_=>(2064,.cells false (c[i].aT1.map A.d))::lm 900 210 17 (PC ([])) []) 5000 ?_ ?_
    ·skip
     repeat'((with_reducible refine wr ?_);(conv=>whnf))
     refine n8 (by simp only[aB];omega) kK ?_;conv=>whnf
     refine E9.mk (λh1=>?_) (λh1=>?_)
     ·have h1:c[i].w=[]:=by simpa using h1
      conv=>whnf
      repeat'(with_reducible (first|refine w9 ?_|refine nN.mk ?_))
      refine⟨(),tV,?_⟩;exact cN.freeze [] tV ⟨.same _,.same _,.same _,.same _,tV⟩ ⟨⟨rfl,_,rfl,.cells (.cons (.same _) (.cons (.same _) (.cons (.same _) (.cons (.same _) (.cons (.same _) (.cons (.same _) (.cons (.same _) (.cons (.same _) (.cons (.same _) (.cons (.same _) (.cons (.same _) (.cons (.same _) (.cons (.same _) (.cons (.same _) (.cons (.same _) (.cons (.same _) (.cons (aV3 h1) (.same []))))))))))))))))))⟩,tV⟩ ⟨tV,tV,tV,⟨nofun,tV⟩,tV⟩ ⟨tV,tV⟩
     ·have h1:c[i].w≠[]:=by simpa using h1
      conv=>whnf
      repeat'(with_reducible (first|refine w9 ?_|refine nN.mk ?_))
      refine⟨(),tV,?_⟩;exact cN.freeze [2312] tV ⟨.same _,.same _,.same _,.same _,tV⟩ ⟨⟨rfl,_,rfl,.cells (.cons (.same _) (.cons (.same _) (.cons (.same _) (.cons (.same _) (.cons (.same _) (.cons (.same _) (.cons (.same _) (.cons (.same _) (.cons (.same _) (.cons (.same _) (.cons (.same _) (.cons (.same _) (.cons (.same _) (.cons (.same _) (.cons (.same _) (.cons (.same _) (.cons (.rd (.dU (eX rfl rfl))) (.same []))))))))))))))))))⟩,tV⟩ ⟨tV,tV,tV,⟨nofun,tV⟩,tV⟩ ⟨tV,tV⟩
    ·rintro _ _
     repeat'((with_reducible refine wr ?_);(conv=>whnf))
     refine n8 (by simp only[cE,aS];omega) kK ?_;conv=>whnf
     refine E9.mk (λh1=>absurd h1 sM) (λh1=>?_);conv=>whnf
     refine bl ?_;refine⟨(i+1,[c[i]]),dM,⟨dM,by dsimp only;rw[aT cX,<-hQ];rfl⟩,?_⟩;dsimp only[PC,List.map_cons,List.map_nil,lv,lm];exact mv 5024 900
     all_goals exact cO rfl rfl
     all_goals skip
   ·rw[aI oM]at hQ;exact⟨[],hQ,mZ⟩
  |cons r Q=>
   show vc _ _ _ _ _ [(900,dU 210 17 (PC (r::Q)))] _ _
   repeat'(first|refine bl ?_|refine bS (λh=>?_) (λh=>?_))
   ·refine eE S4.cP rfl eD h ?_;have cX:i<c.length:=h;have hq:=S4.dG c i cX;have AZ:=c[i].fA;have hdt:S4.dB c[i].t<S4.dB c:=oM;have hde:S4.dB c[i].e<S4.dB c:=oM;have hdc:S4.dB c[i].c<S4.dB c:=oM;have hql:(r::Q).length<=i:=by rw[hQ,cW];omega
    conv=>whnf
    repeat'(with_reducible (first|refine w9 ?_|refine nN.mk ?_))
    refine w1 ?_
    repeat'(first|with_reducible refine w9 ?_|((with_reducible refine wu ?_);(conv=>whnf))|with_reducible refine aJH.mk kK ?_|((refine jV (N3 c[i].a oM) (.cons (.agg c[i].a.aT1) .nil) ?_);(conv=>whnf))|((refine jV (N3 c[i].b oM) (.cons (.agg c[i].b.aT1) .nil) ?_);(conv=>whnf)))
    refine w1 ?_
    repeat'(first|with_reducible refine w9 ?_|((with_reducible refine wu ?_);(conv=>whnf))|with_reducible refine aJH.mk kK ?_|((refine cH (GP c[i].t oM) ?_);(conv=>whnf))|((refine cH (GP c[i].e oM) ?_);(conv=>whnf))|((refine cH (GP c[i].c oM) ?_);(conv=>whnf)))
    refine w1 ?_
    repeat'(first|with_reducible (first|refine w9 ?_|refine nN.mk ?_)|((with_reducible refine wr ?_);(conv=>whnf)))
    refine BH (λ_:Unit=>True) (λ_=>[(0,.d (.sl 17 (c.map S4.row))),(3,lv 17 900 (PC (r::Q))),(4,.d (ci i)),(5,.lp 2064 0)]) (λ_=>(2064,.cells false (c[i].aT1.map A.d))::lm 900 210 17 (PC (r::Q)) []) 5000 ?_ ?_
    ·skip
     repeat'((with_reducible refine wr ?_);(conv=>whnf))
     refine n8 (by simp only[aB];omega) kK ?_;conv=>whnf
     refine E9.mk (λh1=>?_) (λh1=>?_)
     ·have h1:c[i].w=[]:=by simpa using h1
      conv=>whnf
      repeat'(with_reducible (first|refine w9 ?_|refine nN.mk ?_))
      refine⟨(),tV,?_⟩;exact cN.freeze [] tV ⟨.same _,.same _,.same _,.same _,tV⟩ ⟨⟨rfl,_,rfl,.cells (.cons (.same _) (.cons (.same _) (.cons (.same _) (.cons (.same _) (.cons (.same _) (.cons (.same _) (.cons (.same _) (.cons (.same _) (.cons (.same _) (.cons (.same _) (.cons (.same _) (.cons (.same _) (.cons (.same _) (.cons (.same _) (.cons (.same _) (.cons (.same _) (.cons (aV3 h1) (.same []))))))))))))))))))⟩,⟨rfl,_,rfl,.fW (.same _)⟩,tV⟩ ⟨tV,⟨nofun,tV⟩,tV,⟨nofun,tV⟩,tV⟩ ⟨tV,aZ,tV⟩
     ·have h1:c[i].w≠[]:=by simpa using h1
      conv=>whnf
      repeat'(with_reducible (first|refine w9 ?_|refine nN.mk ?_))
      refine⟨(),tV,?_⟩;exact cN.freeze [2312] tV ⟨.same _,.same _,.same _,.same _,tV⟩ ⟨⟨rfl,_,rfl,.cells (.cons (.same _) (.cons (.same _) (.cons (.same _) (.cons (.same _) (.cons (.same _) (.cons (.same _) (.cons (.same _) (.cons (.same _) (.cons (.same _) (.cons (.same _) (.cons (.same _) (.cons (.same _) (.cons (.same _) (.cons (.same _) (.cons (.same _) (.cons (.same _) (.cons (.rd (.dU (eX rfl rfl))) (.same []))))))))))))))))))⟩,⟨rfl,_,rfl,.fW (.same _)⟩,tV⟩ ⟨tV,⟨nofun,tV⟩,tV,⟨nofun,tV⟩,tV⟩ ⟨tV,aZ,tV⟩
    ·rintro _ _
     repeat'((with_reducible refine wr ?_);(conv=>whnf))
     refine n8 (by simp only[cE,aS,aB,aQ,bE];simp only[aQ]at hql;omega) kK ?_;conv=>whnf
     refine bl ?_;refine⟨(i+1,r::(Q++[c[i]])),dM,⟨dM,by dsimp only;rw[aT cX,<-hQ];rfl⟩,?_⟩;dsimp only[PC,List.map_cons,List.map_nil,lv,lm];refine mq 5024 900 ?_
     all_goals exact cO rfl (aS4 (r::Q) c[i])
     all_goals skip
   ·rw[aI oM]at hQ;exact⟨r::Q,hQ,cN.freeze [900] tV ⟨.rd (.dU (eX rfl rfl)),tV⟩ tV ⟨tV,tV⟩ tV⟩
 ·rintro Q rfl;cases Q with
  |nil=>
   refine bl ?_;exact .one (.nz _ _)
  |cons q0 Q=>
   refine bl ?_;rw[show S4.row=S4.aT1 from funext S4.cP];exact .one (.d _)
 termination_by c=>S4.dB c
abbrev nR(L:List N4):List (List C):=L.map N4.aT1
def dlN(L:List N4):A:=match L with
 |[]=>.d (.nl 6)
 |v::L=>.d (.sl 6 (nR (v::L)))
def aS6(a:List N4)(b:N4):bE (nR a)++[b.aT1.map A.d]=bE (nR (a++[b])):=by rw[nR,nR,bP,ER];rfl
def aVF{k:Nat}{α:Type}{L:List α}{f:α->List C}(h:L=[]):Rd m (.d (.nl k)) (.sl es (L.map f)):=by subst h;exact .nz _ _
def aXN{L:List N4}{v:N4}{Q:List N4}(h:L=v::Q):Rd m (.d (.sl 6 (nR (v::Q)))) (.sl 6 (L.map N4.aT1)):=by subst h;exact .d _
def aXJ{L:List V}{v:V}{Q:List V}(h:L=v::Q):Cv m (.d (.sl 5 (vR (v::Q)))) (.d (.sl 5 (L.map V.row))):=by subst h;rw[show V.row=V.aT1 from funext V.cP];exact .same _
def aR3(x:W4)(hx:x.cR<=2^34):Pu 98 [.d (.agg x.aT1)] (.d (.agg x.aT1)):=by
 have hcc:x.cR=x.value.cR+V.dB x.values+S4.dB x.code+x.names.length+V.dB (x.names.map (·.value)):=rfl;have hll:=V.eW x.values;refine iC mix Tryz.func98 ?_
 repeat'(first|refine bl ?_|refine aF (z7 x.value oM) (bw ?_))
 all_goals skip
 refine cY mix (λa:Nat×List V=>a.1<=x.values.length/\a.2=x.values.take a.1) (I:=λa=>[(1,.lp 1 0),(2,.lp 9 0),(3,lv 5 900 (vR a.2)),(4,.d (ci a.1))])
  (J:=λa=>lm 900 88 5 (vR a.2) [(1,.cells false (x.aT1.map A.d)),(9,.cells false wH)]) (μ:=λa=>x.values.length -a.1) 2000 (0,[]) 0
  (λQ:List V=>Q=x.values) (λQ=>[(1,.lp 1 0),(2,.lp 9 0),(3,dlV Q)]) (λQ=>[(1,.cells false (x.aT1.map A.d)),(9,.cells false wH)]) 4000 ⟨sM,sM⟩ mZ ?_ ?_
 ·rintro⟨i,Q⟩ ⟨hi,hQ⟩;dsimp only at hi hQ⊢;cases Q with
  |nil=>
   show vc _ _ _ _ _ [(1,.cells false (x.aT1.map A.d)),(9,.cells false wH)] _ _
   repeat'(first|refine bl ?_|refine bS (λh=>?_) (λh=>?_))
   ·refine eE V.cP rfl eD h ?_;have cX:i<x.values.length:=h;have hq:=V.dG x.values i cX;conv=>whnf
    repeat' refine aF (z7 x.values[i] oM) (bw ?_)
    refine n8 (by simp only[cE,aS];omega) kK ?_;conv=>whnf
    refine E9.mk (λh1=>absurd h1 sM) (λh1=>?_);conv=>whnf
    refine bl ?_;refine⟨(i+1,[x.values[i]]),dM,⟨dM,by dsimp only;rw[aT cX,<-hQ];rfl⟩,?_⟩;dsimp only[vR,List.map_cons,List.map_nil,lv,lm];exact mv 2104 900
    all_goals exact cO rfl rfl
   ·rw[aI oM]at hQ;exact⟨[],hQ,mZ⟩
  |cons r Q=>
   show vc _ _ _ _ _ [(900,dU 88 5 (vR (r::Q))),(1,.cells false (x.aT1.map A.d)),(9,.cells false wH)] _ _
   repeat'(first|refine bl ?_|refine bS (λh=>?_) (λh=>?_))
   ·refine eE V.cP rfl eD h ?_;have cX:i<x.values.length:=h;have hq:=V.dG x.values i cX;have hql:(r::Q).length<=i:=by rw[hQ,cW];omega
    conv=>whnf
    repeat' refine aF (z7 x.values[i] oM) (bw ?_)
    refine n8 (by simp only[cE,aS,aB,bE];omega) kK ?_;conv=>whnf
    refine bl ?_;refine⟨(i+1,r::(Q++[x.values[i]])),dM,⟨dM,by dsimp only;rw[aT cX,<-hQ];rfl⟩,?_⟩;dsimp only[vR,List.map_cons,List.map_nil,lv,lm];refine mq 2104 900 ?_
    all_goals exact cO rfl (aPL (r::Q) x.values[i])
   ·rw[aI oM]at hQ;exact⟨r::Q,hQ,cN.freeze [900] tV ⟨.same _,.same _,.rd (.dU (eX rfl rfl)),tV⟩ ⟨⟨rfl,_,rfl,.cells (.same _)⟩,⟨rfl,_,rfl,.cells (.same _)⟩,tV⟩ ⟨⟨nofun,tV⟩,⟨nofun,tV⟩,tV,tV⟩ ⟨tV,tV,tV⟩⟩
 ·rintro Q rfl
  repeat'(with_reducible (first|refine w9 ?_|refine we ?_))
  refine BH (λ_:Unit=>True) (λ_=>[(1,.lp 1 0),(2,.lp 9 0)]) (λ_=>[(1,.cells false (x.aT1.map A.d)),(9,.cells false wH)]) 5000 ?_ ?_
  ·cases hl:x.values with
   |nil=>
    dsimp only[dlV]
    repeat'(first|with_reducible (first|refine w9 ?_|refine nN.mk ?_)|((with_reducible refine wr ?_);(conv=>whnf)))
    exact⟨(),tV,cN.freeze [] tV ⟨.same _,.same _,tV⟩ ⟨⟨rfl,_,rfl,.cells (.cons (.same _) (.cons (.same _) (.cons (.same _) (.cons (.same _) (.cons (.same _) (.cons (.same _) (.cons (.same _) (.cons (aV3 hl) (.same _)))))))))⟩,⟨rfl,_,rfl,.cells (.same _)⟩,tV⟩ ⟨⟨nofun,tV⟩,⟨nofun,tV⟩,tV⟩ ⟨tV,tV,tV⟩⟩
   |cons v0 Q=>
    dsimp only[dlV]
    repeat'(first|with_reducible (first|refine w9 ?_|refine nN.mk ?_)|((with_reducible refine wr ?_);(conv=>whnf)))
    exact⟨(),tV,cN.freeze [] tV ⟨.same _,.same _,tV⟩ ⟨⟨rfl,_,rfl,.cells (.cons (.same _) (.cons (.same _) (.cons (.same _) (.cons (.same _) (.cons (.same _) (.cons (.same _) (.cons (.same _) (.cons (aXJ hl) (.same _)))))))))⟩,⟨rfl,_,rfl,.cells (.same _)⟩,tV⟩ ⟨⟨nofun,tV⟩,⟨nofun,tV⟩,tV⟩ ⟨tV,tV,tV⟩⟩
  rintro _ _
  repeat'(first|refine bl ?_|refine aF (GP x.code oM) (bw ?_))
  have E0:x.names.length<=2^34:=oM;have hnb:∀i(h:i<x.names.length),x.names[i].value.cR<=2^34:=λi h=>by
   have:=V.dG (x.names.map (·.value)) i (by simpa using h);rw[fO]at this;omega
  refine cY mix (λa:Nat×List N4=>a.1<=x.names.length/\a.2=x.names.take a.1) (I:=λa=>[(1,.lp 1 0),(2,.lp 9 0),(5,lv 6 900 (nR a.2)),(6,.d (ci a.1))])
   (J:=λa=>lm 900 100 6 (nR a.2) [(1,.cells false (x.aT1.map A.d)),(9,.cells false wH)]) (μ:=λa=>x.names.length -a.1) 2000 (0,[]) 2
   (λQ:List N4=>Q=x.names) (λQ=>[(1,.lp 1 0),(2,.lp 9 0),(5,dlN Q)]) (λQ=>[(1,.cells false (x.aT1.map A.d)),(9,.cells false wH)]) 4000 ⟨sM,sM⟩ mZ ?_ ?_
  ·rintro⟨i,Q⟩ ⟨hi,hQ⟩;dsimp only at hi hQ⊢;cases Q with
   |nil=>
    show vc _ _ _ _ _ [(1,.cells false (x.aT1.map A.d)),(9,.cells false wH)] _ _
    repeat'(first|refine bl ?_|refine bS (λh=>?_) (λh=>?_)|refine cD rfl eD h (bw ?_)|refine cH (z7 x.names[i].value (by have:=hnb i h;omega)) (bw ?_))
    ·have cX:i<x.names.length:=h;refine n8 (by simp only[cE,aS];omega) kK ?_;conv=>whnf
     refine E9.mk (λh1=>absurd h1 sM) (λh1=>?_);conv=>whnf
     refine bl ?_;refine⟨(i+1,[x.names[i]]),dM,⟨dM,by dsimp only;rw[aT cX,<-hQ];rfl⟩,?_⟩;dsimp only[nR,List.map_cons,List.map_nil,lv,lm];exact mv 2168 900
     all_goals exact cO rfl rfl
    ·rw[aI oM]at hQ;exact⟨[],hQ,mZ⟩
   |cons r Q=>
    show vc _ _ _ _ _ [(900,dU 100 6 (nR (r::Q))),(1,.cells false (x.aT1.map A.d)),(9,.cells false wH)] _ _
    repeat'(first|refine bl ?_|refine bS (λh=>?_) (λh=>?_)|refine cD rfl eD h (bw ?_)|refine cH (z7 x.names[i].value (by have:=hnb i h;omega)) (bw ?_))
    ·have cX:i<x.names.length:=h;have hql:(r::Q).length<=i:=by rw[hQ,cW];omega
     refine n8 (by simp only[cE,aS,aB,aQ,bE];simp only[aQ]at hql;omega) kK ?_;conv=>whnf
     refine bl ?_;refine⟨(i+1,r::(Q++[x.names[i]])),dM,⟨dM,by dsimp only;rw[aT cX,<-hQ];rfl⟩,?_⟩;dsimp only[nR,List.map_cons,List.map_nil,lv,lm];refine mq 2168 900 ?_
     all_goals exact cO rfl (aS6 (r::Q) x.names[i])
    ·rw[aI oM]at hQ;exact⟨r::Q,hQ,cN.freeze [900] tV ⟨.same _,.same _,.rd (.dU (eX rfl rfl)),tV⟩ ⟨⟨rfl,_,rfl,.cells (.same _)⟩,⟨rfl,_,rfl,.cells (.same _)⟩,tV⟩ ⟨⟨nofun,tV⟩,⟨nofun,tV⟩,tV,tV⟩ ⟨tV,tV,tV⟩⟩
  ·rintro Q rfl;cases hl:x.names with
   |nil=>
    dsimp only[dlN];refine bl ?_;exact .one (.agg (.cons (.d _) (.cons (.d _) (.cons (.d _) (.cons (.d _) (.cons (.d _) (.cons (.d _) (.cons (.d _) (.cons (.d _) (.cons (.d _) (.cons (.d _) (.cons (.d _) (.cons (.d _) (.cons (.d _) (.cons (.d _) (.cons (.d _) (.cons (aVF hl) .nil)))))))))))))))))
   |cons q0 Q=>
    dsimp only[dlN];refine bl ?_;exact .one (.agg (.cons (.d _) (.cons (.d _) (.cons (.d _) (.cons (.d _) (.cons (.d _) (.cons (.d _) (.cons (.d _) (.cons (.d _) (.cons (.d _) (.cons (.d _) (.cons (.d _) (.cons (.d _) (.cons (.d _) (.cons (.d _) (.cons (.d _) (.cons (aXN hl) .nil)))))))))))))))))
def aEL(L:List Int)(r:Int)(hL:L.length<=2^38):Pu 59 [.d (.sl 1 (iR L)),.d (ci r)] (.d (cb (L.any λx=>decide (x=r)))):=by
 refine iC mix Tryz.func59 ?_;refine bl ?_;refine bV mix (λi:Nat=>i<=L.length/\(L.take i).any (λx=>decide (x=r))=false) (I:=λi=>[(0,.d (.sl 1 (iR L))),(1,.d (ci r)),(5,.d (ci i))])
  (J:=λi=>[]) (μ:=λi=>L.length -i) 100 0 ⟨oM,rfl⟩ mZ ?_
 rintro i ⟨hi,h0⟩
 repeat'(first|refine bl ?_|refine bS (λh=>?_) (λh=>?_)|refine cD rfl eD aM (bw ?_))
 ·have cX:i<L.length:=aM;refine dP ?_;exact(dQ.2 ⟨L[i],aY cX,by simpa using‹L[i]=r›⟩).symm
 ·have cX:i<L.length:=aM;refine⟨i+1,oM,⟨oM,A2 (λx=>decide (x=r)) L i cX h0 (by simpa using‹¬L[i]=r›)⟩,?_⟩;exact mZ
 ·rw[aI oM]at h0;rw[h0];exact dP rfl
def aPI(v:V)(hv:v.cR<=2^40):Pu 111 [.d (.agg (V.aT1 v))] (.d (aR1 (V.refs v))):=by
 have AZ:=v.fA;have hl:=V.eW v.l;have ih:∀i(h:i<v.l.length),Pu 111 [.d (.agg (V.aT1 v.l[i]))] (.d (aR1 (V.refs v.l[i]))):=λi h=>
  have:=v.gM i h
  aPI v.l[i] (by have:=V.dG v.l i h;omega)
 refine iC mix Tryz.func111 ?_;rw[V.sF]
 repeat'(first|refine bl ?_|refine bS (λh=>?_) (λh=>?_))
 ·rw[aUF aM];exact .one (.dU (t:=25) (l:=[[ci v.r]]) rfl)
 rw[aT7 aM];refine bV mix (λi:Nat=>i<=v.l.length) (I:=λi=>[(1,.lp 1 0),(4,.d (ci i)),(3,lv 1 7 (iR (V.aP (v.l.take i))))])
  (J:=λi=>lm 7 25 1 (iR (V.aP (v.l.take i))) [(1,.cells false (v.aT1.map A.d))]) (μ:=λi=>v.l.length -i) 20 0 oM (cN.U0 ⟨rfl,rfl,rfl,tV⟩ rfl) ?_
 intro i hi;have hk:=V.uQ v.l i;have hB:=V.tT (v.l.take i);have hB2:=V.kA v.l i;generalize hR:V.aP (v.l.take i)=R at hk hB⊢;have fin:v.l.length<=i->V.aP v.l=R:=λh=>by rw[<-hR,aI h]
 cases R with
 |nil=>
  repeat'(first|refine bl ?_|refine bS (λh=>?_) (λh=>?_))
  ·have h:i<v.l.length:=oM;refine eE V.cP rfl eD h ?_;conv=>whnf
   refine aF (ih i h) ?_;have hn:=V.dG v.l i h;have hm:=V.EO v.l[i];have hk:=hk h;conv=>whnf
   refine⟨by simp only[aB];rw[show Tryz.prog.bytesOf 25=8 from kK];omega,?_⟩;refine⟨λh0=>?_,λh0=>?_⟩
   ·conv=>whnf
    refine bl ?_;have h0:V.refs v.l[i]=[]:=by simpa using h0
    rw[h0,dS]at hk;refine⟨i+1,oM,oM,cN.U0 ⟨rfl,rfl,by rw[hk];rfl,tV⟩ (by rw[hk])⟩
   ·conv=>whnf
    refine bl ?_;have h0:V.refs v.l[i]≠[]:=by simpa using h0
    rw[bZ]at hk;refine⟨i+1,oM,oM,?_⟩;rw[hk];exact cN.aVK 116 7 (t:=25) (es:=1) (by simpa using h0) tV (by obtain⟨x,xs,hx⟩:=nL h0;rw[hx];exact⟨rfl,rfl,rfl,tV⟩) rfl ⟨rfl,tV⟩ (by obtain⟨x,xs,hx⟩:=nL h0;rw[hx];exact⟨⟨nofun,tV⟩,tV,⟨nofun,tV⟩,tV⟩) ⟨tV,tV⟩
  ·rw[fin oM];exact .one (.nl 1)
 |cons r0 R=>
  repeat'(first|refine bl ?_|refine bS (λh=>?_) (λh=>?_))
  ·have h:i<v.l.length:=oM;refine eE V.cP rfl eD h ?_;conv=>whnf
   refine aF (ih i h) ?_;have hn:=V.dG v.l i h;have hm:=V.EO v.l[i];have hk:=hk h;conv=>whnf
   refine⟨by simp only[aB,bE];rw[show Tryz.prog.bytesOf 25=8 from kK];simp only[aB,aQ]at hB⊢;omega,?_⟩;conv=>whnf
   refine bl ?_;refine⟨i+1,oM,oM,?_⟩;rw[hk];exact cN.aVK 116 7 (t:=25) (es:=1) sM tV ⟨rfl,rfl,rfl,tV⟩ (by rw[show iR (r0::R++v.l[i].refs)=iR (r0::R)++iR v.l[i].refs from bP,<-Y1];rfl) ⟨rfl,tV⟩ ⟨⟨nofun,tV⟩,tV,⟨nofun,tV⟩,tV⟩ ⟨tV,tV⟩
  ·rw[fin oM];exact .one (.lv (id:=7) (rows:=iR (r0::R)))
 termination_by SizeOf.sizeOf v
def R4.HU(w:R4)(s:Int):Bool:=decide (0<=s)&&decide (s<=w.parents.length)
def aRK(w:R4)(s:Int)(h1:-9223372036854775808<=s)(h2:s<=9223372036854775807):Pu 108 [.d (.ip w.aT1),.d (ci s)] (.d (cb (w.HU s))):=by
 refine iC mix Tryz.func108 ?_
 repeat'(first|refine bl ?_|refine bS (λh=>?_) (λh=>?_))
 all_goals(refine dP ?_;simp_all[R4.HU];try(intros;omega))
def aOB(out:List Int)(x:Int):Nat:=(out.takeWhile λy=>decide (y<x)).length
def aBV(out:List Int)(x:Int):List Int:=if(out.any λy=>decide (y=x))=true then out else out.take (aOB out x)++x::out.drop (aOB out x)
def kV(l:List Int):List Int:=l.foldl aBV []
def aTZ(out:List Int)(x:Int):(aBV out x).length<=out.length+1:=by
 unfold aBV;split
 ·omega
 ·have:=gJ (aOB out x) out;have h2:=congrArg List.length this;simp only[aU,aQ]at h2⊢;omega
def aL6:∀(l out:List Int),(l.foldl aBV out).length<=out.length+l.length
 |[],out=>sM
 |x::l,out=>by
  have h1:=aL6 l (aBV out x);have h2:=aTZ out x;simp only[fX,aQ];omega
def aU2(out:List Int)(x:Int):aOB out x<=out.length:=by unfold aOB;exact(List.takeWhile_prefix _).length_le
def aRT{out:List Int}{x:Int}{k:Nat}(h1:k<=out.length)(h2:∀j(h:j<k)(h':j<out.length),out[j]<x)(h3:∀h:k<out.length,¬out[k]<x):aOB out x=k:=by
 unfold aOB;induction out generalizing k with
 |nil=>simp at h1;simp[h1]
 |cons a out ih=>
  cases k with
  |zero=>
   have:=h3 sM;simp only[eK]at this;rw[List.takeWhile_cons_of_neg (by simpa using this)];rfl
  |succ k=>
   have h0:=h2 0 oM sM;simp only[eK]at h0;rw[List.takeWhile_cons_of_pos (by simpa using h0),aQ,ih (by simpa using h1) (λj hj QB=>by have:=h2 (j+1) oM (by simpa using QB);rw[cJ]at this;exact this) (λh=>by have:=h3 (by simpa using h);rw[cJ]at this;exact this)]
def aTR{L:List Int}(h:L≠[]):dl L=.d (.sl 1 (iR L)):=by
 cases L with
 |nil=>exact absurd rfl h
 |cons _ _=>rfl
def aQO(O:List Int)(k:Nat)(x:Int):((iR O).take k).map (λr=>r.map A.d)++[[A.d (ci x)]]++((iR O).drop k).map (λr=>r.map A.d)=bE (iR (O.take k++x::O.drop k)):=by
 unfold iR bE;simp only[bP,aG,bM,List.map_take,List.map_drop,bG,bW,bZ]
def aS8(O:List Int)(k:Nat)(x:Int)(h:k=0\/O=[]):[[A.d (ci x)]]++((iR O).drop k).map (λr=>r.map A.d)=bE (iR (O.take k++x::O.drop k)):=by
 rw[<-aQO];rcases h with rfl|rfl
 ·simp
 ·simp[iR]
def aH2(l:List Int)(hl:l.length<=2^30):Pu 62 [.d (.sl 1 (iR l))] (.d (.sl 1 (iR (kV l)))):=by
 refine iC mix Tryz.func62 ?_;refine bl ?_;refine bV mix (λi:Nat=>i<=l.length) (I:=λi=>[(0,.d (.sl 1 (iR l))),(3,dl (kV (l.take i))),(4,.d (ci i))])
  (J:=λi=>[]) (μ:=λi=>l.length -i) 1000 0 oM mZ ?_
 intro i hi;have hQl:=aL6 (l.take i) [];rw[cW]at hQl;have aX1:∀h:i<l.length,kV (l.take (i+1))=aBV (kV (l.take i)) l[i]:=λh=>by unfold kV;rw[aT h,iB];rfl
 change(kV (l.take i)).length<=_ at hQl;generalize hQ:kV (l.take i)=Q at hQl aX1⊢;cases Q with
 |nil=>
  repeat'(first|refine bl ?_|refine bS (λh=>?_) (λh=>?_)|refine cD rfl eD aM (bw ?_)|refine dR (aEL [] (l[i]' aM) eD) (.cons (.nl _ _) (.cons (.same _) .nil)) (bw ?_))
  ·have cX:i<l.length:=aM;refine cY mix (λk:Nat=>k=0) (I:=λk=>[(0,.d (.sl 1 (iR l))),(3,.d (.nl 1)),(4,.d (ci i)),(5,.d (ci k))]) (J:=λk=>[]) (μ:=λk=>0) 2000 0 2
    (λk:Nat=>k=0) (λk=>[(0,.d (.sl 1 (iR l))),(3,.d (.nl 1)),(4,.d (ci i)),(5,.d (ci k))]) (λk=>[]) 4000 rfl mZ ?_ ?_
   ·rintro k rfl
    repeat'(first|with_reducible (first|refine w1 ?_|refine w3 ?_|refine w9 ?_|refine wa ?_|refine wk ?_|refine nN.mk ?_|refine O8.f rfl ?_)|((with_reducible (first|refine wi ?_|refine wg ?_));(conv=>whnf))|((with_reducible refine wt eD kK ?_);(conv=>whnf)))
    exact⟨0,rfl,mZ⟩
   ·rintro k rfl;refine bl ?_;refine xV (by simp;exact Nat.lt_of_lt_of_eq (by decide:0<1) kK) ?_;conv=>whnf
    skip
    refine n8 sM kK ?_;conv=>whnf
    refine E9.mk (λh1=>?_) (λh1=>absurd rfl h1);conv=>whnf
    repeat'(first|refine bl ?_|refine cD rfl eD cX (bw ?_))
    refine n8 (by simp only[cE,aS];omega) kK ?_;conv=>whnf
    refine E9.mk (λh2=>absurd h2 sM) (λh2=>?_);conv=>whnf
    refine bl ?_;refine xV (by simp;exact Nat.lt_of_lt_of_eq (by decide:0<1) kK) ?_;conv=>whnf
    skip
    refine n8 sM kK ?_;conv=>whnf
    refine bl ?_;have e:kV (l.take (i+1))=[l[i]]:=by rw[aX1 cX];rfl
    refine⟨i+1,oM,oM,?_⟩;rw[e,aTR (L:=[l[i]]) sM];exact cN.freeze [4152] tV ⟨.same _,.rd (Rd.UN (t:=25) (eX rfl rfl) rfl),.same _,tV⟩ tV ⟨tV,tV,tV,tV⟩ trivial
  ·rw[aI oM]at hQ;rw[hQ];exact .one (.nz _ _)
 |cons q0 Q=>
  repeat'(first|refine bl ?_|refine bS (λh=>?_) (λh=>?_)|refine cD rfl eD aM (bw ?_)|refine aF (aEL (q0::Q) (l[i]' aM) (by simp at hQl⊢;omega)) (bw ?_))
  ·have cX:i<l.length:=aM;refine⟨i+1,oM,oM,?_⟩;have e:kV (l.take (i+1))=q0::Q:=by
    rw[aX1 cX];unfold aBV;rw[aUF (by simpa using h)]
   rw[e];exact mZ
  ·have cX:i<l.length:=aM;have pG:((q0::Q).any λy=>decide (y=l[i]))=false:=by simpa using h
   refine cY mix (λk:Nat=>k<=(q0::Q).length/\∀j(h:j<k)(h':j<(q0::Q).length),(q0::Q)[j]<l[i]) (I:=λk=>[(0,.d (.sl 1 (iR l))),(3,dl (q0::Q)),(4,.d (ci i)),(5,.d (ci k))]) (J:=λk=>[]) (μ:=λk=>(q0::Q).length -k) 2000 0 2
    (λk:Nat=>k=aOB (q0::Q) l[i]) (λk=>[(0,.d (.sl 1 (iR l))),(3,dl (q0::Q)),(4,.d (ci i)),(5,.d (ci k))]) (λk=>[]) 4000 ⟨sM,λj h=>absurd h oM⟩ mZ ?_ ?_
   ·rintro k ⟨g1,g2⟩;have g1':k<=Q.length+1:=g1;have hb:Q.length+1<=i:=by simp at hQl;omega
    repeat'(first|with_reducible (first|refine w1 ?_|refine w2 ?_|refine w3 ?_|refine w5 ?_|refine w9 ?_|refine wa ?_|refine wc ?_|refine wj ?_|refine wk ?_|refine nN.mk ?_|refine O8.t rfl ?_|refine O8.f rfl ?_)|((with_reducible (first|refine wr ?_|refine wi ?_|refine wg ?_));(conv=>whnf))|((with_reducible refine wt eD kK ?_);(conv=>whnf))|((with_reducible refine FC.mk (RG (by(try dsimp only);omega) (by(try dsimp only);omega)) ?_);(conv=>whnf))|((with_reducible refine nQ (λh=>?_) (λh=>?_))<;>(try rw[h])<;>(conv at h=>{simp}))|((refine cD rfl eD cX ?_);(conv=>whnf))|((refine cD rfl eD (L:=q0::Q) (by simp only[aQ];omega) ?_);(conv=>whnf)))
    ·have hk1:k<(q0::Q).length:=by simp only[aQ];omega
     refine⟨k+1,by simp only[aQ];omega,⟨by simp only[aQ];omega,λj h1 h2=>?_⟩,mZ⟩;rcases eQ j k with h3|h3
     ·exact g2 j h3 h2
     ·have:j=k:=oM;subst this;assumption
    ·have hk1:k<(q0::Q).length:=by simp only[aQ];omega
     refine⟨k,(aRT g1 g2 λ_=>oM).symm,mZ⟩
    ·refine⟨k,(aRT g1 g2 λh5=>?_).symm,mZ⟩;simp only[aQ]at h5;omega
   ·rintro k hk;have hkl:k<=Q.length+1:=by rw[hk];exact aU2 (q0::Q) l[i]
    have hb:Q.length+1<=i:=by simp at hQl;omega
    have hle:(iR (q0::Q)).length=Q.length+1:=sM;refine bl ?_;refine xV ⟨.inl rfl,kK,oM,oM,oM,by simp only[aB,aQ];omega,sM⟩ ?_;have ek:((k:Int)-0).toNat=k:=oM;rw[ek];conv=>whnf
    skip
    refine n8 (by simp only[aB,cW];omega) kK ?_;conv=>whnf
    refine E9.mk (λh1=>?_) (λh1=>?_)
    ·conv=>whnf
     repeat'(first|refine bl ?_|refine cD rfl eD cX (bw ?_))
     refine n8 (by simp only[cE,aS];omega) kK ?_;conv=>whnf
     refine E9.mk (λh2=>absurd h2 sM) (λh2=>?_);conv=>whnf
     refine bl ?_;refine xV ⟨.inr rfl,kK,oM,oM,by simp only[aB,aQ];omega,by simp only[aB,aQ];omega,sM⟩ ?_;conv=>whnf
     skip
     rw[hP,aI (i:=(_ -_:Int).toNat) (by simp only[aB,l4,aQ];omega)];refine n8 (by simp only[aU,cE,aS,aB,cW,l4,aQ];omega) kK ?_;conv=>whnf
     refine bl ?_;have e:kV (l.take (i+1))=(q0::Q).take k++l[i]::(q0::Q).drop k:=by
      rw[aX1 cX,hk];unfold aBV;rw[aT7 (by rw[pG];simp)]
     refine⟨i+1,oM,oM,?_⟩;rw[e,aTR (L:=(q0::Q).take k++l[i]::(q0::Q).drop k) sM];exact cN.freeze [4152] tV ⟨.same _,.rd (Rd.UN (t:=25) (eX rfl rfl) (aS8 (q0::Q) k l[i] (by simpa using h1))),.same _,tV⟩ tV ⟨tV,tV,tV,tV⟩ trivial
    ·conv=>whnf
     repeat'(first|refine bl ?_|refine cD rfl eD cX (bw ?_))
     refine n8 (by simp only[cE,aS,aB,cW];omega) kK ?_;conv=>whnf
     refine bl ?_;refine xV ⟨.inr rfl,kK,oM,oM,by simp only[aB,aQ];omega,by simp only[aB,aQ];omega,sM⟩ ?_;conv=>whnf
     skip
     rw[hP,aI (i:=(_ -_:Int).toNat) (by simp only[aB,l4,aQ];omega)];refine n8 (by simp only[aU,cE,aS,aB,cW,l4,aQ];omega) kK ?_;conv=>whnf
     refine bl ?_;have e:kV (l.take (i+1))=(q0::Q).take k++l[i]::(q0::Q).drop k:=by
      rw[aX1 cX,hk];unfold aBV;rw[aT7 (by rw[pG];simp)]
     refine⟨i+1,oM,oM,?_⟩;rw[e,aTR (L:=(q0::Q).take k++l[i]::(q0::Q).drop k) sM];exact cN.freeze [4152] tV ⟨.same _,.rd (Rd.UN (t:=25) (eX rfl rfl) (aQO (q0::Q) k l[i])),.same _,tV⟩ tV ⟨tV,tV,tV,tV⟩ trivial
  ·have hz:i=l.length:=oM;rw[aI oM]at hQ;rw[hQ];exact .one (.d _)
mutual
def V.same:V->V->Bool
 |.mk k n s l r,b=>(decide (k=b.kind)&&(decide (n=b.n)&&(decide (s=b.s)&&(decide (r=b.r)&&decide (l.length=b.l.length)))))&&V.mC l b.l
def V.mC:List V->List V->Bool
 |a::r,b::q=>V.same a b&&V.mC r q
 |_,_=>true
end
def V.aUK(a b:V):a.same b=((decide (a.kind=b.kind)&&(decide (a.n=b.n)&&(decide (a.s=b.s)&&(decide (a.r=b.r)&&decide (a.l.length=b.l.length)))))&&V.mC a.l b.l):=by cases a;rw[V.same];rfl
def V.LG(a b:List V)(i:Nat)(h:i<a.length)(h2:i<b.length):V.mC (a.drop i) (b.drop i)=(V.same a[i] b[i]&&V.mC (a.drop (i+1)) (b.drop (i+1))):=by
 rw[dE h,dE h2,V.mC]
def V.aTD(b:List V):V.mC [] b=true:=by cases b<;>rfl
mutual
def V.aOZ:∀(a b:V),V.same a b=true↔a=b
 |.mk k n s l r,.mk k2 n2 s2 l2 r2=>by
  rw[V.same];show((decide (k=k2)&&(decide (n=n2)&&(decide (s=s2)&&(decide (r=r2)&&decide (l.length=l2.length)))))&&V.mC l l2)=true↔_;simp only[aE,aUA,V.mk.injEq];constructor
  ·rintro⟨⟨h1,h2,h3,h4,h5⟩,h6⟩;exact⟨h1,h2,h3,(V.aN8 l l2 h5).1 h6,h4⟩
  ·rintro⟨h1,h2,h3,h4,h5⟩;exact⟨⟨h1,h2,h3,h5,by rw[h4]⟩,(V.aN8 l l2 (by rw[h4])).2 h4⟩
def V.aN8:∀(a b:List V),a.length=b.length->(V.mC a b=true↔a=b)
 |[],[],_=>by simp[V.mC]
 |[],b::q,h=>by cases h
 |a::r,[],h=>by cases h
 |a::r,b::q,h=>by
  rw[V.mC,aE,V.aOZ a b,V.aN8 r q (by simpa using h)];simp
end
def aQQ(a b:V)(ha:a.cR<=2^38)(hb:b.cR<=2^38):Pu 138 [.d (.agg a.aT1),.d (.agg b.aT1)] (.d (cb (a.same b))):=by
 have hca:=a.fA;have hcb:=b.fA;have hla:=V.eW a.l;have hlb:=V.eW b.l;have ih:∀i(h:i<a.l.length)(h2:i<b.l.length),Pu 138 [.d (.agg (V.aT1 a.l[i])),.d (.agg (V.aT1 b.l[i]))] (.d (cb (a.l[i].same b.l[i]))):=λi h h2=>
  have:=a.gM i h
  aQQ a.l[i] b.l[i] (by have:=V.dG a.l i h;omega) (by have:=V.dG b.l i h2;omega)
 refine iC mix Tryz.func138 ?_;rw[V.aUK]
 repeat'(first|refine bl ?_|refine bS (λh=>?_) (λh=>?_))
 all_goals try(refine dP ?_;first|(simp_all;done)|(rw[aU0 (by omega:¬a.l.length=b.l.length)];simp;done))
 have he:a.l.length=b.l.length:=by
  omega
 have hd:(decide (a.kind=b.kind)&&(decide (a.n=b.n)&&(decide (a.s=b.s)&&(decide (a.r=b.r)&&decide (a.l.length=b.l.length)))))=true:=by simp_all
 rw[hd,cA];refine bV mix (λi:Nat=>i<=a.l.length/\V.mC (a.l.drop i) (b.l.drop i)=V.mC a.l b.l) (I:=λi=>[(2,.lp 1 0),(3,.lp 9 0),(5,.d (ci i))])
  (J:=λi=>[(1,.cells false (a.aT1.map A.d)),(9,.cells false (b.aT1.map A.d))]) (μ:=λi=>a.l.length -i) 100 0 ⟨oM,rfl⟩ mZ ?_
 rintro i ⟨hi,ht⟩
 repeat'(first|with_reducible (first|refine w1 ?_|refine w2 ?_|refine w3 ?_|refine w4 ?_|refine w5 ?_|refine w9 ?_|refine wa ?_|refine wb ?_|refine wc ?_|refine wd ?_|refine we ?_|refine nN.mk ?_)|((with_reducible (first|refine wr ?_|refine wi ?_|refine wx ?_));(conv=>whnf))|((with_reducible refine wt eD kK ?_);(conv=>whnf))|((with_reducible refine FC.mk (RG (by(try dsimp only);omega) (by(try dsimp only);omega)) ?_);(conv=>whnf))|((with_reducible refine nQ (λh=>?_) (λh=>?_))<;>(try rw[h])<;>(conv at h=>{simp}))|((refine eE V.cP rfl eD oM ?_);(conv=>whnf))|((refine XD.mk _ (ih i oM oM) ?_);(conv=>whnf)))
 ·have h1:i<a.l.length:=oM;have h2:i<b.l.length:=oM;have hs:=V.LG a.l b.l i h1 h2;have h:a.l[i].same b.l[i]=false:=aM;rw[<-ht,hs,h,c0];exact .one (.d _)
 ·have h1:i<a.l.length:=oM;have h2:i<b.l.length:=oM;have hs:=V.LG a.l b.l i h1 h2;have h:a.l[i].same b.l[i]=true:=aM;rw[h,cA]at hs;exact⟨i+1,oM,⟨oM,by rw[<-hs,ht]⟩,mZ⟩
 ·rw[dT oM,V.aTD]at ht;rw[<-ht];exact .one (.d _)
 termination_by SizeOf.sizeOf a
end Go.Pv
