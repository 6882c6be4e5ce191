import Derived.Test.YtpdcbahjjmooiaaGreatA25
/- A program logic over the model, contracts of the functions that the law reaches: part 26. (Names and blanks were shortened by program.) -/
set_option linter.unusedVariables false
set_option linter.unusedSimpArgs false
set_option linter.constructorNameAsVariable false
set_option linter.unusedSectionVars false
set_option linter.deprecated false
set_option maxRecDepth 100000
set_option maxHeartbeats 8000000
open Go Go.Proofs
namespace Go.Pv
open Go.RowKit
theorem YY(a:Nat)(h:a<2^64):(BitVec.ofInt IntKind.u64.bits (a:Int)).toNat=a:=by
 rw[u3];simp only[IntKind.bits];omega
theorem aJG(a:Nat)(h:a<2^64):IntKind.u64.wrap (a:Int)=a:=by
 unfold IntKind.wrap;simp only[IntKind.signed,IntKind.bits,c0,bY,if_false];omega
theorem aJF(a:Nat):IntKind.u64.wrap (a:Int)=((a %18446744073709551616:Nat):Int):=by
 unfold IntKind.wrap;simp only[IntKind.signed,IntKind.bits,c0,bY,if_false];omega
theorem aLG(a b:Nat)(ha:a<2^64)(hb:b<2^64):pO .xor .u64 a b=((a^^^b:Nat):Int):=by
 unfold pO;dsimp only;rw[BitVec.toNat_xor,YY a ha,YY b hb];exact aJG _ (u6 ha hb)
theorem aM1(a b:Nat)(ha:a<2^64)(hb:b<2^64):pO .and .u64 a b=((a&&&b:Nat):Int):=by
 unfold pO;dsimp only;rw[BitVec.toNat_and,YY a ha,YY b hb];exact aJG _ (Nat.lt_of_le_of_lt Nat.and_le_left ha)
theorem aGB(x:Nat)(h:x<2^64):aIV x=(Go.Sort.xorNextN x:Int):=by
 have h1:aLE x=((x^^^(x*8192 %18446744073709551616):Nat):Int):=by
  unfold aLE;rw[show((x:Int)*2^13)=((x*8192:Nat):Int)from by rw[Int.natCast_mul];rfl,aJF,aLG _ _ h (by omega)]
 have b1:x^^^(x*8192 %18446744073709551616)<2^64:=u6 h (by omega);unfold aIV Go.Sort.xorNextN;rw[h1];generalize x^^^(x*8192 %18446744073709551616)=y at b1⊢;have h2:aLF y=((y^^^(y/128):Nat):Int):=by
  unfold aLF;rw[show((y:Int)).fdiv (2^7)=((y/128:Nat):Int) by rw[kM _ (by decide)];omega,aLG _ _ b1 (by omega)]
 have b2:y^^^(y/128)<2^64:=u6 b1 (by omega);rw[h2];dsimp only;generalize y^^^(y/128)=z at b2⊢;unfold aMZ;rw[show((z:Int)*2^17)=((z*131072:Nat):Int)from by rw[Int.natCast_mul];rfl,aJF,aLG _ _ b2 (by omega)]
def brk(a length modulus idx:Nat)(d:Array Int):Nat->UInt64×Array Int
 |0=>(UInt64.ofNat length,d)
 |k+1=>Go.Sort.breakStep a length modulus (brk a length modulus idx d k) (idx+k)
theorem aJO(d:Array Int)(a l:Nat)(h:8<=l):Go.Sort.breakPatterns d a (a+l)=(brk a l (2^Go.Sort.bitsLen l) (a+l/4*2 -1) d 3).2:=by
 unfold Go.Sort.breakPatterns;rw[show a+l -a=l by omega];simp only[ge_iff_le,h,if_true,Nat.one_shiftLeft];rfl
theorem RR(a l md idx:Nat)(d:Array Int):∀k,(brk a l md idx d k).2.size=d.size
 |0=>rfl
 |k+1=>by
  rw[brk,Go.Sort.breakStep];simp only[fN];exact RR a l md idx d k
abbrev aEX(x:UInt64):R:=.cells false [.d (cu (x.toNat:Int))]
theorem aLD(x:UInt64):aJ Tryz.prog 217 [.lp 0 0] (aK [(0,aEX x)]) (.ok (.d (cu ((Go.Sort.xorNext x).toNat:Int)))) (aH (aK [(0,aEX x)]) [(0,aEX (Go.Sort.xorNext x))]):=by
 have h:=aGA (x.toNat:Int);rw[aGB _ x.toNat_lt,<-Go.Sort.xorNext_toNat]at h;exact h
theorem aJP(d:Array Int)(a l:Nat)(hb:a+l<=d.size)(hd:d.size<=2^40):aJ Tryz.prog 191 [.h 0,.d (ci a),.d (ci (a+l:Nat))] (aK [(0,iG d)]) (.ok (.eL [])) (aH (aK [(0,iG d)]) [(0,iG (Go.Sort.breakPatterns d a (a+l)))]):=by
 refine wE mix 100 Tryz.func191 trivial ⟨aZ,trivial⟩ ?_;have hl:((a+l:Nat):Int)-a=l:=by omega
 repeat'(first|refine bl ?_|refine bS (λh=>?_) (λh=>?_))
 rw[hl]
 case refine_2=>
  refine dA rfl ⟨.inr ?_,.inl rfl,trivial⟩;have:Go.Sort.breakPatterns d a (a+l)=d:=by
   unfold Go.Sort.breakPatterns;simp only[ge_iff_le];rw[if_neg (by omega)]
  rw[this];rfl
 have h8:8<=l:=by omega
 rw[aJO d a l h8];have hb1:=Go.Sort.two_pow_bitsLen_le (n:=l) (by omega);have hb2:=Go.Sort.lt_two_pow_bitsLen l;refine FC.mk (NX (by omega) (by omega)) ?_;conv=>whnf
 repeat'(first|refine bl ?_|refine aF (aHY l (by omega)) (bw ?_))
 rw[aEP];refine⟨decide_eq_true ⟨rfl,by decide,RG (by omega) (by omega)⟩,?_⟩;conv=>whnf
 refine bl ?_;have hof:(UInt64.ofNat l).toNat=l:=by rw[UInt64.toNat_ofNat'];exact Nat.mod_eq_of_lt (by omega)
 refine bV mix (λk:Nat=>k<=3) (I:=λk=>[(0,.h 0),(1,.d (ci a)),(6,.d (ci l)),(7,.lp 164 0),(8,.d (cu ((2^Go.Sort.bitsLen l:Nat):Int))),(9,.d (ci ((a+l/4*2 -1+k:Nat):Int)))])
  (J:=λk=>[(0,iG (brk a l (2^Go.Sort.bitsLen l) (a+l/4*2 -1) d k).2),(164,aEX (brk a l (2^Go.Sort.bitsLen l) (a+l/4*2 -1) d k).1)]) (μ:=λk=>3 -k) 300 0 (by omega) ?_ ?_
 ·refine mq 5000 5001 ?_
  ·show some (R.cells false [A.d (cu (l:Int))])=some (R.cells false [A.d (cu (((UInt64.ofNat l).toNat:Nat):Int))]);rw[hof]
 intro k hk;have hsz:=RR a l (2^Go.Sort.bitsLen l) (a+l/4*2 -1) d k;have hstep:brk a l (2^Go.Sort.bitsLen l) (a+l/4*2 -1) d (k+1)=Go.Sort.breakStep a l (2^Go.Sort.bitsLen l) (brk a l (2^Go.Sort.bitsLen l) (a+l/4*2 -1) d k) (a+l/4*2 -1+k):=rfl;generalize hst:brk a l (2^Go.Sort.bitsLen l) (a+l/4*2 -1) d k=st at hsz hstep⊢;obtain⟨r,f⟩:=st;dsimp only at hsz hstep⊢;refine bl ?_;rw[aEP];refine⟨decide_eq_true ⟨rfl,by decide,RG (by omega) (by omega)⟩,?_⟩;conv=>whnf
 repeat'(first|refine bl ?_|refine bS (λh=>?_) (λh=>?_))
 ·refine lN 164 (aEX (Go.Sort.xorNext r)) ((aLD r).AK rfl (λg=>rfl) (λg=>rfl) rfl (by simp[A.lQ,A.hs]) (aK _) 164 rfl) ?_;conv=>whnf
  skip
  refine FC.mk (NX (by omega) (by omega)) ?_;conv=>whnf
  skip
  have ha:=aM1 (Go.Sort.xorNext r).toNat (2^Go.Sort.bitsLen l -1) (Go.Sort.xorNext r).toNat_lt (by omega);rw[show(((2^Go.Sort.bitsLen l:Nat):Int))-1=((2^Go.Sort.bitsLen l -1:Nat):Int) by omega,ha];have ho:(Go.Sort.xorNext r).toNat&&&(2^Go.Sort.bitsLen l -1)<=2^Go.Sort.bitsLen l -1:=Nat.and_le_right;unfold Go.Sort.breakStep at hstep;dsimp only at hstep;generalize(Go.Sort.xorNext r).toNat&&&(2^Go.Sort.bitsLen l -1)=o at ho hstep⊢;refine FC.mk (RG (by omega) (by omega)) ?_;conv=>whnf
  repeat'(first|refine bl ?_|refine bS (λh=>?_) (λh=>?_))
  ·rw[if_pos (by omega)]at hstep
   repeat'(first|refine bl ?_|refine ow2 (a+l/4*2 -1+k) (bw ?_)|refine lG.mk (a+(o -l)) (by omega) (by simp only[bE,cE,aB,c7];omega) (bw ?_)|(refine fZ.mk _ (fY f _ (by omega)) ?_;(conv=>whnf))|(refine fZ.mk _ (rK f _ _ (by omega)) ?_;(conv=>whnf)))
   refine⟨k+1,by omega,by omega,?_⟩;rw[hstep];refine mq 5000 5001 ?_;exact cO rfl (jD f _ _)
  ·rw[if_neg (by omega)]at hstep
   repeat'(first|refine bl ?_|refine ow2 (a+l/4*2 -1+k) (bw ?_)|refine ow2 (a+o) (bw ?_)|(refine fZ.mk _ (fY f _ (by omega)) ?_;(conv=>whnf))|(refine fZ.mk _ (rK f _ _ (by omega)) ?_;(conv=>whnf)))
   refine⟨k+1,by omega,by omega,?_⟩;rw[hstep];refine mq 5000 5001 ?_;exact cO rfl (jD f _ _)
 ·have hk3:k=3:=by omega
  subst hk3;rw[hst];exact dA rfl ⟨.inr rfl,.inl rfl,trivial⟩
theorem aE4(f:Array Int)(b i:Nat)(h:i<b)(h2:¬f[i]! <f[i -1]!):Go.Sort.scanSorted eF f b (i+1)=Go.Sort.scanSorted eF f b i:=by
 conv=>rhs;rw[Go.Sort.scanSorted]
 rw[if_pos (by simp[h];omega)]
theorem WT(f:Array Int)(b i:Nat)(h:¬(i<b/\¬f[i]! <f[i -1]!)):Go.Sort.scanSorted eF f b i=i:=by
 rw[Go.Sort.scanSorted,if_neg (by simp;omega)]
theorem aK7(f:Array Int)(j:Nat)(h:1<=j)(h2:f[j]! <f[j -1]!):Go.Sort.shiftDown eF (j -1) (Go.Sort.swp f j (j -1))=Go.Sort.shiftDown eF j f:=by
 obtain⟨k,rfl⟩:∃k,j=k+1:=⟨j -1,by omega⟩;simp only[pL]at h2⊢;conv=>rhs;rw[Go.Sort.shiftDown]
 rw[if_neg (by simp;omega)]
theorem aFG(f:Array Int)(j:Nat)(h:¬(1<=j/\f[j]! <f[j -1]!)):Go.Sort.shiftDown eF j f=f:=by
 cases j with
 |zero=>rfl
 |succ k=>
  simp only[pL]at h;rw[Go.Sort.shiftDown,if_pos (by simp;omega)]
theorem aFH(f:Array Int)(b j:Nat)(h:j<b)(h2:f[j]! <f[j -1]!):Go.Sort.shiftUp eF b (j+1) (Go.Sort.swp f j (j -1))=Go.Sort.shiftUp eF b j f:=by
 conv=>rhs;rw[Go.Sort.shiftUp]
 rw[if_pos h,if_neg (by simp;omega)]
theorem UM(f:Array Int)(b j:Nat)(h:¬(j<b/\f[j]! <f[j -1]!)):Go.Sort.shiftUp eF b j f=f:=by
 rw[Go.Sort.shiftUp];by_cases q:j<b
 ·rw[if_pos q,if_pos (by simp;omega)]
 ·rw[if_neg q]
theorem aH1(d:Array Int)(a b:Nat)(hab:a<b)(hb:b<=d.size)(hd:d.size<=2^40):aJ Tryz.prog 194 [.h 0,.d (ci a),.d (ci b)] (aK [(0,iG d)]) (.ok (.d (cb (Go.Sort.partialInsertionSort eF d a b).2))) (aH (aK [(0,iG d)]) [(0,iG (Go.Sort.partialInsertionSort eF d a b).1)]):=by
 refine wE mix 100 Tryz.func194 trivial ⟨aZ,trivial⟩ ?_;refine bl ?_;generalize hres:Go.Sort.partialInsertionSort eF d a b=res;refine bV mix (λs:(Nat×Nat)×Array Int=>s.1.1<=5/\a+1<=s.1.2/\s.1.2<=b/\s.2.size=d.size/\Go.Sort.partialIns eF a b (5 -s.1.1) s.1.2 s.2=res) (I:=λs=>[(0,.h 0),(1,.d (ci a)),(2,.d (ci b)),(7,.d (ci s.1.2)),(8,.d (ci s.1.1))])
  (J:=λs=>[(0,iG s.2)]) (μ:=λs=>5 -s.1.1) 1000 ((0,a+1),d) ⟨by simp,by simp,by dsimp only;omega,rfl,hres⟩ (by(refine cN.swap 5000 5001 ?_ ?_ ?_ ?_ ?_<;>repeat'(first|exact aW|exact rfl|exact sn|exact aZ|exact IK rfl|exact cO rfl rfl|refine bI ?_ ?_))) ?_
 rintro⟨⟨k,i⟩,f⟩ ⟨h1,h2,h3,h4,h5⟩;dsimp only at h1 h2 h3 h4 h5⊢
 repeat'(first|refine bl ?_|refine bS (λh=>?_) (λh=>?_))
 case refine_2=>
  have hk:k=5:=by omega
  subst hk;have:res=(f,false):=h5.symm;rw[this];exact dA rfl ⟨.inr rfl,.inl rfl,trivial⟩
 obtain⟨s,hs⟩:∃s,5 -k=s+1:=⟨4 -k,by omega⟩;rw[hs]at h5;have hs':5 -(k+1)=s:=by omega
 have h6:(let i':=Go.Sort.scanSorted eF f b i;if i'=b then(f,true)else if b -a<50 then(f,false)else let d1:=Go.Sort.swp f i' (i' -1);let d2:=if i' -a≥2 then Go.Sort.shiftDown eF (i' -1) d1 else d1;let d3:=if b -i'≥2 then Go.Sort.shiftUp eF b (i'+1) d2 else d2;Go.Sort.partialIns eF a b s i' d3)=res:=h5;clear h5;dsimp only at h6;refine cY mix (λj:Nat=>i<=j/\j<=b/\Go.Sort.scanSorted eF f b j=Go.Sort.scanSorted eF f b i) (I:=λj=>[(0,.h 0),(1,.d (ci a)),(2,.d (ci b)),(7,.d (ci j)),(8,.d (ci k))])
  (J:=λj=>[(0,iG f)]) (μ:=λj=>b -j) 2000 i 2
  (λj:Nat=>i<=j/\j<=b/\Go.Sort.scanSorted eF f b i=j) (λj=>[(0,.h 0),(1,.d (ci a)),(2,.d (ci b)),(7,.d (ci j)),(8,.d (ci k))]) (λj=>[(0,iG f)]) 3000 ⟨by omega,by omega,rfl⟩ (by(refine cN.swap 5000 5001 ?_ ?_ ?_ ?_ ?_<;>repeat'(first|exact aW|exact rfl|exact sn|exact aZ|exact IK rfl|exact cO rfl rfl|refine bI ?_ ?_))) ?_ ?_
 ·rintro j ⟨g1,g2,g3⟩
  repeat'(first|refine bl ?_|refine bS (λh=>?_) (λh=>?_)|refine ow j (bw ?_)|refine ow2 (j -1) (bw ?_)|(refine fZ.mk _ (fY f _ (by omega)) ?_;(conv=>whnf))|refine cH (nE _ _) (bw ?_))
  all_goals first
   |(refine⟨j+1,by omega,⟨by omega,by omega,?_⟩,by(refine cN.swap 5000 5001 ?_ ?_ ?_ ?_ ?_<;>repeat'(first|exact aW|exact rfl|exact sn|exact aZ|exact IK rfl|exact cO rfl rfl|refine bI ?_ ?_))⟩
     rw[<-g3];exact aE4 f b j (by omega) (by omega))
   |(refine⟨j,⟨g1,g2,?_⟩,by(refine cN.swap 5000 5001 ?_ ?_ ?_ ?_ ?_<;>repeat'(first|exact aW|exact rfl|exact sn|exact aZ|exact IK rfl|exact cO rfl rfl|refine bI ?_ ?_))⟩
     rw[<-g3];exact WT f b j (by omega))
 rintro i' ⟨g1,g2,g3⟩;rw[g3]at h6
 repeat'(first|refine bl ?_|refine bS (λh=>?_) (λh=>?_)|refine lG.mk i' rfl (by simp only[bE,cE,aB,c7];omega) (bw ?_)|refine ow2 (i' -1) (bw ?_)|(refine fZ.mk _ (fY f _ (by omega)) ?_;(conv=>whnf))|(refine fZ.mk _ (rK f _ _ (by omega)) ?_;(conv=>whnf)))
 ·rw[if_pos (by omega)]at h6;subst h6;exact dA rfl ⟨.inr rfl,.inl rfl,trivial⟩
 ·rw[if_neg (by omega),if_pos (by omega)]at h6;subst h6;exact dA rfl ⟨.inr rfl,.inl rfl,trivial⟩
 all_goals
  rw[if_neg (by omega),if_neg (by omega)]at h6;have hz:=fN f i' (i' -1)
 case refine_2.refine_2.refine_1=>
  rw[if_pos (show i' -a≥2 by omega)]at h6;refine cY mix (λs:Nat×Array Int=>s.1<=i' -1/\s.2.size=d.size/\Go.Sort.shiftDown eF s.1 s.2=Go.Sort.shiftDown eF (i' -1) (Go.Sort.swp f i' (i' -1))) (I:=λs=>[(0,.h 0),(1,.d (ci a)),(2,.d (ci b)),(7,.d (ci i')),(8,.d (ci k)),(9,.d (ci s.1))])
   (J:=λs=>[(0,iG s.2)]) (μ:=λs=>s.1) 4000 (i' -1,Go.Sort.swp f i' (i' -1)) 4
   (λe:Array Int=>e.size=d.size/\Go.Sort.shiftDown eF (i' -1) (Go.Sort.swp f i' (i' -1))=e) (λe=>[(0,.h 0),(1,.d (ci a)),(2,.d (ci b)),(7,.d (ci i')),(8,.d (ci k))]) (λe=>[(0,iG e)]) 5000 ⟨by dsimp only;omega,by dsimp only;omega,rfl⟩ (by(refine cN.swap 5000 5001 ?_ ?_ ?_ ?_ ?_<;>repeat'(first|exact aW|exact rfl|exact sn|exact aZ|exact IK rfl|(refine aDO ?_;(try dsimp only);omega)|refine bI ?_ ?_));exact cO rfl (jD f _ _)) ?_ ?_
  ·rintro⟨j,e⟩ ⟨q1,q3,q4⟩;dsimp only at q1 q3 q4⊢
   repeat'(first|refine bl ?_|refine bS (λh=>?_) (λh=>?_)|refine ow j (bw ?_)|refine ow2 (j -1) (bw ?_)|(refine fZ.mk _ (fY e _ (by omega)) ?_;(conv=>whnf))|(refine fZ.mk _ (rK e _ _ (by omega)) ?_;(conv=>whnf))|refine cH (nE _ _) (bw ?_))
   all_goals first
    |(refine⟨(j -1,Go.Sort.swp e j (j -1)),by dsimp only;omega,⟨by dsimp only;omega,by dsimp only;rw[fN];exact q3,?_⟩,?_⟩
      · dsimp only;rw[<-q4];exact aK7 e j (by omega) (by omega)
      · (refine cN.swap 5000 5001 ?_ ?_ ?_ ?_ ?_<;>repeat'(first|exact aW|exact rfl|exact sn|exact aZ|exact IK rfl|(refine aDO ?_;(try dsimp only);omega)|refine bI ?_ ?_))
        exact cO rfl (jD e _ _))
    |(refine⟨e,⟨q3,?_⟩,by(refine cN.swap 5000 5001 ?_ ?_ ?_ ?_ ?_<;>repeat'(first|exact aW|exact rfl|exact sn|exact aZ|exact IK rfl|exact cO rfl rfl|refine bI ?_ ?_))⟩
      rw[<-q4];exact aFG e j (by omega))
  rintro e0 ⟨q1,q2⟩;rw[q2]at h6
  repeat'(first|refine bl ?_|refine bS (λh=>?_) (λh=>?_))
  ·rw[if_pos (show b -i'≥2 by omega)]at h6;refine cY mix (λs:Nat×Array Int=>i'+1<=s.1/\s.1<=b/\s.2.size=d.size/\Go.Sort.shiftUp eF b s.1 s.2=Go.Sort.shiftUp eF b (i'+1) e0) (I:=λs=>[(0,.h 0),(1,.d (ci a)),(2,.d (ci b)),(7,.d (ci i')),(8,.d (ci k)),(10,.d (ci s.1))])
    (J:=λs=>[(0,iG s.2)]) (μ:=λs=>b -s.1) 6000 (i'+1,e0) 6
    (λe:Array Int=>e.size=d.size/\Go.Sort.shiftUp eF b (i'+1) e0=e) (λe=>[(0,.h 0),(1,.d (ci a)),(2,.d (ci b)),(7,.d (ci i')),(8,.d (ci k))]) (λe=>[(0,iG e)]) 7000 ⟨by dsimp only;omega,by dsimp only;omega,by dsimp only;omega,rfl⟩ (by(refine cN.swap 5000 5001 ?_ ?_ ?_ ?_ ?_<;>repeat'(first|exact aW|exact rfl|exact sn|exact aZ|exact IK rfl|exact cO rfl rfl|refine bI ?_ ?_))) ?_ ?_
   ·rintro⟨j,e⟩ ⟨q1,q2,q3,q4⟩;dsimp only at q1 q2 q3 q4⊢
    repeat'(first|refine bl ?_|refine bS (λh=>?_) (λh=>?_)|refine ow j (bw ?_)|refine ow2 (j -1) (bw ?_)|(refine fZ.mk _ (fY e _ (by omega)) ?_;(conv=>whnf))|(refine fZ.mk _ (rK e _ _ (by omega)) ?_;(conv=>whnf))|refine cH (nE _ _) (bw ?_))
    all_goals first
     |(refine⟨(j+1,Go.Sort.swp e j (j -1)),by dsimp only;omega,⟨by dsimp only;omega,by dsimp only;omega,by dsimp only;rw[fN];exact q3,?_⟩,?_⟩
       · dsimp only;rw[<-q4];exact aFH e b j (by omega) (by omega)
       · (refine cN.swap 5000 5001 ?_ ?_ ?_ ?_ ?_<;>repeat'(first|exact aW|exact rfl|exact sn|exact aZ|exact IK rfl|refine bI ?_ ?_))
         exact cO rfl (jD e _ _))
     |(refine⟨e,⟨q3,?_⟩,by(refine cN.swap 5000 5001 ?_ ?_ ?_ ?_ ?_<;>repeat'(first|exact aW|exact rfl|exact sn|exact aZ|exact IK rfl|exact cO rfl rfl|refine bI ?_ ?_))⟩
       rw[<-q4];exact UM e b j (by omega))
   rintro e ⟨q1,q2⟩;refine bl ?_;rw[q2]at h6;refine⟨((k+1,i'),e),by dsimp only;omega,⟨by dsimp only;omega,by dsimp only;omega,by dsimp only;omega,q1,by dsimp only;rw[hs'];exact h6⟩,by(refine cN.swap 5000 5001 ?_ ?_ ?_ ?_ ?_<;>repeat'(first|exact aW|exact rfl|exact sn|exact aZ|exact IK rfl|exact cO rfl rfl|refine bI ?_ ?_))⟩
  ·rw[if_neg (show ¬b -i'≥2 by omega)]at h6;refine⟨((k+1,i'),e0),by dsimp only;omega,⟨by dsimp only;omega,by dsimp only;omega,by dsimp only;omega,q1,by dsimp only;rw[hs'];exact h6⟩,by(refine cN.swap 5000 5001 ?_ ?_ ?_ ?_ ?_<;>repeat'(first|exact aW|exact rfl|exact sn|exact aZ|exact IK rfl|exact cO rfl rfl|refine bI ?_ ?_))⟩
 case refine_2.refine_2.refine_2.refine_1=>
  rw[if_neg (show ¬i' -a≥2 by omega),if_pos (show b -i'≥2 by omega)]at h6;refine cY mix (λs:Nat×Array Int=>i'+1<=s.1/\s.1<=b/\s.2.size=d.size/\Go.Sort.shiftUp eF b s.1 s.2=Go.Sort.shiftUp eF b (i'+1) (Go.Sort.swp f i' (i' -1))) (I:=λs=>[(0,.h 0),(1,.d (ci a)),(2,.d (ci b)),(7,.d (ci i')),(8,.d (ci k)),(10,.d (ci s.1))])
   (J:=λs=>[(0,iG s.2)]) (μ:=λs=>b -s.1) 6000 (i'+1,(Go.Sort.swp f i' (i' -1))) 6
   (λe:Array Int=>e.size=d.size/\Go.Sort.shiftUp eF b (i'+1) (Go.Sort.swp f i' (i' -1))=e) (λe=>[(0,.h 0),(1,.d (ci a)),(2,.d (ci b)),(7,.d (ci i')),(8,.d (ci k))]) (λe=>[(0,iG e)]) 7000 ⟨by dsimp only;omega,by dsimp only;omega,by dsimp only;omega,rfl⟩ (by(refine cN.swap 5000 5001 ?_ ?_ ?_ ?_ ?_<;>repeat'(first|exact aW|exact rfl|exact sn|exact aZ|exact IK rfl|refine bI ?_ ?_));exact cO rfl (jD f _ _)) ?_ ?_
  ·rintro⟨j,e⟩ ⟨q1,q2,q3,q4⟩;dsimp only at q1 q2 q3 q4⊢
   repeat'(first|refine bl ?_|refine bS (λh=>?_) (λh=>?_)|refine ow j (bw ?_)|refine ow2 (j -1) (bw ?_)|(refine fZ.mk _ (fY e _ (by omega)) ?_;(conv=>whnf))|(refine fZ.mk _ (rK e _ _ (by omega)) ?_;(conv=>whnf))|refine cH (nE _ _) (bw ?_))
   all_goals first
    |(refine⟨(j+1,Go.Sort.swp e j (j -1)),by dsimp only;omega,⟨by dsimp only;omega,by dsimp only;omega,by dsimp only;rw[fN];exact q3,?_⟩,?_⟩
      · dsimp only;rw[<-q4];exact aFH e b j (by omega) (by omega)
      · (refine cN.swap 5000 5001 ?_ ?_ ?_ ?_ ?_<;>repeat'(first|exact aW|exact rfl|exact sn|exact aZ|exact IK rfl|refine bI ?_ ?_))
        exact cO rfl (jD e _ _))
    |(refine⟨e,⟨q3,?_⟩,by(refine cN.swap 5000 5001 ?_ ?_ ?_ ?_ ?_<;>repeat'(first|exact aW|exact rfl|exact sn|exact aZ|exact IK rfl|exact cO rfl rfl|refine bI ?_ ?_))⟩
      rw[<-q4];exact UM e b j (by omega))
  rintro e ⟨q1,q2⟩;refine bl ?_;rw[q2]at h6;refine⟨((k+1,i'),e),by dsimp only;omega,⟨by dsimp only;omega,by dsimp only;omega,by dsimp only;omega,q1,by dsimp only;rw[hs'];exact h6⟩,by(refine cN.swap 5000 5001 ?_ ?_ ?_ ?_ ?_<;>repeat'(first|exact aW|exact rfl|exact sn|exact aZ|exact IK rfl|exact cO rfl rfl|refine bI ?_ ?_))⟩
 case refine_2.refine_2.refine_2.refine_2=>
  rw[if_neg (show ¬i' -a≥2 by omega),if_neg (show ¬b -i'≥2 by omega)]at h6;refine⟨((k+1,i'),Go.Sort.swp f i' (i' -1)),by dsimp only;omega,⟨by dsimp only;omega,by dsimp only;omega,by dsimp only;omega,by dsimp only;omega,by dsimp only;rw[hs'];exact h6⟩,?_⟩
  (refine cN.swap 5000 5001 ?_ ?_ ?_ ?_ ?_<;>repeat'(first|exact aW|exact rfl|exact sn|exact aZ|exact IK rfl|refine bI ?_ ?_))
  exact cO rfl (jD f _ _)
theorem yI(a b:Nat):∀(n i:Nat)(d:Array Int),b -i<=n->(Go.Sort.insOuter eF a b i d).size=d.size
 |0,i,d,h=>by rw[Go.Sort.insOuter,if_neg (by omega)]
 |n+1,i,d,h=>by
  rw[Go.Sort.insOuter];split
  ·rw[yI a b n _ _ (by omega),B0]
  ·rfl
theorem HH(hi first:Nat):∀(k:Nat)(d:Array Int),(Go.Sort.heapBuild eF hi first k d).size=d.size
 |0,d=>rfl
 |k+1,d=>by rw[Go.Sort.heapBuild,HH hi first k,xL _ _ _ _ _ (bT _)]
theorem NV(first:Nat):∀(k:Nat)(d:Array Int),(Go.Sort.heapPop eF first k d).size=d.size
 |0,d=>rfl
 |k+1,d=>by rw[Go.Sort.heapPop,NV first k,xL _ _ _ _ _ (bT _),fN]
theorem aAN(d:Array Int)(a b:Nat):(Go.Sort.heapSort eF d a b).size=d.size:=by
 unfold Go.Sort.heapSort;rw[NV,HH]
theorem K8:∀(n i j:Nat)(d:Array Int),j -i<=n->(Go.Sort.reverseLoop i j d).size=d.size
 |0,i,j,d,h=>by rw[Go.Sort.reverseLoop,if_neg (by omega)]
 |n+1,i,j,d,h=>by
  rw[Go.Sort.reverseLoop];split
  ·rw[K8 n _ _ _ (by omega),fN]
  ·rfl
theorem NA(d:Array Int)(a b:Nat):(Go.Sort.breakPatterns d a b).size=d.size:=by
 unfold Go.Sort.breakPatterns;simp only[];split
 ·simp only[Go.Sort.breakStep,fN]
 ·rfl
theorem UK:∀(j:Nat)(d:Array Int),(Go.Sort.shiftDown eF j d).size=d.size
 |0,d=>rfl
 |j+1,d=>by
  rw[Go.Sort.shiftDown];split
  ·rfl
  ·rw[UK j,fN]
theorem UL(b:Nat):∀(n j:Nat)(d:Array Int),b -j<=n->(Go.Sort.shiftUp eF b j d).size=d.size
 |0,j,d,h=>by rw[Go.Sort.shiftUp,if_neg (by omega)]
 |n+1,j,d,h=>by
  rw[Go.Sort.shiftUp];split
  ·split
   ·rfl
   ·rw[UL b n _ _ (by omega),fN]
  ·rfl
theorem GH(a b:Nat):∀(s i:Nat)(d:Array Int),(Go.Sort.partialIns eF a b s i d).1.size=d.size
 |0,i,d=>rfl
 |s+1,i,d=>by
  rw[Go.Sort.partialIns];simp only[];split
  ·rfl
  ·split
   ·rfl
   ·rw[GH a b s];split<;>split<;>simp only[UL _ _ _ _ (bT _),UK,fN]
theorem WE(a:Nat):∀(n i j:Nat)(d:Array Int),j+1 -i<=n->(Go.Sort.partLoop eF a i j d).2.size=d.size:=by
 intro n;induction n with
 |zero=>
  intro i j d h;have h1:=Go.Sort.scanUp_ge (λx=>eF x d[a]!) d j i;have h2:=Go.Sort.scanDown_le (λx=> !eF x d[a]!) d (Go.Sort.scanUp (λx=>eF x d[a]!) d j i) j;rw[Go.Sort.partLoop_eq,if_pos (by omega)]
 |succ n ih=>
  intro i j d h;have h1:=Go.Sort.scanUp_ge (λx=>eF x d[a]!) d j i;have h2:=Go.Sort.scanDown_le (λx=> !eF x d[a]!) d (Go.Sort.scanUp (λx=>eF x d[a]!) d j i) j;rw[Go.Sort.partLoop_eq];split
  ·rfl
  ·rw[ih _ _ _ (by omega),fN]
theorem KY(a:Nat):∀(n i j:Nat)(d:Array Int),j+1 -i<=n->(Go.Sort.partEqLoop eF a i j d).2.size=d.size:=by
 intro n;induction n with
 |zero=>
  intro i j d h;have h1:=Go.Sort.scanUp_ge (λx=> !eF d[a]! x) d j i;have h2:=Go.Sort.scanDown_le (λx=>eF d[a]! x) d (Go.Sort.scanUp (λx=> !eF d[a]! x) d j i) j;rw[Go.Sort.partEqLoop_eq,if_pos (by omega)]
 |succ n ih=>
  intro i j d h;have h1:=Go.Sort.scanUp_ge (λx=> !eF d[a]! x) d j i;have h2:=Go.Sort.scanDown_le (λx=>eF d[a]! x) d (Go.Sort.scanUp (λx=> !eF d[a]! x) d j i) j;rw[Go.Sort.partEqLoop_eq];split
  ·rfl
  ·rw[ih _ _ _ (by omega),fN]
theorem aNU:Go.Sort.SWO eF:=Go.Sort.swo_ltInt
theorem aEK(d:Array Int)(a b pv:Nat)(h1:a<=pv)(h2:pv<b)(hb:b<=d.size):a<=(Go.Sort.partition eF d a b pv).1/\(Go.Sort.partition eF d a b pv).1<b/\(Go.Sort.partition eF d a b pv).2.2.size=d.size:=by
 obtain⟨r1,r2,r3,_⟩:=Go.Sort.partition_holds eF aNU d a b pv h1 h2 hb;exact⟨r1,r2,r3.1⟩
theorem aA3(d:Array Int)(a b pv:Nat)(h1:a<=pv)(h2:pv<b)(hb:b<=d.size):a<(Go.Sort.partitionEqual eF d a b pv).1/\(Go.Sort.partitionEqual eF d a b pv).1<=b/\(Go.Sort.partitionEqual eF d a b pv).2.size=d.size:=by
 unfold Go.Sort.partitionEqual;obtain⟨r1,r2,_⟩:=Go.Sort.partEqLoop_spec eF a b _ (a+1) (b -1) (Go.Sort.swp d a pv) (bT _) (kC a) (by omega) (by omega) (by rw[fN];exact hb) (λt h1 h2=>by omega) (λt h1 h2=>by omega);exact⟨r1,r2,by rw[KY _ _ _ _ _ (bT _),fN]⟩
theorem WG(d:Array Int)(a b limit:Nat)(wb wp:Bool):Go.Sort.pdq eF d a b limit wb wp=
 if b -a<=12 then Go.Sort.insertionSort eF d a b else
 if limit=0 then Go.Sort.heapSort eF d a b else
 let d1:=if !wb then Go.Sort.breakPatterns d a b else d
 let limit:=if !wb then limit -1 else limit
 let c:=Go.Sort.choosePivot eF d1 a b;let d2:=if c.2=.decreasing then Go.Sort.reverseRange d1 a b else d1
 let pivot:=if c.2=.decreasing then(b -1)-(c.1 -a)else c.1
 let hint:=if c.2=.decreasing then Go.Sort.Hint.increasing else c.2
 let pi:=if wb&&wp&&hint=.increasing then Go.Sort.partialInsertionSort eF d2 a b else(d2,false)
 if pi.2 then pi.1 else
 if a>0&& !eF pi.1[a -1]! pi.1[pivot]! then
  if a<(Go.Sort.partitionEqual eF pi.1 a b pivot).1/\(Go.Sort.partitionEqual eF pi.1 a b pivot).1<=b then Go.Sort.pdq eF (Go.Sort.partitionEqual eF pi.1 a b pivot).2 (Go.Sort.partitionEqual eF pi.1 a b pivot).1 b limit wb wp else(Go.Sort.partitionEqual eF pi.1 a b pivot).2
 else
  let q:=Go.Sort.partition eF pi.1 a b pivot
  if a<=q.1/\q.1<b then
   if q.1 -a<b -q.1 then Go.Sort.pdq eF (Go.Sort.pdq eF q.2.2 a q.1 limit true true) (q.1+1) b limit (decide (q.1 -a≥(b -a)/8)) q.2.1
   else Go.Sort.pdq eF (Go.Sort.pdq eF q.2.2 (q.1+1) b limit true true) a q.1 limit (decide (b -q.1≥(b -a)/8)) q.2.1
  else q.2.2:=by
 rw[Go.Sort.pdq];rfl
theorem K2:∀(n:Nat)(d:Array Int)(a b limit:Nat)(wb wp:Bool),b -a<=n->(Go.Sort.pdq eF d a b limit wb wp).size=d.size:=by
 intro n;induction n with
 |zero=>
  intro d a b limit wb wp h;rw[WG,if_pos (by omega)];exact yI a b _ _ d (bT _)
 |succ n ih=>
  intro d a b limit wb wp h;rw[WG];split
  ·exact yI a b _ _ d (bT _)
  split
  ·exact aAN d a b
  have e1:(if(!wb)=true then Go.Sort.breakPatterns d a b else d).size=d.size:=by split;exact NA d a b;rfl
  dsimp only;generalize(if(!wb)=true then Go.Sort.breakPatterns d a b else d)=d1 at e1⊢;generalize(if(!wb)=true then limit -1 else limit)=lim;have e2:(if(Go.Sort.choosePivot eF d1 a b).2=.decreasing then Go.Sort.reverseRange d1 a b else d1).size=d.size:=by
   split
   ·unfold Go.Sort.reverseRange;rw[K8 _ _ _ _ (bT _)];exact e1
   ·exact e1
  generalize(if(Go.Sort.choosePivot eF d1 a b).2=.decreasing then Go.Sort.reverseRange d1 a b else d1)=d2 at e2⊢;generalize(if(Go.Sort.choosePivot eF d1 a b).2=.decreasing then(b -1)-((Go.Sort.choosePivot eF d1 a b).1 -a)else(Go.Sort.choosePivot eF d1 a b).1)=pv;generalize(if(Go.Sort.choosePivot eF d1 a b).2=.decreasing then Go.Sort.Hint.increasing else(Go.Sort.choosePivot eF d1 a b).2)=hint;have e3:(if(wb&&wp&&decide (hint=.increasing))=true then Go.Sort.partialInsertionSort eF d2 a b else(d2,false)).1.size=d.size:=by
   split
   ·unfold Go.Sort.partialInsertionSort;rw[GH];exact e2
   ·exact e2
  generalize(if(wb&&wp&&decide (hint=.increasing))=true then Go.Sort.partialInsertionSort eF d2 a b else(d2,false))=pi at e3⊢;have e4:(Go.Sort.partitionEqual eF pi.1 a b pv).2.size=d.size:=by
   unfold Go.Sort.partitionEqual;rw[KY _ _ _ _ _ (bT _),fN];exact e3
  have e5:(Go.Sort.partition eF pi.1 a b pv).2.2.size=d.size:=by
   rw[Go.Sort.partition_arr,fN,WE _ _ _ _ _ (bT _),fN];exact e3
  split
  ·exact e3
  split
  ·split
   ·rw[ih _ _ _ _ _ _ (by omega)];exact e4
   ·exact e4
  ·split
   ·split
    ·rw[ih _ _ _ _ _ _ (by omega),ih _ _ _ _ _ _ (by omega)];exact e5
    ·rw[ih _ _ _ _ _ _ (by omega),ih _ _ _ _ _ _ (by omega)];exact e5
   ·exact e5
theorem cbE{p q:Prop}{hp:Decidable p}{hq:Decidable q}(h:p↔q):A.d (cb (decide p))=A.d (cb (decide q)):=by rw[decide_eq_decide.2 h]
theorem aNK(l:Nat):((l:Int)).tdiv 8=((l/8:Nat):Int):=by
 rw[n5 (by omega)];omega
theorem aKU(n:Nat):∀(d:Array Int)(a b limit:Nat),b -a<=n->a<=b->b<=d.size->d.size<=2^39->limit<=2^40->aJ Tryz.prog 160 [.h 0,.d (ci a),.d (ci b),.d (ci limit)] (aK [(0,iG d)]) (.ok (.eL [])) (aH (aK [(0,iG d)]) [(0,iG (Go.Sort.pdq eF d a b limit true true))]):=by
 induction n using Nat.strongRecOn with
 |ind n ih=>
 intro d a b limit hn hab hb hd hlim;have ih':∀(d:Array Int)(a b limit:Nat),b -a<n->a<=b->b<=d.size->d.size<=2^39->limit<=2^40->aJ Tryz.prog 160 [.h 0,.d (ci a),.d (ci b),.d (ci limit)] (aK [(0,iG d)]) (.ok (.eL [])) (aH (aK [(0,iG d)]) [(0,iG (Go.Sort.pdq eF d a b limit true true))]):=λd a b limit h=>ih (b -a) h d a b limit (bT _);clear ih;have ih'':∀(d:Array Int)(a b limit:Nat)(x:Int),x=a->b -a<n->a<=b->b<=d.size->d.size<=2^39->limit<=2^40->aJ Tryz.prog 160 [.h 0,.d (ci x),.d (ci b),.d (ci limit)] (aK [(0,iG d)]) (.ok (.eL [])) (aH (aK [(0,iG d)]) [(0,iG (Go.Sort.pdq eF d a b limit true true))]):=λd a b limit x e=>by subst e;exact ih' d a b limit
 generalize hres:Go.Sort.pdq eF d a b limit true true=res;refine wE mix 100 Tryz.func160 trivial ⟨aZ,trivial⟩ ?_;refine bl ?_;refine bV mix (λs:(Nat×Nat×Nat)×Array Int×Bool×Bool=>s.1.1<=s.1.2.1/\s.1.2.1 -s.1.1<=n/\s.1.2.1<=d.size/\s.2.1.size=d.size/\s.1.2.2<=2^40/\Go.Sort.pdq eF s.2.1 s.1.1 s.1.2.1 s.1.2.2 s.2.2.1 s.2.2.2=res) (I:=λs=>[(0,.h 0),(1,.d (ci s.1.1)),(2,.d (ci s.1.2.1)),(3,.d (ci s.1.2.2)),(8,.d (cb s.2.2.1)),(9,.d (cb s.2.2.2))])
  (J:=λs=>[(0,iG s.2.1)]) (μ:=λs=>s.1.2.1 -s.1.1) 1000 ((a,b,limit),d,true,true) ⟨hab,hn,hb,rfl,hlim,hres⟩ (by exact mv 5000 5001) ?_
 rintro⟨⟨a,b,limit⟩,f,wb,wp⟩ ⟨h1,h2,h3,h4,h5,h6⟩;clear hab hn hb hlim hres;dsimp only at h1 h2 h3 h4 h5 h6⊢;obtain⟨l,rfl⟩:∃l,b=a+l:=⟨b -a,by omega⟩;have hl:((a+l:Nat):Int)-a=l:=by omega
 rw[WG,show a+l -a=l by omega]at h6
 repeat'(first|with_reducible (first|refine w1r ?_|refine w5 ?_|refine w9 ?_|refine nN.mk ?_)|((with_reducible refine wr ?_);(conv=>whnf))|((with_reducible refine FC.mk (RG (by(try dsimp only);omega) (by(try dsimp only);omega)) ?_);(conv=>whnf)))
 refine w1 ?_
 repeat'(first|with_reducible (first|refine w1r ?_|refine w2 ?_|refine w4 ?_|refine w9 ?_|refine nN.mk ?_)|((with_reducible (first|refine wr ?_|refine wi ?_));(conv=>whnf))|((with_reducible refine nQ (λh=>?_) (λh=>?_))<;>(try rw[h])<;>(conv at h=>{simp}))|((refine dZ.mk (.eL []) [(0,iG (Go.Sort.insertionSort eF f a (a+l)))] (aJ.hP (VX f a (a+l) (by omega) (by omega) (by omega)) ⟨sn,trivial⟩ ⟨rfl,trivial⟩ ⟨aZ,trivial⟩ ⟨.inl sn,trivial⟩) ?_);(conv=>whnf)))
 ·rw[if_pos (by omega)]at h6;subst h6;exact dA rfl ⟨.inr rfl,.inl rfl,trivial⟩
 rw[if_neg (by omega)]at h6;refine w1 ?_
 repeat'(first|with_reducible (first|refine w1r ?_|refine w2 ?_|refine w4 ?_|refine w9 ?_|refine nN.mk ?_)|((with_reducible (first|refine wr ?_|refine wi ?_));(conv=>whnf))|((with_reducible refine nQ (λh=>?_) (λh=>?_))<;>(try rw[h])<;>(conv at h=>{simp}))|((refine dZ.mk (.eL []) [(0,iG (Go.Sort.heapSort eF f a (a+l)))] (aJ.hP (SZ f a (a+l) (by omega) (by omega) (by omega)) ⟨sn,trivial⟩ ⟨rfl,trivial⟩ ⟨aZ,trivial⟩ ⟨.inl sn,trivial⟩) ?_);(conv=>whnf)))
 ·rw[if_pos (by omega)]at h6;subst h6;exact dA rfl ⟨.inr rfl,.inl rfl,trivial⟩
 rw[if_neg (by omega)]at h6;dsimp only at h6;rw[hl];refine BH (λp:Array Int×Nat=>p.1.size=d.size/\p.2<=2^40/\p.1=(if(!wb)=true then Go.Sort.breakPatterns f a (a+l)else f)/\p.2=(if(!wb)=true then limit -1 else limit)) (λp=>[(0,.h 0),(1,.d (ci a)),(2,.d (ci (a+l:Nat))),(3,.d (ci p.2)),(8,.d (cb wb)),(9,.d (cb wp)),(10,.d (ci l))]) (λp=>[(0,iG p.1)]) 2000 ?_ ?_
 ·skip
  repeat'(first|refine bl ?_|refine bS (λh=>?_) (λh=>?_)|refine dZ.mk (.eL []) [(0,iG (Go.Sort.breakPatterns f a (a+l)))] (aJ.hP (aJP f a l (by omega) (by omega)) ⟨sn,trivial⟩ ⟨rfl,trivial⟩ ⟨aZ,trivial⟩ ⟨.inl sn,trivial⟩) (bw ?_))
  ·have hw:wb=false:=by assumption
   subst hw;refine⟨(Go.Sort.breakPatterns f a (a+l),limit -1),⟨by dsimp only;rw[NA];exact h4,by dsimp only;omega,rfl,rfl⟩,by exact mv 5000 5001⟩
  ·have hw:wb=true:=by assumption
   subst hw;exact⟨(f,limit),⟨h4,h5,rfl,rfl⟩,by exact mv 5000 5001⟩
 rintro⟨f1,lim1⟩ ⟨i1,i2,i3,i4⟩;dsimp only at i1 i2 i3 i4⊢;rw[<-i3,<-i4]at h6;have hcr:=Go.Sort.choosePivot_holds eF f1 a (a+l) (by omega);have hcc:=I8 f1 a (a+l) (by omega) (by omega) (by omega);clear i3 i4 h4 h5;generalize Go.Sort.choosePivot eF f1 a (a+l)=c at hcr hcc h6;obtain⟨p,hint⟩:=c;dsimp only at hcr hcc h6
 repeat'(first|with_reducible (first|refine w1r ?_|refine w9 ?_|refine nN.mk ?_)|((with_reducible refine wr ?_);(conv=>whnf))|((refine dZ.mk (.eL [.d (ci p),.d (ci (aDH hint))]) [] (aJ.hP (hcc) ⟨sn,trivial⟩ ⟨rfl,trivial⟩ ⟨aZ,trivial⟩ trivial) ?_);(conv=>whnf)))
 refine BH (λq:Array Int×Nat×Go.Sort.Hint=>q.1.size=d.size/\a<=q.2.1/\q.2.1<a+l/\q.1=(if hint=.decreasing then Go.Sort.reverseRange f1 a (a+l)else f1)/\q.2.1=(if hint=.decreasing then(a+l -1)-(p -a)else p)/\q.2.2=(if hint=.decreasing then .increasing else hint)) (λq=>[(0,.h 0),(1,.d (ci a)),(2,.d (ci (a+l:Nat))),(3,.d (ci lim1)),(8,.d (cb wb)),(9,.d (cb wp)),(10,.d (ci l)),(11,.d (ci q.2.1)),(12,.d (ci (aDH q.2.2)))]) (λq=>[(0,iG q.1)]) 3000 ?_ ?_
 ·cases hint
  all_goals
   repeat'(first|refine bl ?_|refine dZ.mk (.eL []) [(0,iG (Go.Sort.reverseRange f1 a (a+l)))] (aJ.hP (T8 f1 a (a+l) (by omega) (by omega) (by omega) (by omega)) ⟨sn,trivial⟩ ⟨rfl,trivial⟩ ⟨aZ,trivial⟩ ⟨.inl sn,trivial⟩) (bw ?_))
  ·exact⟨(f1,p,.unknown),⟨i1,hcr.1,hcr.2,rfl,rfl,rfl⟩,by exact mv 5000 5001⟩
  ·exact⟨(f1,p,.increasing),⟨i1,hcr.1,hcr.2,rfl,rfl,rfl⟩,by exact mv 5000 5001⟩
  ·refine⟨(Go.Sort.reverseRange f1 a (a+l),(a+l -1)-(p -a),.increasing),⟨by dsimp only;unfold Go.Sort.reverseRange;rw[K8 _ _ _ _ (bT _)];exact i1,by dsimp only;omega,by dsimp only;omega,rfl,rfl,rfl⟩,by exact mv 5000 5001⟩
 rintro⟨f2,pv,hint2⟩ ⟨j1,j2,j3,j4,j5,j6⟩;dsimp only at j1 j2 j3 j4 j5 j6⊢;rw[<-j4,<-j5,<-j6]at h6;clear j4 j5 j6 hcc i1;refine BH (λq:Array Int=>q.size=d.size/\(if(wb&&wp&&decide (hint2=.increasing))=true then Go.Sort.partialInsertionSort eF f2 a (a+l)else(f2,false))=(q,false)) (λq=>[(0,.h 0),(1,.d (ci a)),(2,.d (ci (a+l:Nat))),(3,.d (ci lim1)),(8,.d (cb wb)),(9,.d (cb wp)),(10,.d (ci l)),(11,.d (ci pv))]) (λq=>[(0,iG q)]) 5000 ?_ ?_
 ·skip
  refine BH (λq:Unit=>True) (λq=>[(0,.h 0),(1,.d (ci a)),(2,.d (ci (a+l:Nat))),(3,.d (ci lim1)),(8,.d (cb wb)),(9,.d (cb wp)),(10,.d (ci l)),(11,.d (ci pv)),(68,.d (cb (wb&&wp&&decide (hint2=.increasing))))]) (λq=>[(0,iG f2)]) 4000 ?_ ?_
  ·cases wb<;>cases wp<;>cases hint2
   all_goals
    refine bl ?_;exact⟨(),trivial,by exact mv 5000 5001⟩
  rintro _ _;refine wi ?_;conv=>whnf
  cases hcnd:(wb&&wp&&decide (hint2=.increasing))with
  |true=>
   rw[if_pos hcnd]at h6;rw[if_pos rfl];refine O8.t rfl ?_;have hpz:(Go.Sort.partialInsertionSort eF f2 a (a+l)).1.size=d.size:=by unfold Go.Sort.partialInsertionSort;rw[GH];exact j1
   have hpi:=aH1 f2 a (a+l) (by omega) (by omega) (by omega);generalize Go.Sort.partialInsertionSort eF f2 a (a+l)=pi at h6 hpz hpi⊢;obtain⟨g,r⟩:=pi;dsimp only at h6 hpz hpi
   repeat'(first|refine bl ?_|refine bS (λh=>?_) (λh=>?_)|refine dZ.mk (.d (cb r)) [(0,iG g)] (aJ.hP (hpi) ⟨sn,trivial⟩ ⟨rfl,trivial⟩ ⟨aZ,trivial⟩ ⟨.inl sn,trivial⟩) (bw ?_))
   ·subst_vars
    rw[if_pos rfl];exact dA rfl ⟨.inr rfl,.inl rfl,trivial⟩
   ·subst_vars
    exact⟨g,⟨hpz,rfl⟩,by exact mv 5000 5001⟩
  |false=>
   refine O8.f rfl ?_;refine bl ?_;exact⟨f2,⟨j1,by rw[if_neg (by simp)]⟩,by exact mv 5000 5001⟩
 rintro f3 ⟨k1,k2⟩;rw[k2]at h6;clear k2 j1;dsimp only at h6;rw[if_neg (by simp)]at h6;have hqe:=aA3 f3 a (a+l) pv j2 j3 (by omega);have hpe:=aA4 f3 a (a+l) pv j2 j3 (by omega) (by omega);have hqa:=aEK f3 a (a+l) pv j2 j3 (by omega);have hpa:=QP f3 a (a+l) pv j2 j3 (by omega) (by omega);generalize Go.Sort.partitionEqual eF f3 a (a+l) pv=qe at h6 hqe hpe;generalize Go.Sort.partition eF f3 a (a+l) pv=qa at h6 hqa hpa
 repeat'(first|refine bl ?_|refine bS (λh=>?_) (λh=>?_)|refine ow2 (a -1) (bw ?_)|refine ow pv (bw ?_)|(refine fZ.mk _ (fY f3 _ (by omega)) ?_;(conv=>whnf))|refine cH (nE _ _) (bw ?_)|refine dZ.mk (.d (ci qe.1)) [(0,iG qe.2)] (aJ.hP (hpe) ⟨sn,trivial⟩ ⟨rfl,trivial⟩ ⟨aZ,trivial⟩ ⟨.inl sn,trivial⟩) (bw ?_)|refine dZ.mk (.eL [.d (ci qa.1),.d (cb qa.2.1)]) [(0,iG qa.2.2)] (aJ.hP (hpa) ⟨sn,trivial⟩ ⟨rfl,trivial⟩ ⟨aZ,trivial⟩ ⟨.inl sn,trivial⟩) (bw ?_))
 ·rw[if_pos (by simp;omega),if_pos ⟨hqe.1,hqe.2.1⟩]at h6;exact⟨((qe.1,a+l,lim1),qe.2,wb,wp),by dsimp only;omega,⟨by dsimp only;omega,by dsimp only;omega,h3,by dsimp only;omega,i2,h6⟩,by exact mv 5000 5001⟩
 all_goals
  rw[if_neg (by simp;omega),if_pos ⟨hqa.1,hqa.2.1⟩]at h6;have hsz1:=K2 _ qa.2.2 a qa.1 lim1 true true (bT _);have hsz2:=K2 _ qa.2.2 (qa.1+1) (a+l) lim1 true true (bT _);rw[aNK];refine⟨decide_eq_true ⟨rfl,by decide,RG (by omega) (by omega)⟩,?_⟩;conv=>whnf
  repeat'(first|refine bl ?_|refine bS (λh=>?_) (λh=>?_)|refine dZ.mk (.eL []) [(0,iG (Go.Sort.pdq eF qa.2.2 a qa.1 lim1 true true))] (aJ.hP (ih'' qa.2.2 a qa.1 lim1 _ rfl (by omega) (by omega) (by omega) (by omega) i2) ⟨sn,trivial⟩ ⟨rfl,trivial⟩ ⟨aZ,trivial⟩ ⟨.inl sn,trivial⟩) (bw ?_)|refine dZ.mk (.eL []) [(0,iG (Go.Sort.pdq eF qa.2.2 (qa.1+1) (a+l) lim1 true true))] (aJ.hP (ih'' qa.2.2 (qa.1+1) (a+l) lim1 _ (by omega) (by omega) (by omega) (by omega) (by omega) i2) ⟨sn,trivial⟩ ⟨rfl,trivial⟩ ⟨aZ,trivial⟩ ⟨.inl sn,trivial⟩) (bw ?_))
  ·rw[if_pos (by omega)]at h6;refine⟨((qa.1+1,a+l,lim1),Go.Sort.pdq eF qa.2.2 a qa.1 lim1 true true,decide (qa.1 -a≥l/8),qa.2.1),by dsimp only;omega,⟨by dsimp only;omega,by dsimp only;omega,h3,by dsimp only;omega,i2,h6⟩,?_⟩;refine mq 5000 5001 ?_
   all_goals(refine cbE ?_;omega)
  ·rw[if_neg (by omega)]at h6;refine⟨((a,qa.1,lim1),Go.Sort.pdq eF qa.2.2 (qa.1+1) (a+l) lim1 true true,decide (a+l -qa.1≥l/8),qa.2.1),by dsimp only;omega,⟨by dsimp only;omega,by dsimp only;omega,by dsimp only;omega,by dsimp only;omega,i2,h6⟩,?_⟩;refine mq 5000 5001 ?_
   all_goals(refine cbE ?_;omega)
theorem aH7(d:Array Int)(a b limit:Nat)(x y:Int)(e1:x=a)(e2:y=b)(hab:a<=b)(hb:b<=d.size)(hd:d.size<=2^39)(hl:limit<=2^40):aJ Tryz.prog 160 [.h 0,.d (ci x),.d (ci y),.d (ci limit)] (aK [(0,iG d)]) (.ok (.eL [])) (aH (aK [(0,iG d)]) [(0,iG (Go.Sort.pdq eF d a b limit true true))]):=by
 subst e1;subst e2;exact aKU _ d a b limit (bT _) hab hb hd hl
theorem Q5(d:Array Int)(hd:d.size<=2^39):aJ Tryz.prog 106 [.h 0] (aK [(0,iG d)]) (.ok (.eL [])) (aH (aK [(0,iG d)]) [(0,iG (Go.Sort.sort eF d))]):=by
 have hbl:=(Go.Sort.bitsLen_le_iff d.size 40).2 (by omega);refine wE mix 100 Tryz.func106 trivial ⟨aZ,trivial⟩ ?_;refine bl ?_;refine FC.mk (NX (by simp only[aB,bE,c7];omega) (by simp only[aB,bE,c7];omega)) ?_;conv=>whnf
 rw[show((bE (iR d.toList)).length:Int)=d.size by simp only[aB,bE,c7]]
 repeat'(first|refine bl ?_|refine aF (QA d.size (by omega)) (bw ?_)|refine dZ.mk (.eL []) [(0,iG (Go.Sort.sort eF d))] (aJ.hP (aH7 d 0 d.size (Go.Sort.bitsLen d.size) _ _ rfl (by first|rfl|simp only[aB,bE,c7]) (by omega) (by omega) (by omega) (by omega)) ⟨sn,trivial⟩ ⟨rfl,trivial⟩ ⟨aZ,trivial⟩ ⟨.inl sn,trivial⟩) (bw ?_))
 exact dA rfl ⟨.inr rfl,.inl rfl,trivial⟩
theorem TA:∀m,aJ Tryz.prog 189 [.d (.nl 1),.d (ci 0),.d (ci 0)] m (.ok (.eL [])) m:=by
 refine iC mix Tryz.func189 ?_;refine bl ?_;refine bV mix (λ_:Unit=>True) (I:=λ_=>[(0,.d (.nl 1)),(2,.d (ci 0)),(6,.d (ci 1))]) (J:=λ_=>[]) (μ:=λ_=>0) 300 () trivial (by exact mv 5000 5001) ?_;rintro _ _;refine bl ?_;exact .eL (cs:=[]) .nil
theorem aH6:∀m,aJ Tryz.prog 160 [.d (.nl 1),.d (ci 0),.d (ci 0),.d (ci 0)] m (.ok (.eL [])) m:=by
 refine iC mix Tryz.func160 ?_;refine bl ?_;refine bV mix (λ_:Unit=>True) (I:=λ_=>[(0,.d (.nl 1)),(1,.d (ci 0)),(2,.d (ci 0))]) (J:=λ_=>[]) (μ:=λ_=>0) 300 () trivial (by exact mv 5000 5001) ?_;rintro _ _
 repeat'(first|refine bl ?_|refine aF (TA) (bw ?_))
 exact .eL (cs:=[]) .nil
theorem aFN:∀m,aJ Tryz.prog 106 [.d (.nl 1)] m (.ok (.eL [])) m:=by
 refine iC mix Tryz.func106 ?_;refine bl ?_;refine FC.mk (NX (by decide) (by decide)) ?_;conv=>whnf
 repeat'(first|refine bl ?_|refine aF (QA 0 (by omega)) (bw ?_)|refine aF (aH6) (bw ?_))
 exact .eL (cs:=[]) .nil
theorem RW:∀m,aJ Tryz.prog 107 [.d (.nl 1)] m (.ok (.d (.nl 1))) m:=by
 refine iC mix Tryz.func107 ?_;refine bl ?_;exact .one (.d (.nl 1))
theorem S9:∀m,aJ Tryz.prog 189 [.d (.sl 1 []),.d (ci 0),.d (ci 0)] m (.ok (.eL [])) m:=by
 refine iC mix Tryz.func189 ?_;refine bl ?_;refine bV mix (λ_:Unit=>True) (I:=λ_=>[(0,.d (.sl 1 [])),(2,.d (ci 0)),(6,.d (ci 1))]) (J:=λ_=>[]) (μ:=λ_=>0) 300 () trivial (by exact mv 5000 5001) ?_;rintro _ _;refine bl ?_;exact .eL (cs:=[]) .nil
theorem aH5:∀m,aJ Tryz.prog 160 [.d (.sl 1 []),.d (ci 0),.d (ci 0),.d (ci 0)] m (.ok (.eL [])) m:=by
 refine iC mix Tryz.func160 ?_;refine bl ?_;refine bV mix (λ_:Unit=>True) (I:=λ_=>[(0,.d (.sl 1 [])),(1,.d (ci 0)),(2,.d (ci 0))]) (J:=λ_=>[]) (μ:=λ_=>0) 300 () trivial (by exact mv 5000 5001) ?_;rintro _ _
 repeat'(first|refine bl ?_|refine aF (S9) (bw ?_))
 exact .eL (cs:=[]) .nil
theorem aFM:∀m,aJ Tryz.prog 106 [.d (.sl 1 [])] m (.ok (.eL [])) m:=by
 refine iC mix Tryz.func106 ?_;refine bl ?_;refine FC.mk (NX (by decide) (by decide)) ?_;conv=>whnf
 repeat'(first|refine bl ?_|refine aF (QA 0 (by omega)) (bw ?_)|refine aF (aH5) (bw ?_))
 exact .eL (cs:=[]) .nil
theorem RV:∀m,aJ Tryz.prog 107 [.d (.sl 1 [])] m (.ok (.d (.sl 1 []))) m:=by
 refine iC mix Tryz.func107 ?_;refine bl ?_;exact .one (.d (.sl 1 []))
theorem PG:∀m,aJ Tryz.prog 61 [.d (.nl 1)] m (.ok (.d (.nl 1))) m:=by
 refine iC mix Tryz.func61 ?_;refine bl ?_;exact .one (.d _)
theorem xW(L:List Int)(hL:L.length<=2^38)(h0:L≠[]):∀(m:Mem)(d:Nat),m d=none->aJ Tryz.prog 61 [.d (.sl 1 (iR L))] m (.ok (.h d)) (aX m d (dU 25 1 (iR L))):=by
 refine iW mix (F:=A.h) (r:=dU 25 1 (iR L)) Tryz.func61 rfl (by kernel_rfl) (bD rfl) rfl (oJ _ _ _) (λ_ _=>rfl) (λi j hj=>by simpa [A.hs]using hj) (λg=>eT g _ _ _) ?_;refine bl ?_;refine BN.mk (λh=>absurd (by simpa using h) h0) ?_;conv=>whnf
 refine bl ?_;refine n8 (by simp only[aB,aS];omega) (by kernel_rfl) ?_;conv=>whnf
 refine bl ?_;exact⟨_,rfl,rfl⟩
def oZ(L:List Int):List Int:=(DH (Go.Sort.sort eF L.toArray)).toList
theorem xM(d:Array Int):(Go.Sort.sort eF d).size=d.size:=K2 _ d 0 d.size _ true true (bT _)
theorem AT:oZ []=[]:=by
 unfold oZ DH;have h:=xM (#[]:Array Int);have h2:=PJ (Go.Sort.sort eF #[]);have:Go.Lib.compactUpTo (Go.Sort.sort eF #[]) (Go.Sort.sort eF #[]).size=[]:=bL (by have:(#[]:Array Int).size=0:=rfl;omega);rw[this]
theorem xH(L:List Int):(oZ L).length<=L.length:=by
 unfold oZ DH;have h:=xM L.toArray;have h2:=PJ (Go.Sort.sort eF L.toArray);simp at h⊢;omega
theorem aIB(L:List Int)(h:L≠[]):oZ L≠[]:=by
 unfold oZ DH;have h1:=xM L.toArray;have h2:=XQ (Go.Sort.sort eF L.toArray) (by rw[h1];simp;exact gH.2 h);intro e;simp at e;rw[e]at h2;simp at h2
theorem CY:∀m,aJ Tryz.prog 49 [.d (.nl 1)] m (.ok (.d (.nl 1))) m:=by
 refine iC mix Tryz.func49 ?_
 repeat'(first|refine bl ?_|refine aF PG (bw ?_)|refine aF aFN (bw ?_)|refine aF RW (bw ?_))
 exact .one (.d (.nl 1))
theorem WO:∀m,aJ Tryz.prog 49 [.d (.sl 1 [])] m (.ok (.d (.sl 1 []))) m:=by
 refine iC mix Tryz.func49 ?_
 repeat'(first|refine bl ?_|refine aF (G7 [] (by simp) (by simp)) (bw ?_)|refine aF aFM (bw ?_)|refine aF RV (bw ?_))
 exact .one (.d (.sl 1 []))
def gC(i:Nat):Nat:=swp 0 500 (swp 1 501 i)
def gD(i:Nat):Nat:=swp 1 501 (swp 0 500 i)
theorem gCD(i:Nat):gD (gC i)=i:=by unfold gC gD;rw[fH,fH]
theorem gDC(i:Nat):gC (gD i)=i:=by unfold gC gD;rw[fH,fH]
theorem G8(d:Array Int)(h1:0<d.size)(hd:d.size<=2^40):aJ Tryz.prog 107 [.h 500] (aK [(500,iG d)]) (.ok (.h 501)) (aH (aK [(500,iG d)]) [(500,.dead),(501,iG (DH d))]):=by
 have k:=(VD d h1 hd).eZ gCD gDC;rw[rJ gCD gDC,tZ gCD gDC]at k;have e:lH gC [(0,iG d)]=[(500,iG d)]:=by
  simp only[lH,aG,bM,eT];rfl
 have e2:lH gC [(0,.dead),(1,iG (DH d))]=[(500,.dead),(501,iG (DH d))]:=by
  simp only[lH,aG,bM,eT];rfl
 rw[e,e2]at k;exact k
theorem WQ(L:List Int)(hL:L.length<=2^38)(h0:L≠[]):∀(m:Mem)(d:Nat),m d=none->aJ Tryz.prog 49 [.d (.sl 1 (iR L))] m (.ok (.h d)) (aX m d (dU 25 1 (iR (oZ L)))):=by
 refine iW mix (F:=A.h) (r:=dU 25 1 (iR (oZ L))) Tryz.func49 rfl (by kernel_rfl) (bD rfl) rfl (oJ _ _ _) (λ_ _=>rfl) (λi j hj=>by simpa [A.hs]using hj) (λg=>eT g _ _ _) ?_;have hsz:=xM L.toArray;have hpos:0<L.length:=gH.2 h0;have hLs:L.toArray.size=L.length:=by simp
 repeat'(first|refine bl ?_|refine fQ (xW L hL h0) 500 rfl (bw ?_)|refine lN 500 (iG (Go.Sort.sort eF L.toArray)) ((Q5 L.toArray (by omega)).AK (oJ _ _ _) (λg=>eT g _ _ _) (λg=>eT g _ _ _) rfl (by simp[A.lQ,A.hs]) (aK _) 500 rfl) (bw ?_)|refine dZ.mk (.h 501) [(500,.dead),(501,iG (DH (Go.Sort.sort eF L.toArray)))] (aJ.hP (G8 _ (by omega) (by omega)) ⟨sn,trivial⟩ ⟨rfl,trivial⟩ ⟨aZ,trivial⟩ ⟨.inl sn,.inr rfl,trivial⟩) (bw ?_))
 exact⟨501,rfl,rfl⟩
theorem GP(L:List Int)(hL:L.length<=2^38):∀m,aJ Tryz.prog 49 [.d (.sl 1 (iR L))] m (.ok (.d (.sl 1 (iR (oZ L))))) m:=by
 by_cases h0:L=[]
 ·subst h0;rw[AT];exact WO
 refine iC mix Tryz.func49 ?_;have hsz:=xM L.toArray;have hpos:0<L.length:=gH.2 h0;have hLs:L.toArray.size=L.length:=by simp
 repeat'(first|refine bl ?_|refine fQ (xW L hL h0) 500 rfl (bw ?_)|refine lN 500 (iG (Go.Sort.sort eF L.toArray)) ((Q5 L.toArray (by omega)).AK (oJ _ _ _) (λg=>eT g _ _ _) (λg=>eT g _ _ _) rfl (by simp[A.lQ,A.hs]) (aK _) 500 rfl) (bw ?_)|refine dZ.mk (.h 501) [(500,.dead),(501,iG (DH (Go.Sort.sort eF L.toArray)))] (aJ.hP (G8 _ (by omega) (by omega)) ⟨sn,trivial⟩ ⟨rfl,trivial⟩ ⟨aZ,trivial⟩ ⟨.inl sn,.inr rfl,trivial⟩) (bw ?_))
 exact .one (.dU (t:=25) rfl)
end Go.Pv
