import Derived.Test.YtpdcbahjjmooiaaGreatQ15
/- Contracts of functions that the law reaches, and their logic. No conditions. -/
set_option linter.all false
set_option maxRecDepth 100000
set_option maxHeartbeats 8000000
open Go Go.Proofs
namespace Go.Pv
open Go.RowKit
variable{mI:Int->Bool}{n k j i a q:Nat}{T:List Int}{low:List Nat}{r:R}{ml:List (Nat×R)}{m:Mem}
abbrev Nd:=Bool×Int×Int
def ndC(a:Nd):List C:=[cb a.1,ci a.2.1,ci a.2.2]
def aKU(n:Nat)(a:Nd):Bool:=if a.1=true then decide (a.2.1≠0)else decide (a.2.2≠0\/a.2.1<0\/(n:Int)<=a.2.1)
def aN2(n:Nat)(T:List Int)(k:Nat):Nd:=(decide (n<=k),if k<n then(k:Int)else 0,if k<n then 0 else T.getD (k -n) 0)
def aOA(n:Nat)(T:List Int)(F:List Nat)(a k:Nat):List Nd:=((List.range k).filter λj=>F.getD j 0==a).map (aN2 n T)
def aNT(n:Nat)(T:List Int)(F:List Nat)(N a:Nat):List (List Nd):=((List.range a).map λj=>aOA n T F j N).filter λp=> !p.isEmpty
def a6C(n:Nat)(T:List Int)(F:List Nat)(a k:Nat):aEX n T F a k=(aOA n T F a k).map ndC:=by
 unfold aEX aOA;rw[bH];rfl
def a5Y(n:Nat)(T:List Int)(F:List Nat)(N a:Nat):gR (aHY n T F N a)=(aNT n T F N a).map λp=>[.sl 3 (p.map ndC)]:=by
 have:aHY n T F N a=(aNT n T F N a).map λp=>p.map ndC:=by
  unfold aHY aNT;simp only[a6C];rw[List.filter_map,List.filter_map,bH];congr 1;congr 1;funext j;simp
 rw[this];unfold gR;rw[bH];rfl
def R4.aLV(w:R4)(l:List U4):List (List Nd):=aNT l.length w.lA (aQG l.length w.lA (w.jR l) (l.length+w.lA.length) ((l.length+w.lA.length)*(l.length+w.lA.length)+1) (List.range (l.length+w.lA.length))) (l.length+w.lA.length) (l.length+w.lA.length)
def R4.a4U(w:R4)(l:List U4):gR (w.a3D l)=(w.aLV l).map λp=>[.sl 3 (p.map ndC)]:=a5Y _ _ _ _ _
def R4.aSP(w:R4)(hw:w.gA)(l:List U4)(hl:l.length<=2^20):(w.aLV l).length<=2^40/\∀p∈w.aLV l,p.length<=2^40:=by
 have h1:w.lA.length<=2^30:=by have:=hw.len;simpa [R4.lA]using this
 unfold R4.aLV aNT;constructor
 ·refine cL (YC _ _) ?_;rw[aB,aEJ];omega
 ·intro p hp;obtain⟨j,_,rfl⟩:=aA4.1 (a39.1 hp).1;unfold aOA;rw[aB];refine cL (YC _ _) ?_;rw[aEJ];omega
def a57(x y:Nd):decide ([KC.bool x.1,KC.int IntKind.i64 x.2.1,KC.int IntKind.i64 x.2.2]=[KC.bool y.1,KC.int IntKind.i64 y.2.1,KC.int IntKind.i64 y.2.2])=decide (x=y):=by
 refine decide_eq_decide.2 ⟨λh=>?_,λh=>by rw[h]⟩;injection h with h1 h
 injection h with h2 h
 injection h with h3 h
 injection h1 with h1
 injection h2 with _ h2
 injection h3 with _ h3
 exact Prod.ext h1 (Prod.ext h2 h3)
def aJK(a b:Nd):List (List Nd)->Bool
 |[]=>false
 |p::r=>if p.any (λq=>decide (q=a))=true then p.any λq=>decide (q=b)else aJK a b r
def aIC(mI:Int->Bool)(n:Nat)(a b:Nd):Int:=if aKU n a=true\/aKU n b=true then 2 else if(a.1=true/\mI a.2.2=false)\/(b.1=true/\mI b.2.2=false)then 5 else 0
def aSL(mI:Int->Bool)(n:Nat)(D:List (List Nd))(a b:Nd):Bool:=if aIC mI n a b=0 then aJK a b D else false
def a6Q{a b:Nd}(h:aKU n a=true\/aKU n b=true):aIC mI n a b=2:=aUF h
def a6R{a b:Nd}(h1:aKU n a=false/\aKU n b=false)(h:(a.1=true/\mI a.2.2=false)\/(b.1=true/\mI b.2.2=false)):aIC mI n a b=5:=by
 unfold aIC;rw[aT7 (by rw[h1.1,h1.2];simp),aUF h]
def aQF{D:List (List Nd)}{a b:Nd}{e:Int}(h:aIC mI n a b=e)(h0:e≠0):aSL mI n D a b=false:=by
 unfold aSL;rw[aT7 (by rw[h];exact h0)]
def a3J{α:Type}(f:α->Bool)(p:List α)(j:Nat)(h:j<p.length):(p.take (j+1)).any f=((p.take j).any f||f p[j]):=by
 rw[aT h,List.any_append];simp
def a32{a b:Nd}{D:List (List Nd)}(i:Nat)(h:i<D.length):aJK a b (D.drop i)=if D[i].any (λq=>decide (q=a))=true then D[i].any λq=>decide (q=b)else aJK a b (D.drop (i+1)):=by
 rw[dE h];rfl
def a3E(w:R4)(hw:w.gA)(l:List U4)(hl:l.length<=2^20)(hu:∀u∈l,V.dB (u.names.map (·.value))<=2^30/\u.names.length<=2^34)(a b:Nd):Pu 18 [.d (.ip w.aT1),.d (.agg (ndC a)),.d (.agg (ndC b)),.d (.sl 4 (l.map U4.aT1))] (.eL [.d (cb (aSL w.mI l.length (w.aLV l) a b)),.d (ci (aIC w.mI l.length a b))]):=by
 have hpa:=aTH w hw l hl hu;rw[w.a4U]at hpa;obtain⟨hDl,hDp⟩:=w.aSP hw l hl;generalize w.aLV l=D at hpa hDl hDp⊢;have hat:=λr=>zP w r hw.len;have aZY:∀x y:Nd,(Ky.fits Tryz.prog 55 (Ky.agg [KC.bool x.1,KC.int IntKind.i64 x.2.1,KC.int IntKind.i64 x.2.2])&&(Ky.agg [KC.bool x.1,KC.int IntKind.i64 x.2.1,KC.int IntKind.i64 x.2.2]).same (Ky.agg [KC.bool y.1,KC.int IntKind.i64 y.2.1,KC.int IntKind.i64 y.2.2])&& !Tryz.prog.eqGuardType Tryz.prog.depth 55)=true:=λx y=>kK;refine iC mix Tryz.func18 ?_;have hlI:((((l.map U4.aT1).map λx=>x.map A.d).length:Nat):Int)=l.length:=by simp only[aB]
 refine bl ?_;refine cY mix (λi:Nat=>i<=2/\(0<i->aKU l.length a=false)/\(1<i->aKU l.length b=false)) (I:=λi=>[(0,.d (.ip w.aT1)),(3,.d (.sl 4 (l.map U4.aT1))),(5,.lp 1 0),(6,.lp 9 0),(10,.lp 57 0),(11,.d (ci i))])
  (J:=λi=>[(1,.cells false ((ndC a).map A.d)),(9,.cells false ((ndC b).map A.d)),(57,.cells false ((ndC a++ndC b).map A.d))]) (μ:=λi=>2 -i) 2000 0 0
  (λ_:Unit=>aKU l.length a=false/\aKU l.length b=false) (λ_=>[(0,.d (.ip w.aT1)),(3,.d (.sl 4 (l.map U4.aT1))),(5,.lp 1 0),(6,.lp 9 0),(10,.lp 57 0)])
  (λ_=>[(1,.cells false ((ndC a).map A.d)),(9,.cells false ((ndC b).map A.d)),(57,.cells false ((ndC a++ndC b).map A.d))]) 4000 ⟨oM,oM,oM⟩ mZ ?_ ?_
 ·rintro i ⟨hi,h1,h2⟩;have hE2:=a6Q (mI:=w.mI) (n:=l.length) (a:=a) (b:=b);rcases(show i=0\/i=1\/i=2 by omega)with rfl|rfl|rfl
  ·obtain⟨a1,a2,a3⟩:=a;cases a1 with
   |false=>
    have hbd:aKU l.length (false,a2,a3)=decide (a3≠0\/a2<0\/(l.length:Int)<=a2):=rfl
    repeat'(first|refine bl ?_|refine bS (λh=>?_) (λh=>?_))
    all_goals first
     |(have aX4:=hE2 (.inl (by rw[hbd];exact aUZ (by(try dsimp only at*);omega)))
       rw[aQF aX4 eD,aX4]
       exact .eL (cs:=[cb _,ci _]) (.cons (.d _) (.cons (.d _) .nil)))
     |(refine⟨1,by omega,⟨by omega,λ_=>?_,λhh=>absurd hh oM⟩,?_⟩
       · rw[hbd];exact aU0 (by(try dsimp only at*);omega)
       · (exact mZ))
   |true=>
    have hbd:aKU l.length (true,a2,a3)=decide (a2≠0):=rfl
    repeat'(first|refine bl ?_|refine bS (λh=>?_) (λh=>?_))
    all_goals first
     |(have aX4:=hE2 (.inl (by rw[hbd];exact aUZ (by(try dsimp only at*);omega)))
       rw[aQF aX4 eD,aX4]
       exact .eL (cs:=[cb _,ci _]) (.cons (.d _) (.cons (.d _) .nil)))
     |(refine⟨1,by omega,⟨by omega,λ_=>?_,λhh=>absurd hh oM⟩,?_⟩
       · rw[hbd];exact aU0 (by(try dsimp only at*);omega)
       · (exact mZ))
  ·obtain⟨b1,b2,b3⟩:=b;cases b1 with
   |false=>
    have hbd:aKU l.length (false,b2,b3)=decide (b3≠0\/b2<0\/(l.length:Int)<=b2):=rfl
    repeat'(first|refine bl ?_|refine bS (λh=>?_) (λh=>?_))
    all_goals first
     |(have aX4:=hE2 (.inr (by rw[hbd];exact aUZ (by(try dsimp only at*);omega)))
       rw[aQF aX4 eD,aX4]
       exact .eL (cs:=[cb _,ci _]) (.cons (.d _) (.cons (.d _) .nil)))
     |(refine⟨2,by omega,⟨by omega,λ_=>h1 oM,λ_=>?_⟩,?_⟩
       · rw[hbd];exact aU0 (by(try dsimp only at*);omega)
       · (exact mZ))
   |true=>
    have hbd:aKU l.length (true,b2,b3)=decide (b2≠0):=rfl
    repeat'(first|refine bl ?_|refine bS (λh=>?_) (λh=>?_))
    all_goals first
     |(have aX4:=hE2 (.inr (by rw[hbd];exact aUZ (by(try dsimp only at*);omega)))
       rw[aQF aX4 eD,aX4]
       exact .eL (cs:=[cb _,ci _]) (.cons (.d _) (.cons (.d _) .nil)))
     |(refine⟨2,by omega,⟨by omega,λ_=>h1 oM,λ_=>?_⟩,?_⟩
       · rw[hbd];exact aU0 (by(try dsimp only at*);omega)
       · (exact mZ))
  ·skip
   refine bl ?_;exact⟨(),⟨h1 oM,h2 oM⟩,mZ⟩
 rintro _ ⟨hba,BO⟩;have hE5:=a6R (mI:=w.mI) (n:=l.length) (a:=a) (b:=b) ⟨hba,BO⟩;refine bl ?_;refine cY mix (λi:Nat=>i<=2/\(0<i->¬(a.1=true/\w.mI a.2.2=false))/\(1<i->¬(b.1=true/\w.mI b.2.2=false))) (I:=λi=>[(0,.d (.ip w.aT1)),(3,.d (.sl 4 (l.map U4.aT1))),(5,.lp 1 0),(6,.lp 9 0),(10,.lp 57 0),(13,.d (ci i))])
  (J:=λi=>[(1,.cells false ((ndC a).map A.d)),(9,.cells false ((ndC b).map A.d)),(57,.cells false ((ndC a++ndC b).map A.d))]) (μ:=λi=>2 -i) 5000 0 2
  (λ_:Unit=>aIC w.mI l.length a b=0) (λ_=>[(0,.d (.ip w.aT1)),(3,.d (.sl 4 (l.map U4.aT1))),(5,.lp 1 0),(6,.lp 9 0)])
  (λ_=>[(1,.cells false ((ndC a).map A.d)),(9,.cells false ((ndC b).map A.d))]) 6000 ⟨oM,oM,oM⟩ mZ ?_ ?_
 ·rintro i ⟨hi,h1,h2⟩;rcases(show i=0\/i=1\/i=2 by omega)with rfl|rfl|rfl
  ·obtain⟨a1,a2,a3⟩:=a;have hax:=hat a3;cases a1 with
   |false=>
    repeat'(first|refine bl ?_|refine aF hax (bw ?_))
    refine⟨1,oM,⟨oM,λ_=>?_,λhh=>absurd hh oM⟩,?_⟩
    ·exact λhh=>by cases hh.1
    ·exact mZ
   |true=>
    cases hib:w.mI a3 with
    |false=>
     rw[hib]at hax
     repeat'(first|refine bl ?_|refine aF hax (bw ?_))
     have aX4:=hE5 (.inl ⟨rfl,hib⟩);rw[aQF aX4 eD,aX4];exact .eL (cs:=[cb _,ci _]) (.cons (.d _) (.cons (.d _) .nil))
    |true=>
     rw[hib]at hax
     repeat'(first|refine bl ?_|refine aF hax (bw ?_))
     refine⟨1,oM,⟨oM,λ_=>?_,λhh=>absurd hh oM⟩,?_⟩
     ·exact λhh=>by first|cases hh.2|(rw[hib]at hh;cases hh.2)
     ·exact mZ
  ·obtain⟨b1,b2,b3⟩:=b;have hax:=hat b3;cases b1 with
   |false=>
    repeat'(first|refine bl ?_|refine aF hax (bw ?_))
    refine⟨2,oM,⟨oM,λ_=>h1 oM,λ_=>?_⟩,?_⟩
    ·exact λhh=>by cases hh.1
    ·exact mZ
   |true=>
    cases hib:w.mI b3 with
    |false=>
     rw[hib]at hax
     repeat'(first|refine bl ?_|refine aF hax (bw ?_))
     have aX4:=hE5 (.inr ⟨rfl,hib⟩);rw[aQF aX4 eD,aX4];exact .eL (cs:=[cb _,ci _]) (.cons (.d _) (.cons (.d _) .nil))
    |true=>
     rw[hib]at hax
     repeat'(first|refine bl ?_|refine aF hax (bw ?_))
     refine⟨2,oM,⟨oM,λ_=>h1 oM,λ_=>?_⟩,?_⟩
     ·exact λhh=>by first|cases hh.2|(rw[hib]at hh;cases hh.2)
     ·exact mZ
  ·skip
   refine bl ?_;refine⟨(),?_,mZ⟩;unfold aIC;rw[aT7 (by rw[hba,BO];simp),aT7 (by rintro(hh|hh);exact h1 oM hh;exact h2 oM hh)]
 rintro _ hE0;have hJB:aSL w.mI l.length D a b=aJK a b D:=aUF hE0;rw[hE0,hJB]
 repeat'(first|refine bl ?_|refine aF hpa (bw ?_))
 refine cY mix (λi:Nat=>i<=D.length/\aJK a b (D.drop i)=aJK a b D) (I:=λi=>[(5,.lp 1 0),(6,.lp 9 0),(16,.d (.sl 1 (D.map λp=>[.sl 3 (p.map ndC)]))),(17,.d (ci i))])
  (J:=λi=>[(1,.cells false ((ndC a).map A.d)),(9,.cells false ((ndC b).map A.d))]) (μ:=λi=>D.length -i) 7000 0 4
  (λ_:Unit=>aJK a b D=false) (λ_=>[]) (λ_=>[]) 90000 ⟨oM,rfl⟩ mZ ?_ ?_
 ·rintro i ⟨hi,hse⟩;by_cases cX:i<D.length
  ·rw[a32 i cX]at hse;have hpl:=hDp D[i] (aY cX);refine bl ?_;refine O8.t (aUZ (by(try simp only[aB]);omega)) ?_;refine bl ?_;refine cY mix (λj:Nat=>j<=D[i].length) (I:=λj=>[(5,.lp 1 0),(6,.lp 9 0),(16,.d (.sl 1 (D.map λp=>[.sl 3 (p.map ndC)]))),(17,.d (ci i)),(18,.d (cb ((D[i].take j).any λq=>decide (q=a)))),(19,.d (cb ((D[i].take j).any λq=>decide (q=b)))),(20,.d (ci j))])
    (J:=λj=>[(1,.cells false ((ndC a).map A.d)),(9,.cells false ((ndC b).map A.d))]) (μ:=λj=>D[i].length -j) 8000 0 6
    (λ_:Unit=>True) (λ_=>[(5,.lp 1 0),(6,.lp 9 0),(16,.d (.sl 1 (D.map λp=>[.sl 3 (p.map ndC)]))),(17,.d (ci i)),(18,.d (cb (D[i].any λq=>decide (q=a)))),(19,.d (cb (D[i].any λq=>decide (q=b))))]) (λ_=>[(1,.cells false ((ndC a).map A.d)),(9,.cells false ((ndC b).map A.d))]) 60000 oM mZ ?_ ?_
   ·intro j hj;by_cases hlj:j<D[i].length
    ·have hta:=a3J (λq=>decide (q=a)) D[i] j hlj;have htb:=a3J (λq=>decide (q=b)) D[i] j hlj;generalize(D[i].take j).any (λq=>decide (q=a))=sa at hta⊢;generalize(D[i].take j).any (λq=>decide (q=b))=sb at htb⊢;cases sa with
     |false=>
      cases sb with
      |false=>
       repeat'(first|refine bl ?_|refine cD rfl eD cX (bw ?_))
       refine O8.t (aUZ (by(try simp only[aB]);omega)) ?_
       repeat'(first|with_reducible (first|refine w1 ?_|refine w2 ?_|refine w5 ?_|refine w9 ?_|refine O8.f rfl ?_)|((with_reducible refine wh ?_);(conv=>whnf))|((with_reducible refine wt eD kK ?_);(conv=>whnf))|((refine cD rfl eD cX ?_);(conv=>whnf))|((refine cD rfl eD hlj ?_);(conv=>whnf)))
       rw[aZY];conv=>whnf
       repeat'(first|with_reducible (first|refine w9 ?_|refine nN.mk ?_|refine O8.f rfl ?_)|((with_reducible refine wh ?_);(conv=>whnf))|((with_reducible refine wt eD kK ?_);(conv=>whnf))|((refine cD rfl eD cX ?_);(conv=>whnf))|((refine cD rfl eD hlj ?_);(conv=>whnf)))
       rw[aZY];conv=>whnf
       refine bl ?_;refine⟨j+1,oM,oM,?_⟩;rw[hta,htb];simp only[a57,aLD,aO8];exact mZ
      |true=>
       repeat'(first|refine bl ?_|refine cD rfl eD cX (bw ?_))
       refine O8.t (aUZ (by(try simp only[aB]);omega)) ?_
       repeat'(first|with_reducible (first|refine w1 ?_|refine w2 ?_|refine w5 ?_|refine w9 ?_|refine O8.f rfl ?_)|((with_reducible refine wh ?_);(conv=>whnf))|((with_reducible refine wt eD kK ?_);(conv=>whnf))|((refine cD rfl eD cX ?_);(conv=>whnf))|((refine cD rfl eD hlj ?_);(conv=>whnf)))
       rw[aZY];conv=>whnf
       repeat'(first|with_reducible (first|refine w9 ?_|refine wc ?_|refine wj ?_|refine nN.mk ?_|refine O8.t rfl ?_)|((with_reducible (first|refine wr ?_|refine wh ?_));(conv=>whnf))|((with_reducible refine wt eD kK ?_);(conv=>whnf))|((with_reducible refine FC.mk (RG (by(try dsimp only);omega) (by(try dsimp only);omega)) ?_);(conv=>whnf)))
       refine⟨j+1,oM,oM,?_⟩;rw[hta,htb];simp only[a57,aLD,aO8];exact mZ
     |true=>
      cases sb with
      |false=>
       repeat'(first|refine bl ?_|refine cD rfl eD cX (bw ?_))
       refine O8.t (aUZ (by(try simp only[aB]);omega)) ?_
       repeat'(first|with_reducible (first|refine w1 ?_|refine w2 ?_|refine w5 ?_|refine w9 ?_|refine nN.mk ?_|refine O8.t rfl ?_|refine O8.f rfl ?_)|((with_reducible refine wh ?_);(conv=>whnf))|((with_reducible refine wt eD kK ?_);(conv=>whnf))|((refine cD rfl eD cX ?_);(conv=>whnf))|((refine cD rfl eD hlj ?_);(conv=>whnf)))
       rw[aZY];conv=>whnf
       refine bl ?_;refine⟨j+1,oM,oM,?_⟩;rw[hta,htb];simp only[a57,aLD,aO8];exact mZ
      |true=>
       repeat'(first|refine bl ?_|refine cD rfl eD cX (bw ?_))
       refine O8.t (aUZ (by(try simp only[aB]);omega)) ?_
       repeat'(first|with_reducible (first|refine w1 ?_|refine w2 ?_|refine w5 ?_|refine w9 ?_|refine wc ?_|refine wj ?_|refine nN.mk ?_|refine O8.t rfl ?_)|((with_reducible (first|refine wr ?_|refine wh ?_));(conv=>whnf))|((with_reducible refine wt eD kK ?_);(conv=>whnf))|((with_reducible refine FC.mk (RG (by(try dsimp only);omega) (by(try dsimp only);omega)) ?_);(conv=>whnf)))
       refine⟨j+1,oM,oM,?_⟩;rw[hta,htb];simp only[a57,aLD,aO8];exact mZ
    ·have e:j=D[i].length:=oM;subst e
     repeat'(first|refine bl ?_|refine cD rfl eD cX (bw ?_))
     refine O8.f (aU0 (by(try simp only[aB]);omega)) ?_;refine bl ?_;refine⟨(),tV,?_⟩;rw[gX];exact mZ
   rintro _ _;generalize D[i].any (λq=>decide (q=a))=sa at hse⊢;generalize D[i].any (λq=>decide (q=b))=sb at hse⊢;cases sa with
   |true=>
    rw[aUF rfl]at hse;refine bl ?_;rw[<-hse];exact .eL (cs:=[cb _,ci _]) (.cons (.d _) (.cons (.d _) .nil))
   |false=>
    rw[aT7 gO]at hse;refine bl ?_;refine⟨i+1,oM,⟨oM,hse⟩,?_⟩;exact mZ
  ·have e:i=D.length:=oM;subst e;refine bl ?_;refine O8.f (aU0 (by(try simp only[aB]);omega)) ?_;refine bl ?_;exact⟨(),by rw[<-hse,List.drop_length];rfl,mZ⟩
 rintro _ hsf;refine bl ?_;rw[hsf];exact .eL (cs:=[cb _,ci _]) (.cons (.d _) (.cons (.d _) .nil))
def D4.aH1(w:D4)(l:List U4)(a:Nd):Nat:=(KR (w.pR l) a.1 a.2.1 a.2.2 l.length).1.toNat
def aQC(w:D4)(l:List U4)(a:Nd):(KR (w.pR l) a.1 a.2.1 a.2.2 l.length).1=(w.aH1 l a:Int)/\((KR (w.pR l) a.1 a.2.1 a.2.2 l.length).2=0->w.aH1 l a<w.KB l)/\(KR (w.pR l) a.1 a.2.1 a.2.2 l.length).2=if aKU l.length a=true then 2 else if a.1=true/\w.mI a.2.2=false then 5 else 0:=by
 obtain⟨a1,a2,a3⟩:=a;have hF:=aE3 w l;have hN:l.length<=w.KB l:=by unfold D4.KB;omega
 have hB:kJ (w.pR l) a3=w.mI a3:=by
  rw[K0];constructor
  ·intro h;unfold D4.pR at h;rw[mP,aLE]at h;exact vM.2 h
  ·exact aS1 w l
 unfold D4.aH1;cases a1 with
 |false=>
  have e:KR (w.pR l) false a2 a3 l.length=if a3≠0\/a2<0\/(l.length:Int)<=a2 then(0,2)else(a2,0):=rfl
  have eb:aKU l.length (false,a2,a3)=decide (a3≠0\/a2<0\/(l.length:Int)<=a2):=rfl;dsimp only;rw[e,eb];by_cases h:a3≠0\/a2<0\/(l.length:Int)<=a2
  ·rw[aUF h,aUZ h];exact⟨rfl,(λhh=>by cases hh),rfl⟩
  ·rw[aT7 h,aU0 h];refine⟨dM,λ_=>dM,sM⟩
 |true=>
  have e:KR (w.pR l) true a2 a3 l.length=if a2≠0 then(0,2)else if kJ (w.pR l) a3=true then(cR (w.pR l) a3,0)else(0,5):=rfl
  have eb:aKU l.length (true,a2,a3)=decide (a2≠0):=rfl;dsimp only;rw[e,eb];by_cases h:a2≠0
  ·rw[aUF h,aUZ h];exact⟨rfl,(λhh=>by cases hh),rfl⟩
  ·rw[aT7 h,aU0 h,aT7 gO];by_cases hk:kJ (w.pR l) a3=true
   ·have:=hF.at hk;rw[aUF hk,aT7 (by rw[<-hB,hk];simp)];refine⟨dM,λ_=>dM,rfl⟩
   ·have hk':w.mI a3=false:=by rw[<-hB];simpa using hk
    rw[aT7 hk,aUF ⟨rfl,hk'⟩];exact⟨rfl,(λhh=>by cases hh),rfl⟩
def D4.pjE(w:D4)(l:List U4)(a b:Nd):Int:=if w.s8 l≠0 then w.s8 l else aIC w.mI l.length a b
def D4.pjB(w:D4)(l:List U4)(a b:Nd):Bool:=if w.pjE l a b=0 then decide (lB (w.aEI l) (w.aH1 l a)=lB (w.aEI l) (w.aH1 l b))else false
def a4P{a b:Nd}{e1 e2:Int}(h1:e1=if aKU n a=true then 2 else if a.1=true/\mI a.2.2=false then 5 else 0)(h2:e2=if aKU n b=true then 2 else if b.1=true/\mI b.2.2=false then 5 else 0):aIC mI n a b=if e1=2\/e2=2 then 2 else if e1≠0\/e2≠0 then 5 else 0:=by
 unfold aIC;by_cases p1:aKU n a=true<;>by_cases p2:aKU n b=true<;>by_cases q1:a.1=true/\mI a.2.2=false<;>by_cases q2:b.1=true/\mI b.2.2=false<;>simp only[p1,p2,q1,q2,if_true,if_false,bY]at h1 h2⊢<;>subst h1<;>subst h2<;>simp
def a4D(w:D4)(hw:w.qV)(l:List U4)(hl:l.length<=2^30)(hu:∀i(h:i<l.length),l[i].gA)(hjo:aJ Tryz.prog 55 [.d (.ip w.aT1),.d (.sl 4 (l.map U4.aT1))] (aK []) (.ok (.lp 1016 0)) (aH (aK []) (pS (ndR l.length w.aP) (w.pR l) (w.aEI l))))(a b:Nd):Pu 16 [.d (.ip w.aT1),.d (.agg (ndC a)),.d (.agg (ndC b)),.d (.sl 4 (l.map U4.aT1))] (.eL [.d (cb (w.pjB l a b)),.d (ci (w.pjE l a b))]):=by
 have hmy:=yG w hw l hl hu;obtain⟨g1,g2⟩:=aQP w l;have hnL:((((l.map U4.aT1).map λx=>x.map A.d).length:Nat):Int)=l.length:=by simp only[aB]
 have a5M:=a3Y (ndR l.length w.aP) (w.pR l) (w.aEI l) a.1 a.2.1 a.2.2 l.length;have a5N:=a3Y (ndR l.length w.aP) (w.pR l) (w.aEI l) b.1 b.2.1 b.2.2 l.length;obtain⟨p1,p2,p3⟩:=aQC w l a;obtain⟨q1,q2,q3⟩:=aQC w l b;have hje:=a4P p3 q3;have hE:w.pjE l a b=if w.s8 l≠0 then w.s8 l else aIC w.mI l.length a b:=rfl
 have hB:w.pjB l a b=if w.pjE l a b=0 then decide (lB (w.aEI l) (w.aH1 l a)=lB (w.aEI l) (w.aH1 l b))else false:=rfl
 rw[hje]at hE;rw[hB,hE];rw[p1]at a5M;rw[q1]at a5N;clear p1 p3 q1 q3 hje hE hB;generalize(KR (w.pR l) a.1 a.2.1 a.2.2 l.length).2=e1 at*;generalize(KR (w.pR l) b.1 b.2.1 b.2.2 l.length).2=e2 at*;rw[<-hnL]at a5M a5N;rw[<-g2]at p2 q2;generalize w.aH1 l a=k1 at*;generalize w.aH1 l b=k2 at*;generalize w.s8 l=me at*;generalize w.pR l=F at*;generalize w.aEI l=low at*;generalize ndR l.length w.aP=NR at*;have hr1:=λhh=>aO3 NR F low g1 k1 hh;have hr2:=λhh=>aO3 NR F low g1 k2 hh;refine iC mix Tryz.func16 ?_
 repeat'(first|refine bl ?_|refine bS (λh=>?_) (λh=>?_)|refine aF hmy (bw ?_)|refine dZ.mk (.lp 1016 0) (pS NR F low) (aJ.l8 hjo tV tV tV ⟨.inr rfl,.inr rfl,.inr rfl,tV⟩) (bw ?_)|(refine dZ.mk (.eL [.d (ci k1),.d (ci e1)]) [] ((aJ.l8 a5M ⟨sn,tV⟩ ⟨rfl,rfl,rfl,tV⟩ aLG tV).mR (.cons (.same _) (.cons (.agg (ndC a)) (.cons (.same _) .nil)))) ?_;(conv=>whnf))|(refine dZ.mk (.eL [.d (ci k2),.d (ci e2)]) [] ((aJ.l8 a5N ⟨sn,tV⟩ ⟨rfl,rfl,rfl,tV⟩ aLG tV).mR (.cons (.same _) (.cons (.agg (ndC b)) (.cons (.same _) .nil)))) ?_;(conv=>whnf))|(refine dZ.mk (.d (ci (lB low k1:Nat))) [] (aJ.l8 (hr1 (p2 oM)) ⟨sn,tV⟩ ⟨rfl,rfl,rfl,tV⟩ aLG tV) ?_;(conv=>whnf))|(refine dZ.mk (.d (ci (lB low k2:Nat))) [] (aJ.l8 (hr2 (q2 oM)) ⟨sn,tV⟩ ⟨rfl,rfl,rfl,tV⟩ aLG tV) ?_;(conv=>whnf)))
 all_goals first
  |(rw[aUF (by omega:me≠0),aT7 (by omega:¬me=0)]
    exact .eL (cs:=[cb _,ci _]) (.cons (.d _) (.cons (.d _) .nil)))
  |(rw[aT7 (by omega:¬me≠0),aUF (by omega:e1=2\/e2=2),aT7 (by decide:¬(2:Int)=0)]
    exact .eL (cs:=[cb _,ci _]) (.cons (.d _) (.cons (.d _) .nil)))
  |(rw[aT7 (by omega:¬me≠0),aT7 (by omega:¬(e1=2\/e2=2)),aUF (by omega:e1≠0\/e2≠0),aT7 (by decide:¬(5:Int)=0)]
    exact .eL (cs:=[cb _,ci _]) (.cons (.d _) (.cons (.d _) .nil)))
  |(rw[aT7 (by omega:¬me≠0),aT7 (by omega:¬(e1=2\/e2=2)),aT7 (by omega:¬(e1≠0\/e2≠0)),aUF rfl,show decide (lB low k1=lB low k2)=decide ((lB low k1:Int)=(lB low k2:Int))from decide_eq_decide.2 oM]
    exact .eL (cs:=[cb _,ci _]) (.cons (.d _) (.cons (.d _) .nil)))
def a2N{a b:Nd}{g:Nat->List Nd}{j0:Nat}:∀L:List Nat,(∀j∈L,(g j).any (λq=>decide (q=a))=true↔j=j0)->j0∈L->aJK a b ((L.map g).filter λp=> !p.isEmpty)=(g j0).any λq=>decide (q=b)
 |[],_,h=>by cases h
 |j::L,h1,h2=>by
  rw[aG];have hj:=h1 j (G7 ..);have ih:=a2N (a:=a) (b:=b) (g:=g) (j0:=j0) L (λk hk=>h1 k (uE _ hk));by_cases e:j=j0
  ·subst e;have ha:=hj.2 rfl;have hZ:(g j).isEmpty=false:=by
    cases hg:g j with
    |nil=>rw[hg]at ha;cases ha
    |cons _ _=>rfl
   rw[lZ,aUF (by rw[hZ];rfl),aJK,aUF ha]
  ·have hL:j0∈L:=by
    rcases aO.1 h2 with q|q
    ·exact absurd q.symm e
    ·exact q
   rw[lZ];split
   ·rw[aJK,aT7 (λhh=>e (hj.1 hh))];exact ih hL
   ·exact ih hL
def a5S(hT:T.Nodup){k k':Nat}(hk:k<n+T.length)(hk':k'<n+T.length)(h:aN2 n T k=aN2 n T k'):k=k':=by
 unfold aN2 at h;have h1:=congrArg Prod.fst h;have h2:=congrArg (λq=>q.2.1) h;have h3:=congrArg (λq=>q.2.2) h;dsimp only at h1 h2 h3;have h1:(n<=k)=(n<=k'):=propext (decide_eq_decide.1 h1);by_cases c:k<n
 ·have c':k'<n:=by
   by_cases c':k'<n
   ·exact c'
   ·have:n<=k:=by rw[h1];omega
    omega
  rw[aUF c,aUF c']at h2;omega
 ·have c':¬k'<n:=by
   have:n<=k':=by rw[<-h1];omega
   omega
  rw[aT7 c,aT7 c',bF,bF,aC oM,aC oM]at h3;have:=(a4A hT).1 h3;omega
def a3X(hT:T.Nodup){N:Nat}(hN:N=n+T.length){F:List Nat}{a:Nd}{ka:Nat}(hka:ka<N)(ha:a=aN2 n T ka)(j:Nat):(aOA n T F j N).any (λq=>decide (q=a))=decide (F.getD ka 0=j):=by
 rw[K0,dQ,aUA];unfold aOA;constructor
 ·rintro⟨q,hq,e⟩;obtain⟨k,hk,rfl⟩:=aA4.1 hq;obtain⟨k1,k2⟩:=a39.1 hk;have e:=aUL e;rw[ha]at e;have:=a5S hT (by have:=jI.1 k1;omega) oM e;subst this;simpa using k2
 ·intro h;exact⟨_,aA4.2 ⟨ka,a39.2 ⟨jI.2 hka,by simpa using h⟩,rfl⟩,aUZ ha.symm⟩
section
variable{x:X4}{l:List U4}
def aOF.nd(h:aOF x l)(a:Nd)(h1:aKU l.length a=false)(h2:¬(a.1=true/\(rW x).mI a.2.2=false)):(bJ x).aH1 l a<l.length+(rW x).lA.length/\a=aN2 l.length (rW x).lA ((bJ x).aH1 l a):=by
 obtain⟨p1,p2,p3⟩:=aQC (bJ x) l a;have hB:=h.fr.bth.mI;rw[aT7 (by rw[h1];simp),aT7 (by rw[<-hB];exact h2)]at p3;have cX:=p2 p3;refine⟨cX,?_⟩;obtain⟨a1,a2,a3⟩:=a;cases a1 with
 |false=>
  have eb:aKU l.length (false,a2,a3)=decide (a3≠0\/a2<0\/(l.length:Int)<=a2):=rfl;rw[eb]at h1;have h1:=of_decide_eq_false h1;have e:KR ((bJ x).pR l) false a2 a3 l.length=(a2,0):=by
   show(if a3≠0\/a2<0\/(l.length:Int)<=a2 then((0:Int),(2:Int))else(a2,0))=_;rw[aT7 h1]
  have e2:((bJ x).aH1 l (false,a2,a3):Int)=a2:=by rw[<-p1];dsimp only;rw[e]
  generalize(bJ x).aH1 l (false,a2,a3)=k at*;unfold aN2;rw[aUF oM,aUF oM,aU0 oM,e2,show a3=0 by omega]
 |true=>
  have eb:aKU l.length (true,a2,a3)=decide (a2≠0):=rfl;rw[eb]at h1;have h1:=of_decide_eq_false h1;have h0:a2=0:=oM;subst h0;have hb:(bJ x).mI a3=true:=by
   rw[<-hB];cases hq:(rW x).mI a3 with
   |true=>rfl
   |false=>exact absurd ⟨rfl,hq⟩ h2
  have hk:=aS1 (bJ x) l hb;have e:KR ((bJ x).pR l) true 0 a3 l.length=(cR ((bJ x).pR l) a3,0):=by
   show(if(0:Int)≠0 then((0:Int),(2:Int))else if kJ ((bJ x).pR l) a3=true then(cR ((bJ x).pR l) a3,0)else(0,5))=_;rw[aT7 sM,aUF hk]
  obtain⟨j,hj,e1,e2⟩:=a34 (n:=l.length) (T:=(bJ x).aP) hk;have e3:((bJ x).aH1 l (true,0,a3):Int)=((l.length+j:Nat):Int):=by rw[<-p1];dsimp only;rw[e];exact e2
  have e4:(bJ x).aH1 l (true,0,a3)=l.length+j:=oM;rw[e4];unfold aN2;rw[aT7 oM,aT7 oM,aUZ oM,show l.length+j -l.length=j by omega,bF];have QB:j<(rW x).lA.length:=hj;rw[aC QB];exact congrArg (λq=>(true,(0:Int),q)) e1
def aOF.a4Y(h:aOF x l)(hck:l.all (bJ x).zE=true)(a b:Nd):(bJ x).pjE l a b=aIC (rW x).mI l.length a b/\(bJ x).pjB l a b=aSL (rW x).mI l.length ((rW x).aLV l) a b:=by
 have hB:(rW x).mI=(bJ x).mI:=funext h.fr.bth.mI;have hme:(bJ x).s8 l=0:=by unfold D4.s8;rw[aUF hck]
 have hE:(bJ x).pjE l a b=aIC (rW x).mI l.length a b:=by
  unfold D4.pjE;rw[aT7 (by rw[hme];simp),hB]
 refine⟨hE,?_⟩;unfold D4.pjB aSL;rw[hE];by_cases h0:aIC (rW x).mI l.length a b=0
 ·rw[aUF h0,aUF h0];have a7E:=h.labels hck;have y4:((rW x).lA).Nodup:=h.fr.bth.nd;have q:(aKU l.length a=false/\aKU l.length b=false)/\¬(a.1=true/\(rW x).mI a.2.2=false)/\¬(b.1=true/\(rW x).mI b.2.2=false):=by
   unfold aIC at h0;split at h0
   ·cases h0
   ·rename_i c1;split at h0
    ·cases h0
    ·rename_i c2;refine⟨⟨?_,?_⟩,λhh=>c2 (.inl hh),λhh=>c2 (.inr hh)⟩
     ·cases hq:aKU l.length a with
      |false=>rfl
      |true=>exact absurd (.inl hq) c1
     ·cases hq:aKU l.length b with
      |false=>rfl
      |true=>exact absurd (.inr hq) c1
  obtain⟨a1,a2⟩:=h.nd a q.1.1 q.2.1;obtain⟨b1,b2⟩:=h.nd b q.1.2 q.2.2;unfold R4.aLV;rw[a7E];generalize(bJ x).aH1 l a=ka at*;generalize(bJ x).aH1 l b=kb at*;generalize(bJ x).aEI l=low at*;generalize hN:l.length+(rW x).lA.length=N at*;have aXT:∀k,k<N->((List.range N).map (lB low)).getD k 0=lB low k:=λk hk=>by
   rw[bF,cK,aAW hk];rfl
  have hr:=aFH low ka
  have hs:=a2N (a:=a) (b:=b) (g:=λj=>aOA l.length (rW x).lA ((List.range N).map (lB low)) j N) (j0:=lB low ka) (List.range N) (λj _=>by
   rw[a3X y4 hN.symm a1 a2,aUA,aXT _ a1];exact⟨λe=>e.symm,λe=>e.symm⟩) (jI.2 oM)
  unfold aNT;rw[hs];show _=(aOA _ _ _ _ _).any _;rw[a3X y4 hN.symm b1 b2,aXT _ b1];exact decide_eq_decide.2 ⟨λe=>e.symm,λe=>e.symm⟩
 ·rw[aT7 h0,aT7 h0]
end
def aAG(low:List Nat)(k:Nat):List Nat:=(List.range k).filter λj=>lB low j==j
def aPW(n:Nat)(T:List Int)(low:List Nat)(j k:Nat):List Nd:=((List.range k).filter λi=>lB low i==j).map (aN2 n T)
def aGB(n:Nat)(T:List Int)(low:List Nat)(k:Nat):List (List Nd):=(aAG low k).map λj=>aPW n T low j k
def a2A(low:List Nat)(k:Nat):(aAG low k).Nodup:=List.nodup_range.filter _
def aP1:j∈aAG low k↔j<k/\lB low j=j:=by
 unfold aAG;rw[a39,jI];simp
def a19(h:aPC low)(k:Nat):lB low (lB low k)=lB low k:=by
 refine(aTJ h _).1 ?_;have h1:=aP2 low k;have h2:=h (lB low k);omega
def a36(n:Nat)(T:List Int)(low:List Nat)(j k:Nat):aPW n T low j (k+1)=aPW n T low j k++if lB low k=j then [aN2 n T k]else []:=by
 unfold aPW;rw[aAF,aFG,bP];by_cases h:lB low k=j
 ·rw[aUF h,lZ,aUF (by simpa using h)];rfl
 ·rw[aT7 h,lZ,aT7 (by simpa using h)];rfl
def a3M(h:lB low k=k):aAG low (k+1)=aAG low k++[k]/\aGB n T low (k+1)=aGB n T low k++[[aN2 n T k]]:=by
 have e1:aAG low (k+1)=aAG low k++[k]:=by
  unfold aAG;rw[aAF,aFG,lZ,aUF (by simpa using h)];rfl
 refine⟨e1,?_⟩;unfold aGB;rw[e1,bP];congr 1
 ·refine cQ λj hj=>?_;rw[a36,aT7 (by have:=(aP1.1 hj).1;omega),dS]
 ·show [aPW n T low k (k+1)]=_;rw[a36,aUF h];have:aPW n T low k k=[]:=by
   unfold aPW;rw[List.map_eq_nil_iff,aJ7];intro i hi;have h1:=jI.1 hi;have h2:=aFH low i;simp;omega
  rw[this];rfl
def a5H(h:lB low k≠k)(i:Nat)(hi:i<(aAG low k).length)(hr:(aAG low k)[i]=lB low k):aAG low (k+1)=aAG low k/\aGB n T low (k+1)=(aGB n T low k).set i (aPW n T low (lB low k) k++[aN2 n T k]):=by
 have e1:aAG low (k+1)=aAG low k:=by
  unfold aAG;rw[aAF,aFG,lZ,aT7 (by simpa using h)];simp
 refine⟨e1,?_⟩;unfold aGB;rw[e1];refine aEH sM λm h1 h2=>?_;rw[fO,aE4,a36];by_cases e:i=m
 ·subst e;rw[aUF rfl,hr,aUF rfl]
 ·rw[aT7 e,fO,aT7 (λq=>e ?_),dS];rw[<-hr]at q;exact(a4A (a2A low k)).1 q
def a5G(hl:aPC low){k:Nat}(h:lB low k≠k):lB low k∈aAG low k:=
 aP1.2 ⟨by have:=aFH low k;omega,a19 hl k⟩
def a37(hl:aPC low)(N:Nat):aGB n T low N=aNT n T ((List.range N).map (lB low)) N N:=by
 have hp:∀j,aOA n T ((List.range N).map (lB low)) j N=aPW n T low j N:=λj=>by
  unfold aOA aPW;congr 1;refine List.filter_congr λk hk=>?_;rw[bF,cK,aAW (jI.1 hk)];rfl
 unfold aNT aGB aAG;rw[List.filter_map];simp only[hp];congr 1;refine List.filter_congr λj hj=>?_;simp only[Function.comp];rw[K0];constructor
 ·intro h;have h:lB low j=j:=by simpa using h
  have:aN2 n T j∈aPW n T low j N:=aA4.2 ⟨j,a39.2 ⟨hj,by simpa using h⟩,rfl⟩;cases hg:aPW n T low j N with
  |nil=>rw[hg]at this;cases this
  |cons _ _=>rfl
 ·intro h;cases hg:aPW n T low j N with
  |nil=>rw[hg]at h;cases h
  |cons q r=>
   have:q∈aPW n T low j N:=by rw[hg];exact G7 ..
   obtain⟨k,hk,_⟩:=aA4.1 this;have h1:lB low k=j:=by simpa using(a39.1 hk).2
   have:=a19 hl k;rw[h1]at this;simpa using this
section
variable{x:X4}{l:List U4}
def aOF.parts_eq(h:aOF x l)(hck:l.all (bJ x).zE=true):(rW x).aLV l=aGB l.length (bJ x).aP ((bJ x).aEI l) ((bJ x).KB l):=by
 unfold R4.aLV;rw[h.labels hck];exact(a37 (aQP _ l).1 _).symm
end
def aJO{x:Nat}(h1:x≠i)(h2:x≠j):swp i j x=x:=by rw[BJ,aT7 h1,aT7 h2]
def a3H(h:j≠i):swp i j j=i:=by rw[BJ,aT7 h,aUF rfl]
def a4V(hn:r.aKG=true)(h:∀x∈r.hs,x≠i/\x≠j):r.eZ (swp i j)=r:=by
 rw[R.lU (g:=λx=>x) r hn (λx hx=>aJO (h x hx).1 (h x hx).2)];exact R.uS r
def a3K{a:A}(h:∀x∈a.hs,x≠i/\x≠j):a.eZ (swp i j)=a:=by
 rw[A.lU (g:=λx=>x) a (λx hx=>aJO (h x hx).1 (h x hx).2)];exact A.uS a
def aP7{g:Nat->Nat}{ml:List (Nat×R)}:∀{ml':List (Nat×R)},(∀p∈ml',(aK ml (g p.1)).map (R.eZ g)=some p.2)->I8 g ml ml'
 |[],_=>trivial
 |p::r,h=>⟨h p (G7 ..),aP7 λq hq=>h q (uE _ hq)⟩
def a3B(h:aK ml k=some r)(h1:k≠i)(h2:k≠j)(hn:r.aKG=true)(h3:∀x∈r.hs,x≠i/\x≠j):(aK ml (swp i j k)).map (R.eZ (swp i j))=some r:=by
 rw[aJO h1 h2,h];exact congrArg some (a4V hn h3)
def aNK(G:List (List Nd))(js:List Nat):List (Nat×R):=js.map λj=>(100000+j,dU 55 3 ((G.getD j []).map ndC))
def aX6{b:Nat}(h:a≠b):a.beq b=false:=by
 cases e:a.beq b with
 |false=>rfl
 |true=>exact absurd (bB e) h
def a6K{b:Nat}(h:a=b):a.beq b=true:=by subst h;exact Nat.beq_refl a
def aLF(G:List (List Nd))(js:List Nat)(i:Nat)(h:i<100000):aK (aNK G js) i=none:=by
 unfold aNK;induction js with
 |nil=>rfl
 |cons j r ih=>rw[aG,aK,aX6 dM];exact ih
def aP5(G:List (List Nd))(js:List Nat)(j:Nat)(h:j∈js):aK (aNK G js) (100000+j)=some (dU 55 3 ((G.getD j []).map ndC)):=by
 unfold aNK;induction js with
 |nil=>cases h
 |cons k r ih=>
  rw[aG,aK];by_cases e:k=j
  ·subst e;rw[a6K rfl];rfl
  ·rw[aX6 dM];refine ih ?_;rcases aO.1 h with q|q
   ·exact absurd q.symm e
   ·exact q
def aD0(n:Nat):List (List A):=(List.range n).map λj=>[.h (100000+j)]
def aNS(h:aK ml n=none):jN (aK ml) n=true:=by unfold jN;rw[h]
def aIB(h:a.beq n=false)(h2:aK ml n=none):aK ((a,r)::ml) n=none:=by rw[aK,h];exact h2
def a5F{e:TypeId}{es:Nat}{k:Option Nat}(h:zS m e es k=true):zS m e es k=true:=h
def a52{es:Nat}{a:A}(h:qW m es a=true):qW m es a=true:=h
def aSI{g:Nat->Nat}{ml:List (Nat×R)}:∀{a b:List (Nat×R)},I8 g ml a->I8 g ml b->I8 g ml (a++b)
 |[],_,_,h=>h
 |p::r,_,h1,h2=>⟨h1.1,aSI h1.2 h2⟩
def aRI{ml:List (Nat×R)}:∀{a b:List (Nat×R)},H9 ml a->H9 ml b->H9 ml (a++b)
 |[],_,_,h=>h
 |p::r,_,h1,h2=>⟨h1.1,aRI h1.2 h2⟩
def a3A{g:Nat->Nat}{G:List (List Nd)}{js:List Nat}(h:∀j∈js,aK ml (g (100000+j))=some (dU 55 3 ((G.getD j []).map ndC))):I8 g ml (aNK G js):=by
 refine aP7 λp hp=>?_;obtain⟨j,hj,rfl⟩:=aA4.1 hp;rw[h j hj];exact congrArg some (eT _ _ _ _)
def a4M{ml:List (Nat×R)}:∀{a:List (Nat×R)},(∀p∈a,rB ml p.2.hs)->H9 ml a
 |[],_=>trivial
 |p::r,h=>⟨h p (G7 ..),a4M λq hq=>h q (uE _ hq)⟩
def aRS{G:List (List Nd)}{js:List Nat}:H9 ml (aNK G js):=by
 refine a4M λp hp=>?_;obtain⟨j,hj,rfl⟩:=aA4.1 hp;exact aZ
def aPF{ml:List (Nat×R)}:∀{a:List Nat},(∀i∈a,aK ml i≠none)->rB ml a
 |[],_=>trivial
 |i::r,h=>⟨h i (G7 ..),aPF λq hq=>h q (uE _ hq)⟩
def aSD(fz:Bool)(t:TypeId)(es n:Nat):(R.fW fz t es (aD0 n)).hs=(List.range n).map λj=>100000+j:=by
 show A.lQ (aD0 n).flatten=_;unfold aD0;induction List.range n with
 |nil=>rfl
 |cons j r ih=>rw[aG,dL,aG,qY,A.lQ,ih];rfl
def aOY{b:List (Nat×R)}{i:Nat}:∀{a:List (Nat×R)},aK a i=none->aK (a++b) i=aK b i
 |[],_=>rfl
 |p::r,h=>by
  rw[aK]at h;rw[bW,aK];cases e:p.1.beq i with
  |true=>rw[e]at h;cases h
  |false=>rw[e]at h;exact aOY h
def a3T{a:List (Nat×R)}(h:∀p∈a,p.1<100000)(j:Nat):aK a (100000+j)=none:=by
 induction a with
 |nil=>rfl
 |cons p r ih=>
  rw[aK,aX6 (by have:=h p (G7 ..);omega)];exact ih λq hq=>h q (uE _ hq)
def aRU{E:List (Nat×R)}(hE:∀p∈E,p.1<100000){q:Nat}(hq:q<100000){o:R}(G:List (List Nd))(n j:Nat)(hj:j<n):aK (E++(q,o)::aNK G (List.range n)) (100000+j)=some (dU 55 3 ((G.getD j []).map ndC)):=by
 rw[aOY (a3T hE j),aK,aX6 dM];exact aP5 G _ j (jI.2 hj)
def aLT(fz:Bool)(F:List (Int×Int)):(R.mp fz (iZ F) []).hs=[]:=by
 show A.lQ ((iZ F).map (·.2))++[]=[];unfold iZ;induction F with
 |nil=>rfl
 |cons f r ih=>exact ih
def aK7{Q:Nat->Prop}(h:r.hs=[]):∀x∈r.hs,Q x:=λx hx=>by rw[h]at hx;cases hx
def cN.fam{l:List (Nat×A)}(L':List (Nat×A))(E:List (Nat×R))(qo qn i Gn:Nat)(G':List (List Nd)){rows:List (List A)}(hL:∀p∈L',lT l p.1=p.2/\∀x∈p.2.hs,x<100000/\x≠qn)(hE:∀p∈E,aK ml p.1=some p.2/\p.1<100000/\p.1≠qn/\p.2.aKG=true/\∀x∈p.2.hs,x<100000/\x≠qn)
 (hqn:qn<100000)(hqo:qo<100000)(hZ:qo≠qn)(ho:aK ml qo=some (.fW false 47 1 rows))(aXU:rows.map (A.iV (swp qn (100000+i)))=aD0 Gn)(hn:aK ml qn=some (dU 55 3 ((G'.getD i []).map ndC)))(hf:∀j,j<Gn->j≠i->aK ml (100000+j)=some (dU 55 3 ((G'.getD j []).map ndC)))
 (h1:GF (E++(qo,.fW false 47 1 (aD0 Gn))::aNK G' (List.range Gn)) L')(h2:H9 (E++(qo,.fW false 47 1 (aD0 Gn))::aNK G' (List.range Gn)) E):cN [] n l ml L' (E++(qo,.fW false 47 1 (aD0 Gn))::aNK G' (List.range Gn)):=by
 have hEl:∀p∈E,p.1<100000:=λp hp=>(hE p hp).2.1;refine cN.swap qn (100000+i) tV ?_ (aSI (aP7 λp hp=>?_) ⟨?_,a3A λj hj=>?_⟩) h1 (aRI h2 ⟨?_,aRS⟩)
 ·clear h1;induction L' with
  |nil=>trivial
  |cons p r ih=>
   refine⟨?_,ih λq hq=>hL q (uE _ hq)⟩;obtain⟨e1,e2⟩:=hL p (G7 ..);rw[e1];exact a3K λx hx=>⟨(e2 x hx).2,by have:=(e2 x hx).1;omega⟩
 ·obtain⟨e1,e2,e3,e4,e5⟩:=hE p hp;exact a3B e1 e3 oM e4 λx hx=>⟨(e5 x hx).2,by have:=(e5 x hx).1;omega⟩
 ·show(aK ml (swp qn (100000+i) qo)).map _=_;rw[aJO hZ oM,ho];show some (R.fW false 47 1 (rows.map (A.iV (swp qn (100000+i)))))=_;rw[aXU]
 ·have hj:=jI.1 hj;by_cases e:j=i
  ·subst e;rw[a3H oM];exact hn
  ·rw[aJO oM oM];exact hf j hj e
 ·rw[aSD];refine aPF λx hx=>?_;obtain⟨j,hj,rfl⟩:=aA4.1 hx;rw[aRU hEl hqo G' Gn j (jI.1 hj)];exact sn
def cN.a6X{L' L2:List (Nat×A)}(E:List (Nat×R))(qo q2 Gn:Nat)(G':List (List Nd))(hL:KP (swp qo q2) L' L2)(hE:∀p∈E,aK (E++(qo,.fW false 47 1 (aD0 Gn))::aNK G' (List.range Gn)) p.1=some p.2/\p.1<100000/\(p.1≠qo/\p.1≠q2)/\p.2.aKG=true/\∀x∈p.2.hs,x≠qo/\x≠q2)
 (hqo:qo<100000)(WI:q2<100000)(hoE:aK E qo=none)(h1:GF (E++(q2,.fW false 47 1 (aD0 Gn))::aNK G' (List.range Gn)) L2)(h2:H9 (E++(q2,.fW false 47 1 (aD0 Gn))::aNK G' (List.range Gn)) E):cN [] n L' (E++(qo,.fW false 47 1 (aD0 Gn))::aNK G' (List.range Gn)) L2 (E++(q2,.fW false 47 1 (aD0 Gn))::aNK G' (List.range Gn)):=by
 have hEl:∀p∈E,p.1<100000:=λp hp=>(hE p hp).2.1;refine cN.swap qo q2 tV hL (aSI (aP7 λp hp=>?_) ⟨?_,a3A λj hj=>?_⟩) h1 (aRI h2 ⟨?_,aRS⟩)
 ·obtain⟨e1,e2,e3,e4,e5⟩:=hE p hp;exact a3B e1 e3.1 e3.2 e4 e5
 ·have e:swp qo q2 q2=qo:=by
   by_cases q:q2=qo
   ·subst q;rw[BJ,aUF rfl]
   ·exact a3H q
  show(aK _ (swp qo q2 q2)).map _=_;rw[e,aOY hoE,aK,a6K rfl];refine congrArg some (a4V rfl λx hx=>?_);rw[aSD]at hx;obtain⟨j,_,rfl⟩:=aA4.1 hx;exact⟨oM,oM⟩
 ·have hj:=jI.1 hj;rw[aJO oM oM];exact aRU hEl hqo G' Gn j hj
 ·rw[aSD];refine aPF λx hx=>?_;obtain⟨j,hj,rfl⟩:=aA4.1 hx;rw[aRU hEl WI G' Gn j (jI.1 hj)];exact sn
def a29{v:Option R}(h:a<100000)(h2:aK ml (100000+n)=v):aK ((a,r)::ml) (100000+n)=v:=by rw[aK,aX6 dM];exact h2
def a6U(n:Nat):aD0 (n+1)=aD0 n++[[.h (100000+n)]]:=by unfold aD0;rw[aAF,bP];rfl
def a5U(h:∀k,k<n->100000+k≠i/\100000+k≠j):(aD0 n).map (A.iV (swp i j))=aD0 n:=by
 unfold aD0;rw[bH];refine cQ λk hk=>?_;obtain⟨h1,h2⟩:=h k (jI.1 hk);show [A.h (swp i j (100000+k))]=_;rw[aJO h1 h2]
def a5V{y:List A}(hq:q<100000):((aD0 n++[y]).set (aD0 n).length [.h q]).map (A.iV (swp q (100000+n)))=aD0 (n+1):=by
 rw[List.set_append_right _ _ (bT _),aJ9,bP,a5U (λk hk=>⟨oM,oM⟩),a6U];show _++[[A.h (swp q (100000+n) q)]]=_;rw[BJ,aUF rfl]
def aQH{m:Nat}(h:m<(aD0 n).length):(aD0 n)[m]=[.h (100000+m)]:=by
 simp only[aD0,fO,List.getElem_range]
def a5W(hi:i<n)(hq:q<100000):((aD0 n).set i [.h q]).map (A.iV (swp q (100000+i)))=aD0 n:=by
 refine aEH sM λm h1 h2=>?_;rw[fO,aE4,aQH h2];by_cases e:i=m
 ·subst e;rw[aUF rfl];show [A.h (swp q (100000+i) q)]=_;rw[BJ,aUF rfl]
 ·rw[aT7 e];show [A.h (swp q (100000+i) (100000+m))]=_;rw[aJO oM oM]
def a5T(hi:i<n)(hq:q<100000):(aD0 n).map (A.iV (swp q (100000+i)))=(aD0 n).set i [.h q]:=by
 refine aEH sM λm h1 h2=>?_;rw[fO,aE4,aQH];show [A.h (swp q (100000+i) (100000+m))]=_;by_cases e:i=m
 ·subst e;rw[aUF rfl,a3H oM]
 ·rw[aT7 e,aJO oM oM]
def a3N:∀(L:List (List A))(x:Nat),x∈A.lQ L.flatten->∃r∈L,x∈A.lQ r
 |[],x,h=>by simp[A.lQ]at h
 |r::L,x,h=>by
  have hap:∀(a b:List A),A.lQ (a++b)=A.lQ a++A.lQ b:=by
   intro a b;induction a with
   |nil=>rfl
   |cons c r ih=>rw[bW,A.lQ,A.lQ,ih,bG]
  rw[dL,hap,bN]at h;rcases h with h|h
  ·exact⟨r,G7 ..,h⟩
  ·obtain⟨s,h1,h2⟩:=a3N L x h;exact⟨s,uE _ h1,h2⟩
def cN.iso{l:List (Nat×A)}(L':List (Nat×A))(E:List (Nat×R))(qo qi i Gn:Nat)(G:List (List Nd))(hL:∀p∈L',lT l p.1=p.2/\∀x∈p.2.hs,x<100000/\x≠qi)(hE:∀p∈E,aK ml p.1=some p.2/\p.1<100000/\(p.1≠qi/\p.1≠qo)/\p.2.aKG=true/\∀x∈p.2.hs,x<100000/\x≠qi)
 (hqi:qi<100000)(hqo:qo<100000)(hZ:qo≠qi)(hi:i<Gn)(ho:aK ml qo=some (.fW false 47 1 (aD0 Gn)))(hf:∀j,j<Gn->aK ml (100000+j)=some (dU 55 3 ((G.getD j []).map ndC)))
 (h1:GF (E++(qo,.fW false 47 1 ((aD0 Gn).set i [.h qi]))::(qi,dU 55 3 ((G.getD i []).map ndC))::aNK G ((List.range Gn).filter λj=>j !=i)) L')(h2:H9 (E++(qo,.fW false 47 1 ((aD0 Gn).set i [.h qi]))::(qi,dU 55 3 ((G.getD i []).map ndC))::aNK G ((List.range Gn).filter λj=>j !=i)) E):cN [] n l ml L' (E++(qo,.fW false 47 1 ((aD0 Gn).set i [.h qi]))::(qi,dU 55 3 ((G.getD i []).map ndC))::aNK G ((List.range Gn).filter λj=>j !=i)):=by
 refine cN.swap qi (100000+i) tV ?_ (aSI (aP7 λp hp=>?_) ⟨?_,?_,a3A λj hj=>?_⟩) h1 (aRI h2 ⟨?_,aZ,aRS⟩)
 ·clear h1;induction L' with
  |nil=>trivial
  |cons p r ih=>
   refine⟨?_,ih λq hq=>hL q (uE _ hq)⟩;obtain⟨e1,e2⟩:=hL p (G7 ..);rw[e1];exact a3K λx hx=>⟨(e2 x hx).2,by have:=(e2 x hx).1;omega⟩
 ·obtain⟨e1,e2,e3,e4,e5⟩:=hE p hp;exact a3B e1 e3.1 oM e4 λx hx=>⟨(e5 x hx).2,by have:=(e5 x hx).1;omega⟩
 ·show(aK ml (swp qi (100000+i) qo)).map _=_;rw[aJO hZ oM,ho];show some (R.fW false 47 1 ((aD0 Gn).map (A.iV (swp qi (100000+i)))))=_;rw[a5T hi hqi]
 ·show(aK ml (swp qi (100000+i) qi)).map _=_;rw[show swp qi (100000+i) qi=100000+i by rw[BJ,aUF rfl],hf i hi];exact congrArg some (eT _ _ _ _)
 ·obtain⟨hj,hji⟩:=a39.1 hj;have hj:=jI.1 hj;have hji:j≠i:=by simpa using hji
  rw[aJO oM oM];exact hf j hj
 ·refine aPF λx hx=>?_;obtain⟨r,hr,hx⟩:=a3N _ x hx;obtain⟨m,hm,rfl⟩:=dH.1 hr;rw[aE4]at hx;have hEl:∀p∈E,p.1<100000:=λp hp=>(hE p hp).2.1;by_cases e:i=m
  ·rw[aUF e]at hx;have hx:x=qi:=by simpa [A.lQ,A.hs]using hx
   subst hx;have hEn:aK E x=none:=by
    have:∀E':List (Nat×R),(∀p∈E',p.1≠x)->aK E' x=none:=by
     intro E' h;induction E' with
     |nil=>rfl
     |cons p r ih=>rw[aK,aX6 (h p (G7 ..))];exact ih λq hq=>h q (uE _ hq)
    exact this E λp hp=>(hE p hp).2.2.1.1
   rw[aOY hEn,aK,aX6 hZ,cond_false,aK,a6K rfl];exact sn
  ·rw[aT7 e,aQH]at hx;have hx:x=100000+m:=by simpa [A.lQ,A.hs]using hx
   subst hx;have hmG:m<Gn:=by simpa [aD0]using hm
   rw[aOY (a3T hEl m),aK,aX6 dM,cond_false,aK,aX6 dM,cond_false,aP5 G _ m (a39.2 ⟨jI.2 hmG,zM⟩)];exact sn
def aQ8:Nat->A
 |0=>.d (.nl 1)
 |_+1=>.h 900
def aPO(low:List Nat)(G:List (List Nd)):Nat->List (Nat×R)
 |0=>[]
 |k+1=>(900,.fW false 47 1 (aD0 (aAG low (k+1)).length))::aNK G (List.range (aAG low (k+1)).length)
def aJF(low:List Nat)(k:Nat):List (Int×Int):=atF 0 ((aAG low k).map λr:Nat=>(r:Int))
def a45(low:List Nat)(k i:Nat)(hi:i<(aAG low k).length):kJ (aJF low k) ((aAG low k)[i]:Int)=true/\cR (aJF low k) ((aAG low k)[i]:Int)=(i:Int):=by
 have h1:kJ (aJF low k) ((aAG low k)[i]:Int)=true:=by
  unfold aJF;rw[mP,aLE];exact aA4.2 ⟨_,aY hi,rfl⟩
 refine⟨h1,?_⟩;unfold aJF at h1⊢;obtain⟨j,hj,e1,e2⟩:=a34 h1;rw[fO]at e1;rw[aB]at hj;have:=(a4A (a2A low k)).1 (show(aAG low k)[i]=(aAG low k)[j] by omega);omega
def a30(low:List Nat)(k:Nat):kJ (aJF low k) (k:Int)=false:=by
 cases h:kJ (aJF low k) (k:Int)with
 |false=>rfl
 |true=>
  unfold aJF at h;rw[mP,aLE]at h;obtain⟨r,h1,h2⟩:=aA4.1 h;have:=(aP1.1 h1).1;omega
def a33{ml:List (Nat×R)}:∀{l:List (Nat×R)}{s:List Nat},(∀p∈l,aK ml p.1=some p.2)->I2 ml s l
 |[],_,_=>trivial
 |p::r,_,h=>⟨.inr (h p (G7 ..)),a33 λq hq=>h q (uE _ hq)⟩
def a3C{E:List (Nat×R)}(hE:∀p∈E,p.1<100000/\p.1≠900)(low:List Nat)(G:List (List Nd)):∀(k:Nat),∀p∈aPO low G k,aK (E++aPO low G k) p.1=some p.2
 |0,p,h=>by cases h
 |k+1,p,h=>by
  have hEn:∀E':List (Nat×R),(∀p∈E',p.1<100000/\p.1≠900)->aK E' 900=none:=by
   intro E' h;induction E' with
   |nil=>rfl
   |cons p r ih=>rw[aK,aX6 (h p (G7 ..)).2];exact ih λq hq=>h q (uE _ hq)
  rcases aO.1 h with rfl|h
  ·show aK (E++(900,_)::aNK G _) 900=_;rw[aOY (hEn E hE)];rfl
  ·obtain⟨j,hj,rfl⟩:=aA4.1 h;exact aRU (λp hp=>(hE p hp).1) eD G _ j (jI.1 hj)
def a59(low:List Nat)(G:List (List Nd)):∀k:Nat,H9 (aPO low G k) (aPO low G k)
 |0=>trivial
 |k+1=>by
  refine⟨?_,aRS⟩;rw[aSD];refine aPF λx hx=>?_;obtain⟨j,hj,rfl⟩:=aA4.1 hx;have h1:=a3C (E:=[]) (λp hp=>by cases hp) low G (k+1) _ (uE _ (aA4.2 ⟨j,hj,rfl⟩));exact λe=>by rw[show aK (aPO low G (k+1)) (100000+j)=_ from h1]at e;cases e
def a6A(low:List Nat)(G:List (List Nd)):∀k:Nat,GF (aPO low G k) [(9,aQ8 k)]
 |0=>⟨tV,tV⟩
 |k+1=>⟨⟨sn,tV⟩,tV⟩
def a3Z{α:Type}{m:Mem}{f:α->List A}{g:α->List C}:∀L:List α,(∀x∈L,wJ m (f x) (g x))->D6 m (L.map f) (L.map g)
 |[],_=>.nil
 |x::r,h=>.cons (h x (G7 ..)) (a3Z r λy hy=>h y (uE _ hy))
def a50(G:List (List Nd)){n:Nat}(hn:n=G.length)(h:∀j,j<n->m (100000+j)=some (dU 55 3 ((G.getD j []).map ndC))):D6 m (aD0 n) (G.map λp=>[.sl 3 (p.map ndC)]):=by
 have e:(G.map λp=>[C.sl 3 (p.map ndC)])=(List.range n).map λj=>[C.sl 3 ((G.getD j []).map ndC)]:=by
  refine aEH (by simp[hn]) λi h1 h2=>?_;have hi:i<G.length:=by simpa using h1
  simp[hi]
 rw[e];exact a3Z _ λj hj=>.cons (.dU (t:=55) (h j (jI.1 hj))) .nil
abbrev pE(NR:List (List C))(F RF:List (Int×Int))(low:List Nat):List (Nat×R):=[(1016,.cells false [.d (.sl 3 NR),.h 1000,.h 902]),(1000,.mp false (iZ F) []),(902,dU 3 1 (iN low)),(97,.mp false (iZ RF) [])]
abbrev pL(o:A)(NR:List (List C))(N k:Nat):List (Nat×A):=[(7,.lp 1016 0),(8,.h 97),(9,o),(28,.d (.sl 3 NR)),(29,.d (ci N)),(30,.d (ci k))]
abbrev pO(q n:Nat)(G:List (List Nd)):List (Nat×R):=(q,.fW false 47 1 (aD0 n))::aNK G (List.range n)
def a7Q{ml:List (Nat×R)}:∀{l:List (Nat×R)},RN ml l->∀p∈l,aK ml p.1=some p.2
 |[],_,p,h=>by cases h
 |q::r,h,p,hp=>by
  rcases aO.1 hp with rfl|hp
  ·exact h.1
  ·exact a7Q h.2 p hp
def a7R{l:List (Nat×A)}:∀{l':List (Nat×A)},YY l l'->∀p∈l',lT l p.1=p.2
 |[],_,p,h=>by cases h
 |q::r,h,p,hp=>by
  rcases aO.1 hp with rfl|hp
  ·exact h.1
  ·exact a7R h.2 p hp
def a7S{NR:List (List C)}{F RF:List (Int×Int)}:∀p∈pE NR F RF low,p.2.aKG=true/\(p.1=1016\/p.1=1000\/p.1=902\/p.1=97)/\∀x∈p.2.hs,x=1000\/x=902:=by
 intro p hp;simp only[aO,K9,or_false]at hp;rcases hp with rfl|rfl|rfl|rfl
 ·exact⟨rfl,.inl rfl,by show ∀x∈[1000,902],_;simp⟩
 ·exact⟨rfl,.inr (.inl rfl),aK7 (aLT _ _)⟩
 ·exact⟨rfl,.inr (.inr (.inl rfl)),aK7 (oJ _ _ _)⟩
 ·exact⟨rfl,.inr (.inr (.inr rfl)),aK7 (aLT _ _)⟩
def a7U{NR:List (List C)}{N:Nat}:∀p∈pL (.h q) NR N k,∀x∈p.2.hs,x=1016\/x=97\/x=q:=by
 intro p hp x hx;simp only[aO,K9,or_false]at hp;rcases hp with rfl|rfl|rfl|rfl|rfl|rfl<;>simp_all[A.hs]
section
variable{NR:List (List C)}{F RF:List (Int×Int)}{low:List Nat}{N k m:Nat}{l:List (Nat×A)}{ml:List (Nat×R)}
def a7V(qo qn i Gn:Nat)(G':List (List Nd)){rows:List (List A)}(hL:YY l (pL (.h qo) NR N k))(hE:RN ml (pE NR F RF low))(ho:aK ml qo=some (.fW false 47 1 rows))(aXU:rows.map (A.iV (swp qn (100000+i)))=aD0 Gn)(hn:aK ml qn=some (dU 55 3 ((G'.getD i []).map ndC)))(hf:∀j,j<Gn->j≠i->aK ml (100000+j)=some (dU 55 3 ((G'.getD j []).map ndC)))
 (h1:GF (pE NR F RF low++pO qo Gn G') (pL (.h qo) NR N k))(h2:H9 (pE NR F RF low++pO qo Gn G') (pE NR F RF low))(hq:qn<100000/\qo<100000/\qo≠qn/\1016<qn:=by decide):cN [] m l ml (pL (.h qo) NR N k) (pE NR F RF low++pO qo Gn G'):=by
 refine cN.fam _ _ qo qn i Gn G' (λp hp=>⟨a7R hL p hp,λx hx=>?_⟩) (λp hp=>?_) hq.1 hq.2.1 hq.2.2.1 ho aXU hn hf h1 h2
 ·have:=a7U p hp x hx;omega
 ·obtain⟨a,b,c⟩:=a7S p hp;exact⟨a7Q hE p hp,oM,oM,a,λx hx=>by have:=c x hx;omega⟩
def a7T(qo q2 Gn:Nat)(G':List (List Nd))(hL:KP (swp qo q2) (pL (.h qo) NR N k) (pL (.h q2) NR N k))(hE:RN (pE NR F RF low++pO qo Gn G') (pE NR F RF low))(hoE:aK (pE NR F RF low) qo=none)
 (h1:GF (pE NR F RF low++pO q2 Gn G') (pL (.h q2) NR N k))(h2:H9 (pE NR F RF low++pO q2 Gn G') (pE NR F RF low))(hq:qo<100000/\q2<100000/\1016<qo/\97<q2/\q2<902:=by decide):cN [] m (pL (.h qo) NR N k) (pE NR F RF low++pO qo Gn G') (pL (.h q2) NR N k) (pE NR F RF low++pO q2 Gn G'):=by
 refine cN.a6X _ qo q2 Gn G' hL (λp hp=>?_) hq.1 hq.2.1 hoE h1 h2;obtain⟨a,b,c⟩:=a7S p hp;exact⟨a7Q hE p hp,oM,oM,a,λx hx=>by have:=c x hx;omega⟩
end
def a42(w:D4)(hw:w.qV)(l:List U4)(hl:l.length<=2^30)(hu:∀i(h:i<l.length),l[i].gA)(hme:w.s8 l=0)(hjo:aJ Tryz.prog 55 [.d (.ip w.aT1),.d (.sl 4 (l.map U4.aT1))] (aK []) (.ok (.lp 1016 0)) (aH (aK []) (pS (ndR l.length w.aP) (w.pR l) (w.aEI l)))):Pu 14 [.d (.ip w.aT1),.d (.sl 4 (l.map U4.aT1))] (.eL [.d (.sl 1 ((aGB l.length w.aP (w.aEI l) (w.KB l)).map λp=>[.sl 3 (p.map ndC)])),.d (ci 0)]):=by
 have hmy:=yG w hw l hl hu;rw[hme]at hmy;obtain⟨g1,g2⟩:=aQP w l;have hNR:(ndR l.length w.aP).length=w.KB l:=aIV _ _;refine iC mix Tryz.func14 ?_;generalize w.pR l=F at*;generalize a7M:w.aEI l=low at*;generalize hN:w.KB l=N at*
 repeat'(first|refine bl ?_|refine aF hmy (bw ?_)|refine dZ.mk (.lp 1016 0) (pS (ndR l.length w.aP) F low) (aJ.l8 hjo tV tV tV ⟨.inr rfl,.inr rfl,.inr rfl,tV⟩) (bw ?_))
 have hNe:N=l.length+w.aP.length:=hN.symm;have hNl:N<=2^31:=by have:=hw.len;rw[<-hN];unfold D4.KB D4.aP;rw[aB];omega
 refine cY mix (λk:Nat=>k<=N) (I:=λk=>[(7,.lp 1016 0),(8,.h 97),(9,aQ8 k),(28,.d (.sl 3 (ndR l.length w.aP))),(29,.d (ci N)),(30,.d (ci k))])
  (J:=λk=>(1016,.cells false [.d (.sl 3 (ndR l.length w.aP)),.h 1000,.h 902])::(1000,.mp false (iZ F) [])::(902,dU 3 1 (iN low))::(97,.mp false (iZ (aJF low k)) [])::aPO low (aGB l.length w.aP low k) k) (μ:=λk=>N -k) 2000 0 0
  (λ_:Unit=>True) (λ_=>[(9,aQ8 N)]) (λ_=>aPO low (aGB l.length w.aP low N) N) 9000 oM ?_ ?_ ?_
 ·dsimp only[pS,aQ8,aPO,aJF,aAG];refine mq 5000 5001 ?_
  all_goals first|exact qD (by rw[aB,hNR])|skip
 ·intro k hk;by_cases cX:k<N
  ·by_cases hr:lB low k=k
   ·cases k with
    |zero=>
     have wB:=aO3 (ndR l.length w.aP) F low g1 0 oM;rw[hr]at wB;have pG:=a30 low 0;dsimp only[aQ8,aPO];refine bl ?_;refine O8.t (aUZ oM) ?_
     repeat'(first|refine bl ?_|refine Y5 rfl eD oM (aGC l.length w.aP _ oM) (bw ?_)|refine dZ.mk (.d (ci (0:Nat))) [] (aJ.l8 wB ⟨sn,tV⟩ ⟨rfl,rfl,rfl,tV⟩ aLG tV) (bw ?_))
     refine a40 eD (λhh=>by rw[pG]at hh;cases hh) (λhh=>?_);conv=>whnf
     refine bl ?_;refine aBP eD (λhh=>by rw[pG]at hh;cases hh) (λhh=>?_);conv=>whnf
     refine bl ?_;refine n8 (by simp only[cE,aS];omega) kK ?_;conv=>whnf
     refine E9.mk (λXN=>absurd XN sM) (λXN=>?_);conv=>whnf
     refine bl ?_;refine lG.mk 0 rfl sM ?_;conv=>whnf
     refine bl ?_
     skip
     refine n8 (by simp only[cE,aS];omega) kK ?_;conv=>whnf
     refine E9.mk (λXN=>absurd XN sM) (λXN=>?_);conv=>whnf
     skip
     refine lG.mk 0 rfl sM ?_;conv=>whnf
     refine bl ?_
     skip
     refine⟨0+1,oM,oM,?_⟩;dsimp only[aQ8,aPO];obtain⟨e1,e2⟩:=a3M (n:=l.length) (T:=w.aP) hr;have aXK:(aAG low (0+1)).length=0+1:=by rw[e1];rfl
     have hRF2:aJF low (0+1)=[(((0:Nat):Int),((0:Nat):Int))]:=by unfold aJF;rw[e1];rfl
     rw[aXK,hRF2,e2,show aGB l.length w.aP low 0++[[aN2 l.length w.aP 0]]=[[aN2 l.length w.aP 0]]from rfl];exact cN.trans (a7V 2240 2320 0 (0+1) [[aN2 l.length w.aP 0]] clJ clJ rfl rfl rfl (λj hj hjn=>oM) clJ clJ) (a7T 2240 900 (0+1) _ clJ clJ rfl clJ clJ)
    |succ k=>
     have wB:=aO3 (ndR l.length w.aP) F low g1 (k+1) oM;rw[hr]at wB;have pG:=a30 low (k+1);dsimp only[aQ8,aPO];generalize hGn:(aAG low (k+1)).length=Gn;generalize hGG:aGB l.length w.aP low (k+1)=G;generalize hRF:aJF low (k+1)=RF at pG⊢;refine bl ?_;refine O8.t (aUZ oM) ?_
     repeat'(first|refine bl ?_|refine Y5 rfl eD oM (aGC l.length w.aP _ oM) (bw ?_))
     rw[aNS]
     rotate_left
     ·repeat(refine aIB rfl ?_)
      exact aLF G (List.range Gn) _ eD
     conv=>whnf
     repeat'(first|refine bl ?_|refine dZ.mk (.d (ci (k+1:Nat))) [] (aJ.l8 wB ⟨sn,tV⟩ ⟨rfl,rfl,rfl,tV⟩ aLG tV) (bw ?_))
     refine a40 eD (λhh=>by rw[pG]at hh;cases hh) (λhh=>?_);conv=>whnf
     refine bl ?_;refine aBP eD (λhh=>by rw[pG]at hh;cases hh) (λhh=>?_);conv=>whnf
     refine bl ?_;rw[aNS]
     rotate_left
     ·repeat(refine aIB rfl ?_)
      exact aLF G (List.range Gn) _ eD
     rw[show decide ((zc Tryz.prog 8 47).length=Tryz.prog.cellsOf 47/\0<Tryz.prog.cellsOf 47/\1*Tryz.prog.cellsOf 47<=16777216)=true by kernel_rfl];conv=>whnf
     skip
     rw[aNS]
     rotate_left
     ·repeat(refine aIB rfl ?_)
      exact aLF G (List.range Gn) _ eD
     rw[a5F]
     rotate_left
     ·kernel_rfl
     rw[a52]
     rotate_left
     ·kernel_rfl
     rw[show decide (48=48/\(zc Tryz.prog 8 47).length=Tryz.prog.cellsOf 47/\0<Tryz.prog.cellsOf 47/\0<Tryz.prog.bytesOf 47)=true by kernel_rfl];conv=>whnf
     skip
     have hGk:Gn<=k+1:=by rw[<-hGn];unfold aAG;exact cL (YC _ _) sM
     have hoL:(aD0 Gn).length=Gn:=by simp[aD0]
     refine n8 (by simp only[cE,aS,hoL];omega) kK ?_;conv=>whnf
     refine bl ?_;refine lG.mk (aD0 Gn).length rfl (by simp[aD0]) ?_;conv=>whnf
     skip
     refine fZ.mk [.d (cv (.slice none 0 0))] (by rw[bO (bT _),aJ9];rfl) ?_;conv=>whnf
     skip
     rw[aNS]
     rotate_left
     ·repeat(refine aIB rfl ?_)
      exact aLF G (List.range Gn) _ eD
     rw[show decide ((zc Tryz.prog 8 55).length=Tryz.prog.cellsOf 55/\0<Tryz.prog.cellsOf 55/\1*Tryz.prog.cellsOf 55<=16777216)=true by kernel_rfl];conv=>whnf
     skip
     rw[aNS]
     rotate_left
     ·repeat(refine aIB rfl ?_)
      exact aLF G (List.range Gn) _ eD
     rw[a5F]
     rotate_left
     ·kernel_rfl
     rw[a52]
     rotate_left
     ·kernel_rfl
     rw[show decide (47=47/\(zc Tryz.prog 8 55).length=Tryz.prog.cellsOf 55/\0<Tryz.prog.cellsOf 55/\0<Tryz.prog.bytesOf 55)=true by kernel_rfl];conv=>whnf
     skip
     refine n8 (by simp only[cE,aS];omega) kK ?_;conv=>whnf
     refine E9.mk (λXN=>absurd XN sM) (λXN=>?_);conv=>whnf
     skip
     refine lG.mk (aD0 Gn).length rfl (by simp[aD0]) ?_;conv=>whnf
     skip
     refine fZ.mk [.d (cv (.slice none 0 0))] (by rw[bO (bT _),aJ9];rfl) ?_;conv=>whnf
     refine bl ?_;refine⟨k+1+1,oM,oM,?_⟩;dsimp only[aQ8,aPO];obtain⟨e1,e2⟩:=a3M (n:=l.length) (T:=w.aP) hr;have hGL:(aGB l.length w.aP low (k+1)).length=Gn:=by unfold aGB;rw[aB,hGn]
     have aXK:(aAG low (k+1+1)).length=Gn+1:=by rw[e1,aU,hGn];rfl
     have hRF2:aJF low (k+1+1)=RF++[(((k+1:Nat):Int),(Gn:Int))]:=by
      rw[<-hRF];unfold aJF;rw[e1,bP,aRH,aB,hGn];simp[atF]
     rw[aXK,hRF2,e2,hGG];rw[hGG]at hGL;have hmp:iZ (RF++[(((k+1:Nat):Int),(Gn:Int))])=iZ RF++[(kI ((k+1:Nat):Int),.d (ci ((aD0 Gn).length:Nat)))]:=by rw[hoL];exact(vP _ _ _).symm
     have hgl:(G++[[aN2 l.length w.aP (k+1)]]).getD Gn []=[aN2 l.length w.aP (k+1)]:=by rw[bF,bO oM,hGL,aJ9];rfl
     refine cN.trans (a7V 2240 2320 Gn (Gn+1) (G++[[aN2 l.length w.aP (k+1)]]) clJ ⟨rfl,rfl,rfl,congrArg (λq=>some (R.mp false q [])) hmp.symm,tV⟩ rfl (a5V eD) (by rw[hgl];rfl) (λj hj hjn=>?_) clJ clJ) (a7T 2240 900 (Gn+1) _ clJ clJ rfl clJ clJ)
     repeat(refine a29 ?_ ?_;· decide)
     rw[aP5 G _ j (jI.2 oM),bF,bF,bX oM]
   ·skip
    have hkp:∃k',k=k'+1:=by
     cases k with
     |zero=>exact absurd (by have:=aFH low 0;omega) hr
     |succ k'=>exact⟨k',rfl⟩
    obtain⟨k,rfl⟩:=hkp;have wB:=aO3 (ndR l.length w.aP) F low g1 (k+1) oM;have hin:=a5G g1 hr;obtain⟨i,hi,hri⟩:=dH.1 hin;obtain⟨e1,e2⟩:=a5H (n:=l.length) (T:=w.aP) hr i hi hri;obtain⟨aX9,aXR⟩:=a45 low (k+1) i hi;rw[hri]at aX9 aXR;have hgi:(aGB l.length w.aP low (k+1)).getD i []=aPW l.length w.aP low (lB low (k+1)) (k+1):=by
     unfold aGB;rw[bF,cK,aC hi,hri];rfl
    rw[<-hgi]at e2;have hGk:(aAG low (k+1)).length<=k+1:=by unfold aAG;exact cL (YC _ _) sM
    have hgL:((aGB l.length w.aP low (k+1)).getD i []).length<=k+1:=by rw[hgi];unfold aPW;rw[aB];exact cL (YC _ _) sM
    clear hri hin;generalize hr':lB low (k+1)=r at*;have hGL:(aGB l.length w.aP low (k+1)).length=(aAG low (k+1)).length:=by unfold aGB;rw[aB]
    dsimp only[aQ8,aPO];generalize hGn:(aAG low (k+1)).length=Gn at*;generalize hGG:aGB l.length w.aP low (k+1)=G at*;generalize hRF:aJF low (k+1)=RF at*;have hoL:(aD0 Gn).length=Gn:=by simp[aD0]
    refine BH (λ_:Unit=>True) (λ_=>(31,.d (cb true))::pL (.h 900) (ndR l.length w.aP) N (k+1)) (λ_=>pE (ndR l.length w.aP) F RF low++(900,.fW false 47 1 ((aD0 Gn).set i [.h 903]))::(903,dU 55 3 ((G.getD i []).map ndC))::aNK G ((List.range Gn).filter λj=>j !=i)) 2500 ?_ ?_
    ·skip
     refine bl ?_;refine⟨(),tV,cN.iso _ (pE (ndR l.length w.aP) F RF low) 900 903 i Gn G (λp hp=>?_) (λp hp=>?_) eD eD eD hi rfl (λj hj=>?_) clJ clJ⟩
     ·rcases aO.1 hp with rfl|hp
      ·exact⟨congrArg (λq=>A.d (cb q)) (aUZ oM),λx hx=>by cases hx⟩
      ·refine⟨a7R (l':=pL (.h 900) (ndR l.length w.aP) N (k+1)) clJ p hp,λx hx=>?_⟩;have:=a7U p hp x hx;omega
     ·obtain⟨a,b,c⟩:=a7S p hp;exact⟨a7Q (l:=pE (ndR l.length w.aP) F RF low) clJ p hp,oM,oM,a,λx hx=>by have:=c x hx;omega⟩
     ·repeat(refine a29 ?_ ?_;· decide)
      exact aP5 G _ j (jI.2 hj)
    ·rintro _ _
     repeat'(first|refine bl ?_|refine Y5 rfl eD oM (aGC l.length w.aP _ oM) (bw ?_))
     rw[aNS]
     rotate_left
     ·repeat(refine aIB rfl ?_)
      exact aLF G _ _ eD
     conv=>whnf
     repeat'(first|refine bl ?_|refine dZ.mk (.d (ci (r:Nat))) [] (aJ.l8 wB ⟨sn,tV⟩ ⟨rfl,rfl,rfl,tV⟩ aLG tV) (bw ?_))
     refine a40 eD (λhh=>?_) (λhh=>by rw[aX9]at hh;cases hh);rw[aXR];conv=>whnf
     refine bl ?_;refine lG.mk i rfl (by simp only[cE,hoL];exact hi) ?_;conv=>whnf
     skip
     refine fZ.mk [.h 903] (by rw[aDN (by rw[hoL];exact hi)]) ?_;conv=>whnf
     skip
     rw[aNS]
     rotate_left
     ·repeat(refine aIB rfl ?_)
      exact aLF G _ _ eD
     rw[show decide ((zc Tryz.prog 8 55).length=Tryz.prog.cellsOf 55/\0<Tryz.prog.cellsOf 55/\1*Tryz.prog.cellsOf 55<=16777216)=true by kernel_rfl];conv=>whnf
     skip
     rw[aNS]
     rotate_left
     ·repeat(refine aIB rfl ?_)
      exact aLF G _ _ eD
     rw[a5F]
     rotate_left
     ·kernel_rfl
     rw[a52]
     rotate_left
     ·kernel_rfl
     rw[show decide (47=47/\(zc Tryz.prog 8 55).length=Tryz.prog.cellsOf 55/\0<Tryz.prog.cellsOf 55/\0<Tryz.prog.bytesOf 55)=true by kernel_rfl];conv=>whnf
     skip
     refine n8 (by simp only[cE,aS,bE,aB];omega) kK ?_;conv=>whnf
     skip
     refine lG.mk i rfl (by simp only[cE,hoL];exact hi) ?_;conv=>whnf
     skip
     refine fZ.mk [.h 903] (by rw[aDN (by rw[hoL];exact hi)]) ?_;conv=>whnf
     refine bl ?_;refine⟨k+1+1,oM,oM,?_⟩;dsimp only[aQ8,aPO];have hRF2:aJF low (k+1+1)=RF:=by rw[<-hRF];unfold aJF;rw[e1]
     rw[e1,hGn,hRF2,e2];have hgs:(G.set i (G.getD i []++[aN2 l.length w.aP (k+1)])).getD i []=G.getD i []++[aN2 l.length w.aP (k+1)]:=by
      rw[bF,aDN oM];rfl
     refine a7V 900 2724 i Gn _ clJ clJ rfl ?_ ?_ (λj hj hjn=>?_) clJ clJ
     ·show(((aD0 Gn).set i [.h 903]).set i [.h 2724]).map _=_;rw[List.set_set];exact a5W hi eD
     ·rw[hgs,bP];refine congrArg (λq=>some (R.fW false 55 3 q)) ?_;simp[bE];rfl
     ·repeat(refine a29 ?_ ?_;· decide)
      rw[aP5 G _ j (a39.2 ⟨jI.2 hj,by simpa using hjn⟩),bF,bF,aBJ (λq=>hjn q.symm)]
  ·obtain rfl:k=N:=oM;refine bl ?_;refine O8.f (aU0 oM) ?_;refine bl ?_;refine⟨(),tV,cN.sub tV ⟨rfl,tV⟩ (a33 (a3C (E:=[(1016,.cells false [.d (.sl 3 (ndR l.length w.aP)),.h 1000,.h 902]),(1000,.mp false (iZ F) []),(902,dU 3 1 (iN low)),(97,.mp false (iZ (aJF low k)) [])]) ?_ low _ _)) (a6A ..) (a59 ..)⟩;intro p hp;simp only[aO,K9,or_false]at hp;rcases hp with rfl|rfl|rfl|rfl<;>(dsimp only;omega)
 rintro _ _;cases hNN:N with
 |zero=>
  dsimp only[aQ8,aPO];refine bl ?_;exact .eL (cs:=[.sl 1 [],ci 0]) (.cons (.nz _ _) (.cons (.d _) .nil))
 |succ k=>
  dsimp only[aQ8,aPO];refine bl ?_;refine .eL (cs:=[.sl 1 _,ci 0]) (.cons (.os (t:=47) (fz:=false) rfl (a50 _ ?_ ?_)) (.cons (.d _) .nil))
  ·unfold aGB;rw[aB]
  ·intro j hj;exact a3C (E:=[]) (λp hp=>by cases hp) low _ (k+1) _ (uE _ (aA4.2 ⟨j,jI.2 hj,rfl⟩))
def pS0:List (Nat×R):=[(1016,.cells false [.d (.nl 3),.h 1000,.d (.nl 1)]),(1000,.mp false (iZ []) [])]
def a4N:H9 pS0 pS0:=⟨⟨sn,tV⟩,aEP,tV⟩
def a0T(w:D4)(hw:w.qV)(hT0:w.aT4=[]):aJ Tryz.prog 55 [.d (.ip w.aT1),.d (.sl 4 [])] (aK []) (.ok (.lp 1016 0)) (aH (aK []) pS0):=by
 have hv:Nd0 0 (.d (.nl 3)) .dead:=⟨.inr ⟨rfl,rfl,rfl⟩⟩;refine wE mix 992 Tryz.func55 ⟨sn,tV⟩ ⟨⟨sn,tV⟩,aEP,tV⟩ ?_;refine bl ?_;refine cY mix (λ_:Unit=>True) (I:=λ_=>[(0,.d (.ip w.aT1)),(1,.d (.sl 4 [])),(5,.lp 1024 0),(21,.d (ci 0)),(22,.d (ci 0))])
  (J:=λ_=>[(1024,.cells false [.lp 1016 0]),(1016,.cells false [.d (.nl 3),.h 1000,.d (.nl 1)]),(1000,.mp false (iZ []) [])]) (μ:=λ_=>0) 2000 () 0
  (λ_:Unit=>True) (λ_=>[(0,.d (.ip w.aT1)),(1,.d (.sl 4 [])),(5,.lp 1024 0)]) (λ_=>[(1024,.cells false [.lp 1016 0]),(1016,.cells false [.d (.nl 3),.h 1000,.d (.nl 1)]),(1000,.mp false (iZ []) []),(940,.dead)]) 3000 tV mZ ?_ ?_
 ·rintro _ _;refine bl ?_;refine⟨(),tV,cN.trans (cN.dead 940 rfl) ?_⟩;exact mZ
 rintro _ _
 repeat'(first|refine bl ?_|refine fQ (aXA w) 7100 rfl (bw ?_))
 refine wz ?_;refine a4F 7001 7000 50000 [] [(7100,.cells false [.d (.ip w.aT1)]),(1024,.cells false [.lp 1016 0]),(1016,.cells false [.d (.nl 3),.h 1000,.d (.nl 1)]),(1000,.mp false (iZ []) []),(940,.dead)]
  (.inl rfl) rfl rfl rfl (aTW w hw 0 hv (λml' q1 q2=>?_) hT0 ?_) ?_ ?_ ?_ ?_ ?_ ?_ ?_ ?_ ?_
 ·repeat'(first|exact aW|assumption|refine bI ?_ ?_)
 ·refine⟨rfl,rfl,rfl,rfl,rfl,rfl,tV⟩
 ·exact⟨sn,sn,tV⟩
 ·refine⟨?_,?_⟩
  ·repeat'(first|exact aW|exact sn|refine bI ?_ ?_)
  ·repeat'(first|exact aW|exact sn|exact aEP|refine bI ?_ ?_)
 ·trivial
 ·exact rfl
 ·repeat'(first|exact aW|exact rfl|refine bI ?_ ?_)
 ·repeat'(first|exact aW|exact sn|refine bI ?_ ?_)
 ·repeat'(first|exact aW|exact sn|exact aEP|refine bI ?_ ?_)
 ·trivial
 refine bl ?_;refine cY mix (λ_:Unit=>True) (I:=λ_=>[(0,.d (.ip w.aT1)),(1,.d (.sl 4 [])),(5,.lp 1024 0),(66,.d (ci 0)),(67,.d (ci 0))])
  (J:=λ_=>(1024,.cells false [.lp 1016 0])::pS0) (μ:=λ_=>0) 60000 () 4
  (λ_:Unit=>True) (λ_=>[(0,.d (.ip w.aT1)),(1,.d (.sl 4 [])),(5,.lp 1024 0)]) (λ_=>(1024,.cells false [.lp 1016 0])::pS0) 70000 tV (by dsimp only[pS0];exact mZ) ?_ ?_
 ·rintro _ _;refine bl ?_;exact⟨(),tV,by dsimp only[pS0];exact mZ⟩
 rintro _ _;refine bl ?_;refine cY mix (λ_:Unit=>True) (I:=λ_=>[(0,.d (.ip w.aT1)),(1,.d (.sl 4 [])),(5,.lp 1024 0),(84,.d (.nl 3)),(85,.d (ci 0)),(86,.d (ci 0))])
  (J:=λ_=>(1024,.cells false [.lp 1016 0])::pS0) (μ:=λ_=>0) 80000 () 6
  (λ_:Unit=>True) (λ_=>[(5,.lp 1024 0)]) (λ_=>(1024,.cells false [.lp 1016 0])::pS0) 90000 tV (by dsimp only[pS0];exact mZ) ?_ ?_
 ·rintro _ _;refine bl ?_;exact⟨(),tV,by dsimp only[pS0];exact mZ⟩
 rintro _ _;refine bl ?_;unfold pS0;exact em
def a1T(is:Bool)(who ref n:Int):aJ Tryz.prog 57 [.lp 1016 0,.d (.agg [cb is,ci who,ci ref]),.d (ci n)] (aK pS0) (.ok (.eL [.d (ci (KR [] is who ref n).1),.d (ci (KR [] is who ref n).2)])) (aH (aK pS0) []):=by
 refine wE mix 2000 Tryz.func57 tV tV ?_;cases is with
 |false=>
  repeat'(first|refine bl ?_|refine bS (λh=>?_) (λh=>?_))
  all_goals first
   |(have e:KR [] false who ref n=(0,2):=by unfold KR;rw[aUF rfl,aUF oM]
     rw[e]
     exact em;done)
   |(have e:KR [] false who ref n=(who,0):=by unfold KR;rw[aUF rfl,aT7 oM]
     rw[e]
     exact em;done)
 |true=>
  repeat'(first|refine bl ?_|refine bS (λh=>?_) (λh=>?_))
  ·have e:KR [] true who ref n=(0,2):=by unfold KR;rw[aT7 sM,aUF oM]
   rw[e];exact em
  ·have GY:¬who≠0:=oM;refine a40 eD (λhr=>by cases hr) (λhr=>?_);conv=>whnf
   refine bl ?_;have e:KR [] true who ref n=(0,5):=by unfold KR;rw[aT7 sM,aT7 GY,aT7 (by simp[hr])]
   rw[e];exact em
def a1N(is:Bool)(who ref:Int):(KR [] is who ref 0).2≠0:=by
 cases is with
 |false=>
  unfold KR;rw[aUF rfl];split
  ·decide
  ·omega
 |true=>
  unfold KR;rw[aT7 sM];split
  ·decide
  ·rw[aT7 (by rw[show kJ [] ref=false from rfl];simp)];decide
def a5X(w:D4)(hw:w.qV)(hT0:w.aT4=[])(a b:Nd):Pu 16 [.d (.ip w.aT1),.d (.agg (ndC a)),.d (.agg (ndC b)),.d (.sl 4 [])] (.eL [.d (cb (w.pjB [] a b)),.d (ci (w.pjE [] a b))]):=by
 have hmy:=yG w hw [] (Nat.zero_le _) (λi h=>by cases h);have hme:w.s8 []=0:=rfl;rw[hme]at hmy;have hjo:=a0T w hw hT0;have hF:w.pR []=[]:=by unfold D4.pR D4.aP;rw[hT0];rfl
 have a5M:=a1T a.1 a.2.1 a.2.2 0;have a5N:=a1T b.1 b.2.1 b.2.2 0;obtain⟨p1,p2,p3⟩:=aQC w [] a;obtain⟨q1,q2,q3⟩:=aQC w [] b;have hje:=a4P p3 q3;have hE:w.pjE [] a b=aIC w.mI 0 a b:=by unfold D4.pjE;rw[aT7 (by rw[hme];simp)];rfl
 rw[show aIC w.mI ([]:List U4).length a b=aIC w.mI 0 a b from rfl,hF]at hje;have n1:=a1N a.1 a.2.1 a.2.2;have n2:=a1N b.1 b.2.1 b.2.2;have hB:w.pjB [] a b=false:=by
  unfold D4.pjB;rw[hE,hje,aT7];show ¬(if(KR [] a.1 a.2.1 a.2.2 0).2=2\/(KR [] b.1 b.2.1 b.2.2 0).2=2 then(2:Int)else if(KR [] a.1 a.2.1 a.2.2 0).2≠0\/(KR [] b.1 b.2.1 b.2.2 0).2≠0 then 5 else 0)=0;split
  ·decide
  ·rw[aUF (.inl n1)];decide
 rw[hB,hE,hje];clear p1 p2 p3 q1 q2 q3 hje hE hB;show ∀m,aJ Tryz.prog 16 _ m (.ok (.eL [.d (cb false),.d (ci (if(KR [] a.1 a.2.1 a.2.2 0).2=2\/(KR [] b.1 b.2.1 b.2.2 0).2=2 then(2:Int)else if(KR [] a.1 a.2.1 a.2.2 0).2≠0\/(KR [] b.1 b.2.1 b.2.2 0).2≠0 then 5 else 0))])) m;generalize(KR [] a.1 a.2.1 a.2.2 0).2=e1 at*;generalize(KR [] b.1 b.2.1 b.2.2 0).2=e2 at*;generalize(KR [] a.1 a.2.1 a.2.2 0).1=k1 at*;generalize(KR [] b.1 b.2.1 b.2.2 0).1=k2 at*;refine iC mix Tryz.func16 ?_
 repeat'(first|refine bl ?_|refine bS (λh=>?_) (λh=>?_)|refine aF hmy (bw ?_)|refine dZ.mk (.lp 1016 0) pS0 (aJ.l8 hjo tV tV tV ⟨.inr rfl,.inr rfl,tV⟩) (bw ?_)|(refine dZ.mk (.eL [.d (ci k1),.d (ci e1)]) [] ((aJ.l8 a5M ⟨sn,tV⟩ ⟨rfl,rfl,tV⟩ a4N tV).mR (.cons (.same _) (.cons (.agg (ndC a)) (.cons (.same _) .nil)))) ?_;(conv=>whnf))|(refine dZ.mk (.eL [.d (ci k2),.d (ci e2)]) [] ((aJ.l8 a5N ⟨sn,tV⟩ ⟨rfl,rfl,tV⟩ a4N tV).mR (.cons (.same _) (.cons (.agg (ndC b)) (.cons (.same _) .nil)))) ?_;(conv=>whnf)))
 all_goals first
  |(exfalso;omega)
  |(rw[aUF (by omega:e1=2\/e2=2)]
    exact .eL (cs:=[cb _,ci _]) (.cons (.d _) (.cons (.d _) .nil)))
  |(rw[aT7 (by omega:¬(e1=2\/e2=2)),aUF (by omega:e1≠0\/e2≠0)]
    exact .eL (cs:=[cb _,ci _]) (.cons (.d _) (.cons (.d _) .nil)))
def a6B(w:D4)(hw:w.qV)(hT0:w.aT4=[]):Pu 14 [.d (.ip w.aT1),.d (.sl 4 [])] (.eL [.d (.sl 1 []),.d (ci 0)]):=by
 have hmy:=yG w hw [] (Nat.zero_le _) (λi h=>by cases h);have hme:w.s8 []=0:=rfl;rw[hme]at hmy;have hjo:=a0T w hw hT0;refine iC mix Tryz.func14 ?_
 repeat'(first|refine bl ?_|refine aF hmy (bw ?_)|refine dZ.mk (.lp 1016 0) pS0 (aJ.l8 hjo tV tV tV ⟨.inr rfl,.inr rfl,tV⟩) (bw ?_))
 refine cY mix (λ_:Unit=>True) (I:=λ_=>[(7,.lp 1016 0),(8,.h 97),(9,.d (.nl 1)),(28,.d (.nl 3)),(29,.d (ci 0)),(30,.d (ci 0))])
  (J:=λ_=>(97,.mp false (iZ []) [])::pS0) (μ:=λ_=>0) 2000 () 0
  (λ_:Unit=>True) (λ_=>[(9,.d (.nl 1))]) (λ_=>[]) 9000 tV (by dsimp only[pS0];exact mZ) ?_ ?_
 ·rintro _ _;refine bl ?_;exact⟨(),tV,mZ⟩
 rintro _ _;refine bl ?_;exact .eL (cs:=[.sl 1 [],ci 0]) (.cons (.nz _ _) (.cons (.d _) .nil))
def a41(w:D4)(hw:w.qV)(l:List U4)(hl:l.length<=2^30)(hu:∀i(h:i<l.length),l[i].gA)(hme:¬l.all w.zE=true):Pu 14 [.d (.ip w.aT1),.d (.sl 4 (l.map U4.aT1))] (.eL [.d (.sl 1 []),.d (ci 190)]):=by
 have hmy:=yG w hw l hl hu;rw[show w.s8 l=190 by unfold D4.s8;rw[aT7 hme]]at hmy;refine iC mix Tryz.func14 ?_
 repeat'(first|refine bl ?_|refine aF hmy (bw ?_))
 exact .eL (cs:=[.sl 1 [],ci 190]) (.cons (.nz _ _) (.cons (.d _) .nil))
def a4W(w:D4)(hw:w.qV)(l:List U4)(hl:l.length<=2^30)(hu:∀i(h:i<l.length),l[i].gA)(hck:l.all w.zE=true):Pu 14 [.d (.ip w.aT1),.d (.sl 4 (l.map U4.aT1))] (.eL [.d (.sl 1 ((aGB l.length w.aP (w.aEI l) (w.KB l)).map λp=>[.sl 3 (p.map ndC)])),.d (ci 0)]):=by
 by_cases h:l≠[]\/w.aT4≠[]
 ·exact a42 w hw l hl hu (by unfold D4.s8;rw[aUF hck]) (a3Q w hw l hl hu h)
 ·have h1:l=[]:=aJP.1 λq=>h (.inl q);have h2:w.aT4=[]:=aJP.1 λq=>h (.inr q);subst h1;have hN:w.KB []=0:=by unfold D4.KB D4.aP;rw[h2];rfl
  rw[hN];exact a6B w hw h2
def a35(w:D4)(hw:w.qV)(l:List U4)(hl:l.length<=2^30)(hu:∀i(h:i<l.length),l[i].gA)(a b:Nd):Pu 16 [.d (.ip w.aT1),.d (.agg (ndC a)),.d (.agg (ndC b)),.d (.sl 4 (l.map U4.aT1))] (.eL [.d (cb (w.pjB l a b)),.d (ci (w.pjE l a b))]):=by
 by_cases h:l≠[]\/w.aT4≠[]
 ·exact a4D w hw l hl hu (a3Q w hw l hl hu h) a b
 ·have h1:l=[]:=aJP.1 λq=>h (.inl q);have h2:w.aT4=[]:=aJP.1 λq=>h (.inr q);subst h1;exact a5X w hw h2 a b
def a63(x:Nd):decide ([KC.bool x.1,KC.int IntKind.i64 x.2.1,KC.int IntKind.i64 x.2.2]=[KC.bool x.1,KC.int IntKind.i64 x.2.1,KC.int IntKind.i64 x.2.2])=true:=aUZ rfl
def a4O{α:Type}{es ce:Nat}{L:List α}{f:α->List C}{n:Int}{k:List C->Prop}(i:Nat)(e:n=(i:Int))(h1:es=ce)(h2:0<es)(hi:i<L.length)(hk:k (f L[i])):PA es ce (L.map f) n k:=by subst e;exact cD h1 h2 hi hk
def a3S(x:X4)(l:List U4)(B:List Nd)(hJ:aSB x l)(hB:B.length<=2^30):Pu 4 [.d (.agg x.aT1),.d (.sl 4 (l.map U4.aT1)),.d (.sl 3 (B.map ndC))] (.d (cb true)):=by
 refine iC mix Tryz.func4 ?_;have hfi:=aAA x l (λt ht=>⟨cL (hJ.cR t ht).1 (bD rfl),(hJ.cR t ht).2⟩) (cL hJ.ll (bD rfl)) (cL hJ.tl (bD rfl));cases hf:CI x l with
 |false=>
  rw[hf]at hfi
  repeat'(first|refine bl ?_|refine dR hfi (.cons (.agg x.aT1) (.cons (.same _) .nil)) (bw ?_)|refine aF D9 (bw ?_))
  exact dP rfl
 |true=>
  rw[hf]at hfi;by_cases hlen:20<(B.length:Int)
  ·skip
   repeat'(first|refine bl ?_|refine bS (λh=>?_) (λh=>?_)|refine dR hfi (.cons (.agg x.aT1) (.cons (.same _) .nil)) (bw ?_)|refine aF D9 (bw ?_))
   all_goals first|(exfalso;omega)|exact dP rfl
  cases hb:y9 x with
  |false=>
   have hbo:=aV0 hJ hf hb
   repeat'(first|refine bl ?_|refine bS (λh=>?_) (λh=>?_)|refine dR hfi (.cons (.agg x.aT1) (.cons (.same _) .nil)) (bw ?_)|refine dR hbo (.cons (.agg x.aT1) .nil) (bw ?_)|refine aF D9 (bw ?_))
   all_goals first|(exfalso;omega)|exact dP rfl
  |true=>
   have hR:=aU4 hJ hf hb;have hbo:=aV1 hR;have a5I:∀i(h:i<l.length),l[i].gA:=λi h=>hR.gA _ (aY h);have hsu:=aTI (rW x) hR.v l hR.ll hR.wD;rw[<-hR.ck]at hsu;have hll:l.length<=2^20:=by have:=hR.l12;omega
   have a6Y:∀u∈l,V.dB (u.names.map (·.value))<=2^30/\u.names.length<=2^34:=λu hu=>⟨cL (hR.nm u hu) (bD rfl),(hR.gA u hu).nlen⟩;have hjn:=a35 (bJ x) hR.w l hR.ll a5I;by_cases hck:l.all (bJ x).zE=true
   ·have hpa:=a4W (bJ x) hR.w l hR.ll a5I hck;have hpb:=aTH (rW x) hR.v l hll a6Y;rw[(rW x).a4U]at hpb;have hGl:=(rW x).aSP hR.v l hll;have hjd:=a3E (rW x) hR.v l hll a6Y;rw[<-hR.parts_eq hck]at hpa;have hje:=hR.a4Y hck;have a6N:∀a b,Pu 16 [.d (.ip (bJ x).aT1),.d (.agg (ndC a)),.d (.agg (ndC b)),.d (.sl 4 (l.map U4.aT1))] (.eL [.d (cb (aSL (rW x).mI l.length ((rW x).aLV l) a b)),.d (ci (aIC (rW x).mI l.length a b))]):=λa b=>by
     have:=hjn a b;rw[(hje a b).1,(hje a b).2]at this;exact this
    rw[hck]at hsu;generalize(rW x).aLV l=G at*
    repeat'(first|refine bl ?_|refine bS (λh=>?_) (λh=>?_)|refine dR hfi (.cons (.agg x.aT1) (.cons (.same _) .nil)) (bw ?_)|refine dR hbo (.cons (.agg x.aT1) .nil) (bw ?_)|refine aF hpa (bw ?_)|refine aF hsu (bw ?_)|refine aF hpb (bw ?_))
    all_goals try(exfalso;omega)
    have hgl:G.length<=2^40:=hGl.1;have aZY:∀x y:Nd,(Ky.fits Tryz.prog 55 (Ky.agg [KC.bool x.1,KC.int IntKind.i64 x.2.1,KC.int IntKind.i64 x.2.2])&&(Ky.agg [KC.bool x.1,KC.int IntKind.i64 x.2.1,KC.int IntKind.i64 x.2.2]).same (Ky.agg [KC.bool y.1,KC.int IntKind.i64 y.2.1,KC.int IntKind.i64 y.2.2])&& !Tryz.prog.eqGuardType Tryz.prog.depth 55)=true:=λx y=>kK;refine cY mix (λi:Nat=>i<=G.length) (I:=λi=>[(1,.d (.sl 4 (l.map U4.aT1))),(2,.d (.sl 3 (B.map ndC))),(7,.d (.ip (bJ x).aT1)),(8,.d (.ip (rW x).aT1)),(9,.d (.sl 1 (G.map λp=>[.sl 3 (p.map ndC)]))),(14,.d (.sl 1 (G.map λp=>[.sl 3 (p.map ndC)]))),(15,.d (ci i))]) (J:=λ_=>[]) (μ:=λi=>G.length -i) 20000 0 2
     (λ_:Unit=>True) (λ_=>[(1,.d (.sl 4 (l.map U4.aT1))),(2,.d (.sl 3 (B.map ndC))),(7,.d (.ip (bJ x).aT1)),(8,.d (.ip (rW x).aT1))]) (λ_=>[]) 30000 oM mZ ?_ ?_
    ·intro i hi;by_cases cX:i<G.length
     ·have hpl:=hGl.2 _ (aY cX)
      repeat'(first|with_reducible (first|refine w1 ?_|refine w2 ?_|refine w3 ?_|refine w4 ?_|refine w5 ?_|refine w8 ?_|refine w9 ?_|refine wa ?_|refine wb ?_|refine wd ?_|refine wk ?_|refine wl ?_|refine nN.mk ?_)|((with_reducible (first|refine wr ?_|refine wi ?_|refine wx ?_));(conv=>whnf))|((with_reducible refine wt eD kK ?_);(conv=>whnf))|((with_reducible refine nQ (λh=>?_) (λh=>?_))<;>(try rw[h])<;>(conv at h=>{simp}))|((refine cD rfl eD cX ?_);(conv=>whnf)))
      all_goals try(exfalso;omega)
      refine cY mix (λk:Nat=>k<=G[i].length) (I:=λk=>[(1,.d (.sl 4 (l.map U4.aT1))),(2,.d (.sl 3 (B.map ndC))),(7,.d (.ip (bJ x).aT1)),(8,.d (.ip (rW x).aT1)),(9,.d (.sl 1 (G.map λp=>[.sl 3 (p.map ndC)]))),(14,.d (.sl 1 (G.map λp=>[.sl 3 (p.map ndC)]))),(15,.d (ci i)),(16,.d (ci k))]) (J:=λ_=>[]) (μ:=λk=>G[i].length -k) 22000 0 4
       (λ_:Unit=>True) (λ_=>[(1,.d (.sl 4 (l.map U4.aT1))),(2,.d (.sl 3 (B.map ndC))),(7,.d (.ip (bJ x).aT1)),(8,.d (.ip (rW x).aT1)),(9,.d (.sl 1 (G.map λp=>[.sl 3 (p.map ndC)]))),(14,.d (.sl 1 (G.map λp=>[.sl 3 (p.map ndC)]))),(15,.d (ci i))]) (λ_=>[]) 24000 oM mZ ?_ ?_
      ·intro k hk;by_cases hlk:k<G[i].length
       ·skip
        repeat'(first|refine bl ?_|refine cD rfl eD cX (bw ?_))
        refine O8.t (aUZ (by(try simp only[aB]);omega)) ?_
        repeat'(first|with_reducible (first|refine w1 ?_|refine w2 ?_|refine w5 ?_|refine w9 ?_)|((with_reducible refine wt eD kK ?_);(conv=>whnf))|((refine cD rfl eD cX ?_);(conv=>whnf))|((refine cD rfl eD hlk ?_);(conv=>whnf)))
        rw[aZY,a63];conv=>whnf
        refine bl ?_;exact⟨k+1,oM,oM,mZ⟩
       ·skip
        repeat'(first|refine bl ?_|refine cD rfl eD cX (bw ?_))
        refine O8.f (aU0 (by(try simp only[aB]);omega)) ?_;refine bl ?_;exact⟨(),tV,mZ⟩
      rintro _ _;refine bl ?_;exact⟨i+1,oM,oM,mZ⟩
     ·skip
      refine bl ?_;refine O8.f (aU0 (by(try simp only[aB]);omega)) ?_;refine bl ?_;exact⟨(),tV,mZ⟩
    rintro _ _;refine bl ?_;refine bV mix (λi:Nat=>i<=B.length) (I:=λi=>[(1,.d (.sl 4 (l.map U4.aT1))),(2,.d (.sl 3 (B.map ndC))),(7,.d (.ip (bJ x).aT1)),(8,.d (.ip (rW x).aT1)),(17,.d (ci i))]) (J:=λ_=>[]) (μ:=λi=>B.length -i) 40000 0 oM mZ ?_;intro i hi;by_cases cX:i+1<B.length
    ·have aZI:i<B.length:=oM
     repeat'(first|with_reducible (first|refine w1 ?_|refine w2 ?_|refine w3 ?_|refine w4 ?_|refine w5 ?_|refine w9 ?_|refine wa ?_|refine wb ?_|refine wc ?_|refine wd ?_|refine we ?_|refine nN.mk ?_|refine O8.t rfl ?_|refine O8.f rfl ?_)|((with_reducible (first|refine wr ?_|refine wi ?_|refine wx ?_|refine wh ?_));(conv=>whnf))|((with_reducible refine wt eD kK ?_);(conv=>whnf))|((with_reducible refine FC.mk (RG (by(try dsimp only);omega) (by(try dsimp only);omega)) ?_);(conv=>whnf))|((with_reducible refine nQ (λh=>?_) (λh=>?_))<;>(try rw[h])<;>(conv at h=>{simp}))|((refine cD rfl eD aZI ?_);(conv=>whnf))|((refine a4O (i+1) rfl rfl eD cX ?_);(conv=>whnf))|((refine XD.mk _ (a6N B[i] B[i+1]) ?_);(conv=>whnf))|((refine XD.mk _ (hjd B[i] B[i+1]) ?_);(conv=>whnf)))
     all_goals first|exact⟨i+1,oM,oM,mZ⟩|(exfalso;omega)|(exfalso;simp_all;done)|skip
    ·skip
     refine bl ?_;refine O8.f (aU0 (by(try simp only[aB]);omega)) ?_
     repeat'(first|refine bl ?_|refine aF D9 (bw ?_))
     exact dP rfl
   ·have hpa:=a41 (bJ x) hR.w l hR.ll a5I hck;have hE:∀a b,(bJ x).pjE l a b=190:=λa b=>by unfold D4.pjE D4.s8;rw[aT7 hck];rfl
    have hBb:∀a b,(bJ x).pjB l a b=false:=λa b=>by unfold D4.pjB;rw[hE,aT7 eD]
    have a6N:∀a b,Pu 16 [.d (.ip (bJ x).aT1),.d (.agg (ndC a)),.d (.agg (ndC b)),.d (.sl 4 (l.map U4.aT1))] (.eL [.d (cb false),.d (ci 190)]):=λa b=>by
     have:=hjn a b;rw[hE a b,hBb a b]at this;exact this
    rw[show l.all (bJ x).zE=false by simpa using hck]at hsu
    repeat'(first|refine bl ?_|refine bS (λh=>?_) (λh=>?_)|refine dR hfi (.cons (.agg x.aT1) (.cons (.same _) .nil)) (bw ?_)|refine dR hbo (.cons (.agg x.aT1) .nil) (bw ?_)|refine aF hpa (bw ?_)|refine aF hsu (bw ?_))
    all_goals try(exfalso;omega)
    refine bV mix (λi:Nat=>i<=B.length) (I:=λi=>[(1,.d (.sl 4 (l.map U4.aT1))),(2,.d (.sl 3 (B.map ndC))),(7,.d (.ip (bJ x).aT1)),(9,.d (.sl 1 [])),(10,.d (ci 190)),(11,.d (ci i))]) (J:=λ_=>[]) (μ:=λi=>B.length -i) 20000 0 oM mZ ?_;intro i hi;by_cases cX:i+1<B.length
    ·have aZI:i<B.length:=oM
     repeat'(first|with_reducible (first|refine w1 ?_|refine w2 ?_|refine w3 ?_|refine w5 ?_|refine w9 ?_|refine wa ?_|refine wc ?_|refine we ?_|refine nN.mk ?_|refine O8.t rfl ?_|refine O8.f rfl ?_)|((with_reducible (first|refine wr ?_|refine wi ?_|refine wg ?_|refine wh ?_));(conv=>whnf))|((with_reducible refine wt eD kK ?_);(conv=>whnf))|((with_reducible refine FC.mk (RG (by(try dsimp only);omega) (by(try dsimp only);omega)) ?_);(conv=>whnf))|((with_reducible refine nQ (λh=>?_) (λh=>?_))<;>(try rw[h])<;>(conv at h=>{simp}))|((refine cD rfl eD aZI ?_);(conv=>whnf))|((refine a4O (i+1) rfl rfl eD cX ?_);(conv=>whnf))|((refine XD.mk _ (a6N B[i] B[i+1]) ?_);(conv=>whnf)))
     all_goals first|exact⟨i+1,oM,oM,mZ⟩|(exfalso;omega)|skip
    ·skip
     refine bl ?_;refine O8.f (aU0 (by(try simp only[aB]);omega)) ?_
     repeat'(first|refine bl ?_|refine aF D9 (bw ?_))
     exact dP rfl
def a7K:Tryz.prog.underlying 47=some (.slice 55):=kK
def a7B:Tryz.prog.cellsOf 55=3:=kK
def a7L:u7 Tryz.prog 55=some [4,3,25]:=kK
def a7I{H:Type}{enc:TypeId×Value->H}{w:World}{cs:List Value}{d:DataW H}(h:PB w enc n 47 cs d):∃l:List Nd,sL w [.sl 3 (l.map ndC)] cs/\l.length+1<=rI d:=by
 obtain⟨l,h1,h2,_⟩:=oV ndC (λ_=>1) (λ_=>True) 3 a7K a7B eD (λk hk cs d h=>by
  obtain⟨k,ds,rfl,hb,hf⟩:=p9 a7L h;obtain⟨a0,b0,d0,r0,rfl,rfl,h0,hf⟩:=hf;obtain⟨a1,b1,d1,r1,rfl,rfl,h1,hf⟩:=hf;obtain⟨a2,b2,d2,r2,rfl,rfl,h2,hf⟩:=hf;obtain⟨rfl,rfl⟩:=hf;obtain⟨x0,g0,m0⟩:=aIP ty4 h0;obtain⟨x1,g1,m1,_⟩:=kQ ty3 h1;obtain⟨x2,g2,m2,_⟩:=kQ W3 h2;have G:=g0.app (g1.app (g2.app sL.nil))
  exact⟨(x0,x1,x2),by simpa [ndC]using G,oM,tV⟩) h
 exact⟨l,h1,by rw[E1]at h2;exact h2⟩
def a5C{H:Type}{enc:TypeId×Value->H}{w:World}{n2 n3:Nat}{a b c:List Value}{d1 d2 d3:DataW H}(h1:PB w enc n 27 a d1)(h2:PB w enc n2 35 b d2)(h3:PB w enc n3 47 c d3)(hB:rI d1+rI d2+rI d3<=1048576):
 ∃(x:X4)(l:List U4)(B:List Nd),aSB x l/\B.length<=2^30/\sL w x.aT1 a/\sL w [.sl 4 (l.map U4.aT1)] b/\sL w [.sl 3 (B.map ndC)] c:=by
 obtain⟨x,g1,p1,p2,p3,p4,p5,p6⟩:=riX h1 oM;obtain⟨l,g2,q1,q2⟩:=a7H h2 oM;obtain⟨B,g3,m3⟩:=a7I h3;exact⟨x,l,B,⟨p1,p2,p3,p4,p5,p6,q1,λu hu=>(q2 u hu).1,λu hu=>(q2 u hu).2.1,λu hu=>(q2 u hu).2.2⟩,oM,g1,g2,g3⟩
end Go.Pv
