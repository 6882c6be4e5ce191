import Derived.Test.YtpdcbahjjmooiaaGreatA33
import Derived.ProofKit
import Derived.OpenShut
import Derived.JoinedCond
import Derived.WideKeyArgs
/- A program logic over the model, contracts of the functions that the law reaches: part 34. (Names and blanks were shortened by program.) -/
set_option linter.unusedVariables false
set_option linter.unusedSimpArgs false
set_option linter.constructorNameAsVariable false
set_option linter.unusedSectionVars false
set_option linter.deprecated false
set_option maxRecDepth 100000
set_option maxHeartbeats 8000000
open Go Go.Proofs
namespace Go.Pv
open Go.RowKit
variable{n:Nat}{cs:List Value}{w:World}
theorem V.oS:∀l:List V,(l.map V.cR).sum=V.dB l
 |[]=>rfl
 |v::r=>by simp only[aG,gU,V.dB,V.oS r]
theorem E4.oS:∀l:List E4,(l.map E4.cR).sum=E4.dB l
 |[]=>rfl
 |v::r=>by simp only[aG,gU,E4.dB,E4.oS r]
theorem S4.oS:∀l:List S4,(l.map S4.cR).sum=S4.dB l
 |[]=>rfl
 |v::r=>by simp only[aG,gU,S4.dB,S4.oS r]
theorem V.rM:∀l:List V,(∀x∈l,x.wt)->V.B5 l
 |[],_=>trivial
 |v::r,h=>⟨h v (by simp),V.rM r λx hx=>h x (by simp[hx])⟩
theorem E4.rM:∀l:List E4,(∀x∈l,x.wt)->E4.B5 l
 |[],_=>trivial
 |v::r,h=>⟨h v (by simp),E4.rM r λx hx=>h x (by simp[hx])⟩
theorem S4.rM:∀l:List S4,(∀x∈l,x.wt/\x.ab)->S4.B5 l/\S4.RF l
 |[],_=>⟨trivial,trivial⟩
 |v::r,h=>by
  have h1:=h v (by simp);have h2:=S4.rM r λx hx=>h x (by simp[hx]);exact⟨⟨h1.1,h2.1⟩,⟨h1.2,h2.2⟩⟩
theorem E1{α:Type}:∀l:List α,(l.map λ_=>1).sum=l.length
 |[]=>rfl
 |v::r=>by simp only[aG,gU,aQ,E1 r];omega
theorem ZA{α:Type}(f:α->V):∀l:List α,(l.map λx=>(f x).cR+1).sum=V.dB (l.map f)+l.length
 |[]=>rfl
 |v::r=>by simp only[aG,gU,aQ,V.dB,ZA f r];omega
theorem aMV:V.row=V.cells:=funext V.cP
theorem aNA:E4.row=E4.cells:=funext E4.cP
theorem aMI:S4.row=S4.cells:=funext S4.cP
theorem U3:IntKind.u8.min=0/\IntKind.u8.max=255:=by decide
theorem BQ:IntKind.i64.min=-9223372036854775808/\IntKind.i64.max=9223372036854775807:=by decide
section
variable{H:Type}{enc:TypeId×Value->H}{w:World}
abbrev PB(w:World)(enc:TypeId×Value->H)(n:Nat)(t:TypeId)(cs:List Value)(d:DataW H):Prop:=TrD enc Tryz.prog w n t cs d
theorem aN3:Tryz.prog.underlying 85=some (.int .u8):=by kernel_rfl
theorem ty2:Tryz.prog.underlying 2=some (.int .i64):=by kernel_rfl
theorem W3:Tryz.prog.underlying 25=some (.int .i64):=by kernel_rfl
theorem aMR:Tryz.prog.underlying 84=some (.int .u8):=by kernel_rfl
theorem aK8:Tryz.prog.underlying 28=some (.int .i64):=by kernel_rfl
theorem aMT:Tryz.prog.underlying 89=some (.int .u8):=by kernel_rfl
theorem aML:Tryz.prog.underlying 203=some (.int .u8):=by kernel_rfl
theorem aMM:Tryz.prog.underlying 204=some (.int .u8):=by kernel_rfl
theorem ty3:Tryz.prog.underlying 3=some (.int .i64):=by kernel_rfl
theorem ty9:Tryz.prog.underlying 9=some .string:=by kernel_rfl
theorem ty4:Tryz.prog.underlying 4=some .bool:=by kernel_rfl
theorem aMS:Tryz.prog.underlying 86=some (.slice 88):=by kernel_rfl
theorem aLS:Tryz.prog.cellsOf 88=5:=by kernel_rfl
theorem aMN:Tryz.prog.underlying 205=some (.slice 207):=by kernel_rfl
theorem aLQ:Tryz.prog.cellsOf 207=4:=by kernel_rfl
theorem aIQ:Tryz.prog.underlying 29=some (.slice 210):=by kernel_rfl
theorem aGS:Tryz.prog.cellsOf 210=17:=by kernel_rfl
theorem aMP:Tryz.prog.underlying 208=some (.slice 9):=by kernel_rfl
theorem aLR:Tryz.prog.cellsOf 9=1:=by kernel_rfl
theorem aNZ:Tryz.prog.underlying 30=some (.slice 100):=by kernel_rfl
theorem aM7:Tryz.prog.cellsOf 100=6:=by kernel_rfl
theorem aNV:Tryz.prog.underlying 22=some (.slice 28):=by kernel_rfl
theorem aM4:Tryz.prog.cellsOf 28=1:=by kernel_rfl
theorem aNW:Tryz.prog.underlying 23=some (.slice 3):=by kernel_rfl
theorem aM5:Tryz.prog.cellsOf 3=1:=by kernel_rfl
theorem aNX:Tryz.prog.underlying 24=some (.slice 93):=by kernel_rfl
theorem aM6:Tryz.prog.cellsOf 93=17:=by kernel_rfl
theorem aN0:Tryz.prog.underlying 31=some (.slice 25):=by kernel_rfl
theorem aM8:Tryz.prog.cellsOf 25=1:=by kernel_rfl
theorem aN2:Tryz.prog.underlying 35=some (.slice 33):=by kernel_rfl
theorem aM9:Tryz.prog.cellsOf 33=4:=by kernel_rfl
theorem aN4:u7 Tryz.prog 88=some [85,2,9,86,25]:=by kernel_rfl
theorem aMO:u7 Tryz.prog 207=some [204,2,9,205]:=by kernel_rfl
theorem aMQ:u7 Tryz.prog 210=some [203,9,9,89,84,207,207,29,29,29,208]:=by kernel_rfl
theorem aMK:u7 Tryz.prog 100=some [9,88]:=by kernel_rfl
theorem aN5:u7 Tryz.prog 91=some [84,28,88,86,2,2,25,25,89,4,29,30]:=by kernel_rfl
theorem aN6:u7 Tryz.prog 93=some [25,91]:=by kernel_rfl
theorem aNY:u7 Tryz.prog 27=some [22,23,24,25,23]:=by kernel_rfl
theorem aN1:u7 Tryz.prog 33=some [28,29,30,31]:=by kernel_rfl
theorem aNO{d:DataW H}(h:PB w enc n 22 cs d):∃l:List Int,sL w [.sl 1 (iR l)] cs/\l.length+1<=nR d:=by
 obtain⟨l,h1,h2,_⟩:=k8 (λx:Int=>[ci x]) (λ_=>1) (λ_=>True) 1 aNV aM4 (by decide) (λk hk cs d h=>by
  obtain⟨i,h1,h2,_⟩:=kQ aK8 h
  exact⟨i,h1,h2,trivial⟩) h
 exact⟨l,h1,by rw[E1]at h2;exact h2⟩
theorem aMB{d:DataW H}(h:PB w enc n 23 cs d):∃l:List Int,sL w [.sl 1 (iR l)] cs/\l.length+1<=nR d:=by
 obtain⟨l,h1,h2,_⟩:=k8 (λx:Int=>[ci x]) (λ_=>1) (λ_=>True) 1 aNW aM5 (by decide) (λk hk cs d h=>by
  obtain⟨i,h1,h2,_⟩:=kQ ty3 h
  exact⟨i,h1,h2,trivial⟩) h
 exact⟨l,h1,by rw[E1]at h2;exact h2⟩
theorem aNP{d:DataW H}(h:PB w enc n 31 cs d):∃l:List Int,sL w [.sl 1 (iR l)] cs/\l.length+1<=nR d:=by
 obtain⟨l,h1,h2,_⟩:=k8 (λx:Int=>[ci x]) (λ_=>1) (λ_=>True) 1 aN0 aM8 (by decide) (λk hk cs d h=>by
  obtain⟨i,h1,h2,_⟩:=kQ W3 h
  exact⟨i,h1,h2,trivial⟩) h
 exact⟨l,h1,by rw[E1]at h2;exact h2⟩
theorem aMA{d:DataW H}(h:PB w enc n 208 cs d):∃l:List ByteArray,sL w [.sl 1 (l.map λs=>[Go.Pv.cs s])] cs/\l.length+1<=nR d:=by
 obtain⟨l,h1,h2,_⟩:=k8 (λx:ByteArray=>[Go.Pv.cs x]) (λ_=>1) (λ_=>True) 1 aMP aLR (by decide) (λk hk cs d h=>by
  obtain⟨i,h1,h2⟩:=GX ty9 h
  exact⟨i,h1,h2,trivial⟩) h
 exact⟨l,h1,by rw[E1]at h2;exact h2⟩
theorem riV:∀(n:Nat){cs:List Value}{d:DataW H},PB w enc n 88 cs d->∃v:V,sL w v.cells cs/\v.cR<=nR d/\v.wt:=by
 intro n;induction n using Nat.strongRecOn with|_ n ih=>?_
 intro cs d h;obtain⟨k,ds,rfl,hb,hf⟩:=p9 aN4 h;obtain⟨a0,b0,d0,r0,rfl,rfl,h0,hf⟩:=hf;obtain⟨a1,b1,d1,r1,rfl,rfl,h1,hf⟩:=hf;obtain⟨a2,b2,d2,r2,rfl,rfl,h2,hf⟩:=hf;obtain⟨a3,b3,d3,r3,rfl,rfl,h3,hf⟩:=hf;obtain⟨a4,b4,d4,r4,rfl,rfl,h4,hf⟩:=hf;obtain⟨rfl,rfl⟩:=hf;obtain⟨x0,g0,m0,e0,F0⟩:=kQ aN3 h0;obtain⟨x1,g1,m1,e1,F1⟩:=kQ ty2 h1;obtain⟨x2,g2,m2⟩:=GX ty9 h2;obtain⟨l,g3,m3,q3⟩:=k8 V.cells V.cR V.wt 5 aMS aLS (by decide) (λj hj cs d h=>ih j (by omega) h) h3;obtain⟨x4,g4,m4,e4,F4⟩:=kQ W3 h4;simp only[mE]at hb;have hn:rZ ([]:List (DataW H))=0:=rfl
 try simp only[U3.1,U3.2,BQ.1,BQ.2]at*
 have G:=g0.app (g1.app (g2.app (g3.app (g4.app sL.nil))));rw[V.oS]at m3;refine⟨.mk x0 x1 x2 l x4,?_,?_,?_⟩
 ·simpa [V.cells,V.kind,V.n,V.s,V.l,V.r,aMV]using G
 ·simp only[V.cR];omega
 ·exact⟨e0,by omega,V.rM l q3⟩
theorem aNR{d:DataW H}(h:PB w enc n 86 cs d):∃l:List V,sL w [.sl 5 (l.map V.row)] cs/\V.dB l+1<=nR d/\V.B5 l:=by
 obtain⟨l,h1,h2,h3⟩:=k8 V.cells V.cR V.wt 5 aMS aLS (by decide) (λk _ cs d h=>riV k h) h;exact⟨l,by rw[aMV];exact h1,by rw[V.oS]at h2;exact h2,V.rM l h3⟩
theorem riE:∀(n:Nat){cs:List Value}{d:DataW H},PB w enc n 207 cs d->∃v:E4,sL w v.cells cs/\v.cR<=nR d/\v.wt:=by
 intro n;induction n using Nat.strongRecOn with|_ n ih=>?_
 intro cs d h;obtain⟨k,ds,rfl,hb,hf⟩:=p9 aMO h;obtain⟨a0,b0,d0,r0,rfl,rfl,h0,hf⟩:=hf;obtain⟨a1,b1,d1,r1,rfl,rfl,h1,hf⟩:=hf;obtain⟨a2,b2,d2,r2,rfl,rfl,h2,hf⟩:=hf;obtain⟨a3,b3,d3,r3,rfl,rfl,h3,hf⟩:=hf;obtain⟨rfl,rfl⟩:=hf;obtain⟨x0,g0,m0,e0,F0⟩:=kQ aMM h0;obtain⟨x1,g1,m1,e1,F1⟩:=kQ ty2 h1;obtain⟨x2,g2,m2⟩:=GX ty9 h2;obtain⟨l,g3,m3,q3⟩:=k8 E4.cells E4.cR E4.wt 4 aMN aLQ (by decide) (λj hj cs d h=>ih j (by omega) h) h3;simp only[mE]at hb;have hn:rZ ([]:List (DataW H))=0:=rfl
 try simp only[U3.1,U3.2,BQ.1,BQ.2]at*
 have G:=g0.app (g1.app (g2.app (g3.app sL.nil)));rw[E4.oS]at m3;refine⟨.mk x0 x1 x2 l,?_,?_,?_⟩
 ·simpa [E4.cells,E4.kind,E4.n,E4.s,E4.l,aNA]using G
 ·simp only[E4.cR];omega
 ·exact⟨e0,by omega,E4.rM l q3⟩
theorem riS:∀(n:Nat){cs:List Value}{d:DataW H},PB w enc n 210 cs d->∃v:S4,sL w v.cells cs/\v.cR<=nR d/\v.wt/\v.ab:=by
 intro n;induction n using Nat.strongRecOn with|_ n ih=>?_
 intro cs d h;obtain⟨k,ds,rfl,hb,hf⟩:=p9 aMQ h;obtain⟨a0,b0,d0,r0,rfl,rfl,h0,hf⟩:=hf;obtain⟨a1,b1,d1,r1,rfl,rfl,h1,hf⟩:=hf;obtain⟨a2,b2,d2,r2,rfl,rfl,h2,hf⟩:=hf;obtain⟨a3,b3,d3,r3,rfl,rfl,h3,hf⟩:=hf;obtain⟨a4,b4,d4,r4,rfl,rfl,h4,hf⟩:=hf;obtain⟨a5,b5,d5,r5,rfl,rfl,h5,hf⟩:=hf;obtain⟨a6,b6,d6,r6,rfl,rfl,h6,hf⟩:=hf;obtain⟨a7,b7,d7,r7,rfl,rfl,h7,hf⟩:=hf;obtain⟨a8,b8,d8,r8,rfl,rfl,h8,hf⟩:=hf;obtain⟨a9,b9,d9,r9,rfl,rfl,h9,hf⟩:=hf;obtain⟨a10,b10,d10,r10,rfl,rfl,h10,hf⟩:=hf;obtain⟨rfl,rfl⟩:=hf;obtain⟨x0,g0,m0,e0,F0⟩:=kQ aML h0;obtain⟨x1,g1,m1⟩:=GX ty9 h1;obtain⟨x2,g2,m2⟩:=GX ty9 h2;obtain⟨x3,g3,m3,e3,F3⟩:=kQ aMT h3;obtain⟨x4,g4,m4,e4,F4⟩:=kQ aMR h4;obtain⟨x5,g5,m5,q5⟩:=riE _ h5;obtain⟨x6,g6,m6,q6⟩:=riE _ h6;obtain⟨x7,g7,m7,q7⟩:=k8 S4.cells S4.cR (λv=>v.wt/\v.ab) 17 aIQ aGS (by decide) (λj hj cs d h=>ih j (by omega) h) h7;obtain⟨x8,g8,m8,q8⟩:=k8 S4.cells S4.cR (λv=>v.wt/\v.ab) 17 aIQ aGS (by decide) (λj hj cs d h=>ih j (by omega) h) h8;obtain⟨x9,g9,m9,q9⟩:=k8 S4.cells S4.cR (λv=>v.wt/\v.ab) 17 aIQ aGS (by decide) (λj hj cs d h=>ih j (by omega) h) h9;obtain⟨x10,g10,m10⟩:=aMA h10;simp only[mE]at hb;have hn:rZ ([]:List (DataW H))=0:=rfl
 try simp only[U3.1,U3.2,BQ.1,BQ.2]at*
 have G:=g0.app (g1.app (g2.app (g3.app (g4.app (g5.app (g6.app (g7.app (g8.app (g9.app (g10.app sL.nil))))))))));rw[S4.oS]at m7 m8 m9;have t7:=S4.rM x7 q7;have t8:=S4.rM x8 q8;have t9:=S4.rM x9 q9;refine⟨.mk x0 x1 x2 x3 x4 x5 x6 x7 x8 x9 x10,?_,?_,?_,?_⟩
 ·simpa [S4.cells,S4.op,S4.name,S4.second,S4.jR,S4.bQ,S4.a,S4.b,S4.t,S4.e,S4.c,S4.w,aMI,E4.cells]using G
 ·simp only[S4.cR];omega
 ·exact⟨e0,by omega,e3,by omega,e4,by omega,q5,q6,t7.1,t8.1,t9.1⟩
 ·exact⟨⟨e3,by omega⟩,t7.2,t8.2,t9.2⟩
theorem aMC{d:DataW H}(h:PB w enc n 29 cs d):∃l:List S4,sL w [.sl 17 (l.map S4.row)] cs/\S4.dB l+1<=nR d/\S4.B5 l/\S4.RF l:=by
 obtain⟨l,h1,h2,h3⟩:=k8 S4.cells S4.cR (λv=>v.wt/\v.ab) 17 aIQ aGS (by decide) (λk _ cs d h=>riS k h) h;exact⟨l,by rw[aMI];exact h1,by rw[S4.oS]at h2;exact h2,S4.rM l h3⟩
theorem riN{d:DataW H}(h:PB w enc n 100 cs d):∃v:N4,sL w v.cells cs/\v.value.cR+1<=nR d/\v.value.wt:=by
 obtain⟨k,ds,rfl,hb,hf⟩:=p9 aMK h;obtain⟨a0,b0,d0,r0,rfl,rfl,h0,hf⟩:=hf;obtain⟨a1,b1,d1,r1,rfl,rfl,h1,hf⟩:=hf;obtain⟨rfl,rfl⟩:=hf;obtain⟨x0,g0,m0⟩:=GX ty9 h0;obtain⟨x1,g1,m1,q1⟩:=riV _ h1;simp only[mE]at hb;have hn:rZ ([]:List (DataW H))=0:=rfl
 try simp only[U3.1,U3.2,BQ.1,BQ.2]at*
 have G:=g0.app (g1.app sL.nil);refine⟨⟨x0,x1⟩,?_,?_,q1⟩
 ·simpa [N4.cells,V.cells]using G
 ·(try dsimp only);omega
theorem aMD{d:DataW H}(h:PB w enc n 30 cs d):∃l:List N4,sL w [.sl 6 (l.map N4.cells)] cs/\V.dB (l.map (·.value))+l.length+1<=nR d/\V.B5 (l.map (·.value)):=by
 obtain⟨l,h1,h2,h3⟩:=k8 N4.cells (λv=>v.value.cR+1) (λv=>v.value.wt) 6 aNZ aM7 (by decide) (λk _ cs d h=>riN h) h;refine⟨l,h1,by rw[ZA]at h2;exact h2,V.rM _ λx hx=>?_⟩;obtain⟨y,hy,rfl⟩:=aM.1 hx;exact h3 y hy
theorem riW{d:DataW H}(h:PB w enc n 91 cs d):∃v:W4,sL w v.cells cs/\v.cR<=nR d/\v.wt/\-9223372036854775808<=v.home/\v.home<=9223372036854775807:=by
 obtain⟨k,ds,rfl,hb,hf⟩:=p9 aN5 h;obtain⟨a0,b0,d0,r0,rfl,rfl,h0,hf⟩:=hf;obtain⟨a1,b1,d1,r1,rfl,rfl,h1,hf⟩:=hf;obtain⟨a2,b2,d2,r2,rfl,rfl,h2,hf⟩:=hf;obtain⟨a3,b3,d3,r3,rfl,rfl,h3,hf⟩:=hf;obtain⟨a4,b4,d4,r4,rfl,rfl,h4,hf⟩:=hf;obtain⟨a5,b5,d5,r5,rfl,rfl,h5,hf⟩:=hf;obtain⟨a6,b6,d6,r6,rfl,rfl,h6,hf⟩:=hf;obtain⟨a7,b7,d7,r7,rfl,rfl,h7,hf⟩:=hf;obtain⟨a8,b8,d8,r8,rfl,rfl,h8,hf⟩:=hf;obtain⟨a9,b9,d9,r9,rfl,rfl,h9,hf⟩:=hf;obtain⟨a10,b10,d10,r10,rfl,rfl,h10,hf⟩:=hf;obtain⟨a11,b11,d11,r11,rfl,rfl,h11,hf⟩:=hf;obtain⟨rfl,rfl⟩:=hf;obtain⟨x0,g0,m0,e0,F0⟩:=kQ aMR h0;obtain⟨x1,g1,m1,e1,F1⟩:=kQ aK8 h1;obtain⟨x2,g2,m2,q2⟩:=riV _ h2;obtain⟨x3,g3,m3,q3⟩:=aNR h3;obtain⟨x4,g4,m4,e4,F4⟩:=kQ ty2 h4;obtain⟨x5,g5,m5,e5,F5⟩:=kQ ty2 h5;obtain⟨x6,g6,m6,e6,F6⟩:=kQ W3 h6;obtain⟨x7,g7,m7,e7,F7⟩:=kQ W3 h7;obtain⟨x8,g8,m8,e8,F8⟩:=kQ aMT h8;obtain⟨x9,g9,m9⟩:=aIP ty4 h9;obtain⟨x10,g10,m10,q10,_⟩:=aMC h10;obtain⟨x11,g11,m11,q11⟩:=aMD h11;simp only[mE]at hb;have hn:rZ ([]:List (DataW H))=0:=rfl
 try simp only[U3.1,U3.2,BQ.1,BQ.2]at*
 have G:=g0.app (g1.app (g2.app (g3.app (g4.app (g5.app (g6.app (g7.app (g8.app (g9.app (g10.app (g11.app sL.nil)))))))))));refine⟨⟨x0,x1,x2,x3,x4,x5,x6,x7,x8,x9,x10,x11⟩,?_,?_,⟨q2,q3,q11,q10,⟨e0,by(try dsimp only);omega⟩,⟨e8,by(try dsimp only);omega⟩⟩,e1,F1⟩
 ·simpa [W4.cells,V.cells]using G
 ·simp only[W4.cR];omega
theorem riT{d:DataW H}(h:PB w enc n 93 cs d):∃v:T4,sL w v.cells cs/\v.bQ.cR+1<=nR d/\v.bQ.wt/\-9223372036854775808<=v.bQ.home/\v.bQ.home<=9223372036854775807:=by
 obtain⟨k,ds,rfl,hb,hf⟩:=p9 aN6 h;obtain⟨a0,b0,d0,r0,rfl,rfl,h0,hf⟩:=hf;obtain⟨a1,b1,d1,r1,rfl,rfl,h1,hf⟩:=hf;obtain⟨rfl,rfl⟩:=hf;obtain⟨x0,g0,m0,e0,F0⟩:=kQ W3 h0;obtain⟨x1,g1,m1,q1⟩:=riW h1;simp only[mE]at hb;have hn:rZ ([]:List (DataW H))=0:=rfl
 try simp only[U3.1,U3.2,BQ.1,BQ.2]at*
 have G:=g0.app (g1.app sL.nil);refine⟨⟨x0,x1⟩,?_,?_,q1⟩
 ·simpa [T4.cells]using G
 ·(try dsimp only);omega
theorem WZ{α:Type}(f:α->Nat):∀(l:List α),∀x∈l,f x<=(l.map f).sum
 |v::r,x,h=>by
  simp only[aG,gU];rcases aO.1 h with e|e
  ·subst e;omega
  ·have:=WZ f r x e;omega
theorem Q7{α:Type}(f:α->Nat)(hf:∀x,1<=f x):∀(l:List α),l.length<=(l.map f).sum
 |[]=>by simp
 |v::r=>by
  have:=Q7 f hf r;have:=hf v;simp only[aG,gU,aQ];omega
theorem riX{d:DataW H}(h:PB w enc n 27 cs d)(hB:nR d<=1048576):∃x:X4,sL w x.cells cs/\(∀t∈x.things,t.bQ.cR<=2^20/\t.bQ.wt)/\x.things.length<=2^30/\x.parents.length<=2^38/\x.cuts.length<=2^38/\x.made.length<=2^38/\∀t∈x.things,-9223372036854775808<=t.bQ.home/\t.bQ.home<=9223372036854775807:=by
 obtain⟨k,ds,rfl,hb,hf⟩:=p9 aNY h;obtain⟨a0,b0,d0,r0,rfl,rfl,h0,hf⟩:=hf;obtain⟨a1,b1,d1,r1,rfl,rfl,h1,hf⟩:=hf;obtain⟨a2,b2,d2,r2,rfl,rfl,h2,hf⟩:=hf;obtain⟨a3,b3,d3,r3,rfl,rfl,h3,hf⟩:=hf;obtain⟨a4,b4,d4,r4,rfl,rfl,h4,hf⟩:=hf;obtain⟨rfl,rfl⟩:=hf;obtain⟨x0,g0,m0⟩:=aNO h0;obtain⟨x1,g1,m1⟩:=aMB h1;obtain⟨x2,g2,m2,q2⟩:=k8 T4.cells (λv=>v.bQ.cR+1) (λv=>v.bQ.wt/\-9223372036854775808<=v.bQ.home/\v.bQ.home<=9223372036854775807) 17 aNX aM6 (by decide) (λk _ cs d h=>riT h) h2;obtain⟨x3,g3,m3,e3,F3⟩:=kQ W3 h3;obtain⟨x4,g4,m4⟩:=aMB h4;simp only[mE]at hb;have hn:rZ ([]:List (DataW H))=0:=rfl
 try simp only[U3.1,U3.2,BQ.1,BQ.2]at*
 have G:=g0.app (g1.app (g2.app (g3.app (g4.app sL.nil))));have hl:=Q7 (λv:T4=>v.bQ.cR+1) (λ_=>by omega) x2;refine⟨⟨x0,x1,x2,x3,x4⟩,?_,?_,?_,?_,?_,?_,?_⟩
 ·simpa [X4.cells]using G
 ·intro t ht;have:=WZ (λv:T4=>v.bQ.cR+1) x2 t ht;exact⟨by(try dsimp only at this);omega,(q2 t ht).1⟩
 ·(try dsimp only);omega
 ·(try dsimp only);omega
 ·(try dsimp only);omega
 ·(try dsimp only);omega
 ·exact λt ht=>(q2 t ht).2
def U4.m(u:U4):Nat:=S4.dB u.code+V.dB (u.names.map (·.value))+u.names.length+u.seen.length+1
def U4.p(u:U4):Prop:=(-9223372036854775808<=u.side/\u.side<=9223372036854775807)/\S4.RF u.code
theorem riU{d:DataW H}(h:PB w enc n 33 cs d):∃u:U4,sL w u.cells cs/\u.m<=nR d/\u.p:=by
 obtain⟨k,ds,rfl,hb,hf⟩:=p9 aN1 h;obtain⟨a0,b0,d0,r0,rfl,rfl,h0,hf⟩:=hf;obtain⟨a1,b1,d1,r1,rfl,rfl,h1,hf⟩:=hf;obtain⟨a2,b2,d2,r2,rfl,rfl,h2,hf⟩:=hf;obtain⟨a3,b3,d3,r3,rfl,rfl,h3,hf⟩:=hf;obtain⟨rfl,rfl⟩:=hf;obtain⟨x0,g0,m0,e0,F0⟩:=kQ aK8 h0;obtain⟨x1,g1,m1,_,q1⟩:=aMC h1;obtain⟨x2,g2,m2,q2⟩:=aMD h2;obtain⟨x3,g3,m3⟩:=aNP h3;simp only[mE]at hb;have hn:rZ ([]:List (DataW H))=0:=rfl
 try simp only[U3.1,U3.2,BQ.1,BQ.2]at*
 have G:=g0.app (g1.app (g2.app (g3.app sL.nil)));refine⟨⟨x0,x1,x2,x3⟩,?_,?_,⟨e0,F0⟩,q1⟩
 ·simpa [U4.cells]using G
 ·simp only[U4.m];omega
theorem aHJ(L:List N4):(jL L).length<=V.dB (L.map (·.value)):=by
 have:=qN (L.map (·.value))
 rwa [bH]at this
theorem aNQ{d:DataW H}(h:PB w enc n 35 cs d)(hB:nR d<=1048576):∃l:List U4,sL w [.sl 4 (l.map U4.cells)] cs/\l.length<=2^30/\∀u∈l,u.gA/\(jL u.names).length<=2^20:=by
 obtain⟨l,h1,h2,h3⟩:=k8 U4.cells U4.m U4.p 4 aN2 aM9 (by decide) (λk _ cs d h=>riU h) h;have hl:=Q7 U4.m (λu=>by simp only[U4.m];omega) l;refine⟨l,h1,by omega,λu hu=>?_⟩;have h4:=WZ U4.m l u hu;have h5:=aHJ u.names;have h6:=h3 u hu;simp only[U4.m]at h4;exact⟨⟨h6.1,by omega,h6.2,by omega,by omega,by omega⟩,by omega⟩
theorem aGO{n2 n3:Nat}{a b c:List Value}{d1 d2 d3:DataW H}(h1:PB w enc n 27 a d1)(h2:PB w enc n2 35 b d2)(h3:PB w enc n3 25 c d3)(hB:nR d1+nR d2<=1048576):
 ∃(x:X4)(l:List U4)(to:Int),aLI x l/\sL w x.cells a/\sL w [.sl 4 (l.map U4.cells)] b/\sL w [ci to] c:=by
 obtain⟨x,g1,p1,p2,p3,p4,p5,p6⟩:=riX h1 (by omega);obtain⟨l,g2,q1,q2⟩:=aNQ h2 (by omega);obtain⟨to,g3,_⟩:=kQ W3 h3;exact⟨x,l,to,⟨p1,p2,p3,p4,p5,p6,q1,λi h=>(q2 _ (aY h)).1,λi h=>(q2 _ (aY h)).2⟩,g1,g2,g3⟩
end
open Go.ChangeShapes Go.WideShapes Go.ChangeAt Go.RowKit
theorem aMW{P:Program}{f:FuncId}{cs:List C}{vs:List Value}(h:aJ P f (cs.map .d) (λ_=>none) (.ok (.d (.v (.bool true)))) (λ_=>none))(hd:C.bR w (λ_=>False) cs vs):
 Calls P f vs.toArray w λe w'=>e=.returned (.bool true)/\iF (λ_=>False) w w':=by
 have h0:bC (λ_=>False) (λ_=>False) w ⟨0,none⟩ (λ_=>.x) (λ_=>none) (λ_=>undef) {tmps:= #[],defers:=[]} w:=
  {keeps:=iF.refl _ _,size:=rfl,defers:=(λds e=>by cases e),tmps:=(λn=>by simp[A.Den]),res:=(λi r e=>by cases e),own:=(λi r b e=>by cases e),apart:=(λi j r r2 b e=>by cases e)}
 refine(h.2 _ _ _ _ w _ _ w h0 (λb e=>e.elim) vs ?_).mono ?_
 ·refine A.iO.2 (C.dK (dV.refl _ w) (λb hb _=>?_) _ _ hd);rcases hb with hb|⟨i,r,hb,_⟩
  ·exact hb
  ·cases hb
 ·rintro e w' ⟨ρ',h1,_,y,rfl,hy⟩;simp only[A.Den,C.Den]at hy;subst hy;exact⟨rfl,h1.keeps⟩
theorem sL.agg{w:World}{l:List C}{vs:Array Value}(h:sL w l vs.toList):C.Den w (λ_=>False) (.agg l) (.agg vs):=by
 simp only[C.Den];exact⟨vs,rfl,h.2,h.1⟩
theorem sL.den{c:C}{v:Value}(h:sL w [c] [v]):C.Den w (λ_=>False) c v:=by
 have:=h.1;simp only[C.bR]at this;obtain⟨y,yr,h1,h2,rfl⟩:=this;simp only[iX,and_true]at h1;rw[h1];exact h2
theorem iF.sameAt{w w':World}(h:iF (λ_=>False) w w'){p:MemPlace}(hb:p.block<w.heap.size):w.sameAt w' p:=by
 cases p with
 |cell b o=>exact World.cell?_of_block (h.block b hb λe=>e)
 |map b=>exact h.block b hb λe=>e
section
variable{H:Type}{enc:TypeId×Value->H}{P:Program}
theorem M8(hl:laidOutB P=true){W W':World}(hK:iF (λ_=>False) W W'){sp:Nat->Bool}:∀(ts:List TypeId)(vs:List Value)(ds:List (DataW H))(ps:List MemPlace),(∀t∈ts,P.readableRec t=true/\t<P.types.size)->
 DataW.TrodAll enc P W 0 (λ_=>true) true ts vs ds ps->(∀p∈ps,p.block<W.heap.size)->(∀p∈ps,sp p.block=true)->DataW.TrodAll enc P W' 0 sp true ts vs ds ps
 |[],[],[],ps,_,h,_,_=>h
 |t::ts,v::vs,d::ds,ps,ht,h,hb,hs=>by
  obtain⟨p,q,h1,h2,rfl⟩:=h;have htt:=ht t (by simp)
  exact⟨p,q,Go.WideElems.Trod_stays hl htt.1 htt.2 h1 (λx hx=>hK.sameAt (hb x (by simp[hx]))) (λx hx=>hs x (by simp[hx])),
   M8 hl hK ts vs ds q (λt h=>ht t (by simp[h])) h2 (λx hx=>hb x (by simp[hx])) (λx hx=>hs x (by simp[hx])),rfl⟩
 |[],[],_::_,_,_,h,_,_=>h.elim
 |[],_::_,_,_,_,h,_,_=>h.elim
 |_::_,[],_,_,_,h,_,_=>h.elim
 |_::_,_::_,[],_,_,h,_,_=>h.elim
end
end Go.Pv
