import Derived.Test.YtpdcbahjjmooiaaGreatH23
import Derived.ProofKit
import Derived.OpenShut
import Derived.JoinedCond
import Derived.WideKeyArgs
/- A program logic over the model, contracts of the functions that the law reaches: part 24. (Names and blanks were shortened by program.) -/
set_option linter.unusedVariables false
set_option linter.unusedSimpArgs false
set_option linter.constructorNameAsVariable false
set_option linter.unusedSectionVars false
set_option linter.deprecated false
set_option maxRecDepth 100000
set_option maxHeartbeats 8000000
open Go Go.Proofs
namespace Go.Pv
open Go.RowKit
variable{n:Nat}{w:World}{D:List T4}{r:Int}
theorem V.oS:∀l:List V,(l.map V.cR).sum=V.dB l
 |[]=>rfl
 |v::r=>by simp only[aG,gU,V.dB,V.oS r]
mutual
def E4.wU:E4->Nat
 |.mk _ _ s l=>1+s.size+E4.NK l
def E4.NK:List E4->Nat
 |[]=>0
 |v::r=>E4.wU v+E4.NK r
end
mutual
def S4.wU:S4->Nat
 |.mk _ n1 n2 _ _ a b t e c w=>1+n1.size+n2.size+a.wU+b.wU+(w.map λs=>s.size+1).sum+S4.NK t+S4.NK e+S4.NK c
def S4.NK:List S4->Nat
 |[]=>0
 |v::r=>S4.wU v+S4.NK r
end
theorem E4.OZ:∀l:List E4,(l.map E4.wU).sum=E4.NK l
 |[]=>Eq.refl _
 |v::r=>by simp only[aG,gU,E4.NK,E4.OZ r]
theorem S4.OZ:∀l:List S4,(l.map S4.wU).sum=S4.NK l
 |[]=>rfl
 |v::r=>by simp only[aG,gU,S4.NK,S4.OZ r]
mutual
theorem E4.XL:∀v:E4,v.cR<=v.wU
 |.mk _ _ s l=>by have:=E4.xC l;simp only[E4.cR,E4.wU];omega
theorem E4.xC:∀l:List E4,E4.dB l<=E4.NK l
 |[]=>bT _
 |v::r=>by have:=E4.XL v;have:=E4.xC r;simp only[E4.dB,E4.NK];omega
end
mutual
theorem E4.aUO:∀v:E4,v.wU<=2^40->v.ss
 |.mk _ _ s l,h=>by simp only[E4.wU]at h;exact⟨oM,E4.aUN l oM⟩
theorem E4.aUN:∀l:List E4,E4.NK l<=2^40->E4.US l
 |[],_=>trivial
 |v::r,h=>by simp only[E4.NK]at h;exact⟨E4.aUO v oM,E4.aUN r oM⟩
end
theorem aVS:∀w:List ByteArray,w.length<=(w.map λs=>s.size+1).sum
 |[]=>sM
 |s::w=>by have:=aVS w;simp only[aG,gU,aQ];omega
theorem aVT:∀w:List ByteArray,∀s∈w,s.size<=(w.map λs=>s.size+1).sum
 |[],s,h=>by simp at h
 |a::w,s,h=>by
  simp only[aG,gU];rcases aO.1 h with rfl|h
  ·omega
  ·have:=aVT w s h;omega
mutual
theorem S4.XL:∀v:S4,v.cR<=v.wU
 |.mk _ _ _ _ _ a b t e c w=>by
  have:=a.XL;have:=b.XL;have:=S4.xC t;have:=S4.xC e;have:=S4.xC c;have:=aVS w;simp only[S4.cR,S4.wU];omega
theorem S4.xC:∀l:List S4,S4.dB l<=S4.NK l
 |[]=>bT _
 |v::r=>by have:=S4.XL v;have:=S4.xC r;simp only[S4.dB,S4.NK];omega
end
mutual
theorem S4.aWF:∀v:S4,v.wt->v.wU<=2^36->v.SZ
 |.mk op n1 n2 ab wh a b t e c w,h,hv=>by
  have hc:=S4.XL (.mk op n1 n2 ab wh a b t e c w);have hm:=aVT w;simp only[S4.wt]at h;obtain⟨h1,h2,h3,h4,_,_,_,_,h5,h6,h7⟩:=h;simp only[S4.wU]at hv hc;refine⟨⟨oM,⟨h1,h2⟩,⟨h3,h4⟩,?_,?_,E4.aUO a oM,E4.aUO b oM,λs hs=>?_⟩,S4.aEZ t h5 oM,S4.aEZ e h6 oM,S4.aEZ c h7 oM⟩
  ·show n1.size<=2^40;omega
  ·show n2.size<=2^40;omega
  ·have:=hm s hs;omega
theorem S4.aEZ:∀l:List S4,S4.B5 l->S4.NK l<=2^36->S4.aO6 l
 |[],_,_=>trivial
 |v::r,h,hv=>by
  simp only[S4.NK]at hv;exact⟨S4.aWF v h.1 oM,S4.aEZ r h.2 oM⟩
end
theorem V.rM:∀l:List V,(∀x∈l,x.wt)->V.B5 l
 |[],_=>trivial
 |v::r,h=>⟨h v sM,V.rM r λx hx=>h x (by simp[hx])⟩
theorem E4.rM:∀l:List E4,(∀x∈l,x.wt)->E4.B5 l
 |[],_=>trivial
 |v::r,h=>⟨h v sM,E4.rM r λx hx=>h x (by simp[hx])⟩
theorem S4.rM:∀l:List S4,(∀x∈l,x.wt/\x.ab)->S4.B5 l/\S4.RF l
 |[],_=>⟨tV,tV⟩
 |v::r,h=>by
  have h1:=h v sM;have h2:=S4.rM r λx hx=>h x (by simp[hx]);exact⟨⟨h1.1,h2.1⟩,⟨h1.2,h2.2⟩⟩
theorem E1{α:Type}:∀l:List α,(l.map λ_=>1).sum=l.length
 |[]=>rfl
 |v::r=>by simp only[aG,gU,aQ,E1 r];omega
theorem aMV:V.row=V.aT1:=funext V.cP
theorem aNA:E4.row=E4.aT1:=funext E4.cP
theorem aMI:S4.row=S4.aT1:=funext S4.cP
theorem U3:IntKind.u8.min=0/\IntKind.u8.max=255:=eD
theorem BQ:IntKind.i64.min=-9223372036854775808/\IntKind.i64.max=9223372036854775807:=eD
section
variable{H:Type}{enc:TypeId×Value->H}{w:World}
abbrev PB(w:World)(enc:TypeId×Value->H)(n:Nat)(t:TypeId)(cs:List Value)(d:DataW H):Prop:=xF enc Tryz.prog w n t cs d
theorem aN3:Tryz.prog.underlying 85=some (.int .u8):=kK
theorem ty2:Tryz.prog.underlying 2=some (.int .i64):=kK
theorem W3:Tryz.prog.underlying 25=some (.int .i64):=kK
theorem aMR:Tryz.prog.underlying 84=some (.int .u8):=kK
theorem aK8:Tryz.prog.underlying 28=some (.int .i64):=kK
theorem aMT:Tryz.prog.underlying 89=some (.int .u8):=kK
theorem aML:Tryz.prog.underlying 203=some (.int .u8):=kK
theorem aMM:Tryz.prog.underlying 204=some (.int .u8):=kK
theorem ty3:Tryz.prog.underlying 3=some (.int .i64):=kK
theorem S8:Tryz.prog.underlying 9=some .string:=kK
theorem ty4:Tryz.prog.underlying 4=some .bool:=kK
theorem aMS:Tryz.prog.underlying 86=some (.slice 88):=kK
theorem aLS:Tryz.prog.cellsOf 88=5:=kK
theorem aMN:Tryz.prog.underlying 205=some (.slice 207):=kK
theorem aLQ:Tryz.prog.cellsOf 207=4:=kK
theorem aIQ:Tryz.prog.underlying 29=some (.slice 210):=kK
theorem aGS:Tryz.prog.cellsOf 210=17:=kK
theorem aMP:Tryz.prog.underlying 208=some (.slice 9):=kK
theorem aLR:Tryz.prog.cellsOf 9=1:=kK
theorem aNZ:Tryz.prog.underlying 30=some (.slice 100):=kK
theorem aM7:Tryz.prog.cellsOf 100=6:=kK
theorem aNV:Tryz.prog.underlying 22=some (.slice 28):=kK
theorem aM4:Tryz.prog.cellsOf 28=1:=kK
theorem aNW:Tryz.prog.underlying 23=some (.slice 3):=kK
theorem aM5:Tryz.prog.cellsOf 3=1:=kK
theorem aNX:Tryz.prog.underlying 24=some (.slice 93):=kK
theorem aM6:Tryz.prog.cellsOf 93=17:=kK
theorem aN0:Tryz.prog.underlying 31=some (.slice 25):=kK
theorem aM8:Tryz.prog.cellsOf 25=1:=kK
theorem aN4:u7 Tryz.prog 88=some [85,2,9,86,25]:=kK
theorem aMO:u7 Tryz.prog 207=some [204,2,9,205]:=kK
theorem aMQ:u7 Tryz.prog 210=some [203,9,9,89,84,207,207,29,29,29,208]:=kK
theorem aMK:u7 Tryz.prog 100=some [9,88]:=kK
theorem aN5:u7 Tryz.prog 91=some [84,28,88,86,2,2,25,25,89,4,29,30]:=kK
theorem aN6:u7 Tryz.prog 93=some [25,91]:=kK
theorem aNY:u7 Tryz.prog 27=some [22,23,24,25,23]:=kK
theorem aN1:u7 Tryz.prog 33=some [28,29,30,31]:=kK
theorem aJI{t:TypeId}{cs:List Value}{d:DataW H}(ht:Tryz.prog.underlying t=some .string)(h:PB w enc n t cs d):∃s,sL w [.v (.string s)] cs/\s.size+1<=rI d:=by
 obtain⟨ps,h⟩:=h;cases n with
 |zero=>simp[DataW.trod]at h
 |succ n=>
  unfold DataW.trod at h;rw[ht]at h;split at h<;>try(simp at h;done)
  all_goals(rename_i hu;try(cases hu;done))
  rename_i s;split at h
  ·simp only[aA,aD]at h;exact⟨_,sL.one rfl,by rw[<-h.1];simp[rI,Go.Proofs.YtpdcbahjjmooiaaGreat.Rows.uptoBulk]⟩
  ·cases h
theorem aNO{cs:List Value}{d:DataW H}(h:PB w enc n 22 cs d):∃l:List Int,sL w [.sl 1 (iR l)] cs/\l.length+1<=rI d:=by
 obtain⟨l,h1,h2,_⟩:=oV (λx:Int=>[ci x]) (λ_=>1) (λ_=>True) 1 aNV aM4 eD (λk hk cs d h=>by
  obtain⟨i,h1,h2,_⟩:=kQ aK8 h
  exact⟨i,h1,h2,tV⟩) h
 exact⟨l,h1,by rw[E1]at h2;exact h2⟩
theorem aMB{cs:List Value}{d:DataW H}(h:PB w enc n 23 cs d):∃l:List Int,sL w [.sl 1 (iR l)] cs/\l.length+1<=rI d:=by
 obtain⟨l,h1,h2,_⟩:=oV (λx:Int=>[ci x]) (λ_=>1) (λ_=>True) 1 aNW aM5 eD (λk hk cs d h=>by
  obtain⟨i,h1,h2,_⟩:=kQ ty3 h
  exact⟨i,h1,h2,tV⟩) h
 exact⟨l,h1,by rw[E1]at h2;exact h2⟩
theorem aNP{cs:List Value}{d:DataW H}(h:PB w enc n 31 cs d):∃l:List Int,sL w [.sl 1 (iR l)] cs/\l.length+1<=rI d:=by
 obtain⟨l,h1,h2,_⟩:=oV (λx:Int=>[ci x]) (λ_=>1) (λ_=>True) 1 aN0 aM8 eD (λk hk cs d h=>by
  obtain⟨i,h1,h2,_⟩:=kQ W3 h
  exact⟨i,h1,h2,tV⟩) h
 exact⟨l,h1,by rw[E1]at h2;exact h2⟩
theorem aMA{cs:List Value}{d:DataW H}(h:PB w enc n 208 cs d):∃l:List ByteArray,sL w [.sl 1 (l.map λs=>[Go.Pv.cs s])] cs/\(l.map λs=>s.size+1).sum+1<=rI d:=by
 obtain⟨l,h1,h2,_⟩:=oV (λx:ByteArray=>[Go.Pv.cs x]) (λs=>s.size+1) (λ_=>True) 1 aMP aLR eD (λk hk cs d h=>by
  obtain⟨i,h1,h2⟩:=aJI S8 h
  exact⟨i,h1,h2,tV⟩) h
 exact⟨l,h1,h2⟩
theorem riV:∀(n:Nat){cs:List Value}{d:DataW H},PB w enc n 88 cs d->∃v:V,sL w v.aT1 cs/\v.cR<=rI d/\v.wt:=by
 intro n;induction n using Nat.strongRecOn with|_ n ih=>?_
 intro cs d h;obtain⟨k,ds,rfl,hb,hf⟩:=p9 aN4 h;obtain⟨a0,b0,d0,r0,rfl,rfl,h0,hf⟩:=hf;obtain⟨a1,b1,d1,r1,rfl,rfl,h1,hf⟩:=hf;obtain⟨a2,b2,d2,r2,rfl,rfl,h2,hf⟩:=hf;obtain⟨a3,b3,d3,r3,rfl,rfl,h3,hf⟩:=hf;obtain⟨a4,b4,d4,r4,rfl,rfl,h4,hf⟩:=hf;obtain⟨rfl,rfl⟩:=hf;obtain⟨x0,g0,m0,e0,F0⟩:=kQ aN3 h0;obtain⟨x1,g1,m1,e1,F1⟩:=kQ ty2 h1;obtain⟨x2,g2,m2⟩:=GX S8 h2;obtain⟨l,g3,m3,q3⟩:=oV V.aT1 V.cR V.wt 5 aMS aLS eD (λj hj cs d h=>ih j oM h) h3;obtain⟨x4,g4,m4,e4,F4⟩:=kQ W3 h4;simp only[mE]at hb;have hn:rZ ([]:List (DataW H))=0:=rfl
 try simp only[U3.1,U3.2,BQ.1,BQ.2]at*
 have G:=g0.app (g1.app (g2.app (g3.app (g4.app sL.nil))));rw[V.oS]at m3;refine⟨.mk x0 x1 x2 l x4,?_,?_,?_⟩
 ·simpa [V.aT1,V.kind,V.n,V.s,V.l,V.r,aMV]using G
 ·simp only[V.cR];omega
 ·exact⟨e0,oM,V.rM l q3⟩
theorem aNR{cs:List Value}{d:DataW H}(h:PB w enc n 86 cs d):∃l:List V,sL w [.sl 5 (l.map V.row)] cs/\V.dB l+1<=rI d/\V.B5 l:=by
 obtain⟨l,h1,h2,h3⟩:=oV V.aT1 V.cR V.wt 5 aMS aLS eD (λk _ cs d h=>riV k h) h;exact⟨l,by rw[aMV];exact h1,by rw[V.oS]at h2;exact h2,V.rM l h3⟩
theorem riE:∀(n:Nat){cs:List Value}{d:DataW H},PB w enc n 207 cs d->∃v:E4,sL w v.aT1 cs/\v.wU<=rI d/\v.wt:=by
 intro n;induction n using Nat.strongRecOn with|_ n ih=>?_
 intro cs d h;obtain⟨k,ds,rfl,hb,hf⟩:=p9 aMO h;obtain⟨a0,b0,d0,r0,rfl,rfl,h0,hf⟩:=hf;obtain⟨a1,b1,d1,r1,rfl,rfl,h1,hf⟩:=hf;obtain⟨a2,b2,d2,r2,rfl,rfl,h2,hf⟩:=hf;obtain⟨a3,b3,d3,r3,rfl,rfl,h3,hf⟩:=hf;obtain⟨rfl,rfl⟩:=hf;obtain⟨x0,g0,m0,e0,F0⟩:=kQ aMM h0;obtain⟨x1,g1,m1,e1,F1⟩:=kQ ty2 h1;obtain⟨x2,g2,m2⟩:=aJI S8 h2;obtain⟨l,g3,m3,q3⟩:=oV E4.aT1 E4.wU E4.wt 4 aMN aLQ eD (λj hj cs d h=>ih j oM h) h3;simp only[mE]at hb;have hn:rZ ([]:List (DataW H))=0:=rfl
 try simp only[U3.1,U3.2,BQ.1,BQ.2]at*
 have G:=g0.app (g1.app (g2.app (g3.app sL.nil)));rw[E4.OZ]at m3;refine⟨.mk x0 x1 x2 l,?_,?_,?_⟩
 ·simpa [E4.aT1,E4.kind,E4.n,E4.s,E4.l,aNA]using G
 ·simp only[E4.wU];omega
 ·exact⟨e0,oM,E4.rM l q3⟩
theorem riS:∀(n:Nat){cs:List Value}{d:DataW H},PB w enc n 210 cs d->∃v:S4,sL w v.aT1 cs/\v.wU<=rI d/\v.wt/\v.ab:=by
 intro n;induction n using Nat.strongRecOn with|_ n ih=>?_
 intro cs d h;obtain⟨k,ds,rfl,hb,hf⟩:=p9 aMQ h;obtain⟨a0,b0,d0,r0,rfl,rfl,h0,hf⟩:=hf;obtain⟨a1,b1,d1,r1,rfl,rfl,h1,hf⟩:=hf;obtain⟨a2,b2,d2,r2,rfl,rfl,h2,hf⟩:=hf;obtain⟨a3,b3,d3,r3,rfl,rfl,h3,hf⟩:=hf;obtain⟨a4,b4,d4,r4,rfl,rfl,h4,hf⟩:=hf;obtain⟨a5,b5,d5,r5,rfl,rfl,h5,hf⟩:=hf;obtain⟨a6,b6,d6,r6,rfl,rfl,h6,hf⟩:=hf;obtain⟨a7,b7,d7,r7,rfl,rfl,h7,hf⟩:=hf;obtain⟨a8,b8,d8,r8,rfl,rfl,h8,hf⟩:=hf;obtain⟨a9,b9,d9,r9,rfl,rfl,h9,hf⟩:=hf;obtain⟨a10,b10,d10,r10,rfl,rfl,h10,hf⟩:=hf;obtain⟨rfl,rfl⟩:=hf;obtain⟨x0,g0,m0,e0,F0⟩:=kQ aML h0;obtain⟨x1,g1,m1⟩:=aJI S8 h1;obtain⟨x2,g2,m2⟩:=aJI S8 h2;obtain⟨x3,g3,m3,e3,F3⟩:=kQ aMT h3;obtain⟨x4,g4,m4,e4,F4⟩:=kQ aMR h4;obtain⟨x5,g5,m5,q5⟩:=riE _ h5;obtain⟨x6,g6,m6,q6⟩:=riE _ h6;obtain⟨x7,g7,m7,q7⟩:=oV S4.aT1 S4.wU (λv=>v.wt/\v.ab) 17 aIQ aGS eD (λj hj cs d h=>ih j oM h) h7;obtain⟨x8,g8,m8,q8⟩:=oV S4.aT1 S4.wU (λv=>v.wt/\v.ab) 17 aIQ aGS eD (λj hj cs d h=>ih j oM h) h8;obtain⟨x9,g9,m9,q9⟩:=oV S4.aT1 S4.wU (λv=>v.wt/\v.ab) 17 aIQ aGS eD (λj hj cs d h=>ih j oM h) h9;obtain⟨x10,g10,m10⟩:=aMA h10;simp only[mE]at hb;have hn:rZ ([]:List (DataW H))=0:=rfl
 try simp only[U3.1,U3.2,BQ.1,BQ.2]at*
 have G:=g0.app (g1.app (g2.app (g3.app (g4.app (g5.app (g6.app (g7.app (g8.app (g9.app (g10.app sL.nil))))))))));rw[S4.OZ]at m7 m8 m9;have t7:=S4.rM x7 q7;have t8:=S4.rM x8 q8;have t9:=S4.rM x9 q9;refine⟨.mk x0 x1 x2 x3 x4 x5 x6 x7 x8 x9 x10,?_,?_,?_,?_⟩
 ·simpa [S4.aT1,S4.op,S4.name,S4.second,S4.jR,S4.bQ,S4.a,S4.b,S4.t,S4.e,S4.c,S4.w,aMI,E4.aT1]using G
 ·simp only[S4.wU];omega
 ·exact⟨e0,oM,e3,oM,e4,oM,q5,q6,t7.1,t8.1,t9.1⟩
 ·exact⟨⟨e3,oM⟩,t7.2,t8.2,t9.2⟩
theorem aMC{cs:List Value}{d:DataW H}(h:PB w enc n 29 cs d):∃l:List S4,sL w [.sl 17 (l.map S4.row)] cs/\S4.NK l+1<=rI d/\S4.B5 l/\S4.RF l:=by
 obtain⟨l,h1,h2,h3⟩:=oV S4.aT1 S4.wU (λv=>v.wt/\v.ab) 17 aIQ aGS eD (λk _ cs d h=>riS k h) h;exact⟨l,by rw[aMI];exact h1,by rw[S4.OZ]at h2;exact h2,S4.rM l h3⟩
theorem aRM:∀l:List N4,V.dB (l.map (·.value))+l.length<=(l.map λv=>v.value.cR+v.name.size+1).sum
 |[]=>by simp[V.dB]
 |v::r=>by have:=aRM r;simp only[aG,gU,aQ,V.dB];omega
theorem aR7:∀l:List N4,∀n∈l,n.name.size<=(l.map λv=>v.value.cR+v.name.size+1).sum
 |[],n,h=>by simp at h
 |v::r,n,h=>by
  simp only[aG,gU];rcases aO.1 h with rfl|h
  ·omega
  ·have:=aR7 r n h;omega
theorem riN{cs:List Value}{d:DataW H}(h:PB w enc n 100 cs d):∃v:N4,sL w v.aT1 cs/\v.value.cR+v.name.size+1<=rI d/\v.value.wt:=by
 obtain⟨k,ds,rfl,hb,hf⟩:=p9 aMK h;obtain⟨a0,b0,d0,r0,rfl,rfl,h0,hf⟩:=hf;obtain⟨a1,b1,d1,r1,rfl,rfl,h1,hf⟩:=hf;obtain⟨rfl,rfl⟩:=hf;obtain⟨x0,g0,m0⟩:=aJI S8 h0;obtain⟨x1,g1,m1,q1⟩:=riV _ h1;simp only[mE]at hb;have hn:rZ ([]:List (DataW H))=0:=rfl
 try simp only[U3.1,U3.2,BQ.1,BQ.2]at*
 have G:=g0.app (g1.app sL.nil);refine⟨⟨x0,x1⟩,?_,?_,q1⟩
 ·simpa [N4.aT1,V.aT1]using G
 ·(try dsimp only);omega
theorem aMD{cs:List Value}{d:DataW H}(h:PB w enc n 30 cs d):∃l:List N4,sL w [.sl 6 (l.map N4.aT1)] cs/\(l.map λv=>v.value.cR+v.name.size+1).sum+1<=rI d/\V.B5 (l.map (·.value)):=by
 obtain⟨l,h1,h2,h3⟩:=oV N4.aT1 (λv=>v.value.cR+v.name.size+1) (λv=>v.value.wt) 6 aNZ aM7 eD (λk _ cs d h=>riN h) h;refine⟨l,h1,h2,V.rM _ λx hx=>?_⟩;obtain⟨y,hy,rfl⟩:=aA4.1 hx;exact h3 y hy
theorem riW{cs:List Value}{d:DataW H}(h:PB w enc n 91 cs d):∃v:W4,sL w v.aT1 cs/\v.cR<=rI d/\v.wt/\-9223372036854775808<=v.home/\v.home<=9223372036854775807:=by
 obtain⟨k,ds,rfl,hb,hf⟩:=p9 aN5 h;obtain⟨a0,b0,d0,r0,rfl,rfl,h0,hf⟩:=hf;obtain⟨a1,b1,d1,r1,rfl,rfl,h1,hf⟩:=hf;obtain⟨a2,b2,d2,r2,rfl,rfl,h2,hf⟩:=hf;obtain⟨a3,b3,d3,r3,rfl,rfl,h3,hf⟩:=hf;obtain⟨a4,b4,d4,r4,rfl,rfl,h4,hf⟩:=hf;obtain⟨a5,b5,d5,r5,rfl,rfl,h5,hf⟩:=hf;obtain⟨a6,b6,d6,r6,rfl,rfl,h6,hf⟩:=hf;obtain⟨a7,b7,d7,r7,rfl,rfl,h7,hf⟩:=hf;obtain⟨a8,b8,d8,r8,rfl,rfl,h8,hf⟩:=hf;obtain⟨a9,b9,d9,r9,rfl,rfl,h9,hf⟩:=hf;obtain⟨a10,b10,d10,r10,rfl,rfl,h10,hf⟩:=hf;obtain⟨a11,b11,d11,r11,rfl,rfl,h11,hf⟩:=hf;obtain⟨rfl,rfl⟩:=hf;obtain⟨x0,g0,m0,e0,F0⟩:=kQ aMR h0;obtain⟨x1,g1,m1,e1,F1⟩:=kQ aK8 h1;obtain⟨x2,g2,m2,q2⟩:=riV _ h2;obtain⟨x3,g3,m3,q3⟩:=aNR h3;obtain⟨x4,g4,m4,e4,F4⟩:=kQ ty2 h4;obtain⟨x5,g5,m5,e5,F5⟩:=kQ ty2 h5;obtain⟨x6,g6,m6,e6,F6⟩:=kQ W3 h6;obtain⟨x7,g7,m7,e7,F7⟩:=kQ W3 h7;obtain⟨x8,g8,m8,e8,F8⟩:=kQ aMT h8;obtain⟨x9,g9,m9⟩:=aIP ty4 h9;obtain⟨x10,g10,m10,q10,_⟩:=aMC h10;have m10v:=S4.xC x10;obtain⟨x11,g11,m11,q11⟩:=aMD h11;have m11v:=aRM x11;simp only[mE]at hb;have hn:rZ ([]:List (DataW H))=0:=rfl
 try simp only[U3.1,U3.2,BQ.1,BQ.2]at*
 have G:=g0.app (g1.app (g2.app (g3.app (g4.app (g5.app (g6.app (g7.app (g8.app (g9.app (g10.app (g11.app sL.nil)))))))))));refine⟨⟨x0,x1,x2,x3,x4,x5,x6,x7,x8,x9,x10,x11⟩,?_,?_,⟨q2,q3,q11,q10,⟨e0,by(try dsimp only);omega⟩,⟨e8,by(try dsimp only);omega⟩⟩,e1,F1⟩
 ·simpa [W4.aT1,V.aT1]using G
 ·simp only[W4.cR];omega
theorem riT{cs:List Value}{d:DataW H}(h:PB w enc n 93 cs d):∃v:T4,sL w v.aT1 cs/\v.bQ.cR+1<=rI d/\v.bQ.wt/\-9223372036854775808<=v.bQ.home/\v.bQ.home<=9223372036854775807:=by
 obtain⟨k,ds,rfl,hb,hf⟩:=p9 aN6 h;obtain⟨a0,b0,d0,r0,rfl,rfl,h0,hf⟩:=hf;obtain⟨a1,b1,d1,r1,rfl,rfl,h1,hf⟩:=hf;obtain⟨rfl,rfl⟩:=hf;obtain⟨x0,g0,m0,e0,F0⟩:=kQ W3 h0;obtain⟨x1,g1,m1,q1⟩:=riW h1;simp only[mE]at hb;have hn:rZ ([]:List (DataW H))=0:=rfl
 try simp only[U3.1,U3.2,BQ.1,BQ.2]at*
 have G:=g0.app (g1.app sL.nil);refine⟨⟨x0,x1⟩,?_,?_,q1⟩
 ·simpa [T4.aT1]using G
 ·(try dsimp only);omega
theorem WZ{α:Type}(f:α->Nat):∀(l:List α),∀x∈l,f x<=(l.map f).sum
 |v::r,x,h=>by
  simp only[aG,gU];rcases aO.1 h with e|e
  ·subst e;omega
  ·have:=WZ f r x e;omega
theorem Q7{α:Type}(f:α->Nat)(hf:∀x,1<=f x):∀(l:List α),l.length<=(l.map f).sum
 |[]=>sM
 |v::r=>by
  have:=Q7 f hf r;have:=hf v;simp only[aG,gU,aQ];omega
theorem riX{cs:List Value}{d:DataW H}(h:PB w enc n 27 cs d)(hB:rI d<=1048576):∃x:X4,sL w x.aT1 cs/\(∀t∈x.aT4,t.bQ.cR<=2^20/\t.bQ.wt)/\x.aT4.length<=2^30/\x.parents.length<=2^38/\x.aU3.length<=2^38/\x.made.length<=2^38/\∀t∈x.aT4,-9223372036854775808<=t.bQ.home/\t.bQ.home<=9223372036854775807:=by
 obtain⟨k,ds,rfl,hb,hf⟩:=p9 aNY h;obtain⟨a0,b0,d0,r0,rfl,rfl,h0,hf⟩:=hf;obtain⟨a1,b1,d1,r1,rfl,rfl,h1,hf⟩:=hf;obtain⟨a2,b2,d2,r2,rfl,rfl,h2,hf⟩:=hf;obtain⟨a3,b3,d3,r3,rfl,rfl,h3,hf⟩:=hf;obtain⟨a4,b4,d4,r4,rfl,rfl,h4,hf⟩:=hf;obtain⟨rfl,rfl⟩:=hf;obtain⟨x0,g0,m0⟩:=aNO h0;obtain⟨x1,g1,m1⟩:=aMB h1;obtain⟨x2,g2,m2,q2⟩:=oV T4.aT1 (λv=>v.bQ.cR+1) (λv=>v.bQ.wt/\-9223372036854775808<=v.bQ.home/\v.bQ.home<=9223372036854775807) 17 aNX aM6 eD (λk _ cs d h=>riT h) h2;obtain⟨x3,g3,m3,e3,F3⟩:=kQ W3 h3;obtain⟨x4,g4,m4⟩:=aMB h4;simp only[mE]at hb;have hn:rZ ([]:List (DataW H))=0:=rfl
 try simp only[U3.1,U3.2,BQ.1,BQ.2]at*
 have G:=g0.app (g1.app (g2.app (g3.app (g4.app sL.nil))));have hl:=Q7 (λv:T4=>v.bQ.cR+1) (λ_=>oM) x2;refine⟨⟨x0,x1,x2,x3,x4⟩,?_,?_,?_,?_,?_,?_,?_⟩
 ·simpa [X4.aT1]using G
 ·intro t ht;have:=WZ (λv:T4=>v.bQ.cR+1) x2 t ht;exact⟨by(try dsimp only at this);omega,(q2 t ht).1⟩
 ·(try dsimp only);omega
 ·(try dsimp only);omega
 ·(try dsimp only);omega
 ·(try dsimp only);omega
 ·exact λt ht=>(q2 t ht).2
def U4.m(u:U4):Nat:=S4.NK u.code+(u.names.map λv=>v.value.cR+v.name.size+1).sum+u.seen.length+1
def U4.p(u:U4):Prop:=(-9223372036854775808<=u.side/\u.side<=9223372036854775807)/\S4.RF u.code/\S4.B5 u.code/\V.B5 (u.names.map (·.value))
theorem riU{cs:List Value}{d:DataW H}(h:PB w enc n 33 cs d):∃u:U4,sL w u.aT1 cs/\u.m<=rI d/\u.p:=by
 obtain⟨k,ds,rfl,hb,hf⟩:=p9 aN1 h;obtain⟨a0,b0,d0,r0,rfl,rfl,h0,hf⟩:=hf;obtain⟨a1,b1,d1,r1,rfl,rfl,h1,hf⟩:=hf;obtain⟨a2,b2,d2,r2,rfl,rfl,h2,hf⟩:=hf;obtain⟨a3,b3,d3,r3,rfl,rfl,h3,hf⟩:=hf;obtain⟨rfl,rfl⟩:=hf;obtain⟨x0,g0,m0,e0,F0⟩:=kQ aK8 h0;obtain⟨x1,g1,m1,q1,q1b⟩:=aMC h1;obtain⟨x2,g2,m2,q2⟩:=aMD h2;obtain⟨x3,g3,m3⟩:=aNP h3;simp only[mE]at hb;have hn:rZ ([]:List (DataW H))=0:=rfl
 try simp only[U3.1,U3.2,BQ.1,BQ.2]at*
 have G:=g0.app (g1.app (g2.app (g3.app sL.nil)));refine⟨⟨x0,x1,x2,x3⟩,?_,?_,⟨e0,F0⟩,q1b,q1,q2⟩
 ·simpa [U4.aT1]using G
 ·simp only[U4.m];omega
end
open Go.ChangeShapes Go.WideShapes Go.ChangeAt Go.RowKit
theorem aMW{P:Program}{f:FuncId}{cs:List C}{vs:List Value}(h:aJ P f (cs.map .d) (λ_=>none) (.ok (.d (.v (.bool true)))) (λ_=>none))(hd:C.bR w (λ_=>False) cs vs):
 Calls P f vs.toArray w λe w'=>e=.returned (.bool true)/\iF (λ_=>False) w w':=by
 have h0:bC (λ_=>False) (λ_=>False) w ⟨0,none⟩ (λ_=>.x) (λ_=>none) (λ_=>undef) {tmps:= #[],defers:=[]} w:=
  {keeps:=iF.refl _ _,size:=rfl,defers:=(λds e=>by cases e),tmps:=(λn=>by simp[A.Den]),res:=(λi r e=>by cases e),own:=(λi r b e=>by cases e),apart:=(λi j r r2 b e=>by cases e)}
 refine(h.2 _ _ _ _ w _ _ w h0 (λb e=>e.elim) vs ?_).mono ?_
 ·refine A.iO.2 (C.dK (dV.refl _ w) (λb hb _=>?_) _ _ hd);rcases hb with hb|⟨i,r,hb,_⟩
  ·exact hb
  ·cases hb
 ·rintro e w' ⟨ρ',h1,_,y,rfl,hy⟩;simp only[A.Den,C.Den]at hy;subst hy;exact⟨rfl,h1.keeps⟩
theorem sL.agg{w:World}{l:List C}{vs:Array Value}(h:sL w l vs.toList):C.Den w (λ_=>False) (.agg l) (.agg vs):=by
 simp only[C.Den];exact⟨vs,rfl,h.2,h.1⟩
theorem sL.den{c:C}{v:Value}(h:sL w [c] [v]):C.Den w (λ_=>False) c v:=by
 have:=h.1;simp only[C.bR]at this;obtain⟨y,yr,h1,h2,rfl⟩:=this;simp only[iX,and_true]at h1;rw[h1];exact h2
theorem iF.sameAt{w w':World}(h:iF (λ_=>False) w w'){p:MemPlace}(hb:p.block<w.heap.size):w.sameAt w' p:=by
 cases p with
 |cell b o=>exact World.cell?_of_block (h.block b hb λe=>e)
 |map b=>exact h.block b hb λe=>e
section
variable{H:Type}{enc:TypeId×Value->H}{P:Program}
theorem M8(hl:laidOutB P=true){W W':World}(hK:iF (λ_=>False) W W'){sp:Nat->Bool}:∀(ts:List TypeId)(vs:List Value)(ds:List (DataW H))(ps:List MemPlace),(∀t∈ts,P.readableRec t=true/\t<P.types.size)->
 DataW.TrodAll enc P W 0 (λ_=>true) true ts vs ds ps->(∀p∈ps,p.block<W.heap.size)->(∀p∈ps,sp p.block=true)->DataW.TrodAll enc P W' 0 sp true ts vs ds ps
 |[],[],[],ps,_,h,_,_=>h
 |t::ts,v::vs,d::ds,ps,ht,h,hb,hs=>by
  obtain⟨p,q,h1,h2,rfl⟩:=h;have htt:=ht t sM
  exact⟨p,q,Go.WideElems.Trod_stays hl htt.1 htt.2 h1 (λx hx=>hK.sameAt (hb x (by simp[hx]))) (λx hx=>hs x (by simp[hx])),
   M8 hl hK ts vs ds q (λt h=>ht t (by simp[h])) h2 (λx hx=>hb x (by simp[hx])) (λx hx=>hs x (by simp[hx])),rfl⟩
 |[],[],_::_,_,_,h,_,_=>h.elim
 |[],_::_,_,_,_,h,_,_=>h.elim
 |_::_,[],_,_,_,h,_,_=>h.elim
 |_::_,_::_,[],_,_,h,_,_=>h.elim
end
theorem aTU{H:Type}{enc:TypeId×Value->H}{cs:List Value}{d:DataW H}(h:PB w enc n 33 cs d)(hB:rI d<=1048576):∃u:U4,sL w u.aT1 cs/\u.gA/\u.wD/\V.dB (u.names.map (·.value))<=2^20:=by
 obtain⟨u,h1,h4,p1,p2,p3,p4⟩:=riU h;have h5:=aRM u.names;have h8:=S4.xC u.code;simp only[U4.m]at h4;exact⟨u,h1,⟨p1,oM,p2,oM,oM,oM⟩,⟨p1,oM,S4.aEZ _ p3 oM,oM,p4,λn hn=>by have:=aR7 u.names n hn;omega,oM,oM⟩,oM⟩
theorem YC(a:E4)(ha:a.cR<=2^38):Pu 179 [.d (.agg a.aT1),.d (.agg a.aT1)] (.d (cb true)):=by
 have hca:=a.fA;have hla:=E4.eW a.l;have ih:∀i(h:i<a.l.length),Pu 179 [.d (.agg (E4.aT1 a.l[i])),.d (.agg (E4.aT1 a.l[i]))] (.d (cb true)):=λi h=>
  have:=a.gM i h
  YC a.l[i] (by have:=E4.dG a.l i h;omega)
 refine iC mix Tryz.func179 ?_
 repeat'(first|refine bl ?_|refine bS (λh=>?_) (λh=>?_))
 all_goals try(exfalso;omega)
 refine bV mix (λi:Nat=>i<=a.l.length) (I:=λi=>[(2,.lp 1 0),(3,.lp 9 0),(5,.d (ci i))])
  (J:=λi=>[(1,.cells false (a.aT1.map A.d)),(9,.cells false (a.aT1.map A.d))]) (μ:=λi=>a.l.length -i) 100 0 oM mZ ?_
 rintro i hi
 repeat'(first|with_reducible (first|refine w1 ?_|refine w2 ?_|refine w3 ?_|refine w4 ?_|refine w5 ?_|refine w9 ?_|refine wa ?_|refine wc ?_|refine we ?_|refine nN.mk ?_|refine O8.f rfl ?_)|((with_reducible (first|refine wr ?_|refine wi ?_|refine wx ?_));(conv=>whnf))|((with_reducible refine wt eD kK ?_);(conv=>whnf))|((with_reducible refine FC.mk (RG (by(try dsimp only);omega) (by(try dsimp only);omega)) ?_);(conv=>whnf))|((with_reducible refine nQ (λh=>?_) (λh=>?_))<;>(try rw[h])<;>(conv at h=>{simp}))|((refine eE E4.cP rfl eD oM ?_);(conv=>whnf))|((refine XD.mk _ (ih i oM) ?_);(conv=>whnf)))
 ·exact⟨i+1,oM,oM,mZ⟩
 ·exact .one (.d _)
 termination_by SizeOf.sizeOf a
theorem FD(l:List S4)(hl:S4.dB l<=2^38):Pu 140 [.d (.sl 17 (l.map S4.row)),.d (.sl 17 (l.map S4.row))] (.d (cb true)):=by
 have hlen:=S4.eW l;have a0W:∀i(h:i<l.length),S4.dB l[i].t<S4.dB l/\S4.dB l[i].e<S4.dB l/\S4.dB l[i].c<S4.dB l/\l[i].a.cR<=2^38/\l[i].b.cR<=2^38/\l[i].w.length<=2^38:=λi h=>by
  have h1:=S4.dG l i h;have h2:=l[i].fA;omega
 have ih:∀i(h:i<l.length),(Pu 140 [.d (.sl 17 (l[i].t.map S4.row)),.d (.sl 17 (l[i].t.map S4.row))] (.d (cb true)))/\(Pu 140 [.d (.sl 17 (l[i].e.map S4.row)),.d (.sl 17 (l[i].e.map S4.row))] (.d (cb true)))/\(Pu 140 [.d (.sl 17 (l[i].c.map S4.row)),.d (.sl 17 (l[i].c.map S4.row))] (.d (cb true))):=λi h=>
  have hd:=a0W i h
  ⟨FD l[i].t oM,FD l[i].e oM,FD l[i].c oM⟩
 refine iC mix Tryz.func140 ?_
 repeat'(first|refine bl ?_|refine bS (λh=>?_) (λh=>?_))
 all_goals try(exfalso;omega)
 refine bV mix (λi:Nat=>i<=l.length) (I:=λi=>[(0,.d (.sl 17 (l.map S4.row))),(1,.d (.sl 17 (l.map S4.row))),(5,.d (ci i))])
  (J:=λi=>[]) (μ:=λi=>l.length -i) 1000 0 oM mZ ?_
 rintro i hi;by_cases cX:i<l.length
 ·obtain⟨h1,h2,h3⟩:=ih i cX;have hd:=a0W i cX;have ha:=YC l[i].a hd.2.2.2.1;have hb:=YC l[i].b hd.2.2.2.2.1;have hw:=hd.2.2.2.2.2;generalize hv:l[i]=v at h1 h2 h3 ha hb hw;have K0:∀{k:List C->Prop},k v.aT1->PA 17 17 (l.map S4.row) (i:Int) k:=λhk=>eE S4.cP rfl eD cX (by rw[hv];exact hk)
  repeat'(first|refine bl ?_|refine bS (λh=>?_) (λh=>?_)|refine K0 (bw ?_)|refine dR ha (.cons (.agg v.a.aT1) (.cons (.agg v.a.aT1) .nil)) (bw ?_)|refine dR hb (.cons (.agg v.b.aT1) (.cons (.agg v.b.aT1) .nil)) (bw ?_)|refine aF h1 (bw ?_)|refine aF h2 (bw ?_)|refine aF h3 (bw ?_))
  all_goals try(exfalso;first|omega|contradiction|(simp_all;done))
  refine cY mix (λj:Nat=>j<=v.w.length) (I:=λj=>[(0,.d (.sl 17 (l.map S4.row))),(1,.d (.sl 17 (l.map S4.row))),(5,.d (ci i)),(6,.lp 1096 0),(7,.lp 1104 0),(8,.d (ci j))])
   (J:=λj=>[(1096,.cells false (v.aT1.map A.d)),(1104,.cells false (v.aT1.map A.d))]) (μ:=λj=>v.w.length -j) 3000 0 2
   (λ_:Unit=>True) (λ_=>[(0,.d (.sl 17 (l.map S4.row))),(1,.d (.sl 17 (l.map S4.row))),(5,.d (ci i))]) (λ_=>[]) 5000 oM mZ ?_ ?_
  ·intro j hj
   repeat'(first|with_reducible (first|refine w1 ?_|refine w2 ?_|refine w3 ?_|refine w4 ?_|refine w5 ?_|refine w9 ?_|refine wa ?_|refine wb ?_|refine wc ?_|refine wd ?_|refine wj ?_|refine wk ?_|refine wl ?_|refine nN.mk ?_)|((with_reducible (first|refine wr ?_|refine wi ?_|refine wx ?_));(conv=>whnf))|((with_reducible refine wt eD kK ?_);(conv=>whnf))|((with_reducible refine FC.mk (RG (by(try dsimp only);omega) (by(try dsimp only);omega)) ?_);(conv=>whnf))|((with_reducible refine nQ (λh=>?_) (λh=>?_))<;>(try rw[h])<;>(conv at h=>{simp}))|((refine cD rfl eD oM ?_);(conv=>whnf)))
   ·exfalso;first|contradiction|(simp_all;done)
   ·exact⟨j+1,oM,oM,mZ⟩
   ·exact⟨(),tV,mZ⟩
  rintro _ _;refine bl ?_;exact⟨i+1,oM,oM,mZ⟩
 ·skip
  refine bl ?_;refine O8.f (aU0 (by(try simp only[aB]);omega)) ?_;refine bl ?_;exact dP rfl
 termination_by S4.dB l
theorem M9(a:V)(ha:a.cR<=2^38):Pu 138 [.d (.agg a.aT1),.d (.agg a.aT1)] (.d (cb true)):=by
 have:=aQQ a a ha ha
 rwa [(V.aOZ a a).2 rfl]at this
theorem aJF(x:W4)(hx:x.cR<=2^35):Pu 82 [.d (.agg x.aT1),.d (.agg x.aT1)] (.d (cb true)):=by
 have hc:=hx;unfold W4.cR at hc;have E0:x.names.length<=V.dB (x.names.map (·.value)):=by have:=V.eW (x.names.map (·.value));simpa using this
 have hn:∀i(h:i<x.names.length),x.names[i].value.cR<=V.dB (x.names.map (·.value)):=λi h=>by
  have:=V.dG (x.names.map (·.value)) i (by simpa using h);simpa using this
 have h1:=M9 x.value oM;have h2:=aUI x.values
 have h3:=M9 (V.mk 3 0 ByteArray.empty x.values 0) (by have:(V.mk 3 0 ByteArray.empty x.values 0).cR=1+V.dB x.values:=rfl
                                                       omega)
 have h4:=FD x.code oM;have h5:=λ(i:Nat)(h:i<x.names.length)=>M9 x.names[i].value (by have:=hn i h;omega);refine iC mix Tryz.func82 ?_
 repeat'(first|with_reducible (first|refine w1 ?_|refine w2 ?_|refine w4 ?_|refine w5 ?_|refine w8 ?_|refine w9 ?_|refine wb ?_|refine nN.mk ?_|refine O8.t rfl ?_|refine O8.f rfl ?_)|((with_reducible (first|refine wr ?_|refine wi ?_|refine wx ?_|refine wh ?_));(conv=>whnf))|((with_reducible refine wt eD kK ?_);(conv=>whnf))|((with_reducible refine nQ (λh=>?_) (λh=>?_))<;>(try rw[h])<;>(conv at h=>{simp}))|((refine XD.mk _ (λm=>(h1 m).mR (.cons (.agg x.value.aT1) (.cons (.agg x.value.aT1) .nil))) ?_);(conv=>whnf))|((refine XD.mk _ h2 ?_);(conv=>whnf))|((refine XD.mk _ h3 ?_);(conv=>whnf)))
 all_goals try(exfalso;first|omega|contradiction|(simp_all;done))
 refine bV mix (λi:Nat=>i<=x.names.length) (I:=λi=>[(2,.lp 1 0),(3,.lp 9 0),(5,.d (ci i))])
  (J:=λi=>[(1,.cells false (x.aT1.map A.d)),(9,.cells false (x.aT1.map A.d))]) (μ:=λi=>x.names.length -i) 1000 0 oM mZ ?_
 intro i hi;by_cases cX:i<x.names.length
 ·have h6:=h5 i cX;have h6:=λm=>(h6 m).mR (.cons (.agg x.names[i].value.aT1) (.cons (.agg x.names[i].value.aT1) .nil))
  repeat'(first|with_reducible (first|refine w1 ?_|refine w2 ?_|refine w3 ?_|refine w4 ?_|refine w5 ?_|refine w9 ?_|refine wa ?_|refine wb ?_|refine wc ?_|refine wd ?_|refine we ?_|refine nN.mk ?_|refine O8.t rfl ?_|refine O8.f rfl ?_)|((with_reducible (first|refine wr ?_|refine wi ?_|refine wx ?_|refine wh ?_));(conv=>whnf))|((with_reducible refine wt eD kK ?_);(conv=>whnf))|((with_reducible refine FC.mk (RG (by(try dsimp only);omega) (by(try dsimp only);omega)) ?_);(conv=>whnf))|((with_reducible refine nQ (λh=>?_) (λh=>?_))<;>(try rw[h])<;>(conv at h=>{simp}))|((refine cD rfl eD cX ?_);(conv=>whnf))|((refine XD.mk _ h6 ?_);(conv=>whnf)))
  all_goals first|exact⟨i+1,oM,oM,mZ⟩|(exfalso;first|omega|contradiction|(simp_all;done))
 ·skip
  refine bl ?_;refine O8.f (aU0 (by(try simp only[aB]);omega)) ?_
  repeat'(first|refine bl ?_|refine aF h4 (bw ?_))
  exact dP rfl
theorem aLX(x:X4)(h1:x.parents.length<=2^38)(h2:x.aU3.length<=2^38)(h3:x.made.length<=2^38)(h4:x.aT4.length<=2^38)(h5:∀t∈x.aT4,t.bQ.cR<=2^35):Pu 37 [.d (.agg x.aT1),.d (.agg x.aT1)] (.d (cb true)):=by
 refine iC mix Tryz.func37 ?_
 repeat'(first|refine bl ?_|refine bS (λh=>?_) (λh=>?_))
 all_goals try(exfalso;first|omega|contradiction|(simp_all;done))
 refine cY mix (λi:Nat=>i<=x.parents.length) (I:=λi=>[(2,.lp 1 0),(3,.lp 9 0),(5,.d (ci i))])
  (J:=λi=>[(1,.cells false (x.aT1.map A.d)),(9,.cells false (x.aT1.map A.d))]) (μ:=λi=>x.parents.length -i) 1000 0 0
  (λ_:Unit=>True) (λ_=>[(2,.lp 1 0),(3,.lp 9 0)]) (λ_=>[(1,.cells false (x.aT1.map A.d)),(9,.cells false (x.aT1.map A.d))]) 2000 oM mZ ?_ ?_
 ·intro i hi
  repeat'(first|with_reducible (first|refine w1 ?_|refine w2 ?_|refine w3 ?_|refine w4 ?_|refine w5 ?_|refine w9 ?_|refine wa ?_|refine wb ?_|refine wc ?_|refine wd ?_|refine wj ?_|refine wk ?_|refine wl ?_|refine nN.mk ?_)|((with_reducible (first|refine wr ?_|refine wi ?_|refine wx ?_));(conv=>whnf))|((with_reducible refine wt eD kK ?_);(conv=>whnf))|((with_reducible refine FC.mk (RG (by(try dsimp only);omega) (by(try dsimp only);omega)) ?_);(conv=>whnf))|((with_reducible refine nQ (λh=>?_) (λh=>?_))<;>(try rw[h])<;>(conv at h=>{simp}))|((refine cD rfl eD oM ?_);(conv=>whnf)))
  all_goals first|exact⟨i+1,oM,oM,mZ⟩|exact⟨(),tV,mZ⟩|(exfalso;first|contradiction|(simp_all;done))
 rintro _ _;refine bl ?_;refine cY mix (λi:Nat=>i<=x.aU3.length) (I:=λi=>[(2,.lp 1 0),(3,.lp 9 0),(6,.d (ci i))])
  (J:=λi=>[(1,.cells false (x.aT1.map A.d)),(9,.cells false (x.aT1.map A.d))]) (μ:=λi=>x.aU3.length -i) 3000 0 2
  (λ_:Unit=>True) (λ_=>[(2,.lp 1 0),(3,.lp 9 0)]) (λ_=>[(1,.cells false (x.aT1.map A.d)),(9,.cells false (x.aT1.map A.d))]) 4000 oM mZ ?_ ?_
 ·intro i hi
  repeat'(first|with_reducible (first|refine w1 ?_|refine w2 ?_|refine w3 ?_|refine w4 ?_|refine w5 ?_|refine w9 ?_|refine wa ?_|refine wb ?_|refine wc ?_|refine wd ?_|refine wj ?_|refine wk ?_|refine wl ?_|refine nN.mk ?_)|((with_reducible (first|refine wr ?_|refine wi ?_|refine wx ?_));(conv=>whnf))|((with_reducible refine wt eD kK ?_);(conv=>whnf))|((with_reducible refine FC.mk (RG (by(try dsimp only);omega) (by(try dsimp only);omega)) ?_);(conv=>whnf))|((with_reducible refine nQ (λh=>?_) (λh=>?_))<;>(try rw[h])<;>(conv at h=>{simp}))|((refine cD rfl eD oM ?_);(conv=>whnf)))
  all_goals first|exact⟨i+1,oM,oM,mZ⟩|exact⟨(),tV,mZ⟩|(exfalso;first|contradiction|(simp_all;done))
 rintro _ _;refine bl ?_;refine cY mix (λi:Nat=>i<=x.made.length) (I:=λi=>[(2,.lp 1 0),(3,.lp 9 0),(7,.d (ci i))])
  (J:=λi=>[(1,.cells false (x.aT1.map A.d)),(9,.cells false (x.aT1.map A.d))]) (μ:=λi=>x.made.length -i) 5000 0 4
  (λ_:Unit=>True) (λ_=>[(2,.lp 1 0),(3,.lp 9 0)]) (λ_=>[(1,.cells false (x.aT1.map A.d)),(9,.cells false (x.aT1.map A.d))]) 6000 oM mZ ?_ ?_
 ·intro i hi
  repeat'(first|with_reducible (first|refine w1 ?_|refine w2 ?_|refine w3 ?_|refine w4 ?_|refine w5 ?_|refine w9 ?_|refine wa ?_|refine wb ?_|refine wc ?_|refine wd ?_|refine wj ?_|refine wk ?_|refine wl ?_|refine nN.mk ?_)|((with_reducible (first|refine wr ?_|refine wi ?_|refine wx ?_));(conv=>whnf))|((with_reducible refine wt eD kK ?_);(conv=>whnf))|((with_reducible refine FC.mk (RG (by(try dsimp only);omega) (by(try dsimp only);omega)) ?_);(conv=>whnf))|((with_reducible refine nQ (λh=>?_) (λh=>?_))<;>(try rw[h])<;>(conv at h=>{simp}))|((refine cD rfl eD oM ?_);(conv=>whnf)))
  all_goals first|exact⟨i+1,oM,oM,mZ⟩|exact⟨(),tV,mZ⟩|(exfalso;first|contradiction|(simp_all;done))
 rintro _ _;refine bl ?_;refine bV mix (λi:Nat=>i<=x.aT4.length) (I:=λi=>[(2,.lp 1 0),(3,.lp 9 0),(8,.d (ci i))])
  (J:=λi=>[(1,.cells false (x.aT1.map A.d)),(9,.cells false (x.aT1.map A.d))]) (μ:=λi=>x.aT4.length -i) 7000 0 oM mZ ?_
 intro i hi;by_cases cX:i<x.aT4.length
 ·have h6:=aJF x.aT4[i].bQ (h5 _ (aY cX));have h6:=λm=>(h6 m).mR (.cons (.agg x.aT4[i].bQ.aT1) (.cons (.agg x.aT4[i].bQ.aT1) .nil))
  repeat'(first|with_reducible (first|refine w1 ?_|refine w2 ?_|refine w3 ?_|refine w4 ?_|refine w5 ?_|refine w9 ?_|refine wa ?_|refine wb ?_|refine wc ?_|refine wd ?_|refine we ?_|refine nN.mk ?_|refine O8.t rfl ?_|refine O8.f rfl ?_)|((with_reducible (first|refine wr ?_|refine wi ?_|refine wx ?_|refine wh ?_));(conv=>whnf))|((with_reducible refine wt eD kK ?_);(conv=>whnf))|((with_reducible refine FC.mk (RG (by(try dsimp only);omega) (by(try dsimp only);omega)) ?_);(conv=>whnf))|((with_reducible refine nQ (λh=>?_) (λh=>?_))<;>(try rw[h])<;>(conv at h=>{simp}))|((refine cD rfl eD cX ?_);(conv=>whnf))|((refine XD.mk _ h6 ?_);(conv=>whnf)))
  all_goals first|exact⟨i+1,oM,oM,mZ⟩|(exfalso;first|omega|contradiction|(simp_all;done))
 ·skip
  refine bl ?_;refine O8.f (aU0 (by(try simp only[aB]);omega)) ?_;refine bl ?_;exact dP rfl
theorem aOM(a:Int):Pu 229 [.d (ci a)] (.d (cb false)):=by
 refine iC mix Tryz.func229 ?_;refine bl ?_;exact dP sM
theorem aM1(a:Int):Pu 209 [.d (ci a),.d (ci a)] (.d (ci 0)):=by
 refine iC mix Tryz.func209 ?_
 repeat'(first|refine bl ?_|refine bS (λh=>?_) (λh=>?_)|refine aF (aOM a) (bw ?_))
 all_goals first|exact oF rfl|(exfalso;first|omega|contradiction)
theorem aNC(a:Int):Pu 211 [.d (ci a),.d (ci a)] (.d (ci 0)):=by
 refine iC mix Tryz.func211 ?_
 repeat'(first|refine bl ?_|refine bS (λh=>?_) (λh=>?_)|refine aF (aLG a) (bw ?_))
 all_goals first|exact oF rfl|(exfalso;first|omega|contradiction)
theorem KR:∀l:List UInt8,Op.bytesLess l l=false
 |[]=>rfl
 |x::l=>by simp[Op.bytesLess,KR l]
theorem aGC(a:ByteArray)(w:World):Calls Tryz.prog 230 #[.string a] w λe w'=>e=.returned (.bool false)/\w'=w:=by
 go_enter Tryz.func230,Tryz.ntmps230
 go_wp2
 go_ret
 exact⟨sM,rfl⟩
theorem aFH(a:ByteArray)(w:World):Calls Tryz.prog 210 #[.string a,.string a] w λe w'=>e=.returned (.int .i64 0)/\w'=w:=by
 have hb:=KR a.toList
 go_enter Tryz.func210,Tryz.ntmps210
 go_wp2_with (refine(aGC _ _).mono ?_;rintro e w' ⟨rfl,rfl⟩)
 rw[show binOp BinOp.gtr 9 (.string a) (.string a)=pure (.bool false) by simp[binOp,Op.stringOp,hb]];simp only[cB,Result.andThen]
 go_wp2
 go_ret
 exact⟨rfl,rfl⟩
theorem aNK(a:ByteArray):Pu 210 [.d (cs a),.d (cs a)] (.d (ci 0)):=λm=>⟨kK,λN T M0 S0 w0 ρ b w hs cX vs P2=>by
 simp only[A.bR,A.Den,C.Den]at P2;obtain⟨y,yr,rfl,rfl,y2,yr2,rfl,rfl,rfl⟩:=P2;refine(aFH a w).mono ?_;rintro e w' ⟨rfl,rfl⟩
 exact⟨ρ,hs,gL.refl m ρ,_,rfl,by simp[A.Den,C.Den]⟩⟩
theorem aEM(k:FuncId)(L:List V)(hf:∀i(h:i<L.length),Pu k [.d (.agg (V.aT1 L[i])),.d (.agg (V.aT1 L[i]))] (.d (ci 0)))(hL:L.length<=2^40):Pu 212 [.d (.sl 5 (L.map V.row)),.d (.sl 5 (L.map V.row)),.d (.fn (.func k) [] [])] (.d (ci 0)):=by
 refine iC mix Tryz.func212 ?_;refine bl ?_;refine bV mix (λi:Nat=>i<=L.length) (I:=λi=>[(0,.d (.sl 5 (L.map V.row))),(1,.d (.sl 5 (L.map V.row))),(2,.d (.fn (.func k) [] [])),(11,.d (.sl 5 (L.map V.row))),(12,.d (ci L.length)),(13,.d (ci i))])
  (J:=λi=>[]) (μ:=λi=>L.length -i) 100 0 oM mZ ?_
 intro i hi;by_cases cX:i<L.length
 ·have hg:=λm=>(hf i cX m).mR (.cons (.agg (V.aT1 L[i])) (.cons (.agg (V.aT1 L[i])) .nil))
  repeat'(first|refine bl ?_|refine bS (λh=>?_) (λh=>?_)|refine eE V.cP rfl eD cX (bw ?_)|refine aF hg (bw ?_))
  all_goals first|exact⟨i+1,oM,oM,mZ⟩|(exfalso;first|omega|contradiction)|trace_state
 ·skip
  refine bl ?_;refine O8.f (aU0 (by(try simp only[aB]);omega)) ?_
  repeat'(first|refine bl ?_|refine bS (λh=>?_) (λh=>?_))
  all_goals first|exact oF rfl|(exfalso;omega)
theorem aAH(v:V)(hv:v.cR<=2^40):Pu 174 [.d (.agg v.aT1),.d (.agg v.aT1)] (.d (ci 0)):=by
 have hca:=v.fA;have hla:=V.eW v.l;have ih:∀i(h:i<v.l.length),Pu 174 [.d (.agg (V.aT1 v.l[i])),.d (.agg (V.aT1 v.l[i]))] (.d (ci 0)):=λi h=>
  have:=v.gM i h
  aAH v.l[i] (by have:=V.dG v.l i h;omega)
 have hcp:=aEM 174 v.l ih oM;refine iC mix Tryz.func174 ?_
 repeat'(first|refine bl ?_|refine bS (λh=>?_) (λh=>?_)|refine aF (aM1 v.n) (bw ?_)|refine aF (aNK v.s) (bw ?_)|refine aF (aNC v.r) (bw ?_)|refine aF hcp (bw ?_))
 all_goals first|exact oF rfl|(exfalso;first|omega|contradiction)|trace_state
 termination_by SizeOf.sizeOf v
theorem aAF(v:V)(hv:v.cR<=2^40)(hm:v.may=true):Pu 133 [.d (.agg v.aT1),.d (.agg v.aT1)] (.d (cb true)):=by
 have h1:=AL v hv;rw[hm]at h1;have h2:=aAH v hv;refine iC mix Tryz.func133 ?_
 repeat'(first|refine bl ?_|refine dR h1 (.cons (.agg v.aT1) .nil) (bw ?_)|refine dR h2 (.cons (.agg v.aT1) (.cons (.agg v.aT1) .nil)) (bw ?_))
 all_goals first|exact dP rfl|trace_state
theorem aH1(L:List Int)(hL:L.length<=2^40):Pu 74 [.d (.sl 1 (L.map (λx=>[ci x]))),.d (.sl 1 (L.map (λx=>[ci x])))] (.d (cb true)):=by
 refine iC mix Tryz.func74 ?_
 repeat'(first|refine bl ?_|refine bS (λh=>?_) (λh=>?_))
 all_goals try(exfalso;omega)
 refine bV mix (λi:Nat=>i<=L.length) (I:=λi=>[(0,.d (.sl 1 (L.map (λx=>[ci x])))),(1,.d (.sl 1 (L.map (λx=>[ci x])))),(12,.d (ci L.length)),(13,.d (ci i))])
  (J:=λi=>[]) (μ:=λi=>L.length -i) 100 0 oM mZ ?_
 intro i hi
 repeat'(first|with_reducible (first|refine w1 ?_|refine w2 ?_|refine w3 ?_|refine w4 ?_|refine w5 ?_|refine w9 ?_|refine wa ?_|refine wb ?_|refine wc ?_|refine wd ?_|refine we ?_|refine nN.mk ?_)|((with_reducible (first|refine wr ?_|refine wi ?_|refine wx ?_));(conv=>whnf))|((with_reducible refine wt eD kK ?_);(conv=>whnf))|((with_reducible refine FC.mk (RG (by(try dsimp only);omega) (by(try dsimp only);omega)) ?_);(conv=>whnf))|((with_reducible refine nQ (λh=>?_) (λh=>?_))<;>(try rw[h])<;>(conv at h=>{simp}))|((refine cD rfl eD oM ?_);(conv=>whnf)))
 all_goals first|exact⟨i+1,oM,oM,mZ⟩|exact dP rfl|(exfalso;first|contradiction|omega|(simp_all;done))
theorem aEX(L:List Int)(hL:L.length<=2^40):Pu 75 [.d (.sl 1 (L.map (λx=>[ci x]))),.d (.sl 1 (L.map (λx=>[ci x])))] (.d (cb true)):=by
 refine iC mix Tryz.func75 ?_
 repeat'(first|refine bl ?_|refine bS (λh=>?_) (λh=>?_))
 all_goals try(exfalso;omega)
 refine bV mix (λi:Nat=>i<=L.length) (I:=λi=>[(0,.d (.sl 1 (L.map (λx=>[ci x])))),(1,.d (.sl 1 (L.map (λx=>[ci x])))),(12,.d (ci L.length)),(13,.d (ci i))])
  (J:=λi=>[]) (μ:=λi=>L.length -i) 100 0 oM mZ ?_
 intro i hi
 repeat'(first|with_reducible (first|refine w1 ?_|refine w2 ?_|refine w3 ?_|refine w4 ?_|refine w5 ?_|refine w9 ?_|refine wa ?_|refine wb ?_|refine wc ?_|refine wd ?_|refine we ?_|refine nN.mk ?_)|((with_reducible (first|refine wr ?_|refine wi ?_|refine wx ?_));(conv=>whnf))|((with_reducible refine wt eD kK ?_);(conv=>whnf))|((with_reducible refine FC.mk (RG (by(try dsimp only);omega) (by(try dsimp only);omega)) ?_);(conv=>whnf))|((with_reducible refine nQ (λh=>?_) (λh=>?_))<;>(try rw[h])<;>(conv at h=>{simp}))|((refine cD rfl eD oM ?_);(conv=>whnf)))
 all_goals first|exact⟨i+1,oM,oM,mZ⟩|exact dP rfl|(exfalso;first|contradiction|omega|(simp_all;done))
theorem aKU(L:List ByteArray)(hL:L.length<=2^40):Pu 178 [.d (.sl 1 (L.map (λs=>[cs s]))),.d (.sl 1 (L.map (λs=>[cs s])))] (.d (cb true)):=by
 refine iC mix Tryz.func178 ?_
 repeat'(first|refine bl ?_|refine bS (λh=>?_) (λh=>?_))
 all_goals try(exfalso;omega)
 refine bV mix (λi:Nat=>i<=L.length) (I:=λi=>[(0,.d (.sl 1 (L.map (λs=>[cs s])))),(1,.d (.sl 1 (L.map (λs=>[cs s])))),(12,.d (ci L.length)),(13,.d (ci i))])
  (J:=λi=>[]) (μ:=λi=>L.length -i) 100 0 oM mZ ?_
 intro i hi
 repeat'(first|with_reducible (first|refine w1 ?_|refine w2 ?_|refine w3 ?_|refine w4 ?_|refine w5 ?_|refine w9 ?_|refine wa ?_|refine wb ?_|refine wc ?_|refine wd ?_|refine we ?_|refine nN.mk ?_)|((with_reducible (first|refine wr ?_|refine wi ?_|refine wx ?_));(conv=>whnf))|((with_reducible refine wt eD kK ?_);(conv=>whnf))|((with_reducible refine FC.mk (RG (by(try dsimp only);omega) (by(try dsimp only);omega)) ?_);(conv=>whnf))|((with_reducible refine nQ (λh=>?_) (λh=>?_))<;>(try rw[h])<;>(conv at h=>{simp}))|((refine cD rfl eD oM ?_);(conv=>whnf)))
 all_goals first|exact⟨i+1,oM,oM,mZ⟩|exact dP rfl|(exfalso;first|contradiction|omega|(simp_all;done))
theorem aNT(k:FuncId)(L:List E4)(hf:∀i(h:i<L.length),Pu k [.d (.agg (E4.aT1 L[i])),.d (.agg (E4.aT1 L[i]))] (.d (cb true)))(hL:L.length<=2^40):Pu 213 [.d (.sl 4 (L.map E4.row)),.d (.sl 4 (L.map E4.row)),.d (.fn (.func k) [] [])] (.d (cb true)):=by
 refine iC mix Tryz.func213 ?_
 repeat'(first|refine bl ?_|refine bS (λh=>?_) (λh=>?_))
 all_goals try(exfalso;omega)
 refine bV mix (λi:Nat=>i<=L.length) (I:=λi=>[(1,.d (.sl 4 (L.map E4.row))),(2,.d (.fn (.func k) [] [])),(15,.d (.sl 4 (L.map E4.row))),(16,.d (ci L.length)),(17,.d (ci i))])
  (J:=λi=>[]) (μ:=λi=>L.length -i) 100 0 oM mZ ?_
 intro i hi;by_cases cX:i<L.length
 ·have hg:=λm=>(hf i cX m).mR (.cons (.agg (E4.aT1 L[i])) (.cons (.agg (E4.aT1 L[i])) .nil))
  repeat'(first|refine bl ?_|refine bS (λh=>?_) (λh=>?_)|refine eE E4.cP rfl eD cX (bw ?_)|refine aF hg (bw ?_))
  all_goals first|exact⟨i+1,oM,oM,mZ⟩|(exfalso;first|omega|contradiction)
 ·skip
  refine bl ?_;refine O8.f (aU0 (by(try simp only[aB]);omega)) ?_;refine bl ?_;exact dP rfl
theorem aOF(k:FuncId)(L:List V)(hf:∀i(h:i<L.length),Pu k [.d (.agg (V.aT1 L[i])),.d (.agg (V.aT1 L[i]))] (.d (cb true)))(hL:L.length<=2^40):Pu 134 [.d (.sl 5 (L.map V.row)),.d (.sl 5 (L.map V.row)),.d (.fn (.func k) [] [])] (.d (cb true)):=by
 refine iC mix Tryz.func134 ?_
 repeat'(first|refine bl ?_|refine bS (λh=>?_) (λh=>?_))
 all_goals try(exfalso;omega)
 refine bV mix (λi:Nat=>i<=L.length) (I:=λi=>[(1,.d (.sl 5 (L.map V.row))),(2,.d (.fn (.func k) [] [])),(15,.d (.sl 5 (L.map V.row))),(16,.d (ci L.length)),(17,.d (ci i))])
  (J:=λi=>[]) (μ:=λi=>L.length -i) 100 0 oM mZ ?_
 intro i hi;by_cases cX:i<L.length
 ·have hg:=λm=>(hf i cX m).mR (.cons (.agg (V.aT1 L[i])) (.cons (.agg (V.aT1 L[i])) .nil))
  repeat'(first|refine bl ?_|refine bS (λh=>?_) (λh=>?_)|refine eE V.cP rfl eD cX (bw ?_)|refine aF hg (bw ?_))
  all_goals first|exact⟨i+1,oM,oM,mZ⟩|(exfalso;first|omega|contradiction)
 ·skip
  refine bl ?_;refine O8.f (aU0 (by(try simp only[aB]);omega)) ?_;refine bl ?_;exact dP rfl
theorem aNU(k:FuncId)(L:List N4)(hf:∀i(h:i<L.length),Pu k [.d (.agg (N4.aT1 L[i])),.d (.agg (N4.aT1 L[i]))] (.d (cb true)))(hL:L.length<=2^40):Pu 136 [.d (.sl 6 (L.map N4.aT1)),.d (.sl 6 (L.map N4.aT1)),.d (.fn (.func k) [] [])] (.d (cb true)):=by
 refine iC mix Tryz.func136 ?_
 repeat'(first|refine bl ?_|refine bS (λh=>?_) (λh=>?_))
 all_goals try(exfalso;omega)
 refine bV mix (λi:Nat=>i<=L.length) (I:=λi=>[(1,.d (.sl 6 (L.map N4.aT1))),(2,.d (.fn (.func k) [] [])),(15,.d (.sl 6 (L.map N4.aT1))),(16,.d (ci L.length)),(17,.d (ci i))])
  (J:=λi=>[]) (μ:=λi=>L.length -i) 100 0 oM mZ ?_
 intro i hi;by_cases cX:i<L.length
 ·have hg:=λm=>(hf i cX m).mR (.cons (.agg (N4.aT1 L[i])) (.cons (.agg (N4.aT1 L[i])) .nil))
  repeat'(first|refine bl ?_|refine bS (λh=>?_) (λh=>?_)|refine cD rfl eD cX (bw ?_)|refine aF hg (bw ?_))
  all_goals first|exact⟨i+1,oM,oM,mZ⟩|(exfalso;first|omega|contradiction)
 ·skip
  refine bl ?_;refine O8.f (aU0 (by(try simp only[aB]);omega)) ?_;refine bl ?_;exact dP rfl
theorem aN2(k:FuncId)(L:List S4)(hf:∀i(h:i<L.length),Pu k [.d (.agg (S4.aT1 L[i])),.d (.agg (S4.aT1 L[i]))] (.d (cb true)))(hL:L.length<=2^40):Pu 175 [.d (.sl 17 (L.map S4.row)),.d (.sl 17 (L.map S4.row)),.d (.fn (.func k) [] [])] (.d (cb true)):=by
 refine iC mix Tryz.func175 ?_
 repeat'(first|refine bl ?_|refine bS (λh=>?_) (λh=>?_))
 all_goals try(exfalso;omega)
 refine bV mix (λi:Nat=>i<=L.length) (I:=λi=>[(1,.d (.sl 17 (L.map S4.row))),(2,.d (.fn (.func k) [] [])),(15,.d (.sl 17 (L.map S4.row))),(16,.d (ci L.length)),(17,.d (ci i))])
  (J:=λi=>[]) (μ:=λi=>L.length -i) 100 0 oM mZ ?_
 intro i hi;by_cases cX:i<L.length
 ·have hg:=λm=>(hf i cX m).mR (.cons (.agg (S4.aT1 L[i])) (.cons (.agg (S4.aT1 L[i])) .nil))
  repeat'(first|refine bl ?_|refine bS (λh=>?_) (λh=>?_)|refine eE S4.cP rfl eD cX (bw ?_)|refine aF hg (bw ?_))
  all_goals first|exact⟨i+1,oM,oM,mZ⟩|(exfalso;first|omega|contradiction)
 ·skip
  refine bl ?_;refine O8.f (aU0 (by(try simp only[aB]);omega)) ?_;refine bl ?_;exact dP rfl
theorem aOA(k:FuncId)(L:List T4)(hf:∀i(h:i<L.length),Pu k [.d (.agg (T4.aT1 L[i])),.d (.agg (T4.aT1 L[i]))] (.d (cb true)))(hL:L.length<=2^40):Pu 76 [.d (.sl 17 (L.map T4.aT1)),.d (.sl 17 (L.map T4.aT1)),.d (.fn (.func k) [] [])] (.d (cb true)):=by
 refine iC mix Tryz.func76 ?_
 repeat'(first|refine bl ?_|refine bS (λh=>?_) (λh=>?_))
 all_goals try(exfalso;omega)
 refine bV mix (λi:Nat=>i<=L.length) (I:=λi=>[(1,.d (.sl 17 (L.map T4.aT1))),(2,.d (.fn (.func k) [] [])),(15,.d (.sl 17 (L.map T4.aT1))),(16,.d (ci L.length)),(17,.d (ci i))])
  (J:=λi=>[]) (μ:=λi=>L.length -i) 100 0 oM mZ ?_
 intro i hi;by_cases cX:i<L.length
 ·have hg:=λm=>(hf i cX m).mR (.cons (.agg (T4.aT1 L[i])) (.cons (.agg (T4.aT1 L[i])) .nil))
  repeat'(first|refine bl ?_|refine bS (λh=>?_) (λh=>?_)|refine cD rfl eD cX (bw ?_)|refine aF hg (bw ?_))
  all_goals first|exact⟨i+1,oM,oM,mZ⟩|(exfalso;first|omega|contradiction)
 ·skip
  refine bl ?_;refine O8.f (aU0 (by(try simp only[aB]);omega)) ?_;refine bl ?_;exact dP rfl
theorem Y5(a:E4)(ha:a.cR<=2^40):Pu 177 [.d (.agg a.aT1),.d (.agg a.aT1)] (.d (cb true)):=by
 have hca:=a.fA;have hla:=E4.eW a.l;have ih:∀i(h:i<a.l.length),Pu 177 [.d (.agg (E4.aT1 a.l[i])),.d (.agg (E4.aT1 a.l[i]))] (.d (cb true)):=λi h=>
  have:=a.gM i h
  Y5 a.l[i] (by have:=E4.dG a.l i h;omega)
 have hq:=aNT 177 a.l ih oM;refine iC mix Tryz.func177 ?_
 repeat'(first|refine bl ?_|refine bS (λh=>?_) (λh=>?_)|refine aF hq (bw ?_))
 all_goals first|exact dP rfl|(exfalso;first|omega|contradiction|(simp_all;done))|trace_state
 termination_by SizeOf.sizeOf a
theorem aJO(v:S4)(hv:v.cR<=2^38)(h1:Pu 135 [.d (.sl 17 (v.t.map S4.row)),.d (.sl 17 (v.t.map S4.row))] (.d (cb true)))(h2:Pu 135 [.d (.sl 17 (v.e.map S4.row)),.d (.sl 17 (v.e.map S4.row))] (.d (cb true)))(h3:Pu 135 [.d (.sl 17 (v.c.map S4.row)),.d (.sl 17 (v.c.map S4.row))] (.d (cb true))):Pu 176 [.d (.agg v.aT1),.d (.agg v.aT1)] (.d (cb true)):=by
 have hd:=v.fA;have ha:=Y5 v.a oM;have hb:=Y5 v.b oM;have hw:=aKU v.w oM;refine iC mix Tryz.func176 ?_
 repeat'(first|refine bl ?_|refine bS (λh=>?_) (λh=>?_)|refine dR ha (.cons (.agg v.a.aT1) (.cons (.agg v.a.aT1) .nil)) (bw ?_)|refine dR hb (.cons (.agg v.b.aT1) (.cons (.agg v.b.aT1) .nil)) (bw ?_)|refine aF h1 (bw ?_)|refine aF h2 (bw ?_)|refine aF h3 (bw ?_)|refine aF hw (bw ?_))
 all_goals first|exact dP rfl|(exfalso;first|omega|contradiction|(simp_all;done))|trace_state
theorem HG(l:List S4)(hl:S4.dB l<=2^38):Pu 135 [.d (.sl 17 (l.map S4.row)),.d (.sl 17 (l.map S4.row))] (.d (cb true)):=by
 have hlen:=S4.eW l;have a0W:∀i(h:i<l.length),S4.dB l[i].t<S4.dB l/\S4.dB l[i].e<S4.dB l/\S4.dB l[i].c<S4.dB l/\l[i].cR<=2^38:=λi h=>by
  have h1:=S4.dG l i h;have h2:=l[i].fA;omega
 have hf:∀i(h:i<l.length),Pu 176 [.d (.agg (S4.aT1 l[i])),.d (.agg (S4.aT1 l[i]))] (.d (cb true)):=λi h=>
  have hd:=a0W i h
  aJO l[i] hd.2.2.2 (HG l[i].t oM) (HG l[i].e oM) (HG l[i].c oM)
 have hq:=aN2 176 l hf oM;refine iC mix Tryz.func135 ?_
 repeat'(first|refine bl ?_|refine aF hq (bw ?_))
 exact dP rfl
 termination_by S4.dB l
theorem aJK(n:N4)(hn:n.value.cR<=2^38)(hm:n.value.may=true):Pu 137 [.d (.agg n.aT1),.d (.agg n.aT1)] (.d (cb true)):=by
 have h1:=aAF n.value oM hm;refine iC mix Tryz.func137 ?_
 repeat'(first|refine bl ?_|refine bS (λh=>?_) (λh=>?_)|refine dR h1 (.cons (.agg n.value.aT1) (.cons (.agg n.value.aT1) .nil)) (bw ?_))
 all_goals first|exact dP rfl|(exfalso;first|omega|contradiction|(simp_all;done))|trace_state
def W4.aO4(x:W4):Prop:=x.value.may=true/\(∀v∈x.values,v.may=true)/\∀n∈x.names,n.value.may=true
theorem aJ7(x:W4)(hx:x.cR<=2^35)(hm:x.aO4):Pu 78 [.d (.agg x.aT1),.d (.agg x.aT1)] (.d (cb true)):=by
 have hc:=hx;unfold W4.cR at hc;have hvl:=V.eW x.values;have E0:x.names.length<=V.dB (x.names.map (·.value)):=by have:=V.eW (x.names.map (·.value));simpa using this
 have h1:=aAF x.value oM hm.1;have h2:=aOF 133 x.values (λi h=>aAF x.values[i] (by have:=V.dG x.values i h;omega) (hm.2.1 _ (aY h))) oM;have h3:=HG x.code oM
 have h4:=aNU 137 x.names (λi h=>aJK x.names[i] (by
  have:=V.dG (x.names.map (·.value)) i (by simpa using h);simp only[fO]at this
  omega) (hm.2.2 _ (aY h))) oM
 refine iC mix Tryz.func78 ?_
 repeat'(first|refine bl ?_|refine bS (λh=>?_) (λh=>?_)|refine dR h1 (.cons (.agg x.value.aT1) (.cons (.agg x.value.aT1) .nil)) (bw ?_)|refine aF h2 (bw ?_)|refine aF h3 (bw ?_)|refine aF h4 (bw ?_))
 all_goals first|exact dP rfl|(exfalso;first|omega|contradiction|(simp_all;done))|trace_state
theorem aJP(t:T4)(hx:t.bQ.cR<=2^35)(hm:t.bQ.aO4):Pu 77 [.d (.agg t.aT1),.d (.agg t.aT1)] (.d (cb true)):=by
 have h1:=aJ7 t.bQ hx hm;refine iC mix Tryz.func77 ?_
 repeat'(first|refine bl ?_|refine bS (λh=>?_) (λh=>?_)|refine dR h1 (.cons (.agg t.bQ.aT1) (.cons (.agg t.bQ.aT1) .nil)) (bw ?_))
 all_goals first|exact dP rfl|(exfalso;first|omega|contradiction|(simp_all;done))|trace_state
theorem aL9(w:D4)(hg:w.gA)(hr:w.EP)(h1:w.parents.length<=2^38)(h2:w.made.length<=2^38)(h3:w.cut.length<=2^36)(h4:(xP w.cut 0).length<=2^38)(h5:∀t∈w.aT4,t.bQ.cR<=2^35/\t.bQ.aO4):Pu 35 [.d (.ip w.aT1),.d (.ip w.aT1)] (.d (cb true)):=by
 have ht:=ZC w hg hr h1 h2 h3;have hn:=vQ w;have q1:=aH1 w.parents oM;have q2:=aEX (xP w.cut 0) oM;have q3:=aEX w.made oM;have q4:=aOA 77 w.aT4 (λi h=>aJP w.aT4[i] (h5 _ (aY h)).1 (h5 _ (aY h)).2) (by have:=hg.len;omega);refine iC mix Tryz.func35 ?_;unfold D4.tell at ht
 repeat'(first|refine bl ?_|refine bS (λh=>?_) (λh=>?_)|refine aF hn (bw ?_)|refine aF ht (bw ?_)|refine aF q1 (bw ?_)|refine aF q2 (bw ?_)|refine aF q3 (bw ?_)|refine aF q4 (bw ?_))
 all_goals first|exact dP rfl|(exfalso;first|omega|contradiction|(simp_all;done))|exact dP (by simp_all)
theorem aO1{α:Type}(f:α->C)(L:List α):∀e∈L.map (λx=>[f x]),e.length=1:=λe he=>by
 obtain⟨x,_,rfl⟩:=aA4.1 he;rfl
def wCp(w:D4):R:=.cells false [.d (.sl 1 (iR w.parents)),.d (.sl 1 (w.cut.map λb=>[cb b])),.h 177,.h 185,.d (ci w.last),.d (.sl 1 (iR w.made))]
theorem aPC{ml:List (Nat×R)}{i:Nat}{g:Nat->Nat}(h:aK ml i=some (.mp false (Q8 D) [])):(aK ml i).map (R.eZ g)=some (.mp false (Q8 D) []):=by
 rw[h];simp only[dF,R.eZ,Q8,bH,bM];rfl
theorem aO0(h:r∉D.map (·.ref)):fL (kI r) (Q8 D)=none:=by
 unfold Q8;rw[wZ,mN.2 (λt ht e=>h (aA4.2 ⟨t,ht,by simpa using e⟩))];rfl
def thP(D:List T4)(r:Int):List (Ky×A):=Q8 D++[(kI r,.lp 1088 0)]
theorem aHY(h:r∉D.map (·.ref)):fL (kI r) (thP D r)=some (.lp 1088 0):=by
 have key:∀D:List T4,r∉D.map (·.ref)->fL (kI r) (Q8 D++[(kI r,.lp 1088 0)])=some (.lp 1088 0):=by
  intro D;induction D with
  |nil=>intro _;show fL (kI r) [(kI r,.lp 1088 0)]=_;rw[fL,aUF rfl]
  |cons t D ih=>
   intro h;simp only[aG,aO,not_or]at h;show fL (kI r) ((kI t.ref,A.d (.ip t.bQ.aT1))::(Q8 D++[(kI r,.lp 1088 0)]))=_;rw[fL,aT7 (by simp[kI];exact λe=>h.1 e)];exact ih h.2
 exact key D h
theorem aGO{kt:TypeId}{q:Int}(hk:KC.fits Tryz.prog kt (.int .i64 0)=true)(D:List T4):kH Tryz.prog kt (kI q) (thP D r)=true:=by
 have h1:=aJ1 (P:=Tryz.prog) (λt:T4=>t.ref) (λt=>A.d (.ip t.bQ.aT1)) q D hk;unfold kH at h1⊢;rw[aE]at h1⊢;refine⟨h1.1,?_⟩;unfold thP;rw[gQ,aE];exact⟨h1.2,by simp only[o9,List.all_nil,o6];rfl⟩
def mIx(w:D4)(D:List T4)(t:T4)(F:List ((Int×Int)×Int)):List (Nat×R):=[(201,wCp w),(177,.mp false (thP D t.ref) []),(185,.mp false (l6 F) []),(1088,.cells false (t.bQ.aT1.map A.d))]
theorem aO3{ml:List (Nat×R)}(h:aK ml 1088≠none):rB ml (R.mp false (thP D r) []).hs:=by
 have e:(R.mp false (thP D r) []).hs=[1088]:=by
  show A.lQ ((thP D r).map (·.2))++[]=_;have key:∀D:List T4,A.lQ ((Q8 D++[(kI r,A.lp 1088 0)]).map (·.2))=[1088]:=by
   intro D;induction D with
   |nil=>rfl
   |cons t D ih=>exact ih
  rw[dS];exact key D
 rw[e];exact⟨h,tV⟩
theorem aLD(w:D4)(D:List T4)(t:T4)(F:List ((Int×Int)×Int))(hD:t.ref∉D.map (·.ref))(hk:¬t.bQ.kind=14):aJ Tryz.prog 81 [.lp 201 0,.d (ci t.ref)] (aK (mIx w D t F)) (.ok (.eL [])) (aH (aK (mIx w D t F)) []):=by
 refine wE mix 20000 Tryz.func81 tV tV ?_
 repeat'(first|refine bl ?_|refine bS (λh=>?_) (λh=>?_)|refine n5.CL (.lp 1088 0) (aGO kK D) (aHY hD) (bw ?_))
 ·exact absurd aM hk
 ·skip
  exact em
theorem aH7(w:D4)(D:List T4)(t:T4)(F:List ((Int×Int)×Int))(hD:t.ref∉D.map (·.ref))(hk:t.bQ.kind=14)(hF:(F.find? λf=>decide (f.1=(t.bQ.of,t.bQ.set)))=none):aJ Tryz.prog 81 [.lp 201 0,.d (ci t.ref)] (aK (mIx w D t F)) (.ok (.eL [])) (aH (aK (mIx w D t F)) [(185,.mp false (l6 (F++[t.fc])) [])]):=by
 refine wE mix 20000 Tryz.func81 tV ⟨wW,tV⟩ ?_
 repeat'(first|refine bl ?_|refine bS (λh=>?_) (λh=>?_)|refine n5.CL (.lp 1088 0) (aGO kK D) (aHY hD) (bw ?_))
 ·refine .BP (SJ kK F) (by rw[NJ,hF];rfl) ?_;conv=>whnf
  refine bl ?_;refine dA rfl ⟨.inr ?_,.inr rfl,.inr rfl,.inl rfl,.inr rfl,tV⟩;rw[aCQ];rfl
 ·exact absurd hk aM
theorem aO8{ml:List (Nat×R)}{t:T4}(h:aK ml 177=some (.mp false (thP D t.ref) []))(h2:aK ml 1088=some (.cells false (t.bQ.aT1.map A.d))):∃q,aK ml 177=some q/\ZN (EC [1088] ml) q (.mp false (Q8 (D++[t])) []):=by
 refine⟨_,h,.mp ?_ ?_⟩
 ·unfold thP Q8;simp
 ·have hr:Cv (EC [1088] ml) (.lp 1088 0) (.d (.ip t.bQ.aT1)):=.rd (.lp (eX rfl h2) (wJ.data _ _));have key:∀D:List T4,IX (EC [1088] ml) ((Q8 D++[(kI t.ref,A.lp 1088 0)]).map (·.2)) ((Q8 (D++[t])).map (·.2)):=by
   intro D;induction D with
   |nil=>exact .cons hr (.same _)
   |cons d D ih=>exact .cons (.same _) ih
  exact key D
theorem aK7(D:List T4)(t:T4):lP (D++[t])=lP D++(if t.bQ.kind=14 then [t.fc]else []):=by
 unfold lP;rw[List.filter_append,bP];congr 1;by_cases h:t.bQ.kind=14
 ·rw[aUF h,List.filter_cons_of_pos (by simpa using h)];rfl
 ·rw[aT7 h,List.filter_cons_of_neg (by simpa using h)];rfl
theorem aPO{m:Mem}{i:Nat}{T:List T4}{st:List (Ky×Nat)}(h:m i=some (.mp false (Q8 T) st)):Rd m (.h i) (.im (T.map λt=>kI t.ref) (T.map λt=>.ip t.bQ.aT1)):=by
 have:=Rd.mp (m:=m) (vs:=T.map λt=>.ip t.bQ.aT1) h (by
  have e:(Q8 T).map (·.2)=(T.map λt=>Go.Pv.C.ip t.bQ.aT1).map A.d:=by unfold Q8;rw[bH,bH];rfl
  rw[e];exact wJ.data _ _)
 have e:(Q8 T).map (·.1)=T.map λt=>kI t.ref:=by unfold Q8;rw[bH];rfl
 rw[e]at this;exact this
theorem aPF{m:Mem}{i:Nat}{F:List ((Int×Int)×Int)}{st:List (Ky×Nat)}(h:m i=some (.mp false (l6 F) st)):Rd m (.h i) (.im (F.map λf=>kF f.1.1 f.1.2) (F.map λf=>ci f.2)):=by
 have:=Rd.mp (m:=m) (vs:=F.map λf=>ci f.2) h (by
  have e:(l6 F).map (·.2)=(F.map λf=>ci f.2).map A.d:=by unfold l6;rw[bH,bH];rfl
  rw[e];exact wJ.data _ _)
 have e:(l6 F).map (·.1)=F.map λf=>kF f.1.1 f.1.2:=by unfold l6;rw[bH];rfl
 rw[e]at this;exact this
theorem aL2(w:D4)(hg:w.gA)(h1:w.parents.length<=2^38)(h2:w.made.length<=2^38)(h3:w.cut.length<=2^38)(hf:w.facets=lP w.aT4)(hfn:((lP w.aT4).map (·.1)).Nodup):Pu 36 [.d (.ip w.aT1)] (.d (.ip w.aT1)):=by
 have hn:=vQ w;have q1:=DG (iR w.parents) (by simpa using h1) (aO1 _ _);have q2:=aCU (w.cut.map λb=>[cb b]) (by simpa using h3) (aO1 _ _);have q3:=G6 (iR w.made) (by simpa using h2) (aO1 _ _);refine iC mix Tryz.func36 ?_
 repeat'(first|refine bl ?_|refine aF hn (bw ?_)|refine xQ.pure _ q1 (bw ?_)|refine xQ.pure _ q2 (bw ?_)|refine xQ.pure _ q3 (bw ?_))
 refine xI rfl ?_;conv=>whnf
 refine bl ?_;refine cY mix (λa:Option (Ky×C)×List T4×List T4=>(a.2.2++a.2.1).Perm w.aT4) (I:=λa=>[(3,.lp 201 0),(36,.h 249)])
  (J:=λa=>[(201,wCp w),(177,.mp false (Q8 a.2.2) []),(185,.mp false (l6 (lP a.2.2)) []),(249,.di a.1 (a.2.1.map T4.kv))]) (μ:=λa=>a.2.1.length) 1000 (none,w.aT4,[]) 0
  (λ_:Unit=>True) (λ_=>[(3,.lp 201 0)]) (λ_=>[(185,.mp false (l6 w.facets) []),(177,.mp false (Q8 w.aT4) []),(201,wCp w)]) 3000 (.refl _) mZ ?_ ?_
 ·rintro⟨cur,L,D⟩ hp;dsimp only at hp⊢;refine bl ?_;refine EI (λh0=>?_) (λi hi=>?_)
  ·conv=>whnf
   refine bl ?_;subst h0;have hD:D.Perm w.aT4:=by simpa using hp
   have e1:(Q8 D).Perm (Q8 w.aT4):=hD.map _;have e2:(l6 (lP D)).Perm (l6 w.facets):=by rw[hf];exact(Z5 hD).map _
   refine⟨(),tV,?_⟩;refine cN.trans (l':=[(3,.lp 201 0)]) (ml':=[(177,.mp false (Q8 D) []),(185,.mp false (l6 (lP D)) []),(201,wCp w)]) ?_ (cN.trans (cN.perm 177 e1) (cN.trans (l':=[(3,.lp 201 0)]) (ml':=[(185,.mp false (l6 (lP D)) []),(177,.mp false (Q8 w.aT4) []),(201,wCp w)]) ?_ (cN.perm 185 e2)))
   ·skip
    (refine cN.swap 5000 5001 ?_ ?_ ?_ ?_ ?_<;>repeat'(first|exact aW|exact rfl|exact sn|exact wW|exact aD4 rfl|refine bI ?_ ?_))
    all_goals first|exact aPC rfl|exact aF0 _
   ·skip
    (refine cN.swap 5000 5001 ?_ ?_ ?_ ?_ ?_<;>repeat'(first|exact aW|exact rfl|exact sn|exact wW|exact aD4 rfl|refine bI ?_ ?_))
    all_goals first|exact aPC rfl|exact aF0 _
  ·conv=>whnf
   have htm:L[i]∈w.aT4:=hp.subset (List.mem_append_right _ (aY hi));have hm:=hg.may _ htm;have hc:=hg.cR _ htm;have hwo:=yX L[i].bQ oM hm.1 hm.2.1 hm.2.2;have y4:=hp.symm.map (·.ref)|>.nodup_iff.1 hg.nodup;rw[bP,iS]at y4;have hrD:L[i].ref∉D.map (·.ref):=λh=>y4.2.2 _ h _ (aA4.2 ⟨L[i],aY hi,rfl⟩) rfl
   repeat'(first|refine bl ?_|refine aF hwo (bw ?_))
   refine aB4.BP (aJ1 (λt:T4=>t.ref) (λt=>A.d (.ip t.bQ.aT1)) _ D kK) (aO0 hrD) ?_;conv=>whnf
   have hhs:rB (mIx w D L[i] (lP D)) (A.lQ [.lp 201 0,.d (ci L[i].ref)]):=⟨sn,tV⟩;have n0:H9 (mIx w D L[i] (lP D)) (mIx w D L[i] (lP D)):=⟨⟨sn,sn,tV⟩,aO3 sn,wW,tV,tV⟩;have hpe:((D++[L[i]])++L.eraseIdx i).Perm w.aT4:=by
    refine List.Perm.trans ?_ hp;rw[bG];exact qX _ (CU L i hi).symm
   have hfl:=aK7 D L[i];by_cases hk:L[i].bQ.kind=14
   ·rw[aUF hk]at hfl;have hF:((lP D).find? λf=>decide (f.1=(L[i].bQ.of,L[i].bQ.set)))=none:=by
     rw[Z7];have h1:=((Z5 hpe).map (·.1)).nodup_iff.2 hfn;have h2:lP ((D++[L[i]])++L.eraseIdx i)=(lP D++[L[i].fc])++lP (L.eraseIdx i):=by
      rw[<-hfl];unfold lP;rw[List.filter_append,bP]
     rw[h2,bP,bP,iS]at h1;have h3:=(iS.1 h1.1).2.2;exact λhm=>h3 _ hm _ (by simp[T4.fc]) rfl
    repeat'(first|refine bl ?_|refine dZ.mk _ _ (aJ.l8 (aH7 w D L[i] (lP D) hrD hk hF) hhs ⟨rfl,rfl,rfl,rfl,tV⟩ n0 ⟨.inl sn,tV⟩) (bw ?_))
    refine⟨(some (T4.kv L[i]),L.eraseIdx i,D++[L[i]]),xL _ _ hi,hpe,?_⟩;dsimp only;rw[hfl];exact cN.freeze [1088] tV ⟨.same _,.same _,tV⟩ ⟨⟨rfl,_,rfl,.cells (.same _)⟩,⟨rfl,aO8 rfl rfl⟩,⟨rfl,_,rfl,.mp rfl (.same _)⟩,⟨rfl,_,rfl,.plain rfl⟩,tV⟩ ⟨⟨sn,tV⟩,⟨sn,tV⟩,tV⟩ ⟨⟨sn,sn,tV⟩,aF0 _,wW,tV,tV⟩
   ·rw[aT7 hk,dS]at hfl
    repeat'(first|refine bl ?_|refine dZ.mk _ _ (aJ.l8 (aLD w D L[i] (lP D) hrD hk) hhs ⟨rfl,rfl,rfl,rfl,tV⟩ n0 tV) (bw ?_))
    refine⟨(some (T4.kv L[i]),L.eraseIdx i,D++[L[i]]),xL _ _ hi,hpe,?_⟩;dsimp only;rw[hfl];exact cN.freeze [1088] tV ⟨.same _,.same _,tV⟩ ⟨⟨rfl,_,rfl,.cells (.same _)⟩,⟨rfl,aO8 rfl rfl⟩,⟨rfl,_,rfl,.mp rfl (.same _)⟩,⟨rfl,_,rfl,.plain rfl⟩,tV⟩ ⟨⟨sn,tV⟩,⟨sn,tV⟩,tV⟩ ⟨⟨sn,sn,tV⟩,aF0 _,wW,tV,tV⟩
 rintro _ _;refine bl ?_;exact .one (.lp rfl (.cons (.d _) (.cons (.d _) (.cons (aPO rfl) (.cons (aPF rfl) (.cons (.d _) (.cons (.d _) .nil)))))))
theorem aAG:∀(c:List Bool)(i x:Int),x∈xP c i↔∃k:Nat,c[k]?=some true/\x=i+k
 |[],i,x=>by simp[xP]
 |b::r,i,x=>by
  have ih:=aAG r (i+1) x;have hs:(∃k:Nat,(b::r)[k]?=some true/\x=i+k)↔((b=true/\x=i)\/∃k:Nat,r[k]?=some true/\x=i+1+k):=by
   constructor
   ·rintro⟨k,h1,h2⟩;cases k with
    |zero=>exact .inl ⟨by simpa using h1,by simpa using h2⟩
    |succ k=>exact .inr ⟨k,by simpa using h1,oM⟩
   ·rintro(⟨h1,h2⟩|⟨k,h1,h2⟩)
    ·exact⟨0,by simp[h1],by simpa using h2⟩
    ·exact⟨k+1,by simpa using h1,oM⟩
  rw[hs,xP];cases b with
  |true=>simp[ih]
  |false=>simp[ih]
theorem aFG:∀(c:List Bool)(i:Int),(xP c i).Pairwise (· <·)
 |[],i=>by simp[xP]
 |b::r,i=>by
  rw[xP];have h:=aFG r (i+1);cases b with
  |true=>
   simp only[if_true];refine kR.2 ⟨λx hx=>?_,h⟩;obtain⟨k,_,e⟩:=(aAG r (i+1) x).1 hx;omega
  |false=>simpa using h
theorem aAD:∀(l:List Int)(c:List Bool)(k:Nat),(xY c l)[k]?=some true↔(c[k]?=some true\/(k<c.length/\∃a∈l,a.toNat=k))
 |[],c,k=>by simp[xY]
 |a::l,c,k=>by
  have:xY c (a::l)=xY (c.set a.toNat true) l:=rfl;rw[this,aAD l,cE,List.getElem?_set];by_cases e:a.toNat=k
  ·subst e;by_cases hk:a.toNat<c.length
   ·simp[hk]
   ·have:c[a.toNat]?=none:=c8 oM;simp[hk,this]
  ·rw[aT7 e];simp[e]
theorem aAW(n:Nat):∀(l:List Int)(p:Option Int),E7 n l p=true->(∀q,p=some q->∀c∈l,q<c)/\l.Pairwise (· <·)/\∀c∈l,0<c/\c<n
 |[],p,_=>sM
 |c::l,p,h=>by
  rw[E7]at h;simp only[aE,aUA]at h;obtain⟨⟨h1,h2,h3⟩,h4⟩:=h;obtain⟨i1,i2,i3⟩:=aAW n l (some c) h4;have i1:=i1 c rfl;refine⟨λq e x hx=>?_,kR.2 ⟨i1,i2⟩,λx hx=>?_⟩
  ·subst e;have h1:q<c:=by simpa [K3]using h1
   rcases aO.1 hx with rfl|hx
   ·exact h1
   ·have:=i1 x hx;omega
  ·rcases aO.1 hx with rfl|hx
   ·exact⟨h2,h3⟩
   ·exact i3 x hx
theorem aMZ{L l:List Int}(h:E7 (L.length+1) l none=true):xP (xY (oW L) l) 0=l:=by
 obtain⟨_,h2,h3⟩:=aAW _ _ _ h;refine aD0 (aFG _ _) h2 λx=>?_;rw[aAG];constructor
 ·rintro⟨k,h1,rfl⟩;rw[aAD]at h1;rcases h1 with h1|⟨_,a,ha,rfl⟩
  ·unfold oW at h1;rw[List.getElem?_replicate]at h1;split at h1<;>simp at h1
  ·have:=h3 a ha;rw[show(0:Int)+(a.toNat:Int)=a by omega];exact ha
 ·intro hx;have:=h3 x hx;refine⟨x.toNat,(aAD _ _ _).2 (.inr ⟨?_,x,hx,rfl⟩),oM⟩;unfold oW;rw[aS];omega
theorem aFY{x:X4}(h:y9 x=true):(bJ x).tell=x:=by
 unfold y9 at h;simp only[aE]at h;unfold D4.tell bJ;dsimp only;rw[aMZ h.2.2.2.1]
end Go.Pv
