import Derived.Test.YtpdcbahjjmooiaaGreatQ14
import Derived.ProofKit
import Derived.OpenShut
import Derived.JoinedCond
import Derived.WideKeyArgs
/- Contracts of functions that the law reaches, and their logic. No conditions. -/
set_option linter.all false
set_option maxRecDepth 100000
set_option maxHeartbeats 8000000
open Go Go.Proofs
namespace Go.Pv
open Go.RowKit
variable{n i:Nat}{cs:List Value}{w:World}{F:List (Int×Int)}{r:Int}{low:List Nat}{b0:A}{X:R}{T:List Int}
def V.oS:∀l:List V,(l.map V.cR).sum=V.dB l
 |[]=>rfl
 |v::r=>by simp only[aG,gU,V.dB,V.oS r]
mutual
def E4.wU:E4->Nat
 |.mk _ _ s l=>1+s.size+E4.NK l
def E4.NK:List E4->Nat
 |[]=>0
 |v::r=>E4.wU v+E4.NK r
end
mutual
def S4.wU:S4->Nat
 |.mk _ n1 n2 _ _ a b t e c w=>1+n1.size+n2.size+a.wU+b.wU+(w.map λs=>s.size+1).sum+S4.NK t+S4.NK e+S4.NK c
def S4.NK:List S4->Nat
 |[]=>0
 |v::r=>S4.wU v+S4.NK r
end
def E4.OZ:∀l:List E4,(l.map E4.wU).sum=E4.NK l
 |[]=>Eq.refl _
 |v::r=>by simp only[aG,gU,E4.NK,E4.OZ r]
def S4.OZ:∀l:List S4,(l.map S4.wU).sum=S4.NK l
 |[]=>rfl
 |v::r=>by simp only[aG,gU,S4.NK,S4.OZ r]
mutual
def E4.XL:∀v:E4,v.cR<=v.wU
 |.mk _ _ s l=>by have:=E4.xC l;simp only[E4.cR,E4.wU];omega
def E4.xC:∀l:List E4,E4.dB l<=E4.NK l
 |[]=>bT _
 |v::r=>by have:=E4.XL v;have:=E4.xC r;simp only[E4.dB,E4.NK];omega
end
mutual
def E4.aUO:∀v:E4,v.wU<=2^40->v.ss
 |.mk _ _ s l,h=>by simp only[E4.wU]at h;exact⟨oM,E4.aUN l oM⟩
def E4.aUN:∀l:List E4,E4.NK l<=2^40->E4.US l
 |[],_=>trivial
 |v::r,h=>by simp only[E4.NK]at h;exact⟨E4.aUO v oM,E4.aUN r oM⟩
end
def aVS:∀w:List ByteArray,w.length<=(w.map λs=>s.size+1).sum
 |[]=>sM
 |s::w=>by have:=aVS w;simp only[aG,gU,aQ];omega
def aVT:∀w:List ByteArray,∀s∈w,s.size<=(w.map λs=>s.size+1).sum
 |[],s,h=>by simp at h
 |a::w,s,h=>by
  simp only[aG,gU];rcases aO.1 h with rfl|h
  ·omega
  ·have:=aVT w s h;omega
mutual
def S4.XL:∀v:S4,v.cR<=v.wU
 |.mk _ _ _ _ _ a b t e c w=>by
  have:=a.XL;have:=b.XL;have:=S4.xC t;have:=S4.xC e;have:=S4.xC c;have:=aVS w;simp only[S4.cR,S4.wU];omega
def S4.xC:∀l:List S4,S4.dB l<=S4.NK l
 |[]=>bT _
 |v::r=>by have:=S4.XL v;have:=S4.xC r;simp only[S4.dB,S4.NK];omega
end
mutual
def S4.aWF:∀v:S4,v.wt->v.wU<=2^36->v.SZ
 |.mk op n1 n2 ab wh a b t e c w,h,hv=>by
  have hc:=S4.XL (.mk op n1 n2 ab wh a b t e c w);have hm:=aVT w;simp only[S4.wt]at h;obtain⟨h1,h2,h3,h4,_,_,_,_,h5,h6,h7⟩:=h;simp only[S4.wU]at hv hc;refine⟨⟨oM,⟨h1,h2⟩,⟨h3,h4⟩,?_,?_,E4.aUO a oM,E4.aUO b oM,λs hs=>?_⟩,S4.aEZ t h5 oM,S4.aEZ e h6 oM,S4.aEZ c h7 oM⟩
  ·show n1.size<=2^40;omega
  ·show n2.size<=2^40;omega
  ·have:=hm s hs;omega
def S4.aEZ:∀l:List S4,S4.B5 l->S4.NK l<=2^36->S4.aO6 l
 |[],_,_=>trivial
 |v::r,h,hv=>by
  simp only[S4.NK]at hv;exact⟨S4.aWF v h.1 oM,S4.aEZ r h.2 oM⟩
end
def V.rM:∀l:List V,(∀x∈l,x.wt)->V.B5 l
 |[],_=>trivial
 |v::r,h=>⟨h v sM,V.rM r λx hx=>h x (by simp[hx])⟩
def E4.rM:∀l:List E4,(∀x∈l,x.wt)->E4.B5 l
 |[],_=>trivial
 |v::r,h=>⟨h v sM,E4.rM r λx hx=>h x (by simp[hx])⟩
def S4.rM:∀l:List S4,(∀x∈l,x.wt/\x.ab)->S4.B5 l/\S4.abL l
 |[],_=>⟨tV,tV⟩
 |v::r,h=>by
  have h1:=h v sM;have h2:=S4.rM r λx hx=>h x (by simp[hx]);exact⟨⟨h1.1,h2.1⟩,⟨h1.2,h2.2⟩⟩
def E1{α:Type}:∀l:List α,(l.map λ_=>1).sum=l.length
 |[]=>rfl
 |v::r=>by simp only[aG,gU,aQ,E1 r];omega
def aMV:V.row=V.aT1:=funext V.cP
def aNA:E4.row=E4.aT1:=funext E4.cP
def aMI:S4.row=S4.aT1:=funext S4.cP
def U3:IntKind.u8.min=0/\IntKind.u8.max=255:=eD
def BQ:IntKind.i64.min=-9223372036854775808/\IntKind.i64.max=9223372036854775807:=eD
section
variable{H:Type}{enc:TypeId×Value->H}{w:World}
abbrev PB(w:World)(enc:TypeId×Value->H)(n:Nat)(t:TypeId)(cs:List Value)(d:DataW H):Prop:=xF enc Tryz.prog w n t cs d
def aN3:Tryz.prog.underlying 85=some (.int .u8):=kK
def ty2:Tryz.prog.underlying 2=some (.int .i64):=kK
def W3:Tryz.prog.underlying 25=some (.int .i64):=kK
def aMR:Tryz.prog.underlying 84=some (.int .u8):=kK
def aK8:Tryz.prog.underlying 28=some (.int .i64):=kK
def aMT:Tryz.prog.underlying 89=some (.int .u8):=kK
def aML:Tryz.prog.underlying 203=some (.int .u8):=kK
def aMM:Tryz.prog.underlying 204=some (.int .u8):=kK
def ty3:Tryz.prog.underlying 3=some (.int .i64):=kK
def S8:Tryz.prog.underlying 9=some .string:=kK
def ty4:Tryz.prog.underlying 4=some .bool:=kK
def aMS:Tryz.prog.underlying 86=some (.slice 88):=kK
def aLS:Tryz.prog.cellsOf 88=5:=kK
def aMN:Tryz.prog.underlying 205=some (.slice 207):=kK
def aLQ:Tryz.prog.cellsOf 207=4:=kK
def aIQ:Tryz.prog.underlying 29=some (.slice 210):=kK
def aGS:Tryz.prog.cellsOf 210=17:=kK
def aMP:Tryz.prog.underlying 208=some (.slice 9):=kK
def aLR:Tryz.prog.cellsOf 9=1:=kK
def aNZ:Tryz.prog.underlying 30=some (.slice 100):=kK
def aM7:Tryz.prog.cellsOf 100=6:=kK
def aNV:Tryz.prog.underlying 22=some (.slice 28):=kK
def aM4:Tryz.prog.cellsOf 28=1:=kK
def aNW:Tryz.prog.underlying 23=some (.slice 3):=kK
def aM5:Tryz.prog.cellsOf 3=1:=kK
def aNX:Tryz.prog.underlying 24=some (.slice 93):=kK
def aM6:Tryz.prog.cellsOf 93=17:=kK
def aN0:Tryz.prog.underlying 31=some (.slice 25):=kK
def aM8:Tryz.prog.cellsOf 25=1:=kK
def a7J:Tryz.prog.underlying 35=some (.slice 33):=kK
def a7A:Tryz.prog.cellsOf 33=4:=kK
def aN4:u7 Tryz.prog 88=some [85,2,9,86,25]:=kK
def aMO:u7 Tryz.prog 207=some [204,2,9,205]:=kK
def aMQ:u7 Tryz.prog 210=some [203,9,9,89,84,207,207,29,29,29,208]:=kK
def aMK:u7 Tryz.prog 100=some [9,88]:=kK
def aN5:u7 Tryz.prog 91=some [84,28,88,86,2,2,25,25,89,4,29,30]:=kK
def aN6:u7 Tryz.prog 93=some [25,91]:=kK
def aNY:u7 Tryz.prog 27=some [22,23,24,25,23]:=kK
def aN1:u7 Tryz.prog 33=some [28,29,30,31]:=kK
def aJI{t:TypeId}{d:DataW H}(ht:Tryz.prog.underlying t=some .string)(h:PB w enc n t cs d):∃s,sL w [.v (.string s)] cs/\s.size+1<=rI d:=by
 obtain⟨ps,h⟩:=h;cases n with
 |zero=>simp[DataW.trod]at h
 |succ n=>
  unfold DataW.trod at h;rw[ht]at h;split at h<;>try(simp at h;done)
  all_goals(rename_i hu;try(cases hu;done))
  rename_i s;split at h
  ·simp only[aA,aD]at h;exact⟨_,sL.one rfl,by rw[<-h.1];simp[rI,Go.Proofs.YtpdcbahjjmooiaaGreat.Rows.uptoBulk]⟩
  ·cases h
def aNO{d:DataW H}(h:PB w enc n 22 cs d):∃l:List Int,sL w [.sl 1 (iR l)] cs/\l.length+1<=rI d:=by
 obtain⟨l,h1,h2,_⟩:=oV (λx:Int=>[ci x]) (λ_=>1) (λ_=>True) 1 aNV aM4 eD (λk hk cs d h=>by
  obtain⟨i,h1,h2,_⟩:=kQ aK8 h
  exact⟨i,h1,h2,tV⟩) h
 exact⟨l,h1,by rw[E1]at h2;exact h2⟩
def aMB{d:DataW H}(h:PB w enc n 23 cs d):∃l:List Int,sL w [.sl 1 (iR l)] cs/\l.length+1<=rI d:=by
 obtain⟨l,h1,h2,_⟩:=oV (λx:Int=>[ci x]) (λ_=>1) (λ_=>True) 1 aNW aM5 eD (λk hk cs d h=>by
  obtain⟨i,h1,h2,_⟩:=kQ ty3 h
  exact⟨i,h1,h2,tV⟩) h
 exact⟨l,h1,by rw[E1]at h2;exact h2⟩
def aNP{d:DataW H}(h:PB w enc n 31 cs d):∃l:List Int,sL w [.sl 1 (iR l)] cs/\l.length+1<=rI d:=by
 obtain⟨l,h1,h2,_⟩:=oV (λx:Int=>[ci x]) (λ_=>1) (λ_=>True) 1 aN0 aM8 eD (λk hk cs d h=>by
  obtain⟨i,h1,h2,_⟩:=kQ W3 h
  exact⟨i,h1,h2,tV⟩) h
 exact⟨l,h1,by rw[E1]at h2;exact h2⟩
def aMA{d:DataW H}(h:PB w enc n 208 cs d):∃l:List ByteArray,sL w [.sl 1 (l.map λs=>[Go.Pv.cs s])] cs/\(l.map λs=>s.size+1).sum+1<=rI d:=by
 obtain⟨l,h1,h2,_⟩:=oV (λx:ByteArray=>[Go.Pv.cs x]) (λs=>s.size+1) (λ_=>True) 1 aMP aLR eD (λk hk cs d h=>by
  obtain⟨i,h1,h2⟩:=aJI S8 h
  exact⟨i,h1,h2,tV⟩) h
 exact⟨l,h1,h2⟩
def riV:∀(n:Nat){cs:List Value}{d:DataW H},PB w enc n 88 cs d->∃v:V,sL w v.aT1 cs/\v.cR<=rI d/\v.wt:=by
 intro n;induction n using Nat.strongRecOn with|_ n ih=>?_
 intro cs d h;obtain⟨k,ds,rfl,hb,hf⟩:=p9 aN4 h;obtain⟨a0,b0,d0,r0,rfl,rfl,h0,hf⟩:=hf;obtain⟨a1,b1,d1,r1,rfl,rfl,h1,hf⟩:=hf;obtain⟨a2,b2,d2,r2,rfl,rfl,h2,hf⟩:=hf;obtain⟨a3,b3,d3,r3,rfl,rfl,h3,hf⟩:=hf;obtain⟨a4,b4,d4,r4,rfl,rfl,h4,hf⟩:=hf;obtain⟨rfl,rfl⟩:=hf;obtain⟨x0,g0,m0,e0,F0⟩:=kQ aN3 h0;obtain⟨x1,g1,m1,e1,F1⟩:=kQ ty2 h1;obtain⟨x2,g2,m2⟩:=GX S8 h2;obtain⟨l,g3,m3,q3⟩:=oV V.aT1 V.cR V.wt 5 aMS aLS eD (λj hj cs d h=>ih j oM h) h3;obtain⟨x4,g4,m4,e4,F4⟩:=kQ W3 h4;simp only[mE]at hb;have hn:rZ ([]:List (DataW H))=0:=rfl
 try simp only[U3.1,U3.2,BQ.1,BQ.2]at*
 have G:=g0.app (g1.app (g2.app (g3.app (g4.app sL.nil))));rw[V.oS]at m3;refine⟨.mk x0 x1 x2 l x4,?_,?_,?_⟩
 ·simpa [V.aT1,V.kind,V.n,V.s,V.l,V.r,aMV]using G
 ·simp only[V.cR];omega
 ·exact⟨e0,oM,V.rM l q3⟩
def aNR{d:DataW H}(h:PB w enc n 86 cs d):∃l:List V,sL w [.sl 5 (l.map V.row)] cs/\V.dB l+1<=rI d/\V.B5 l:=by
 obtain⟨l,h1,h2,h3⟩:=oV V.aT1 V.cR V.wt 5 aMS aLS eD (λk _ cs d h=>riV k h) h;exact⟨l,by rw[aMV];exact h1,by rw[V.oS]at h2;exact h2,V.rM l h3⟩
def riE:∀(n:Nat){cs:List Value}{d:DataW H},PB w enc n 207 cs d->∃v:E4,sL w v.aT1 cs/\v.wU<=rI d/\v.wt:=by
 intro n;induction n using Nat.strongRecOn with|_ n ih=>?_
 intro cs d h;obtain⟨k,ds,rfl,hb,hf⟩:=p9 aMO h;obtain⟨a0,b0,d0,r0,rfl,rfl,h0,hf⟩:=hf;obtain⟨a1,b1,d1,r1,rfl,rfl,h1,hf⟩:=hf;obtain⟨a2,b2,d2,r2,rfl,rfl,h2,hf⟩:=hf;obtain⟨a3,b3,d3,r3,rfl,rfl,h3,hf⟩:=hf;obtain⟨rfl,rfl⟩:=hf;obtain⟨x0,g0,m0,e0,F0⟩:=kQ aMM h0;obtain⟨x1,g1,m1,e1,F1⟩:=kQ ty2 h1;obtain⟨x2,g2,m2⟩:=aJI S8 h2;obtain⟨l,g3,m3,q3⟩:=oV E4.aT1 E4.wU E4.wt 4 aMN aLQ eD (λj hj cs d h=>ih j oM h) h3;simp only[mE]at hb;have hn:rZ ([]:List (DataW H))=0:=rfl
 try simp only[U3.1,U3.2,BQ.1,BQ.2]at*
 have G:=g0.app (g1.app (g2.app (g3.app sL.nil)));rw[E4.OZ]at m3;refine⟨.mk x0 x1 x2 l,?_,?_,?_⟩
 ·simpa [E4.aT1,E4.kind,E4.n,E4.s,E4.l,aNA]using G
 ·simp only[E4.wU];omega
 ·exact⟨e0,oM,E4.rM l q3⟩
def riS:∀(n:Nat){cs:List Value}{d:DataW H},PB w enc n 210 cs d->∃v:S4,sL w v.aT1 cs/\v.wU<=rI d/\v.wt/\v.ab:=by
 intro n;induction n using Nat.strongRecOn with|_ n ih=>?_
 intro cs d h;obtain⟨k,ds,rfl,hb,hf⟩:=p9 aMQ h;obtain⟨a0,b0,d0,r0,rfl,rfl,h0,hf⟩:=hf;obtain⟨a1,b1,d1,r1,rfl,rfl,h1,hf⟩:=hf;obtain⟨a2,b2,d2,r2,rfl,rfl,h2,hf⟩:=hf;obtain⟨a3,b3,d3,r3,rfl,rfl,h3,hf⟩:=hf;obtain⟨a4,b4,d4,r4,rfl,rfl,h4,hf⟩:=hf;obtain⟨a5,b5,d5,r5,rfl,rfl,h5,hf⟩:=hf;obtain⟨a6,b6,d6,r6,rfl,rfl,h6,hf⟩:=hf;obtain⟨a7,b7,d7,r7,rfl,rfl,h7,hf⟩:=hf;obtain⟨a8,b8,d8,r8,rfl,rfl,h8,hf⟩:=hf;obtain⟨a9,b9,d9,r9,rfl,rfl,h9,hf⟩:=hf;obtain⟨a10,b10,d10,r10,rfl,rfl,h10,hf⟩:=hf;obtain⟨rfl,rfl⟩:=hf;obtain⟨x0,g0,m0,e0,F0⟩:=kQ aML h0;obtain⟨x1,g1,m1⟩:=aJI S8 h1;obtain⟨x2,g2,m2⟩:=aJI S8 h2;obtain⟨x3,g3,m3,e3,F3⟩:=kQ aMT h3;obtain⟨x4,g4,m4,e4,F4⟩:=kQ aMR h4;obtain⟨x5,g5,m5,q5⟩:=riE _ h5;obtain⟨x6,g6,m6,q6⟩:=riE _ h6;obtain⟨x7,g7,m7,q7⟩:=oV S4.aT1 S4.wU (λv=>v.wt/\v.ab) 17 aIQ aGS eD (λj hj cs d h=>ih j oM h) h7;obtain⟨x8,g8,m8,q8⟩:=oV S4.aT1 S4.wU (λv=>v.wt/\v.ab) 17 aIQ aGS eD (λj hj cs d h=>ih j oM h) h8;obtain⟨x9,g9,m9,q9⟩:=oV S4.aT1 S4.wU (λv=>v.wt/\v.ab) 17 aIQ aGS eD (λj hj cs d h=>ih j oM h) h9;obtain⟨x10,g10,m10⟩:=aMA h10;simp only[mE]at hb;have hn:rZ ([]:List (DataW H))=0:=rfl
 try simp only[U3.1,U3.2,BQ.1,BQ.2]at*
 have G:=g0.app (g1.app (g2.app (g3.app (g4.app (g5.app (g6.app (g7.app (g8.app (g9.app (g10.app sL.nil))))))))));rw[S4.OZ]at m7 m8 m9;have t7:=S4.rM x7 q7;have t8:=S4.rM x8 q8;have t9:=S4.rM x9 q9;refine⟨.mk x0 x1 x2 x3 x4 x5 x6 x7 x8 x9 x10,?_,?_,?_,?_⟩
 ·simpa [S4.aT1,S4.op,S4.name,S4.second,S4.FD,S4.bQ,S4.a,S4.b,S4.t,S4.e,S4.c,S4.w,aMI,E4.aT1]using G
 ·simp only[S4.wU];omega
 ·exact⟨e0,oM,e3,oM,e4,oM,q5,q6,t7.1,t8.1,t9.1⟩
 ·exact⟨⟨e3,oM⟩,t7.2,t8.2,t9.2⟩
def aMC{d:DataW H}(h:PB w enc n 29 cs d):∃l:List S4,sL w [.sl 17 (l.map S4.row)] cs/\S4.NK l+1<=rI d/\S4.B5 l/\S4.abL l:=by
 obtain⟨l,h1,h2,h3⟩:=oV S4.aT1 S4.wU (λv=>v.wt/\v.ab) 17 aIQ aGS eD (λk _ cs d h=>riS k h) h;exact⟨l,by rw[aMI];exact h1,by rw[S4.OZ]at h2;exact h2,S4.rM l h3⟩
def aRM:∀l:List N4,V.dB (l.map (·.value))+l.length<=(l.map λv=>v.value.cR+v.name.size+1).sum
 |[]=>by simp[V.dB]
 |v::r=>by have:=aRM r;simp only[aG,gU,aQ,V.dB];omega
def aR7:∀l:List N4,∀n∈l,n.name.size<=(l.map λv=>v.value.cR+v.name.size+1).sum
 |[],n,h=>by simp at h
 |v::r,n,h=>by
  simp only[aG,gU];rcases aO.1 h with rfl|h
  ·omega
  ·have:=aR7 r n h;omega
def riN{d:DataW H}(h:PB w enc n 100 cs d):∃v:N4,sL w v.aT1 cs/\v.value.cR+v.name.size+1<=rI d/\v.value.wt:=by
 obtain⟨k,ds,rfl,hb,hf⟩:=p9 aMK h;obtain⟨a0,b0,d0,r0,rfl,rfl,h0,hf⟩:=hf;obtain⟨a1,b1,d1,r1,rfl,rfl,h1,hf⟩:=hf;obtain⟨rfl,rfl⟩:=hf;obtain⟨x0,g0,m0⟩:=aJI S8 h0;obtain⟨x1,g1,m1,q1⟩:=riV _ h1;simp only[mE]at hb;have hn:rZ ([]:List (DataW H))=0:=rfl
 try simp only[U3.1,U3.2,BQ.1,BQ.2]at*
 have G:=g0.app (g1.app sL.nil);refine⟨⟨x0,x1⟩,?_,?_,q1⟩
 ·simpa [N4.aT1,V.aT1]using G
 ·(try dsimp only);omega
def aMD{d:DataW H}(h:PB w enc n 30 cs d):∃l:List N4,sL w [.sl 6 (l.map N4.aT1)] cs/\(l.map λv=>v.value.cR+v.name.size+1).sum+1<=rI d/\V.B5 (l.map (·.value)):=by
 obtain⟨l,h1,h2,h3⟩:=oV N4.aT1 (λv=>v.value.cR+v.name.size+1) (λv=>v.value.wt) 6 aNZ aM7 eD (λk _ cs d h=>riN h) h;refine⟨l,h1,h2,V.rM _ λx hx=>?_⟩;obtain⟨y,hy,rfl⟩:=aA4.1 hx;exact h3 y hy
def riW{d:DataW H}(h:PB w enc n 91 cs d):∃v:W4,sL w v.aT1 cs/\v.cR<=rI d/\v.wt/\-9223372036854775808<=v.home/\v.home<=9223372036854775807:=by
 obtain⟨k,ds,rfl,hb,hf⟩:=p9 aN5 h;obtain⟨a0,b0,d0,r0,rfl,rfl,h0,hf⟩:=hf;obtain⟨a1,b1,d1,r1,rfl,rfl,h1,hf⟩:=hf;obtain⟨a2,b2,d2,r2,rfl,rfl,h2,hf⟩:=hf;obtain⟨a3,b3,d3,r3,rfl,rfl,h3,hf⟩:=hf;obtain⟨a4,b4,d4,r4,rfl,rfl,h4,hf⟩:=hf;obtain⟨a5,b5,d5,r5,rfl,rfl,h5,hf⟩:=hf;obtain⟨a6,b6,d6,r6,rfl,rfl,h6,hf⟩:=hf;obtain⟨a7,b7,d7,r7,rfl,rfl,h7,hf⟩:=hf;obtain⟨a8,b8,d8,r8,rfl,rfl,h8,hf⟩:=hf;obtain⟨a9,b9,d9,r9,rfl,rfl,h9,hf⟩:=hf;obtain⟨a10,b10,d10,r10,rfl,rfl,h10,hf⟩:=hf;obtain⟨a11,b11,d11,r11,rfl,rfl,h11,hf⟩:=hf;obtain⟨rfl,rfl⟩:=hf;obtain⟨x0,g0,m0,e0,F0⟩:=kQ aMR h0;obtain⟨x1,g1,m1,e1,F1⟩:=kQ aK8 h1;obtain⟨x2,g2,m2,q2⟩:=riV _ h2;obtain⟨x3,g3,m3,q3⟩:=aNR h3;obtain⟨x4,g4,m4,e4,F4⟩:=kQ ty2 h4;obtain⟨x5,g5,m5,e5,F5⟩:=kQ ty2 h5;obtain⟨x6,g6,m6,e6,F6⟩:=kQ W3 h6;obtain⟨x7,g7,m7,e7,F7⟩:=kQ W3 h7;obtain⟨x8,g8,m8,e8,F8⟩:=kQ aMT h8;obtain⟨x9,g9,m9⟩:=aIP ty4 h9;obtain⟨x10,g10,m10,q10,_⟩:=aMC h10;have m10v:=S4.xC x10;obtain⟨x11,g11,m11,q11⟩:=aMD h11;have m11v:=aRM x11;simp only[mE]at hb;have hn:rZ ([]:List (DataW H))=0:=rfl
 try simp only[U3.1,U3.2,BQ.1,BQ.2]at*
 have G:=g0.app (g1.app (g2.app (g3.app (g4.app (g5.app (g6.app (g7.app (g8.app (g9.app (g10.app (g11.app sL.nil)))))))))));refine⟨⟨x0,x1,x2,x3,x4,x5,x6,x7,x8,x9,x10,x11⟩,?_,?_,⟨q2,q3,q11,q10,⟨e0,by(try dsimp only);omega⟩,⟨e8,by(try dsimp only);omega⟩⟩,e1,F1⟩
 ·simpa [W4.aT1,V.aT1]using G
 ·simp only[W4.cR];omega
def riT{d:DataW H}(h:PB w enc n 93 cs d):∃v:T4,sL w v.aT1 cs/\v.bQ.cR+1<=rI d/\v.bQ.wt/\-9223372036854775808<=v.bQ.home/\v.bQ.home<=9223372036854775807:=by
 obtain⟨k,ds,rfl,hb,hf⟩:=p9 aN6 h;obtain⟨a0,b0,d0,r0,rfl,rfl,h0,hf⟩:=hf;obtain⟨a1,b1,d1,r1,rfl,rfl,h1,hf⟩:=hf;obtain⟨rfl,rfl⟩:=hf;obtain⟨x0,g0,m0,e0,F0⟩:=kQ W3 h0;obtain⟨x1,g1,m1,q1⟩:=riW h1;simp only[mE]at hb;have hn:rZ ([]:List (DataW H))=0:=rfl
 try simp only[U3.1,U3.2,BQ.1,BQ.2]at*
 have G:=g0.app (g1.app sL.nil);refine⟨⟨x0,x1⟩,?_,?_,q1⟩
 ·simpa [T4.aT1]using G
 ·(try dsimp only);omega
def WZ{α:Type}(f:α->Nat):∀(l:List α),∀x∈l,f x<=(l.map f).sum
 |v::r,x,h=>by
  simp only[aG,gU];rcases aO.1 h with e|e
  ·subst e;omega
  ·have:=WZ f r x e;omega
def Q7{α:Type}(f:α->Nat)(hf:∀x,1<=f x):∀(l:List α),l.length<=(l.map f).sum
 |[]=>sM
 |v::r=>by
  have:=Q7 f hf r;have:=hf v;simp only[aG,gU,aQ];omega
def riX{d:DataW H}(h:PB w enc n 27 cs d)(hB:rI d<=1048576):∃x:X4,sL w x.aT1 cs/\(∀t∈x.aT4,t.bQ.cR<=2^20/\t.bQ.wt)/\x.aT4.length<=2^30/\x.parents.length<=2^38/\x.aU3.length<=2^38/\x.made.length<=2^38/\∀t∈x.aT4,-9223372036854775808<=t.bQ.home/\t.bQ.home<=9223372036854775807:=by
 obtain⟨k,ds,rfl,hb,hf⟩:=p9 aNY h;obtain⟨a0,b0,d0,r0,rfl,rfl,h0,hf⟩:=hf;obtain⟨a1,b1,d1,r1,rfl,rfl,h1,hf⟩:=hf;obtain⟨a2,b2,d2,r2,rfl,rfl,h2,hf⟩:=hf;obtain⟨a3,b3,d3,r3,rfl,rfl,h3,hf⟩:=hf;obtain⟨a4,b4,d4,r4,rfl,rfl,h4,hf⟩:=hf;obtain⟨rfl,rfl⟩:=hf;obtain⟨x0,g0,m0⟩:=aNO h0;obtain⟨x1,g1,m1⟩:=aMB h1;obtain⟨x2,g2,m2,q2⟩:=oV T4.aT1 (λv=>v.bQ.cR+1) (λv=>v.bQ.wt/\-9223372036854775808<=v.bQ.home/\v.bQ.home<=9223372036854775807) 17 aNX aM6 eD (λk _ cs d h=>riT h) h2;obtain⟨x3,g3,m3,e3,F3⟩:=kQ W3 h3;obtain⟨x4,g4,m4⟩:=aMB h4;simp only[mE]at hb;have hn:rZ ([]:List (DataW H))=0:=rfl
 try simp only[U3.1,U3.2,BQ.1,BQ.2]at*
 have G:=g0.app (g1.app (g2.app (g3.app (g4.app sL.nil))));have hl:=Q7 (λv:T4=>v.bQ.cR+1) (λ_=>oM) x2;refine⟨⟨x0,x1,x2,x3,x4⟩,?_,?_,?_,?_,?_,?_,?_⟩
 ·simpa [X4.aT1]using G
 ·intro t ht;have:=WZ (λv:T4=>v.bQ.cR+1) x2 t ht;exact⟨by(try dsimp only at this);omega,(q2 t ht).1⟩
 ·(try dsimp only);omega
 ·(try dsimp only);omega
 ·(try dsimp only);omega
 ·(try dsimp only);omega
 ·exact λt ht=>(q2 t ht).2
def U4.m(u:U4):Nat:=S4.NK u.code+(u.names.map λv=>v.value.cR+v.name.size+1).sum+u.seen.length+1
def U4.p(u:U4):Prop:=(-9223372036854775808<=u.side/\u.side<=9223372036854775807)/\S4.abL u.code/\S4.B5 u.code/\V.B5 (u.names.map (·.value))
def riU{d:DataW H}(h:PB w enc n 33 cs d):∃u:U4,sL w u.aT1 cs/\u.m<=rI d/\u.p:=by
 obtain⟨k,ds,rfl,hb,hf⟩:=p9 aN1 h;obtain⟨a0,b0,d0,r0,rfl,rfl,h0,hf⟩:=hf;obtain⟨a1,b1,d1,r1,rfl,rfl,h1,hf⟩:=hf;obtain⟨a2,b2,d2,r2,rfl,rfl,h2,hf⟩:=hf;obtain⟨a3,b3,d3,r3,rfl,rfl,h3,hf⟩:=hf;obtain⟨rfl,rfl⟩:=hf;obtain⟨x0,g0,m0,e0,F0⟩:=kQ aK8 h0;obtain⟨x1,g1,m1,q1,q1b⟩:=aMC h1;obtain⟨x2,g2,m2,q2⟩:=aMD h2;obtain⟨x3,g3,m3⟩:=aNP h3;simp only[mE]at hb;have hn:rZ ([]:List (DataW H))=0:=rfl
 try simp only[U3.1,U3.2,BQ.1,BQ.2]at*
 have G:=g0.app (g1.app (g2.app (g3.app sL.nil)));refine⟨⟨x0,x1,x2,x3⟩,?_,?_,⟨e0,F0⟩,q1b,q1,q2⟩
 ·simpa [U4.aT1]using G
 ·simp only[U4.m];omega
def a7H{d:DataW H}(h:PB w enc n 35 cs d)(hB:rI d<=1048576):∃l:List U4,sL w [.sl 4 (l.map U4.aT1)] cs/\l.length<=2^30/\∀u∈l,u.gA/\u.wD/\V.dB (u.names.map (·.value))<=2^20:=by
 obtain⟨l,h1,h2,h3⟩:=oV U4.aT1 U4.m U4.p 4 a7J a7A eD (λk _ cs d h=>riU h) h;have hl:=Q7 U4.m (λu=>by simp only[U4.m];omega) l;refine⟨l,h1,oM,λu hu=>?_⟩;have h4:=WZ U4.m l u hu;have h5:=aRM u.names;have h8:=S4.xC u.code;obtain⟨p1,p2,p3,p4⟩:=h3 u hu;simp only[U4.m]at h4;exact⟨⟨p1,oM,p2,oM,oM,oM⟩,⟨p1,oM,S4.aEZ _ p3 oM,oM,p4,λn hn=>by have:=aR7 u.names n hn;omega,oM,oM⟩,oM⟩
end
open Go.ChangeShapes Go.WideShapes Go.ChangeAt Go.RowKit
def aMW{P:Program}{f:FuncId}{cs:List C}{vs:List Value}(h:aJ P f (cs.map .d) (λ_=>none) (.ok (.d (.v (.bool true)))) (λ_=>none))(hd:C.bR w (λ_=>False) cs vs):
 Calls P f vs.toArray w λe w'=>e=.returned (.bool true)/\iF (λ_=>False) w w':=by
 have h0:bC (λ_=>False) (λ_=>False) w ⟨0,none⟩ (λ_=>.x) (λ_=>none) (λ_=>undef) {tmps:= #[],defers:=[]} w:=
  {keeps:=iF.refl _ _,size:=rfl,defers:=(λds e=>by cases e),tmps:=(λn=>by simp[A.Den]),res:=(λi r e=>by cases e),own:=(λi r b e=>by cases e),apart:=(λi j r r2 b e=>by cases e)}
 refine(h.2 _ _ _ _ w _ _ w h0 (λb e=>e.elim) vs ?_).mono ?_
 ·refine A.iO.2 (C.dK (dV.refl _ w) (λb hb _=>?_) _ _ hd);rcases hb with hb|⟨i,r,hb,_⟩
  ·exact hb
  ·cases hb
 ·rintro e w' ⟨ρ',h1,_,y,rfl,hy⟩;simp only[A.Den,C.Den]at hy;subst hy;exact⟨rfl,h1.keeps⟩
def sL.agg{w:World}{l:List C}{vs:Array Value}(h:sL w l vs.toList):C.Den w (λ_=>False) (.agg l) (.agg vs):=by
 simp only[C.Den];exact⟨vs,rfl,h.2,h.1⟩
def sL.den{c:C}{v:Value}(h:sL w [c] [v]):C.Den w (λ_=>False) c v:=by
 have:=h.1;simp only[C.bR]at this;obtain⟨y,yr,h1,h2,rfl⟩:=this;simp only[iX,and_true]at h1;rw[h1];exact h2
def iF.sameAt{w w':World}(h:iF (λ_=>False) w w'){p:MemPlace}(hb:p.block<w.heap.size):w.sameAt w' p:=by
 cases p with
 |cell b o=>exact World.cell?_of_block (h.block b hb λe=>e)
 |map b=>exact h.block b hb λe=>e
section
variable{H:Type}{enc:TypeId×Value->H}{P:Program}
def M8(hl:laidOutB P=true){W W':World}(hK:iF (λ_=>False) W W'){sp:Nat->Bool}:∀(ts:List TypeId)(vs:List Value)(ds:List (DataW H))(ps:List MemPlace),(∀t∈ts,P.readableRec t=true/\t<P.types.size)->
 DataW.TrodAll enc P W 0 (λ_=>true) true ts vs ds ps->(∀p∈ps,p.block<W.heap.size)->(∀p∈ps,sp p.block=true)->DataW.TrodAll enc P W' 0 sp true ts vs ds ps
 |[],[],[],ps,_,h,_,_=>h
 |t::ts,v::vs,d::ds,ps,ht,h,hb,hs=>by
  obtain⟨p,q,h1,h2,rfl⟩:=h;have htt:=ht t sM
  exact⟨p,q,Go.WideElems.Trod_stays hl htt.1 htt.2 h1 (λx hx=>hK.sameAt (hb x (by simp[hx]))) (λx hx=>hs x (by simp[hx])),
   M8 hl hK ts vs ds q (λt h=>ht t (by simp[h])) h2 (λx hx=>hb x (by simp[hx])) (λx hx=>hs x (by simp[hx])),rfl⟩
 |[],[],_::_,_,_,h,_,_=>h.elim
 |[],_::_,_,_,_,h,_,_=>h.elim
 |_::_,[],_,_,_,h,_,_=>h.elim
 |_::_,_::_,[],_,_,h,_,_=>h.elim
end


def a5E{mF:Mem}{a a':A}(h:Cv mF a a'):∀X:List (List A),MC mF (X++[[a]]) (X++[[a']])
 |[]=>.cons (.cons h (.same [])) (.same [])
 |x::X=>.cons (.same x) (a5E h X)
def aQ5(w:R4)(hw:w.gA)(r:Int)(Q:A->List (Nat×R)->Prop)(q1:w.aH7 r=[]->∀ml,Q (.d (.nl 1)) ml)(q2:w.aH7 r≠[]->∀i ml,aK ml i=some (dU 25 1 (iR (w.aH7 r)))->Q (.h i) ml):∀c,Tryz.f53.body=some c->vc Tryz.prog [] Tryz.f53.ntmps c (C9 0 [.d (.ip w.aT1),.d (ci r)]) [] 1 (JS Tryz.prog Tryz.f53 Q):=by
 have h1:=hw.aW4 r;have h2:=w.tP r;intro c hc;cases hc
 repeat'(first|refine bl ?_|refine aF (aRF w hw r) (bw ?_)|refine aF (aQE w hw r) (bw ?_))
 unfold R4.aH7 at q1 q2;generalize w.SV r=La at h1 q1 q2⊢;generalize w.LY r=Lb at h2 q1 q2⊢;refine n8 (by simp only[aB];omega) kK ?_;conv=>whnf
 refine E9.mk (λhz=>?_) (λhz=>?_)
 ·have hz:La=[]:=by simpa using hz
  subst hz;conv=>whnf
  repeat'(first|refine bl ?_|fail)
  refine n8 (by simp only[aB];omega) kK ?_;conv=>whnf
  refine E9.mk (λhz=>?_) (λhz=>?_)
  ·have hz:Lb=[]:=by simpa using hz
   subst hz;conv=>whnf
   repeat'(first|refine bl ?_|fail)
   exact q1 rfl _
  ·have hz:Lb≠[]:=by simpa using hz
   conv=>whnf
   repeat'(first|refine bl ?_|fail)
   exact q2 hz _ _ rfl
 ·have hz:La≠[]:=by simpa using hz
  conv=>whnf
  repeat'(first|refine bl ?_|fail)
  refine n8 (by simp only[aB];omega) kK ?_;conv=>whnf
  repeat'(first|refine bl ?_|fail)
  exact q2 (by simp[hz]) _ _ (congrArg (λq=>some (R.fW false 25 1 q)) (gG La Lb))
def a3G(w:R4)(hw:w.gA)(r:Int)(h:w.aH7 r=[]):Pu 53 [.d (.ip w.aT1),.d (ci r)] (.d (.nl 1)):=by
 refine CV mix Tryz.func53 rfl kK (bD rfl) rfl (aQ5 w hw r _ (λ_ ml=>.one (.d _)) (λh2 i ml hi=>absurd h h2) _ rfl)
def a3F(w:R4)(hw:w.gA)(r:Int)(h:w.aH7 r≠[]):∀(m:Mem)(d:Nat),m d=none->aJ Tryz.prog 53 [.d (.ip w.aT1),.d (ci r)] m (.ok (.h d)) (aX m d (dU 25 1 (iR (w.aH7 r)))):=by
 refine iW mix (F:=A.h) (r:=dU 25 1 (iR (w.aH7 r))) Tryz.func53 rfl kK (bD rfl) rfl (oJ _ _ _) (λ_ _=>rfl) (λi j hj=>by simpa [A.hs]using hj) (λg=>eT g _ _ _) (aQ5 w hw r _ (λh2 ml=>absurd h2 h) (λ_ i ml hi=>⟨i,rfl,hi⟩) _ rfl)
def W4.more(x:W4):List Int:=if(x.kind=6\/x.kind=7\/x.kind=9\/x.kind=13)/\x.of≠0 then [x.of]else []
def a4H(w:R4)(l:List U4)(i:Nat)(hi:i<l.length)(hn:V.dB (l[i].names.map (·.value))<=2^30)(hl:l[i].names.length<=2^34):Pu 58 [.d (.ip w.aT1),.d (.sl 4 (l.map U4.aT1)),.d (.agg [cb false,ci i,ci 0])] (.d (.sl 1 (iR (kV (l9 l[i].names))))):=by
 have hho:=aPK l[i] hn hl;refine iC mix Tryz.func58 ?_
 repeat'(first|refine bl ?_|refine cD rfl eD hi (bw ?_)|refine dR hho (.cons (.same _) .nil) (bw ?_))
 exact .one (.d _)
def a4G(w:R4)(hw:w.gA)(l:List U4)(r:Int):Pu 58 [.d (.ip w.aT1),.d (.sl 4 (l.map U4.aT1)),.d (.agg [cb true,ci 0,ci r])] (.d (.sl 1 (iR (w.aH7 r++(w.iI r).more)))):=by
 have h0:=a3G w hw r;have h1:=a3F w hw r;have h2:=zP w r hw.len;have hk:=w.AF hw.towt r;have hsl:(w.aH7 r).length<=2^29:=by
  have h1:=hw.aW4 r;have h2:=w.tP r;unfold R4.aH7;rw[aU];omega
 generalize w.aH7 r=S at h0 h1 hsl⊢;generalize w.iI r=x at h2 hk⊢;refine iC mix Tryz.func58 ?_;unfold W4.more;by_cases hS:S=[]
 ·have h3:=h0 hS;subst hS
  repeat'(first|refine bl ?_|refine bS (λh=>?_) (λh=>?_)|refine aF h3 (bw ?_)|refine aF h2 (bw ?_))
  all_goals try(refine n8 (by simp only[cE,aS];omega) kK ?_;conv=>whnf)
  all_goals try(refine E9.mk (λhz=>absurd hz sM) (λhz=>?_);conv=>whnf)
  repeat'(first|refine bl ?_|fail)
  all_goals first
   |(rw[aUF ⟨oM,aM⟩];exact .one (.dU (t:=25) rfl))
   |(rw[aT7 (by first|omega|(rintro⟨_,h9⟩;exact h9 aM)),dS];exact .one (.nz _ _))
 ·have h3:=h1 hS
  repeat'(first|refine bl ?_|refine bS (λh=>?_) (λh=>?_)|refine fQ h3 5000 rfl (bw ?_)|refine aF h2 (bw ?_))
  all_goals try(refine n8 (by simp only[cE,aS,bE,aB];omega) kK ?_;conv=>whnf)
  repeat'(first|refine bl ?_|fail)
  all_goals first
   |(rw[aUF ⟨oM,aM⟩];exact .one (a64 (t:=25) (b:=[x.of]) rfl))
   |(rw[aT7 (by first|omega|(rintro⟨_,h9⟩;exact h9 aM)),dS];exact .one (.dU (t:=25) rfl))
abbrev iN(L:List Nat):List (List C):=L.map λn:Nat=>[ci (n:Int)]
def pS(NR:List (List C))(F:List (Int×Int))(low:List Nat):List (Nat×R):=[(1016,.cells false [.d (.sl 3 NR),.h 1000,.h 902]),(1000,.mp false (iZ F) []),(902,dU 3 1 (iN low))]
def KR(F:List (Int×Int))(is:Bool)(who ref n:Int):Int×Int:=if is=false then(if ref≠0\/who<0\/n<=who then(0,2)else(who,0))else if who≠0 then(0,2)else if kJ F ref=true then(cR F ref,0)else(0,5)
def a40{P:Program}{kt:TypeId}{k1:A->Prop}{k0:Prop}(hk:KC.fits P kt (.int .i64 0)=true)(h1:kJ F r=true->k1 (.d (ci (cR F r))))(h0:kJ F r=false->k0):n5 (kH P kt (kI r) (iZ F)) (fL (kI r) (iZ F)) k1 k0:=by
 have hf:=P3 (P:=P) (r:=r) hk F;have hg:=V1 F r;unfold kJ cR at h1;unfold kJ at h0;cases h:F.find? λf=>decide (f.1=r)with
 |none=>rw[h]at hg h0;exact .BP hf hg (h0 rfl)
 |some f=>rw[h]at hg h1;exact .CL _ hf hg (h1 rfl)
def aPC(low:List Nat):Prop:=∀i,aEM low i<=i
def aTJ(h:aPC low)(i:Nat):(aEM low i=i->lB low i=i)/\(aEM low i≠i->aEM low i<i/\lB low (aEM low i)=lB low i):=by
 have h1:=h i;constructor
 ·intro e;rw[lB,dif_neg oM]
 ·intro e;have h2:aEM low i<i:=oM;refine⟨h2,?_⟩;conv=>rhs;rw[lB,dif_pos h2]
def a68(L:List Nat)(k:Nat)(h:k<L.length):(bE (iN L))[k]?=some [.d (ci (aEM L k:Nat))]:=by
 refine gB _ _ [ci (aEM L k:Nat)] ?_;unfold aEM;rw[cK,aC h];rfl
def aLG{NR:List (List C)}:H9 (pS NR F low) (pS NR F low):=⟨⟨sn,sn,tV⟩,aEP,aZ,tV⟩
def aO3(NR:List (List C))(F:List (Int×Int))(low:List Nat)(h:aPC low)(i:Nat)(hi:i<low.length):aJ Tryz.prog 56 [.lp 1016 0,.d (ci i)] (aK (pS NR F low)) (.ok (.d (ci (lB low i:Nat)))) (aH (aK (pS NR F low)) []):=by
 refine wE mix 2000 Tryz.func56 tV tV ?_;refine bl ?_;refine bV mix (λk:Nat=>k<low.length/\lB low k=lB low i) (I:=λk=>[(0,.lp 1016 0),(1,.d (ci k))])
  (J:=λk=>pS NR F low) (μ:=λk=>k) 3000 i ⟨hi,rfl⟩ mZ ?_
 rintro k ⟨hk,hr⟩;obtain⟨s1,s2⟩:=aTJ h k
 repeat'(first|refine bl ?_|refine bS (λh=>?_) (λh=>?_)|refine lG.mk k rfl (by simp only[bE,aB];omega) (bw ?_)|(refine fZ.mk _ (a68 low k hk) ?_;(conv=>whnf)))
 ·have e:¬aEM low k=k:=λe=>absurd (congrArg (λn:Nat=>(n:Int)) e) aM;exact⟨aEM low k,(s2 e).1,⟨by have:=(s2 e).1;omega,(s2 e).2.trans hr⟩,mZ⟩
 ·have e:aEM low k=k:=oM;rw[<-hr,s1 e];exact em
def a0O(h:aPC low)(hF:aNU F low.length)(hi:i<low.length):aPC (XR F i low r):=by
 unfold XR;split
 ·rename_i hr;have hk:=hF.at hr;have l1:=aFH low i;have l2:=aFH low (cR F r).toNat;intro x;rw[aOM _ _ _ _ oM];split
  ·omega
  ·exact h x
 ·exact h
def a6O(L:List Nat)(k v:Nat):(bE (iN L)).set k [.d (ci (v:Int))]=bE (iN (L.set k v)):=by
 simp only[bE,qS];rfl
def aSJ(NR:List (List C))(F:List (Int×Int))(low:List Nat)(h:aPC low)(hF:aNU F low.length)(i:Nat)(hi:i<low.length)(r:Int):aJ Tryz.prog 113 [.lp 1016 0,.d (ci i),.d (ci r)] (aK (pS NR F low)) (.ok (.eL [])) (aH (aK (pS NR F low)) [(902,dU 3 1 (iN (XR F i low r)))]):=by
 refine wE mix 2000 Tryz.func113 tV ⟨aZ,tV⟩ ?_;refine bl ?_;refine a40 eD (λhr=>?_) (λhr=>?_)
 ·have hk:=hF.at hr;have hck:cR F r=((cR F r).toNat:Int):=oM;conv=>whnf
  rw[hck];have l1:=aFH low i;have l2:=aFH low (cR F r).toNat
  repeat'(first|refine bl ?_|refine dZ.mk (.d (ci (lB low i:Nat))) [] (aJ.l8 (aO3 NR F low h i hi) ⟨sn,tV⟩ ⟨rfl,rfl,rfl,tV⟩ aLG tV) (bw ?_)|(refine dZ.mk (.d (ci (lB low (cR F r).toNat:Nat))) [] (aJ.l8 (aO3 NR F low h (cR F r).toNat oM) ⟨sn,tV⟩ ⟨rfl,rfl,rfl,tV⟩ aLG tV) ?_;(conv=>whnf))|refine xR.mk kK (bw ?_))
  have hj:XR F i low r=low.set (max (lB low i) (lB low (cR F r).toNat)) (min (lB low i) (lB low (cR F r).toNat)):=by unfold XR;rw[aUF hr]
  rw[hj];generalize lB low i=a at l1⊢;generalize lB low (cR F r).toNat=b at l2⊢;refine lG.mk (max a b) ?_ (by simp only[bE,aB];omega) ?_
  ·rw[aUF rfl];split<;>omega
  conv=>whnf
  skip
  refine fZ.mk _ (a68 low (max a b) oM) ?_;conv=>whnf
  refine bl ?_;have a7F:(if false=true then if(b:Int)>a then(b:Int)else a else if(b:Int)<a then(b:Int)else a)=((min a b:Nat):Int):=by
   rw[aT7 gO];split<;>omega
  refine dA rfl ⟨.inr (YQ rfl ?_),.inr rfl,.inr rfl,.inl rfl,tV⟩;rw[a7F];exact a6O low (max a b) (min a b)
 ·conv=>whnf
  refine bl ?_;rw[show XR F i low r=low by unfold XR;rw[aT7 (by simp[hr])]];exact em
def a3Y(NR:List (List C))(F:List (Int×Int))(low:List Nat)(is:Bool)(who ref n:Int):aJ Tryz.prog 57 [.lp 1016 0,.d (.agg [cb is,ci who,ci ref]),.d (ci n)] (aK (pS NR F low)) (.ok (.eL [.d (ci (KR F is who ref n).1),.d (ci (KR F is who ref n).2)])) (aH (aK (pS NR F low)) []):=by
 refine wE mix 2000 Tryz.func57 tV tV ?_;cases is with
 |false=>
  repeat'(first|refine bl ?_|refine bS (λh=>?_) (λh=>?_))
  all_goals first
   |(have e:KR F false who ref n=(0,2):=by unfold KR;rw[aUF rfl,aUF oM]
     rw[e]
     exact em;done)
   |(have e:KR F false who ref n=(who,0):=by unfold KR;rw[aUF rfl,aT7 oM]
     rw[e]
     exact em;done)
 |true=>
  repeat'(first|refine bl ?_|refine bS (λh=>?_) (λh=>?_))
  ·have e:KR F true who ref n=(0,2):=by unfold KR;rw[aT7 sM,aUF oM]
   rw[e];exact em
  ·have GY:¬who≠0:=oM;refine a40 eD (λhr=>?_) (λhr=>?_)
   ·conv=>whnf
    refine bl ?_;have e:KR F true who ref n=(cR F ref,0):=by unfold KR;rw[aT7 sM,aT7 GY,aUF hr]
    rw[e];exact em
   ·conv=>whnf
    refine bl ?_;have e:KR F true who ref n=(0,5):=by unfold KR;rw[aT7 sM,aT7 GY,aT7 (by simp[hr])]
    rw[e];exact em
def ndR(n:Nat)(T:List Int):List (List C):=(List.range n).map (λi:Nat=>[cb false,ci (i:Int),ci 0])++T.map λr=>[cb true,ci 0,ci r]
def atF:Nat->List Int->List (Int×Int)
 |_,[]=>[]
 |n,r::T=>(r,(n:Int))::atF (n+1) T
structure Nd0(n:Nat)(b0:A)(X:R):Prop where
 is:(b0=.h 940/\X=dU 55 3 (ndR n []))\/(b0=.d (.nl 3)/\X=.dead/\n=0)
def a6F{j:Nat}(h1:i≠940)(h2:j≠940):swp i j 940=940:=by rw[BJ,aT7 (λe=>h1 e.symm),aT7 (λe=>h2 e.symm)]
def Nd0.rb(h:Nd0 n b0 X){i j:Nat}(h1:i≠940)(h2:j≠940):b0.eZ (swp i j)=b0:=by
 rcases h.is with⟨rfl,_⟩|⟨rfl,_⟩
 ·exact congrArg A.h (a6F h1 h2)
 ·rfl
def Nd0.rx(h:Nd0 n b0 X)(g:Nat->Nat):X.eZ g=X:=by
 rcases h.is with⟨_,rfl⟩|⟨_,rfl,_⟩
 ·exact eT _ _ _ _
 ·rfl
def Nd0.hx(h:Nd0 n b0 X){ml:List (Nat×R)}:rB ml X.hs:=by
 rcases h.is with⟨_,rfl⟩|⟨_,rfl,_⟩
 ·exact aZ
 ·trivial
def Nd0.hb(h:Nd0 n b0 X){ml:List (Nat×R)}(h1:aK ml 940≠none)(h2:aK ml 1000≠none):rB ml (R.cells false [b0,.h 1000,.d (.nl 1)]).hs:=by
 rcases h.is with⟨rfl,_⟩|⟨rfl,_⟩
 ·exact⟨h1,h2,tV⟩
 ·exact⟨h2,tV⟩
def mkb{b:A}{o:Option R}{j:Nat}(hv:Nd0 n b X)(h:o=some (.cells false [b,.h 1000,.d (.nl 1)]))(h1:i≠940)(h2:j≠940)(h3:swp i j 1000=1000):o.map (R.eZ (swp i j))=some (.cells false [b,.h 1000,.d (.nl 1)]):=by
 rw[h];show some (R.cells false [b.eZ (swp i j),.h (swp i j 1000),.d (.nl 1)])=_;rw[hv.rb h1 h2,h3]
def a6G(lo:R):Prop:=∀ml':List (Nat×R),aK ml' 1024≠none->aK ml' 7100≠none->rB ml' lo.hs
def a6G.at{lo:R}(h:a6G lo){ml:List (Nat×R)}(h1:aK ml 1024≠none)(h2:aK ml 7100≠none):rB ml lo.hs:=h _ h1 h2
def clJ{P:Prop}(h:P:=by repeat'(first|exact aW|exact rfl|exact sn|exact aZ|exact aEP|exact a6G.at aM sn sn|exact Nd0.hb aM sn sn|exact Nd0.hx aM|exact rS sn|exact eV rfl|refine bI ?_ ?_)):P:=h
def mvS{mb:List (Nat×R)}{m:Nat}{l l':List (Nat×A)}{ml ml':List (Nat×R)}
 (h:IW ml' mb/\YY l l'/\I2 ml [] ml'/\GF ml' l'/\H9 ml' ml':=by repeat'(first|exact aW|exact rfl|exact sn|exact eV rfl|exact aZ|exact aEP|exact a6G.at aM sn sn|exact Nd0.hb aM sn sn|exact Nd0.hx aM|(refine qD ?_;simp only[aB,bE,D4.aP];done)|refine bI ?_ ?_)):cN mb m l ml l' ml':=
 cN.sub h.1 h.2.1 h.2.2.1 h.2.2.2.1 h.2.2.2.2
def mvJ(i j:Nat){mb:List (Nat×R)}{m:Nat}{l l':List (Nat×A)}{ml ml':List (Nat×R)}
 (h:M3 i j ml' mb/\KP (swp i j) l l'/\I8 (swp i j) ml ml'/\GF ml' l'/\H9 ml' ml':=by repeat'(first|exact aW|exact rfl|exact sn|exact aZ|exact IK rfl|exact cO rfl rfl|exact aEP|exact KS rfl rfl|exact aNQ rfl aM|exact a6G.at aM sn sn|exact Nd0.hb aM sn sn|exact Nd0.hx aM|exact mkb aM rfl eD eD rfl|exact aNQ rfl (Nd0.rx aM _)|exact cO rfl (by simp[bE]<;>rfl)|refine bI ?_ ?_)):cN mb m l ml l' ml':=
 cN.swap i j h.1 h.2.1 h.2.2.1 h.2.2.2.1 h.2.2.2.2
abbrev jB(w:D4)(lo:R)(b:A)(F:List (Int×Int))(tl:List (Nat×R)):List (Nat×R):=(7000,lo)::(7100,.cells false [.d (.ip w.aT1)])::(1024,.cells false [.lp 1016 0])::(1016,.cells false [b,.h 1000,.d (.nl 1)])::(1000,.mp false (iZ F) [])::tl
def jT(w:D4)(n:Nat)(lo:R)(b0:A)(X:R):Nat->List (Nat×R)
 |0=>jB w lo b0 [] [(940,X)]
 |k+1=>jB w lo (.h 950) (atF n (w.aP.take (k+1))) [(950,dU 55 3 (ndR n (w.aP.take (k+1)))),(940,.dead)]
abbrev jK(w:D4)(ml:List (Nat×R)):List (Nat×R):=(900,dU 25 1 (iR w.aP))::(901,dU 84 1 (kR (w.aT4.map (·.bQ.kind))))::ml
def jU(w:D4)(n k:Nat):List (Nat×R):=[(1016,.cells false [.h 30160,.h 1000,.d (.nl 1)]),(1000,.mp false (iZ (atF n (w.aP.take (k+1)))) []),(30160,dU 55 3 (ndR n (w.aP.take (k+1)))),(match k with|0=>940|_+1=>950,.dead)]
def a6H(w:D4)(n:Nat)(lo:R)(b0:A)(X:R):Prop:=∀k(h:k<w.aT4.length)(o:Oper)(c:Call)(fo:Operand)(l:List (Nat×A)),o.op=.call c->c.callee=.value fo->dN (lT l) fo=.h 7000->c.args.toList.map (dN (lT l))=[.d (ci w.aT4[k].ref),.d (ck w.aT4[k].bQ.kind)]->o8 Tryz.prog o (lT l) (aK (jK w (jT w n lo b0 X k))) [(.ok (.d (cb true)),jU w n k)]
def a49(w:D4)(hw:w.qV)(n:Nat)(lo:R){b0:A}{X:R}(hv:Nd0 n b0 X)(hlo:a6G lo)(hr1:lo.eZ (swp 12056 900)=lo)(hr2:lo.eZ (swp 12160 901)=lo)(hr3:lo.eZ (swp 30160 950)=lo)(hT0:w.aT4≠[])(aX1:a6H w n lo b0 X):
 aJ Tryz.prog 105 [.h 7000,.lp 7100 0] (aK (jB w lo b0 [] [(940,X)])) (.ok (.eL [])) (aH (aK (jB w lo b0 [] [(940,X)])) [(1016,.cells false [.h 950,.h 1000,.d (.nl 1)]),(1000,.mp false (iZ (atF n w.aP)) []),(950,dU 55 3 (ndR n w.aP)),(940,.dead)]):=by
 refine wE mix 12000 Tryz.func105 tV clJ ?_;have hgl:=hw.len;have hg:=hw.togA;have E0:w.aP.length=w.aT4.length:=by unfold D4.aP;rw[aB]
 have hkl:(w.aT4.map (·.bQ.kind)).length=w.aT4.length:=by rw[aB]
 have hrf:=K6 w hw.len hw.EP
 repeat'(first|refine bl ?_|refine fU (cs:=[.ip w.aT1]) (vQ w) (.v _) (.cons (.d _) .nil) (bw ?_)|refine fQ hrf 12900 rfl (bw ?_))
 have HG:∀i(h:i<w.aT4.length),w.aP[i]' oM =w.aT4[i].ref/\w.find w.aT4[i].ref=some w.aT4[i]/\w.aT4.take (i+1)=w.aT4.take i++[w.aT4[i]]:=λi h=>⟨by simp[D4.aP],a55 hg i h,aT h⟩;refine cY mix (λi:Nat=>i<=w.aT4.length) (I:=λi=>[(0,.h 7000),(1,.lp 7100 0),(3,lv 1 900 (iR ((w.aT4.take i).map (·.ref)))),(4,lv 1 901 (kR ((w.aT4.take i).map (·.bQ.kind)))),(12,.h 12900),(13,.d (ci w.aT4.length)),(14,.d (ci i))])
  (J:=λi=>lm 900 25 1 (iR ((w.aT4.take i).map (·.ref))) (lm 901 84 1 (kR ((w.aT4.take i).map (·.bQ.kind))) ((12900,dU 25 1 (iR w.aP))::jB w lo b0 [] [(940,X)]))) (μ:=λi=>w.aT4.length -i) 12000 0 0
  (λ_:Unit=>True) (λ_=>[(0,.h 7000),(3,.h 900),(4,.h 901)]) (λ_=>jK w (jB w lo b0 [] [(940,X)])) 13000 oM mvS ?_ ?_
 ·intro i hi;have hlq:(w.aT4.take i).length=i:=zM;have HG:=HG i;have aWV:i=w.aT4.length->w.aT4.take i=w.aT4:=λe=>aI oM;generalize w.aT4.take i=Q at HG hlq aWV⊢;obtain⟨Q',hQ⟩:∃Q',Q'=Q:=⟨_,rfl⟩;by_cases cX:i<w.aT4.length
  ·obtain⟨s1,s2,s3⟩:=HG cX;cases Q
   all_goals
    refine bl ?_;refine O8.t (aUZ (by(try simp only[aB]);omega)) ?_
    repeat'(first|refine bl ?_|refine lG.mk i rfl (by simp only[bE,aB];omega) (bw ?_)|refine fZ.mk _ (a6E w.aP i oM) (bw ?_))
    refine n8 (by simp only[aB,bE,cE,aS,aQ,cS]at hlq⊢;omega) kK ?_;conv=>whnf
    try(refine E9.mk (λh=>by cases h) (λh=>?_);conv=>whnf)
    refine bl ?_;refine EA eD (λt ht=>?_) (λht=>?_)
    ·have e:t=w.aT4[i]:=eY ((show w.find w.aP[i]=some t from ht).symm.trans (by rw[s1];exact s2));subst e;conv=>whnf
     refine n8 (by simp only[aB,bE,cE,aS,aQ,cS]at hlq⊢;omega) kK ?_;conv=>whnf
     try(refine E9.mk (λh=>by cases h) (λh=>?_);conv=>whnf)
     refine bl ?_;rw[s1];refine⟨i+1,oM,oM,?_⟩;rw[s3];refine cN.trans (l':=[(0,.h 7000),(1,.lp 7100 0),(3,.h 900),(4,.h 12160),(12,.h 12900),(13,.d (ci w.aT4.length)),(14,.d (ci (i+1:Nat)))])
      (ml':=(900,dU 25 1 (iR ((Q'++[w.aT4[i]]).map (·.ref))))::(12160,dU 84 1 (kR ((Q'++[w.aT4[i]]).map (·.bQ.kind))))::(12900,dU 25 1 (iR w.aP))::jB w lo b0 [] [(940,X)]) ?_ ?_
     all_goals rw[hQ]
     ·exact mvJ 12056 900
     ·exact mvJ 12160 901
    ·have:w.find w.aP[i]=none:=ht;rw[s1,s2]at this;cases this
  ·have e:i=w.aT4.length:=oM;have hq:=aWV e;unfold jK D4.aP;rw[<-hq];cases Q
   ·rw[<-hq]at hT0;exact absurd rfl hT0
   refine bl ?_;refine O8.f (aU0 (by(try simp only[aB]);omega)) ?_;refine bl ?_;exact⟨(),tV,mvS⟩
 rintro _ _;refine bl ?_;refine cY mix (λi:Nat=>i<=w.aT4.length) (I:=λi=>[(0,.h 7000),(4,.h 901),(35,.h 900),(36,.d (ci w.aT4.length)),(37,.d (ci i))])
  (J:=λi=>jK w (jT w n lo b0 X i)) (μ:=λi=>w.aT4.length -i) 16000 0 2
  (λ_:Unit=>True) (λ_=>[]) (λ_=>jB w lo (.h 950) (atF n w.aP) [(950,dU 55 3 (ndR n w.aP)),(940,.dead)]) 17000 oM mvS ?_ ?_
 ·intro i hi;by_cases cX:i<w.aT4.length
  ·obtain⟨s1,s2,s3⟩:=HG i cX;have hs:=aX1 i cX;obtain⟨j,hj⟩:∃j,j=i+1:=⟨_,rfl⟩;cases i
   all_goals
    refine bl ?_;refine O8.t (aUZ (by(try simp only[aB]);omega)) ?_
    repeat'(first|refine bl ?_|refine lG.mk _ rfl (by simp only[bE,aB];omega) (bw ?_)|refine fZ.mk _ (a6E w.aP _ oM) (bw ?_)|refine fZ.mk _ (a66 (w.aT4.map (·.bQ.kind)) _ oM) (bw ?_))
    refine OpK.mk _ _ (hs _ _ _ _ rfl rfl rfl ?_) ?_
    ·rw[<-s1,<-List.getElem_map (λx:T4=>x.bQ.kind) (h:=oM)];rfl
    conv=>whnf
    refine bl ?_;refine⟨j,oM,oM,?_⟩;subst hj;exact mvJ 30160 950
  ·have e:i=w.aT4.length:=oM;cases i with
   |zero=>exact absurd (iL.1 e.symm) hT0
   |succ i=>
    refine bl ?_;refine O8.f (aU0 (by(try simp only[aB]);omega)) ?_;refine bl ?_;refine⟨(),tV,?_⟩;have ht:w.aP.take (i+1)=w.aP:=aI oM;dsimp only[jT];rw[ht];exact mvS
 rintro _ _;refine bl ?_;exact em
def a4J(w:D4)(hw:w.qV)(n:Nat){lo:R}{b0:A}{X:R}(hv:Nd0 n b0 X){ml:List (Nat×R)}(hlo:a6G lo)(hr1:lo.eZ (swp 12056 900)=lo)(hr2:lo.eZ (swp 12160 901)=lo)(hr3:lo.eZ (swp 30160 950)=lo)(hT0:w.aT4≠[])(aX1:a6H w n lo b0 X)
 (a7C:aK ((7000,lo)::ml) 950=none)(hm:RN ((7000,lo)::ml) (jB w lo b0 [] [(940,X)])):
 aJ Tryz.prog 105 ([]++([.h 7000]++[.lp 7100 0])) (aK ((7000,lo)::ml)) (.ok (.eL [])) (aH (aK ((7000,lo)::ml)) [(1016,.cells false [.h 950,.h 1000,.d (.nl 1)]),(1000,.mp false (iZ (atF n w.aP)) []),(950,dU 55 3 (ndR n w.aP)),(940,.dead)]):=
 aJ.l8 (a49 w hw n lo hv hlo hr1 hr2 hr3 hT0 aX1) clJ hm clJ ⟨.inl sn,.inl sn,.inr a7C,.inl sn,tV⟩
def a48(w:D4)(hw:w.qV)(n:Nat)(lo:R){b0:A}{X:R}(hv:Nd0 n b0 X)(hlo:a6G lo)(hT0:w.aT4=[]):
 aJ Tryz.prog 105 [.h 7000,.lp 7100 0] (aK (jB w lo b0 [] [(940,X)])) (.ok (.eL [])) (aH (aK (jB w lo b0 [] [(940,X)])) []):=by
 refine wE mix 12000 Tryz.func105 tV tV ?_;have hR:w.aP=[]:=by unfold D4.aP;rw[hT0];rfl
 have hrf:=K6 w hw.len hw.EP;rw[hR]at hrf
 repeat'(first|refine bl ?_|refine fU (cs:=[.ip w.aT1]) (vQ w) (.v _) (.cons (.d _) .nil) (bw ?_)|refine fQ hrf 12900 rfl (bw ?_))
 refine cY mix (λ_:Unit=>True) (I:=λ_=>[(0,.h 7000),(1,.lp 7100 0),(3,.d (.nl 1)),(4,.d (.nl 1)),(12,.h 12900),(13,.d (ci 0)),(14,.d (ci 0))])
  (J:=λ_=>(12900,dU 25 1 (iR []))::jB w lo b0 [] [(940,X)]) (μ:=λ_=>0) 12000 () 0
  (λ_:Unit=>True) (λ_=>[(0,.h 7000),(3,.d (.nl 1)),(4,.d (.nl 1))]) (λ_=>jB w lo b0 [] [(940,X)]) 13000 tV mvS ?_ ?_
 ·rintro _ _;refine bl ?_;exact⟨(),tV,mvS⟩
 rintro _ _;refine bl ?_;refine cY mix (λ_:Unit=>True) (I:=λ_=>[(0,.h 7000),(4,.d (.nl 1)),(35,.d (.nl 1)),(36,.d (ci 0)),(37,.d (ci 0))])
  (J:=λ_=>jB w lo b0 [] [(940,X)]) (μ:=λ_=>0) 16000 () 2
  (λ_:Unit=>True) (λ_=>[]) (λ_=>jB w lo b0 [] [(940,X)]) 17000 tV mvS ?_ ?_
 ·rintro _ _;refine bl ?_;exact⟨(),tV,mvS⟩
 rintro _ _;refine bl ?_;exact em
def aTW(w:D4)(hw:w.qV)(n:Nat){lo:R}{b0:A}{X:R}(hv:Nd0 n b0 X){ml:List (Nat×R)}(hlo:a6G lo)(hT0:w.aT4=[])(hm:RN ((7000,lo)::ml) (jB w lo b0 [] [(940,X)])):
 aJ Tryz.prog 105 ([]++([.h 7000]++[.lp 7100 0])) (aK ((7000,lo)::ml)) (.ok (.eL [])) (aH (aK ((7000,lo)::ml)) []):=
 aJ.l8 (a48 w hw n lo hv hlo hT0) clJ hm clJ trivial
def ofJ(w:D4)(r:Int):List Int:=if(w.iI r).of=0 then []else [(w.iI r).of]
def aMZ(w:D4)(l:List U4)(i:Nat):List Int:=if h:i<l.length then jL l[i].names else w.aLX (w.aP[i -l.length]?.getD 0)++ofJ w (w.aP[i -l.length]?.getD 0)
def D4.KB(w:D4)(l:List U4):Nat:=l.length+w.aP.length
def D4.pR(w:D4)(l:List U4):List (Int×Int):=atF l.length w.aP
def D4.aEI(w:D4)(l:List U4):List Nat:=aH6 (w.pR l) (aMZ w l) (w.KB l) 0 (List.range (w.KB l))
def aRH:∀(n:Nat)(A B:List Int),atF n (A++B)=atF n A++atF (n+A.length) B
 |n,[],B=>by simp[atF]
 |n,a::A,B=>by
  simp only[bW,atF,aRH (n+1) A B,aQ];rw[show n+1+A.length=n+(A.length+1) by omega]
def aLE:∀(n:Nat)(A:List Int),(atF n A).map (·.1)=A
 |n,[]=>rfl
 |n,a::A=>by simp[atF,aLE (n+1) A]
def a4L:∀(n:Nat)(A:List Int),∀f∈atF n A,(n:Int)<=f.2/\f.2<n+A.length
 |n,[],f,h=>by simp[atF]at h
 |n,a::A,f,h=>by
  rw[atF]at h;rcases aO.1 h with rfl|h
  ·simp only[aQ];omega
  ·have:=a4L (n+1) A f h;simp only[aQ];omega
def aE3(w:D4)(l:List U4):aNU (w.pR l) (w.KB l):=⟨λf hf=>by
 have:=a4L l.length w.aP f hf
 unfold D4.KB;omega⟩
def aIV(n:Nat)(T:List Int):(ndR n T).length=n+T.length:=by simp[ndR]
def a4S(n:Nat)(T:List Int)(r:Int):bE (ndR n T)++[[.d (cb true),.d (ci 0),.d (ci r)]]=bE (ndR n (T++[r])):=by simp[ndR,bE]
def aSO(n:Nat):aPC (List.range n):=λi=>by
 unfold aEM;by_cases h:i<n
 ·rw[aAW h];exact bT _
 ·rw[lD zM];exact bT _
def aL9{F:List (Int×Int)}{i:Nat}:∀(L:List Int)(low:List Nat),aPC low->aNU F low.length->i<low.length->aPC (L.foldl (XR F i) low)
 |[],low,h,_,_=>h
 |r::L,low,h,hF,hi=>by
  rw[fX];exact aL9 L _ (a0O h hF hi) (by rw[aFY];exact hF) (by rw[aFY];exact hi)
def a3U(n:Nat)(T:List Int)(i:Nat)(h:i<n):(ndR n T).getD i []=[cb false,ci (i:Int),ci 0]:=by
 unfold ndR;rw[bF,bX (by simpa using h),cK,aAW h];rfl
def a3V(n:Nat)(T:List Int)(i:Nat)(h:i<T.length):(ndR n T).getD (n+i) []=[cb true,ci 0,ci T[i]]:=by
 unfold ndR;rw[bF,bO sM,cK];simp[h]
def cN.dead(i:Nat){mb:List (Nat×R)}{n:Nat}{l:List (Nat×A)}{ml:List (Nat×R)}(h:aK mb i=none):cN mb n l ml l ((i,.dead)::ml):=by
 intro b ρb ρ a w hs ho;refine⟨ρ,by rw[lR];exact bC.die hs i,?_⟩;rw[lR];intro k hk;have hZ:k≠i:=λe=>by subst e;exact hk h
 have:=ho k hk;unfold aX;rw[aT7 hZ];exact this
def a6J(w:D4)(hw:w.qV)(n k:Nat)(h:k<w.aT4.length):∃r,w.aT4[k].ref=r/\atF n (w.aP.take (k+1))=atF n (w.aP.take k)++[(r,(n:Int)+(k:Nat))]/\kJ (atF n (w.aP.take k)) r=false/\(ndR n (w.aP.take k)).length=n+k/\bE (ndR n (w.aP.take k))++[[.d (cb true),.d (ci 0),.d (ci r)]]=bE (ndR n (w.aP.take (k+1)))/\iZ (atF n (w.aP.take k))++[(kI r,.d (ci ((bE (ndR n (w.aP.take k))).length:Int)))]=iZ (atF n (w.aP.take k)++[(r,(n:Int)+(k:Nat))]):=by
 have hl:w.aP.length=w.aT4.length:=by unfold D4.aP;rw[aB]
 have h':k<w.aP.length:=oM;have htk:w.aP.take (k+1)=w.aP.take k++[w.aP[k]]:=aT h';have cX:(w.aP.take k).length=k:=by rw[cW];omega
 have E0:(ndR n (w.aP.take k)).length=n+k:=by rw[aIV,cX]
 refine⟨w.aP[k],by simp[D4.aP],?_,?_,E0,?_,?_⟩
 ·rw[htk,aRH,cX];simp[atF]
 ·cases hh:kJ (atF n (w.aP.take k)) w.aP[k]with
  |false=>rfl
  |true=>
   have:=mP.1 hh;rw[aLE]at this;obtain⟨j,hj,e⟩:=dH.1 this;rw[aGO]at e;have:=(a4A hw.nodup).1 e;omega
 ·rw[htk];exact a4S _ _ _
 ·rw[show((bE (ndR n (w.aP.take k))).length:Int)=(n:Int)+(k:Nat) by simp only[bE,aB,E0];omega];exact vP _ _ _
def a6T(n:Nat):∃b0 X,Nd0 n b0 X/\((n=0/\b0=.d (.nl 3)/\X=.dead)\/(n≠0/\b0=.h 940/\X=dU 55 3 (ndR n []))):=by
 by_cases h:n=0
 ·exact⟨_,_,⟨.inr ⟨rfl,rfl,h⟩⟩,.inl ⟨h,rfl,rfl⟩⟩
 ·exact⟨_,_,⟨.inl ⟨rfl,rfl⟩⟩,.inr ⟨h,rfl,rfl⟩⟩
def a3Q(w:D4)(hw:w.qV)(l:List U4)(hl:l.length<=2^30)(hu:∀i(h:i<l.length),l[i].gA)(hl0:l≠[]\/w.aT4≠[]):aJ Tryz.prog 55 [.d (.ip w.aT1),.d (.sl 4 (l.map U4.aT1))] (aK []) (.ok (.lp 1016 0)) (aH (aK []) (pS (ndR l.length w.aP) (w.pR l) (w.aEI l))):=by
 refine wE mix 992 Tryz.func55 ⟨sn,tV⟩ ⟨⟨sn,sn,tV⟩,aEP,aZ,tV⟩ ?_;refine bl ?_;obtain⟨b0,X,hv,hbx⟩:=a6T l.length;refine cY mix (λi:Nat=>i<=l.length) (I:=λi=>[(0,.d (.ip w.aT1)),(1,.d (.sl 4 (l.map U4.aT1))),(5,.lp 1024 0),(21,.d (ci l.length)),(22,.d (ci i))])
  (J:=λi=>(1024,.cells false [.lp 1016 0])::(1016,.cells false [lv 3 940 ((List.range i).map λi:Nat=>[cb false,ci (i:Int),ci 0]),.h 1000,.d (.nl 1)])::(1000,.mp false (iZ []) [])::lm 940 55 3 ((List.range i).map λi:Nat=>[cb false,ci (i:Int),ci 0]) []) (μ:=λi=>l.length -i) 2000 0 0
  (λ_:Unit=>True) (λ_=>[(0,.d (.ip w.aT1)),(1,.d (.sl 4 (l.map U4.aT1))),(5,.lp 1024 0)]) (λ_=>[(1024,.cells false [.lp 1016 0]),(1016,.cells false [b0,.h 1000,.d (.nl 1)]),(1000,.mp false (iZ []) []),(940,X)]) 3000 oM mZ ?_ ?_
 ·intro i hi;have hrs:(List.range (i+1)).map (λi:Nat=>[cb false,ci (i:Int),ci 0])=(List.range i).map (λi:Nat=>[cb false,ci (i:Int),ci 0])++[[cb false,ci (i:Int),ci 0]]:=by rw[aAF,bP];rfl
  have hql:((List.range i).map λi:Nat=>[cb false,ci (i:Int),ci 0]).length=i:=sM;generalize hQ:(List.range i).map (λi:Nat=>[cb false,ci (i:Int),ci 0])=Q at hrs hql⊢;rcases Q with _|⟨q0,Q⟩
  all_goals
   repeat'(first|refine bl ?_|refine bS (λh=>?_) (λh=>?_))
   refine n8 (by simp only[aB,bE,cE,aS,aQ,cS]at hql⊢;omega) kK ?_;conv=>whnf
   try(refine E9.mk (λh=>by cases h) (λh=>?_);conv=>whnf)
   refine bl ?_;refine⟨i+1,oM,oM,?_⟩;rw[hrs]
  ·exact mvJ 2088 940
  ·refine⟨(),tV,?_⟩;rcases hbx with⟨_,rfl,rfl⟩|⟨h1,_⟩
   ·refine cN.trans (cN.dead 940 rfl) ?_;exact mZ
   ·simp only[cS]at hql;omega
  ·exact mvJ 2088 940
  ·obtain rfl:i=l.length:=oM;refine⟨(),tV,?_⟩;rcases hbx with⟨h1,_⟩|⟨_,rfl,rfl⟩
   ·rw[h1]at hql;cases hql
   rw[show ndR l.length []=q0::Q by unfold ndR;rw[hQ];simp];exact mZ
 rintro _ _;have hgl:=hw.len;have hrl:w.aP.length=w.aT4.length:=by unfold D4.aP;rw[aB]
 have hlz:∀n,l.length=n->n=0->l=[]:=λn h1 h2=>iL.1 oM;refine BH (λ_:Unit=>True) (λ_=>[(0,.d (.ip w.aT1)),(1,.d (.sl 4 (l.map U4.aT1))),(5,.lp 1024 0)]) (λ_=>[(1024,.cells false [.lp 1016 0]),(1016,.cells false [.d (.sl 3 (ndR l.length w.aP)),.h 1000,.d (.nl 1)]),(1000,.mp false (iZ (w.pR l)) [])]) 50000 ?_ ?_
 ·skip
  repeat'(first|refine bl ?_|refine fQ (aXA w) 7100 rfl (bw ?_))
  by_cases hT0:w.aT4=[]
  ·have hR0:w.aP=[]:=by unfold D4.aP;rw[hT0];rfl
   refine wz ?_;refine a4F 7001 7000 50000 [] [(7100,.cells false [.d (.ip w.aT1)]),(1024,.cells false [.lp 1016 0]),(1016,.cells false [b0,.h 1000,.d (.nl 1)]),(1000,.mp false (iZ []) []),(940,X)]
    (.inl rfl) rfl rfl rfl (aTW w hw l.length hv (λml' q1 q2=>?_) hT0 ?_) ?_ ?_ ?_ ?_ ?_ ?_ ?_ ?_ ?_
   ·repeat'(first|exact aW|assumption|refine bI ?_ ?_)
   ·refine⟨rfl,rfl,rfl,rfl,rfl,rfl,tV⟩
   ·exact⟨sn,sn,tV⟩
   ·refine⟨?_,?_⟩
    ·repeat'(first|exact aW|exact sn|refine bI ?_ ?_)
    ·repeat'(first|exact aW|exact sn|exact aEP|exact aZ|exact hv.hb sn sn|exact hv.hx|refine bI ?_ ?_)
   ·trivial
   ·exact rfl
   ·repeat'(first|exact aW|exact rfl|refine bI ?_ ?_)
   ·repeat'(first|exact aW|exact sn|refine bI ?_ ?_)
   ·repeat'(first|exact aW|exact sn|exact aEP|exact aZ|exact hv.hb sn sn|exact hv.hx|refine bI ?_ ?_)
   ·trivial
   refine bl ?_;have hF0:w.pR l=[]:=by unfold D4.pR;rw[hR0];rfl
   rcases hbx with⟨h1,_⟩|⟨h1,rfl,rfl⟩
   ·exact absurd (iL.1 h1) (hl0.resolve_right λh=>h hT0)
   rw[hF0,hR0];refine⟨(),tV,cN.freeze [940] tV ⟨.same _,.same _,.same _,tV⟩ ⟨⟨rfl,_,rfl,.cells (.same _)⟩,⟨rfl,_,rfl,.cells (.cons (.rd (.dU (eX rfl rfl))) (.same _))⟩,⟨rfl,_,rfl,.mp rfl (.same _)⟩,tV⟩ ?_ ?_⟩
   all_goals repeat'(first|exact aW|exact sn|exact aEP|exact aZ|refine bI ?_ ?_)
  ·skip
   refine wz ?_;refine a4F 7001 7000 50000 [(1016,.cells false [.h 950,.h 1000,.d (.nl 1)]),(1000,.mp false (iZ (atF l.length w.aP)) []),(950,dU 55 3 (ndR l.length w.aP)),(940,.dead)]
    [(7100,.cells false [.d (.ip w.aT1)]),(1024,.cells false [.lp 1016 0]),(1016,.cells false [.h 950,.h 1000,.d (.nl 1)]),(1000,.mp false (iZ (atF l.length w.aP)) []),(950,dU 55 3 (ndR l.length w.aP))]
    (.inl rfl) rfl rfl rfl (a4J w hw l.length hv (λml' q1 q2=>?_) rfl rfl rfl hT0 (λk hk o c fo lx ho hc hf ha=>?_) rfl ?_) ?_ ?_ ?_ ?_ ?_ ?_ ?_ ?_ ?_
   ·repeat'(first|exact aW|assumption|refine bI ?_ ?_)
   ·have hlen:c.args.size=2:=by have:=congrArg List.length ha;simpa using this
    obtain⟨r,hr,hat,hhk,a7G,hnr,aZJ⟩:=a6J w hw l.length k hk;have a7N:l.length+k=0->[[A.d (cb true),.d (ci 0),.d (ci r)]]=bE (ndR l.length (w.aP.take (k+1))):=λe=>by rw[<-hnr,bL (a7G.trans e)];rfl
    have a6I:l.length+k=0->iZ []++[(kI r,.d (ci 0))]=iZ (atF l.length (w.aP.take k)++[(r,(l.length:Int)+(k:Nat))]):=λe=>by
     rw[<-aZJ,show k=0 by omega,show l.length=0 by omega];rfl
    rw[hr]at ha;unfold jU;rw[hat];cases k;rcases hv.is with⟨rfl,rfl⟩|⟨rfl,rfl,hn0⟩
    refine a2Q (n:=142) (ps:= #[39,40]) mix [(39,.d (ci r)),(5,.lp 1024 0)] 30000 (λL=>jK w (jT w l.length L (.h 940) (dU 55 3 (ndR l.length [])) 0)) ho hc hf rfl (λL=>rfl) hlen eD (by simp[mY]) kK kK (by rw[ha];exact⟨rfl,rfl,tV⟩) ?_ clJ
    rotate_left
    refine a2Q (n:=142) (ps:= #[39,40]) mix [(39,.d (ci r)),(5,.lp 1024 0)] 30000 (λL=>jK w (jT w l.length L (.d (.nl 3)) .dead 0)) ho hc hf rfl (λL=>rfl) hlen eD (by simp[mY]) kK kK (by rw[ha];exact⟨rfl,rfl,tV⟩) ?_ clJ
    rotate_left
    rename_i k;refine a2Q (n:=142) (ps:= #[39,40]) mix [(39,.d (ci r)),(5,.lp 1024 0)] 30000 (λL=>jK w (jT w l.length L b0 X (k+1))) ho hc hf rfl (λL=>rfl) hlen eD (by simp[mY]) kK kK (by rw[ha];exact⟨rfl,rfl,tV⟩) ?_ clJ
    all_goals
     intro LR LB eR eB;clear eR eB;refine bl ?_;refine⟨rfl,rfl,?_⟩;refine bl ?_;refine aBP eD (λhh=>by cases hh.symm.trans hhk) (λhh=>?_);conv=>whnf
     refine bl ?_;refine n8 (by simp only[aB,bE,cE,aS,aIV,cS,a7G];omega) kK ?_;conv=>whnf
     try(refine E9.mk (λXN=>absurd XN sM) (λXN=>?_);conv=>whnf)
     refine bl ?_;refine⟨rfl,rfl,?_⟩
     repeat'(first|exact aW|exact rS rfl|exact eV rfl|exact eV (YQ rfl hnr)|exact eV (a6S rfl aZJ)|exact eV (YQ rfl (a7N oM))|exact eV (a6S rfl (a6I oM))|refine bI ?_ ?_)
   ·repeat'(first|exact aW|exact rfl|refine bI ?_ ?_)
   ·exact⟨sn,sn,tV⟩
   ·refine⟨?_,?_⟩
    ·repeat'(first|exact aW|exact sn|refine bI ?_ ?_)
    ·repeat'(first|exact aW|exact sn|exact aEP|exact aZ|exact hv.hb sn sn|exact hv.hx|refine bI ?_ ?_)
   ·repeat'(first|exact aW|exact rfl|refine bI ?_ ?_)
   ·exact rfl
   ·repeat'(first|exact aW|exact rfl|refine bI ?_ ?_)
   ·repeat'(first|exact aW|exact sn|refine bI ?_ ?_)
   ·repeat'(first|exact aW|exact sn|exact aEP|exact aZ|exact hv.hb sn sn|exact hv.hx|refine bI ?_ ?_)
   ·trivial
   refine bl ?_;refine⟨(),tV,cN.freeze [950] tV ⟨.same _,.same _,.same _,tV⟩ ⟨⟨rfl,_,rfl,.cells (.same _)⟩,⟨rfl,_,rfl,.cells (.cons (.rd (.dU (eX rfl rfl))) (.same _))⟩,⟨rfl,_,rfl,.mp rfl (.same _)⟩,tV⟩ ?_ ?_⟩
   all_goals repeat'(first|exact aW|exact sn|exact aEP|exact aZ|refine bI ?_ ?_)
 rintro _ _;have hN:(ndR l.length w.aP).length=w.KB l:=aIV _ _;have hNl:w.KB l<=2^31:=by unfold D4.KB;omega
 have hNp:0<w.KB l:=by
  unfold D4.KB;rcases hl0 with h|h
  ·have:=gH.2 h;omega
  ·have:=gH.2 h;omega
 have hNg:l.length<=w.KB l:=by unfold D4.KB;omega
 have hNe:w.KB l=l.length+w.aP.length:=rfl;have E0:∀i(h:i<l.length),V.dB (l[i].names.map (·.value))+l[i].names.length<=2^35:=λi h=>by have h1:=(hu i h).names;have h2:=(hu i h).nlen;omega
 refine bl ?_;refine cY mix (λi:Nat=>i<=w.KB l) (I:=λi=>[(0,.d (.ip w.aT1)),(1,.d (.sl 4 (l.map U4.aT1))),(5,.lp 1024 0),(66,.d (ci (w.KB l))),(67,.d (ci i))])
  (J:=λi=>(1024,.cells false [.lp 1016 0])::(1016,.cells false [.d (.sl 3 (ndR l.length w.aP)),.h 1000,lv 1 902 (iN (List.range i))])::(1000,.mp false (iZ (w.pR l)) [])::lm 902 3 1 (iN (List.range i)) []) (μ:=λi=>w.KB l -i) 60000 0 4
  (λ_:Unit=>True) (λ_=>[(0,.d (.ip w.aT1)),(1,.d (.sl 4 (l.map U4.aT1))),(5,.lp 1024 0)]) (λ_=>(1024,.cells false [.lp 1016 0])::pS (ndR l.length w.aP) (w.pR l) (List.range (w.KB l))) 70000 oM ?_ ?_ ?_
 ·refine mq 5000 5001 ?_
  all_goals exact qD (by rw[aB,hN])
 ·intro i hi;have hrs:iN (List.range (i+1))=iN (List.range i)++[[ci (i:Int)]]:=by unfold iN;rw[aAF,bP];rfl
  have hql:(iN (List.range i)).length=i:=sM;generalize hQ:iN (List.range i)=Q at hrs hql⊢;cases Q
  all_goals
   repeat'(first|refine bl ?_|refine bS (λh=>?_) (λh=>?_))
   refine n8 (by simp only[aB,bE,cE,aS,aQ,cS]at hql⊢;omega) kK ?_;conv=>whnf
   try(refine E9.mk (λh=>by cases h) (λh=>?_);conv=>whnf)
   refine bl ?_;refine⟨i+1,oM,oM,?_⟩;rw[hrs]
  ·exact mvJ 60080 902
  ·simp only[cS]at hql;omega
  ·exact mvJ 60080 902
  ·obtain rfl:i=w.KB l:=oM;refine⟨(),tV,?_⟩;unfold pS;rw[hQ];exact mZ
 rintro _ _;refine bl ?_;refine cY mix (λs:Nat×List Nat=>s.1<=w.KB l/\aPC s.2/\s.2.length=w.KB l/\aH6 (w.pR l) (aMZ w l) (w.KB l -s.1) s.1 s.2=w.aEI l) (I:=λs=>[(0,.d (.ip w.aT1)),(1,.d (.sl 4 (l.map U4.aT1))),(5,.lp 1024 0),(84,.d (.sl 3 (ndR l.length w.aP))),(85,.d (ci (w.KB l))),(86,.d (ci s.1))])
  (J:=λs=>(1024,.cells false [.lp 1016 0])::pS (ndR l.length w.aP) (w.pR l) s.2) (μ:=λs=>w.KB l -s.1) 80000 (0,List.range (w.KB l)) 6
  (λ_:Unit=>True) (λ_=>[(5,.lp 1024 0)]) (λ_=>(1024,.cells false [.lp 1016 0])::pS (ndR l.length w.aP) (w.pR l) (w.aEI l)) 90000 ⟨dM,aSO _,sM,rfl⟩ ?_ ?_ ?_
 ·dsimp only[pS];refine mq 5000 5001 ?_
  all_goals exact qD (by rw[aB,hN])
 ·rintro⟨i,low⟩ ⟨hi,a5L,hlen,hjn⟩;dsimp only at hi a5L hlen hjn⊢;by_cases hin:i<l.length
  ·have aY7:=a3U l.length w.aP i hin
   repeat'(first|refine bl ?_|refine bS (λh=>?_) (λh=>?_)|refine Y5 rfl eD oM aY7 (bw ?_)|refine cD rfl eD hin (bw ?_)|refine aF (D0 l[i].names (E0 i hin)) (bw ?_))
   ·have hE:aMZ w l i=jL l[i].names:=by unfold aMZ;rw[dif_pos hin]
    have hj1:aH6 (w.pR l) (aMZ w l) (w.KB l -(i+1)) (i+1) ((jL l[i].names).foldl (XR (w.pR l) i) low)=w.aEI l:=by
     rw[<-hjn,show w.KB l -i=(w.KB l -(i+1))+1 by omega,aH6,hE]
    have hRl:(jL l[i].names).length<=2^35:=by have h1:=IG l[i];have h2:=(hu i hin).names;omega
    generalize jL l[i].names=R at hj1 hRl⊢;refine cY mix (λj:Nat=>j<=R.length) (I:=λj=>[(0,.d (.ip w.aT1)),(1,.d (.sl 4 (l.map U4.aT1))),(5,.lp 1024 0),(84,.d (.sl 3 (ndR l.length w.aP))),(85,.d (ci (w.KB l))),(86,.d (ci i)),(9,.d (ci i)),(100,.d (.sl 1 (iR R))),(101,.d (ci R.length)),(102,.d (ci j))])
     (J:=λj=>(1024,.cells false [.lp 1016 0])::pS (ndR l.length w.aP) (w.pR l) ((R.take j).foldl (XR (w.pR l) i) low)) (μ:=λj=>R.length -j) 100000 0 8
     (λ_:Unit=>True) (λ_=>[(0,.d (.ip w.aT1)),(1,.d (.sl 4 (l.map U4.aT1))),(5,.lp 1024 0),(84,.d (.sl 3 (ndR l.length w.aP))),(85,.d (ci (w.KB l))),(86,.d (ci i)),(9,.d (ci i))]) (λ_=>(1024,.cells false [.lp 1016 0])::pS (ndR l.length w.aP) (w.pR l) (R.foldl (XR (w.pR l) i) low)) 101000 oM (by dsimp only[pS];exact mZ) ?_ ?_
    ·intro j hj;have hlj:aPC ((R.take j).foldl (XR (w.pR l) i) low):=aL9 _ _ a5L (by rw[hlen];exact aE3 w l) oM;have a5K:((R.take j).foldl (XR (w.pR l) i) low).length=w.KB l:=by rw[aCU];exact hlen
     have hnx:∀(h:j<R.length),(R.take (j+1)).foldl (XR (w.pR l) i) low=XR (w.pR l) i ((R.take j).foldl (XR (w.pR l) i) low) R[j]:=λh=>by rw[aT h,iB];rfl
     generalize hlp:(R.take j).foldl (XR (w.pR l) i) low=lowj at hlj a5K hnx⊢
     repeat'(first|refine bl ?_|refine bS (λh=>?_) (λh=>?_)|refine cD rfl eD aM (bw ?_)|(refine dZ.mk (.eL []) [(902,dU 3 1 (iN (XR (w.pR l) i lowj R[j])))] (aJ.l8 (aSJ (ndR l.length w.aP) (w.pR l) lowj hlj (by rw[a5K];exact aE3 w l) i oM R[j]) ⟨sn,tV⟩ ⟨rfl,rfl,rfl,tV⟩ aLG ⟨.inl sn,tV⟩) ?_;(conv=>whnf)))
     ·have cX:j<R.length:=aM;refine⟨j+1,oM,oM,?_⟩;rw[hnx cX];dsimp only[pS];exact mZ
     ·obtain rfl:j=R.length:=oM;rw[aI (bT _)]at hlp;rw[hlp];exact⟨(),tV,by dsimp only[pS];exact mZ⟩
    rintro _ _;refine bl ?_;refine⟨(i+1,R.foldl (XR (w.pR l) i) low),dM,⟨dM,aL9 _ _ a5L (by rw[hlen];exact aE3 w l) oM,by dsimp only;rw[aCU];exact hlen,hj1⟩,?_⟩;dsimp only[pS];exact mZ
   ·exfalso;omega
  ·obtain⟨k,rfl⟩:∃k,i=l.length+k:=⟨i -l.length,oM⟩;by_cases hk:k<w.aP.length
   ·have aY7:=a3V l.length w.aP k hk;have hE:aMZ w l (l.length+k)=w.aLX w.aP[k]++ofJ w w.aP[k]:=by
     unfold aMZ;rw[dif_neg oM,show l.length+k -l.length=k by omega,aC hk];rfl
    have hj1:aH6 (w.pR l) (aMZ w l) (w.KB l -(l.length+k+1)) (l.length+k+1) ((w.aLX w.aP[k]++ofJ w w.aP[k]).foldl (XR (w.pR l) (l.length+k)) low)=w.aEI l:=by
     rw[<-hjn,show w.KB l -(l.length+k)=(w.KB l -(l.length+k+1))+1 by omega,aH6,hE]
    generalize w.aP[k]=r at aY7 hj1;have hRl:=a47 hw.togA r;have hof:ofJ w r=if(w.iI r).of=0 then []else [(w.iI r).of]:=rfl
    rw[iB,hof]at hj1;have hwh:=ZL w hw.togA r
    repeat'(first|refine bl ?_|refine bS (λh=>?_) (λh=>?_)|refine Y5 rfl eD oM aY7 (bw ?_)|refine aF (a53 w hw.togA r) (bw ?_))
    ·generalize w.aLX r=R at hj1 hRl⊢;refine cY mix (λj:Nat=>j<=R.length) (I:=λj=>[(0,.d (.ip w.aT1)),(1,.d (.sl 4 (l.map U4.aT1))),(5,.lp 1024 0),(84,.d (.sl 3 (ndR l.length w.aP))),(85,.d (ci (w.KB l))),(86,.d (ci (l.length+k:Nat))),(9,.d (ci (l.length+k:Nat))),(10,.lp 80032 0),(114,.d (.sl 1 (iR R))),(115,.d (ci R.length)),(116,.d (ci j))])
      (J:=λj=>(80032,.cells false [.d (cb true),.d (ci 0),.d (ci r)])::(1024,.cells false [.lp 1016 0])::pS (ndR l.length w.aP) (w.pR l) ((R.take j).foldl (XR (w.pR l) (l.length+k)) low)) (μ:=λj=>R.length -j) 110000 0 10
      (λ_:Unit=>True) (λ_=>[(0,.d (.ip w.aT1)),(1,.d (.sl 4 (l.map U4.aT1))),(5,.lp 1024 0),(84,.d (.sl 3 (ndR l.length w.aP))),(85,.d (ci (w.KB l))),(86,.d (ci (l.length+k:Nat))),(9,.d (ci (l.length+k:Nat))),(10,.lp 80032 0)]) (λ_=>(80032,.cells false [.d (cb true),.d (ci 0),.d (ci r)])::(1024,.cells false [.lp 1016 0])::pS (ndR l.length w.aP) (w.pR l) (R.foldl (XR (w.pR l) (l.length+k)) low)) 111000 oM (by dsimp only[pS];exact mZ) ?_ ?_
     ·intro j hj;have hlj:aPC ((R.take j).foldl (XR (w.pR l) (l.length+k)) low):=aL9 _ _ a5L (by rw[hlen];exact aE3 w l) oM;have a5K:((R.take j).foldl (XR (w.pR l) (l.length+k)) low).length=w.KB l:=by rw[aCU];exact hlen
      have hnx:∀(h:j<R.length),(R.take (j+1)).foldl (XR (w.pR l) (l.length+k)) low=XR (w.pR l) (l.length+k) ((R.take j).foldl (XR (w.pR l) (l.length+k)) low) R[j]:=λh=>by rw[aT h,iB];rfl
      generalize hlp:(R.take j).foldl (XR (w.pR l) (l.length+k)) low=lowj at hlj a5K hnx⊢
      repeat'(first|refine bl ?_|refine bS (λh=>?_) (λh=>?_)|refine cD rfl eD aM (bw ?_)|(refine dZ.mk (.eL []) [(902,dU 3 1 (iN (XR (w.pR l) (l.length+k) lowj R[j])))] (aJ.l8 (aSJ (ndR l.length w.aP) (w.pR l) lowj hlj (by rw[a5K];exact aE3 w l) (l.length+k) oM R[j]) ⟨sn,tV⟩ ⟨rfl,rfl,rfl,tV⟩ aLG ⟨.inl sn,tV⟩) ?_;(conv=>whnf)))
      ·have cX:j<R.length:=aM;refine⟨j+1,oM,oM,?_⟩;rw[hnx cX];dsimp only[pS];exact mZ
      ·obtain rfl:j=R.length:=oM;rw[aI (bT _)]at hlp;rw[hlp];exact⟨(),tV,by dsimp only[pS];exact mZ⟩
     rintro _ _;have hlf:aPC (R.foldl (XR (w.pR l) (l.length+k)) low):=aL9 _ _ a5L (by rw[hlen];exact aE3 w l) oM;have a5J:(R.foldl (XR (w.pR l) (l.length+k)) low).length=w.KB l:=by rw[aCU];exact hlen
     generalize R.foldl (XR (w.pR l) (l.length+k)) low=lowf at hj1 hlf a5J⊢
     repeat'(first|refine bl ?_|refine bS (λh=>?_) (λh=>?_)|refine aF hwh (bw ?_)|(refine dZ.mk (.eL []) [(902,dU 3 1 (iN (XR (w.pR l) (l.length+k) lowf (w.iI r).of)))] (aJ.l8 (aSJ (ndR l.length w.aP) (w.pR l) lowf hlf (by rw[a5J];exact aE3 w l) (l.length+k) oM (w.iI r).of) ⟨sn,tV⟩ ⟨rfl,rfl,rfl,tV⟩ aLG ⟨.inl sn,tV⟩) ?_;(conv=>whnf)))
     ·have h0:¬(w.iI r).of=0:=aM;rw[aT7 h0,fX,List.foldl_nil]at hj1;refine⟨(l.length+k+1,XR (w.pR l) (l.length+k) lowf (w.iI r).of),dM,⟨dM,a0O hlf (by rw[a5J];exact aE3 w l) oM,by dsimp only;rw[aFY];exact a5J,hj1⟩,?_⟩;dsimp only[pS];exact mZ
     ·have h0:(w.iI r).of=0:=aM;rw[aUF h0,List.foldl_nil]at hj1;refine⟨(l.length+k+1,lowf),dM,⟨dM,hlf,a5J,hj1⟩,?_⟩;dsimp only[pS];exact mZ
    ·exfalso;omega
   ·skip
    repeat'(first|refine bl ?_|refine bS (λh=>?_) (λh=>?_))
    ·exfalso;omega
    ·have e:w.KB l -(l.length+k)=0:=oM;rw[e,aH6]at hjn;refine⟨(),tV,?_⟩;rw[<-hjn];dsimp only[pS];exact mZ
 rintro _ _;refine bl ?_;unfold pS;exact em
 all_goals skip
def a0H{F:List (Int×Int)}{E:Nat->List Int}:∀(n k:Nat)(low:List Nat),aPC low->aNU F low.length->k+n<=low.length->aPC (aH6 F E n k low)
 |0,k,low,h,_,_=>h
 |n+1,k,low,h,hF,hk=>by
  rw[aH6];exact a0H n (k+1) _ (aL9 _ _ h hF oM) (by rw[aCU];exact hF) (by rw[aCU];omega)
def aQP(w:D4)(l:List U4):aPC (w.aEI l)/\(w.aEI l).length=w.KB l:=by
 unfold D4.aEI;refine⟨a0H _ _ _ (aSO _) (by rw[aEJ];exact aE3 w l) sM,by rw[aZF,aEJ]⟩
def aS1(w:D4)(l:List U4){r:Int}(h:w.mI r=true):kJ (w.pR l) r=true:=by
 unfold D4.pR;rw[mP,aLE];unfold D4.mI D4.find at h;obtain⟨t,ht⟩:=eS.1 h;have h1:=iD ht;exact aA4.2 ⟨t,cT ht,by simpa using h1⟩
def R4.lA(w:R4):List Int:=w.aT4.map (·.ref)
def a6Z(i:Nat):ndR (i+1) []=ndR i []++[[cb false,ci (i:Int),ci 0]]:=by simp[ndR,aAF]
def a62(n:Nat)(T:List Int)(i:Nat)(h:i<T.length):ndR n (T.take (i+1))=ndR n (T.take i)++[[cb true,ci 0,ci T[i]]]:=by rw[aT h];simp only[ndR,bP,bG];rfl
abbrev aO0(L:List Nat):List (List C):=L.map λk:Nat=>[ci (k:Int)]
def aSK(N i:Nat):List Nat:=List.range i++List.replicate (N -i) 0
def a3O(N i:Nat)(h:i<=N):(aSK N i).length=N:=by simp[aSK];omega
def a5O(N i:Nat)(h:i<N):(aSK N i).set i i=aSK N (i+1):=by
 unfold aSK;rw[show N -i=(N -(i+1))+1 by omega,List.replicate_succ,List.set_append_right _ _ sM,aEJ,aJ9,List.set_cons_zero,aAF,bG];rfl
def aP3(L:List Nat)(i:Nat)(v:Nat):(bE (aO0 L)).set i [.d (ci (v:Int))]=bE (aO0 (L.set i v)):=by simp[bE,qS]
def a4I(Z:List Nat)(k i a b:Nat):((bE (aO0 Z)).set k [.d (ci (if(b:Int)<a then(b:Int)else a))]).set i [.d (ci (if(b:Int)<a then(b:Int)else a))]=bE (aO0 ((Z.set k (min a b)).set i (min a b))):=by
 rw[show(if(b:Int)<a then(b:Int)else a)=((min a b:Nat):Int) by split<;>omega,aP3,aP3]
def R4.jR(w:R4)(l:List U4)(i:Nat):List Int:=if h:i<l.length then kV (l9 l[i].names)else w.aH7 (w.lA.getD (i -l.length) 0)++(w.iI (w.lA.getD (i -l.length) 0)).more
def aO2(n:Nat)(T to:List Int)(i:Nat)(s:List Nat×Bool)(k:Nat):List Nat×Bool:=
 if(n<=k/\T.getD (k -n) 0∈to)/\s.1.getD k 0≠s.1.getD i 0 then((s.1.set k (min (s.1.getD k 0) (s.1.getD i 0))).set i (min (s.1.getD k 0) (s.1.getD i 0)),true)else s
def aY2(n:Nat)(T:List Int)(J:Nat->List Int)(N:Nat)(s:List Nat×Bool)(i:Nat):List Nat×Bool:=(List.range N).foldl (aO2 n T (J i) i) s
def aQ6(n:Nat)(T:List Int)(J:Nat->List Int)(N:Nat)(L:List Nat):List Nat×Bool:=(List.range N).foldl (aY2 n T J N) (L,false)
def aQG(n:Nat)(T:List Int)(J:Nat->List Int)(N:Nat):Nat->List Nat->List Nat
 |0,L=>L
 |f+1,L=>if(aQ6 n T J N L).2=true then aQG n T J N f (aQ6 n T J N L).1 else(aQ6 n T J N L).1
def aSM(n:Nat)(T to:List Int)(i:Nat)(s:List Nat×Bool)(k:Nat):(aO2 n T to i s k).1.length=s.1.length:=by
 unfold aO2;split<;>simp
def aPP{α β:Type}(f:β->α->β)(Q:β->Prop)(h:∀b a,Q b->Q (f b a)):∀(l:List α)(b:β),Q b->Q (l.foldl f b)
 |[],b,hb=>hb
 |a::l,b,hb=>aPP f Q h l (f b a) (h b a hb)
def a5P(n:Nat)(T:List Int)(J:Nat->List Int)(N:Nat)(s:List Nat×Bool)(i:Nat):(aY2 n T J N s i).1.length=s.1.length:=
 aPP _ (λq:List Nat×Bool=>q.1.length=s.1.length) (λb a hb=>by rw[aSM];exact hb) _ _ rfl
def aQ0{β:Type}(f:β->Nat->β)(b:β)(i:Nat):(List.range (i+1)).foldl f b=f ((List.range i).foldl f b) i:=by rw[aAF,iB];rfl
def aM1{α β:Type}(f:β->α->β)(Q:β->Prop):∀(l:List α)(b:β),(∀b,∀a∈l,Q b->Q (f b a))->Q b->Q (l.foldl f b)
 |[],b,h,hb=>hb
 |a::l,b,h,hb=>aM1 f Q l (f b a) (λb' a' ha=>h b' a' (uE _ ha)) (h b a (G7 ..) hb)
def aTU:∀(L:List Nat)(k v:Nat),k<L.length->(L.set k v).sum+L.getD k 0=L.sum+v
 |[],k,v,h=>by simp at h
 |x::L,0,v,h=>zM
 |x::L,k+1,v,h=>by
  have:=aTU L k v (by simpa using h);simp only[List.set_cons_succ,gU,List.getD_cons_succ];omega
def getD_set_ne(L:List Nat)(k i v:Nat)(h:k≠i):(L.set k v).getD i 0=L.getD i 0:=by
 simp only[bF,aBJ h]
def a5A(N m:Nat)(s:List Nat×Bool):Prop:=s.1.length=N/\s.1.sum<=m/\(s.2=true->s.1.sum<m)
def a4Z(n:Nat)(T to:List Int)(i:Nat)(N m:Nat)(s:List Nat×Bool)(k:Nat)(hk:k<N)(hi:i<N)(h:a5A N m s):a5A N m (aO2 n T to i s k):=by
 unfold aO2;split
 ·rename_i hc;obtain⟨h1,h2,h3⟩:=h;have hki:k≠i:=λe=>hc.2 (by rw[e]);have e1:=aTU s.1 k (min (s.1.getD k 0) (s.1.getD i 0)) oM;have e2:=aTU (s.1.set k (min (s.1.getD k 0) (s.1.getD i 0))) i (min (s.1.getD k 0) (s.1.getD i 0)) (by rw[cE];omega);rw[getD_set_ne _ _ _ _ hki]at e2;have h5:=hc.2;refine⟨by simp[h1],?_,λ_=>?_⟩<;>dsimp only<;>omega
 ·exact h
def a0Z(n:Nat)(T:List Int)(J:Nat->List Int)(N:Nat)(L:List Nat)(h:L.length=N):a5A N L.sum (aQ6 n T J N L):=
 aM1 _ (a5A N L.sum) _ _ (λb a ha hb=>aM1 _ (a5A N L.sum) _ _ (λb' k hk hb'=>a4Z n T (J a) a N L.sum b' k (jI.1 hk) (jI.1 ha) hb') hb) ⟨h,bT _,λe=>by cases e⟩
def aO4:∀N:Nat,(List.range N).sum<N*N+1
 |0=>sM
 |n+1=>by
  have:=aO4 n;rw[aAF,List.sum_append,gU,List.sum_nil,gY,Nat.mul_succ];omega
def aQ4(n:Nat)(T:List Int)(k:Nat):List C:=[cb (decide (n<=k)),ci (if k<n then(k:Int)else 0),ci (if k<n then 0 else T.getD (k -n) 0)]
def a4B(n:Nat)(T:List Int)(k:Nat)(hk:k<n):aQ4 n T k=[cb false,ci (k:Int),ci 0]:=by
 unfold aQ4;rw[aUF hk,aUF hk,aU0 oM]
def a4C(n:Nat)(T:List Int)(k:Nat)(hk:n<=k):aQ4 n T k=[cb true,ci 0,ci (T.getD (k -n) 0)]:=by
 unfold aQ4;rw[aT7 oM,aT7 oM,aUZ hk]
def aGC(n:Nat)(T:List Int)(k:Nat)(h:k<n+T.length):(ndR n T).getD k []=aQ4 n T k:=by
 by_cases hk:k<n
 ·rw[a4B _ _ _ hk];exact a3U n T k hk
 ·rw[a4C _ _ _ oM];have:=a3V n T (k -n) oM;rw[show n+(k -n)=k by omega]at this;rw[this,bF,aC oM];rfl
def a43(w:R4)(hw:w.gA)(l:List U4)(hu:∀u∈l,V.dB (u.names.map (·.value))<=2^30/\u.names.length<=2^34)(i:Nat):Pu 58 [.d (.ip w.aT1),.d (.sl 4 (l.map U4.aT1)),.d (.agg (aQ4 l.length w.lA i))] (.d (.sl 1 (iR (w.jR l i)))):=by
 unfold R4.jR;by_cases h:i<l.length
 ·rw[a4B _ _ _ h,dif_pos h];exact a4H w l i h (hu _ (aY h)).1 (hu _ (aY h)).2
 ·rw[a4C _ _ _ oM,dif_neg h];exact a4G w hw l _
def a6P(w:R4)(hw:w.gA)(l:List U4)(hu:∀u∈l,V.dB (u.names.map (·.value))<=2^30/\u.names.length<=2^34)(i:Nat):(w.jR l i).length<=2^38:=by
 unfold R4.jR;split
 ·rename_i h;have h1:=(hu _ (aY h)).1;have h2:(l9 l[i].names).length<=_:=aHQ _;have h3:=RJ (l9 l[i].names);omega
 ·have h1:=hw.aW4 (w.lA.getD (i -l.length) 0);have h2:=w.tP (w.lA.getD (i -l.length) 0);have h3:∀x:W4,x.more.length<=1:=λx=>by unfold W4.more;split<;>simp
  have h4:=h3 (w.iI (w.lA.getD (i -l.length) 0));unfold R4.aH7;rw[aU,aU];omega
def a3W(F:List Nat)(k:Nat)(h:k<F.length):(aO0 F).getD k []=[ci (F.getD k 0:Nat)]:=by simp[bF,aC h]
abbrev gR(G:List (List (List C))):List (List C):=G.map λg=>[.sl 3 g]
def a5D{F:List Nat}{ml:List (Nat×R)}{d x:Nat}{t t2:TypeId}{rows rw:List (List A)}(X:List (List (List C)))(W:List (List C))(h:aK ml d=some (.fW false t 1 rows))(hr:rows=bE (gR X)++[[.h x]])(h1:s9 x F=true)(h2:aK ml x=some (.fW false t2 3 rw))(hw:rw=bE W):∃q,aK ml d=some q/\ZN (EC F ml) q (dU t 1 (gR (X++[W]))):=by
 subst hr;subst hw;refine⟨_,h,.fW ?_⟩;have e:bE (gR (X++[W]))=bE (gR X)++[[.d (.sl 3 W)]]:=by simp[bE]
 rw[e];exact a5E (.rd (.os (eX h1 h2) (D6.data _ _))) _
def aEX(n:Nat)(T:List Int)(F:List Nat)(a k:Nat):List (List C):=((List.range k).filter λj=>F.getD j 0==a).map (aQ4 n T)
def aHY(n:Nat)(T:List Int)(F:List Nat)(N a:Nat):List (List (List C)):=((List.range a).map λj=>aEX n T F j N).filter λp=> !p.isEmpty
def R4.a3D(w:R4)(l:List U4):List (List (List C)):=aHY l.length w.lA (aQG l.length w.lA (w.jR l) (l.length+w.lA.length) ((l.length+w.lA.length)*(l.length+w.lA.length)+1) (List.range (l.length+w.lA.length))) (l.length+w.lA.length) (l.length+w.lA.length)
def a4T(n:Nat)(T:List Int)(F:List Nat)(a k:Nat):aEX n T F a (k+1)=aEX n T F a k++(if F.getD k 0=a then [aQ4 n T k]else []):=by
 unfold aEX;rw[aAF,aFG,bP];by_cases h:F.getD k 0=a
 ·rw[aUF h,lZ,aUF (by simpa using h)];rfl
 ·rw[aT7 h,lZ,aT7 (by simpa using h)];rfl
def a5Z(n:Nat)(T:List Int)(F:List Nat)(N a:Nat):aHY n T F N (a+1)=aHY n T F N a++(if aEX n T F a N=[]then []else [aEX n T F a N]):=by
 unfold aHY;rw[aAF,bP,aFG];by_cases h:aEX n T F a N=[]
 ·rw[aUF h];simp[h]
 ·rw[aT7 h];simp[h]
def aPU(n:Nat)(T:List Int)(F:List Nat)(a k:Nat):(aEX n T F a k).length<=k:=by
 unfold aEX;rw[aB];exact cL (YC _ _) sM
def a4E(n:Nat)(T:List Int)(F:List Nat)(N a:Nat):(aHY n T F N a).length<=a:=by
 unfold aHY;exact cL (YC _ _) sM
def aTH(w:R4)(hw:w.gA)(l:List U4)(hl:l.length<=2^20)(hu:∀u∈l,V.dB (u.names.map (·.value))<=2^30/\u.names.length<=2^34):Pu 17 [.d (.ip w.aT1),.d (.sl 4 (l.map U4.aT1))] (.d (.sl 1 (gR (w.a3D l)))):=by
 refine iC mix Tryz.func17 ?_;have hTl:w.lA.length=w.aT4.length:=by simp[R4.lA]
 have hlen:=hw.len;refine bl ?_;refine cY mix (λi:Nat=>i<=l.length) (I:=λi=>[(0,.d (.ip w.aT1)),(1,.d (.sl 4 (l.map U4.aT1))),(5,lv 3 900 (ndR i [])),(6,.d (ci i))])
  (J:=λi=>lm 900 55 3 (ndR i []) []) (μ:=λi=>l.length -i) 1000 0 0
  (λ_:Unit=>True) (λ_=>[(0,.d (.ip w.aT1)),(1,.d (.sl 4 (l.map U4.aT1))),(5,lv 3 900 (ndR l.length []))]) (λ_=>lm 900 55 3 (ndR l.length []) []) 2000 oM mZ ?_ ?_
 ·intro i hi;have hnx:=a6Z i;have E0:=aIV i [];by_cases cX:i<l.length
  ·have hix:((List.map U4.aT1 l).map λx=>List.map A.d x).length=l.length:=sM;generalize hRw:ndR i []=Rw at hnx E0;cases Rw
   all_goals
    repeat'(first|refine bl ?_|refine bS (λh=>?_) (λh=>?_))
    all_goals try(exfalso;omega)
    refine n8 (by simp only[cE,aS,bE,aB];(try simp only[cS]at E0);omega) kK ?_;conv=>whnf
    try(refine E9.mk (λXN=>absurd XN sM) (λXN=>?_);conv=>whnf)
    refine bl ?_;refine⟨i+1,oM,oM,?_⟩;rw[hnx]
   ·exact mv 1064 900
   ·refine mq 1064 900 ?_;exact cO rfl (by simp[bE];rfl)
  ·have e:i=l.length:=oM;subst e;refine bl ?_;refine O8.f (aU0 (by(try simp only[aB]);omega)) ?_;refine bl ?_;exact⟨(),tV,by cases ndR l.length []<;>exact mZ⟩
 rintro _ _;refine bl ?_;refine cY mix (λi:Nat=>i<=w.aT4.length) (I:=λi=>[(0,.d (.ip w.aT1)),(1,.d (.sl 4 (l.map U4.aT1))),(5,lv 3 900 (ndR l.length (w.lA.take i))),(7,.d (ci i))])
  (J:=λi=>lm 900 55 3 (ndR l.length (w.lA.take i)) []) (μ:=λi=>w.aT4.length -i) 3000 0 2
  (λ_:Unit=>True) (λ_=>[(0,.d (.ip w.aT1)),(1,.d (.sl 4 (l.map U4.aT1))),(5,.d (.sl 3 (ndR l.length w.lA)))]) (λ_=>[]) 4000 oM (by simp only[fD];cases ndR l.length []<;>exact mZ) ?_ ?_
 ·intro i hi;by_cases cX:i<w.aT4.length
  ·have aW3:i<w.lA.length:=oM;have hnx:=a62 l.length w.lA i aW3;have hre:w.lA[i]=w.aT4[i].ref:=by simp[R4.lA]
   rw[hre]at hnx;have E0:=aIV l.length (w.lA.take i);rw[cW]at E0;generalize hRw:ndR l.length (w.lA.take i)=Rw at hnx E0;cases Rw
   all_goals
    repeat'(first|refine bl ?_|refine bS (λh=>?_) (λh=>?_)|refine cD rfl eD cX (bw ?_))
    all_goals try(exfalso;omega)
    refine n8 (by simp only[cE,aS,bE,aB];omega) kK ?_;conv=>whnf
    try(refine E9.mk (λXN=>absurd XN sM) (λXN=>?_);conv=>whnf)
    refine bl ?_;refine⟨i+1,oM,oM,?_⟩;rw[hnx]
   ·exact mv 3144 900
   ·refine mq 3144 900 ?_;exact cO rfl (by simp[bE];rfl)
  ·have e:i=w.lA.length:=oM;subst e;refine bl ?_;refine O8.f (aU0 (by(try simp only[aB]);omega)) ?_;refine bl ?_;refine⟨(),tV,?_⟩;rw[gX];cases ndR l.length w.lA with
   |nil=>exact cN.freeze [] tV ⟨.same _,.same _,.rd (.nz _ _),tV⟩ tV ⟨tV,tV,tV,tV⟩ trivial
   |cons r Rw=>exact cN.freeze [900] tV ⟨.same _,.same _,.rd (.os (eX rfl rfl) (D6.data _ _)),tV⟩ tV ⟨tV,tV,tV,tV⟩ trivial
 rintro _ _;have hNl:=aIV l.length w.lA;generalize hN:l.length+w.lA.length=N at hNl;have hb:Tryz.prog.bytesOf 3=8:=kK;have hz:(zc Tryz.prog 8 3).length=Tryz.prog.cellsOf 3:=kK;have XO:0<Tryz.prog.cellsOf 3:=bD kK;refine bl ?_;refine xR.mk ?_ ?_
 ·rw[aE];refine⟨aUZ ⟨hz,XO,oM,oM,?_,?_⟩,rfl⟩
  ·rw[hb,aB];omega
  ·rw[aB];omega
 conv=>whnf
 refine bl ?_;refine cY mix (λi:Nat=>i<=N) (I:=λi=>[(0,.d (.ip w.aT1)),(1,.d (.sl 4 (l.map U4.aT1))),(5,.d (.sl 3 (ndR l.length w.lA))),(8,.h 900),(9,.d (ci i))])
  (J:=λi=>[(900,dU 3 1 (aO0 (aSK N i)))]) (μ:=λi=>N -i) 5000 0 4
  (λ_:Unit=>True) (λ_=>[(0,.d (.ip w.aT1)),(1,.d (.sl 4 (l.map U4.aT1))),(5,.d (.sl 3 (ndR l.length w.lA))),(8,.h 900)]) (λ_=>[(900,dU 3 1 (aO0 (List.range N)))]) 6000 oM (by
  refine mq 4016 900 ?_
  all_goals exact cO rfl (by rw[aB,hNl];simp[aSK,bE];exact .inr kK)) ?_ ?_
 ·intro i hi;by_cases cX:i<N
  ·have uJ:=a3O N i hi;refine bl ?_;refine O8.t (aUZ (by(try simp only[aB,bE]);omega)) ?_;refine bl ?_;refine lG.mk i rfl (by simp only[bE,aB];omega) ?_;conv=>whnf
   skip
   refine fZ.mk [.d (ci ((aSK N i)[i]:Nat))] (gB _ _ [ci ((aSK N i)[i]:Nat)] (by rw[cK,aC oM];rfl)) ?_;conv=>whnf
   refine bl ?_;refine⟨i+1,oM,oM,?_⟩;rw[<-a5O N i cX];refine mq 5000 5001 ?_
   all_goals exact cO rfl (aP3 _ _ _)
  ·have e:N=i:=oM;subst e;have uJ:=a3O N N (bT _);refine bl ?_;refine O8.f (aU0 (by(try simp only[aB,bE]);omega)) ?_;refine bl ?_;refine⟨(),tV,?_⟩;rw[show aSK N N=List.range N by simp[aSK]];exact mZ
 rintro _ _;refine bl ?_;generalize hF:aQG l.length w.lA (w.jR l) N (N*N+1) (List.range N)=fin;have aWW:0=0:=rfl;refine cY mix (λs:Nat×List Nat×Bool=>s.2.1.length=N/\(if s.2.2=true then s.2.1.sum<s.1/\aQG l.length w.lA (w.jR l) N s.1 s.2.1=fin else s.2.1=fin))
  (I:=λs=>[(0,.d (.ip w.aT1)),(1,.d (.sl 4 (l.map U4.aT1))),(5,.d (.sl 3 (ndR l.length w.lA))),(8,.h 900),(10,.d (cb s.2.2))])
  (J:=λs=>[(900,dU 3 1 (aO0 s.2.1))]) (μ:=λs=>2*s.1+(if s.2.2=true then 1 else 0)) 7000 (N*N+1,List.range N,true) 6
  (λ_:Unit=>fin.length=N) (λ_=>[(5,.d (.sl 3 (ndR l.length w.lA))),(8,.d (.sl 1 (aO0 fin)))]) (λ_=>[]) 60000 ⟨sM,by rw[aUF rfl];exact⟨aO4 N,hF⟩⟩ mZ ?_ ?_
 ·rintro⟨f,L,b⟩ ⟨hL,hb⟩;dsimp only at hL hb⊢;cases b with
  |false=>
   rw[aT7 gO]at hb;subst hb;refine bl ?_;exact⟨(),hL,cN.freeze [900] tV ⟨.same _,.rd (.os (eX rfl rfl) (D6.data _ _)),tV⟩ tV ⟨tV,tV,tV⟩ tV⟩
  |true=>
   rw[aUF rfl]at hb;refine bl ?_;refine cY mix (λi:Nat=>i<=N) (I:=λi=>[(0,.d (.ip w.aT1)),(1,.d (.sl 4 (l.map U4.aT1))),(5,.d (.sl 3 (ndR l.length w.lA))),(8,.h 900),(10,.d (cb ((List.range i).foldl (aY2 l.length w.lA (w.jR l) N) (L,false)).2)),(11,.d (ci i))])
    (J:=λi=>[(900,dU 3 1 (aO0 ((List.range i).foldl (aY2 l.length w.lA (w.jR l) N) (L,false)).1))]) (μ:=λi=>N -i) 8000 0 8
    (λ_:Unit=>True) (λ_=>[(0,.d (.ip w.aT1)),(1,.d (.sl 4 (l.map U4.aT1))),(5,.d (.sl 3 (ndR l.length w.lA))),(8,.h 900),(10,.d (cb (aQ6 l.length w.lA (w.jR l) N L).2))])
    (λ_=>[(900,dU 3 1 (aO0 (aQ6 l.length w.lA (w.jR l) N L).1))]) 50000 oM mZ ?_ ?_
   ·intro i hi;have hsl:((List.range i).foldl (aY2 l.length w.lA (w.jR l) N) (L,false)).1.length=N:=aPP _ (λq:List Nat×Bool=>q.1.length=N) (λb a hb=>by rw[a5P];exact hb) _ _ hL;by_cases cX:i<N
    ·have hnx:=aQ0 (aY2 l.length w.lA (w.jR l) N) (L,false) i;generalize(List.range i).foldl (aY2 l.length w.lA (w.jR l) N) (L,false)=s at hnx hsl⊢;obtain⟨P,b⟩:=s;dsimp only at hsl⊢;refine bl ?_;refine O8.t (aUZ (by(try simp only[aB]);omega)) ?_
     repeat'(first|refine bl ?_|refine Y5 rfl eD oM (aGC _ _ _ oM) (bw ?_)|refine aF (a43 w hw l hu i) (bw ?_))
     have hnn:aY2 l.length w.lA (w.jR l) N (P,b) i=(List.range N).foldl (aO2 l.length w.lA (w.jR l i) i) (P,b):=rfl;generalize aY2 l.length w.lA (w.jR l) N (P,b) i=s1 at hnx hnn;have hJl:(w.jR l i).length<=2^38:=a6P w hw l hu i;have hin:=aEL (w.jR l i);generalize w.jR l i=to at hnn hJl hin⊢;refine cY mix (λk:Nat=>k<=N) (I:=λk=>[(0,.d (.ip w.aT1)),(1,.d (.sl 4 (l.map U4.aT1))),(5,.d (.sl 3 (ndR l.length w.lA))),(8,.h 900),(10,.d (cb ((List.range k).foldl (aO2 l.length w.lA to i) (P,b)).2)),(11,.d (ci i)),(12,.d (.sl 1 (iR to))),(13,.d (ci k))])
      (J:=λk=>[(900,dU 3 1 (aO0 ((List.range k).foldl (aO2 l.length w.lA to i) (P,b)).1))]) (μ:=λk=>N -k) 9000 0 10
      (λ_:Unit=>True) (λ_=>[(0,.d (.ip w.aT1)),(1,.d (.sl 4 (l.map U4.aT1))),(5,.d (.sl 3 (ndR l.length w.lA))),(8,.h 900),(10,.d (cb s1.2)),(11,.d (ci i))])
      (λ_=>[(900,dU 3 1 (aO0 s1.1))]) 20000 oM mZ ?_ ?_
     ·intro k hk;have hkl:((List.range k).foldl (aO2 l.length w.lA to i) (P,b)).1.length=N:=aPP _ (λq:List Nat×Bool=>q.1.length=N) (λb a hb=>by rw[aSM];exact hb) _ _ hsl;by_cases hlk:k<N
      ·have hky:=aQ0 (aO2 l.length w.lA to i) (P,b) k;generalize(List.range k).foldl (aO2 l.length w.lA to i) (P,b)=z at hky hkl⊢;obtain⟨Z,zb⟩:=z;dsimp only at hkl⊢;rw[show aO2 l.length w.lA to i (Z,zb) k=(if(l.length<=k/\w.lA.getD (k -l.length) 0∈to)/\Z.getD k 0≠Z.getD i 0 then((Z.set k (min (Z.getD k 0) (Z.getD i 0))).set i (min (Z.getD k 0) (Z.getD i 0)),true)else(Z,zb))from rfl]at hky;refine bl ?_;refine O8.t (aUZ (by(try simp only[aB]);omega)) ?_;by_cases hnk:l.length<=k
       ·have hin:=hin (w.lA.getD (k -l.length) 0) hJl;rw[XK]at hin;have aY7:=λh=>(aGC l.length w.lA k h).trans (a4C l.length w.lA k hnk);by_cases hto:w.lA.getD (k -l.length) 0∈to
        ·rw[aUZ hto]at hin;rw[show Z.getD k 0=Z[k] by rw[bF,aC oM];rfl,show Z.getD i 0=Z[i] by rw[bF,aC oM];rfl]at hky
         repeat'(first|with_reducible (first|refine w1 ?_|refine w2 ?_|refine w5 ?_|refine w9 ?_|refine O8.t rfl ?_)|((with_reducible refine wg ?_);(conv=>whnf))|((with_reducible refine wt eD kK ?_);(conv=>whnf))|((refine Y5 rfl eD oM (aY7 oM) ?_);(conv=>whnf))|((refine aTF hin ?_);(conv=>whnf)))
         refine lG.mk k rfl (by simp only[bE,aB];omega) ?_;conv=>whnf
         refine bl ?_;refine fZ.mk [.d (ci (Z[k]:Nat))] (gB _ _ [ci (Z[k]:Nat)] (by rw[cK,aC oM];rfl)) ?_;conv=>whnf
         refine bl ?_;refine lG.mk i rfl (by simp only[bE,aB];omega) ?_;conv=>whnf
         refine bl ?_;refine fZ.mk [.d (ci (Z[i]:Nat))] (gB _ _ [ci (Z[i]:Nat)] (by rw[cK,aC oM];rfl)) ?_;conv=>whnf
         repeat'(first|with_reducible (first|refine w1 ?_|refine w2 ?_|refine w9 ?_|refine wc ?_|refine wj ?_|refine nN.mk ?_|refine O8.t rfl ?_)|((with_reducible (first|refine wr ?_|refine wi ?_|refine wg ?_));(conv=>whnf))|((with_reducible refine wt eD kK ?_);(conv=>whnf))|((with_reducible refine FC.mk (RG (by(try dsimp only);omega) (by(try dsimp only);omega)) ?_);(conv=>whnf))|((with_reducible refine nQ (λh=>?_) (λh=>?_))<;>(try rw[h])<;>(conv at h=>{simp})))
         rotate_left
         ·rw[aT7 (λh2=>h2.2 oM)]at hky;refine⟨k+1,oM,oM,?_⟩;rw[hky];exact mZ
         ·rw[aUF ⟨⟨hnk,hto⟩,oM⟩]at hky;refine lG.mk k rfl (by simp only[bE,aB];omega) ?_;conv=>whnf
          skip
          refine fZ.mk [.d (ci (Z[k]:Nat))] (gB _ _ [ci (Z[k]:Nat)] (by rw[cK,aC oM];rfl)) ?_;conv=>whnf
          skip
          refine lG.mk i rfl (by simp only[bE,aB];omega) ?_;conv=>whnf
          skip
          refine fZ.mk [.d (ci (Z[i]:Nat))] (gB _ _ [ci (Z[i]:Nat)] (by rw[cK,aC oM];rfl)) ?_;conv=>whnf
          skip
          refine xR.mk rfl ?_;conv=>whnf
          refine bl ?_;have hki:k≠i:=λe=>h (by subst e;rfl);refine lG.mk k rfl (by simp only[bE,aB];omega) ?_;conv=>whnf
          skip
          refine fZ.mk [.d (ci (Z[k]:Nat))] (gB _ _ [ci (Z[k]:Nat)] (by rw[cK,aC oM];rfl)) ?_;conv=>whnf
          skip
          refine lG.mk i rfl (by simp only[cE,bE,aB];omega) ?_;conv=>whnf
          skip
          refine fZ.mk [.d (ci (Z[i]:Nat))] ((aBJ hki).trans (gB _ _ [ci (Z[i]:Nat)] (by rw[cK,aC oM];rfl))) ?_;conv=>whnf
          refine bl ?_;refine⟨k+1,oM,oM,?_⟩;rw[hky];refine mq 5000 5001 ?_
          all_goals exact cO rfl (a4I Z k i Z[k] Z[i])
        ·rw[aU0 hto]at hin;rw[aT7 (λh=>hto h.1.2)]at hky
         repeat'(first|with_reducible (first|refine w1 ?_|refine w2 ?_|refine w5 ?_|refine w9 ?_|refine wc ?_|refine wj ?_|refine nN.mk ?_|refine O8.t rfl ?_|refine O8.f rfl ?_)|((with_reducible (first|refine wr ?_|refine wi ?_|refine wg ?_));(conv=>whnf))|((with_reducible refine wt eD kK ?_);(conv=>whnf))|((with_reducible refine FC.mk (RG (by(try dsimp only);omega) (by(try dsimp only);omega)) ?_);(conv=>whnf))|((refine Y5 rfl eD oM (aY7 oM) ?_);(conv=>whnf))|((refine aTF hin ?_);(conv=>whnf)))
         refine⟨k+1,oM,oM,?_⟩;rw[hky];exact mZ
       ·have aY7:=λh=>(aGC l.length w.lA k h).trans (a4B l.length w.lA k oM);rw[aT7 (λh=>hnk h.1.1)]at hky
        repeat'(first|with_reducible (first|refine w1 ?_|refine w2 ?_|refine w5 ?_|refine w9 ?_|refine wc ?_|refine wj ?_|refine nN.mk ?_|refine O8.f rfl ?_)|((with_reducible (first|refine wr ?_|refine wi ?_|refine wg ?_));(conv=>whnf))|((with_reducible refine wt eD kK ?_);(conv=>whnf))|((with_reducible refine FC.mk (RG (by(try dsimp only);omega) (by(try dsimp only);omega)) ?_);(conv=>whnf))|((refine Y5 rfl eD oM (aY7 oM) ?_);(conv=>whnf)))
        refine⟨k+1,oM,oM,?_⟩;rw[hky];exact mZ
      ·have e:N=k:=oM;subst e;refine bl ?_;refine O8.f (aU0 (by(try simp only[aB]);omega)) ?_;refine bl ?_;exact⟨(),tV,by rw[hnn];exact mZ⟩
     rintro _ _;refine bl ?_;refine⟨i+1,oM,oM,?_⟩;rw[hnx];exact mZ
    ·have e:N=i:=oM;subst e;refine bl ?_;refine O8.f (aU0 (by(try simp only[aB]);omega)) ?_;refine bl ?_;exact⟨(),tV,mZ⟩
   rintro _ _;obtain⟨hL2,hs1,hs2⟩:=a0Z l.length w.lA (w.jR l) N L hL;cases f with
   |zero=>omega
   |succ f=>
    have hff:=hb.2;rw[aQG]at hff;generalize aQ6 l.length w.lA (w.jR l) N L=s at hL2 hs1 hs2 hff⊢;obtain⟨L',b'⟩:=s;dsimp only at hL2 hs1 hs2 hff⊢;refine bl ?_;refine⟨(f,L',b'),by dsimp only;cases b'<;>simp<;>omega,⟨hL2,?_⟩,?_⟩
    ·cases b' with
     |false=>rw[aT7 gO]at hff⊢;exact hff
     |true=>rw[aUF rfl]at hff⊢;exact⟨by have:=hs2 rfl;dsimp only;omega,hff⟩
    ·exact mZ
 rintro _ hfl;have hpt:w.a3D l=aHY l.length w.lA fin N N:=by unfold R4.a3D;rw[hN,hF]
 rw[hpt];refine bl ?_;refine cY mix (λa:Nat=>a<=N) (I:=λa=>[(5,.d (.sl 3 (ndR l.length w.lA))),(8,.d (.sl 1 (aO0 fin))),(15,lv 1 901 (gR (aHY l.length w.lA fin N a))),(16,.d (ci a))])
  (J:=λa=>lm 901 47 1 (gR (aHY l.length w.lA fin N a)) []) (μ:=λa=>N -a) 61000 0 12
  (λ_:Unit=>True) (λ_=>[(15,lv 1 901 (gR (aHY l.length w.lA fin N N)))]) (λ_=>lm 901 47 1 (gR (aHY l.length w.lA fin N N)) []) 90000 oM mZ ?_ ?_
 ·intro a ha;have HG:=a5Z l.length w.lA fin N a;have hGl:=a4E l.length w.lA fin N a;have hGN:a=N->aHY l.length w.lA fin N N=aHY l.length w.lA fin N a:=λe=>by rw[e]
  generalize aHY l.length w.lA fin N a=G at HG hGl hGN⊢;obtain⟨X,hX⟩:∃X,X=G:=⟨_,rfl⟩;by_cases cX:a<N
  ·cases G
   all_goals
    refine bl ?_;refine O8.t (aUZ (by(try simp only[aB]);omega)) ?_;refine bl ?_;refine cY mix (λk:Nat=>k<=N) (I:=λk=>[(5,.d (.sl 3 (ndR l.length w.lA))),(8,.d (.sl 1 (aO0 fin))),(15,lv 1 901 (gR X)),(16,.d (ci a)),(17,lv 3 902 (aEX l.length w.lA fin a k)),(18,.d (ci k))])
     (J:=λk=>lm 902 55 3 (aEX l.length w.lA fin a k) (lm 901 47 1 (gR X) [])) (μ:=λk=>N -k) 62000 0 14
     (λ_:Unit=>True) (λ_=>[(5,.d (.sl 3 (ndR l.length w.lA))),(8,.d (.sl 1 (aO0 fin))),(15,lv 1 901 (gR X)),(16,.d (ci a)),(17,lv 3 902 (aEX l.length w.lA fin a N))])
     (λ_=>lm 902 55 3 (aEX l.length w.lA fin a N) (lm 901 47 1 (gR X) [])) 70000 oM (by rw[hX];exact mZ) ?_ ?_
    ·intro k hk;rw[hX];have hps:=a4T l.length w.lA fin a k;have hpl:=aPU l.length w.lA fin a k;have hpN:k=N->aEX l.length w.lA fin a N=aEX l.length w.lA fin a k:=λe=>by rw[e]
     generalize aEX l.length w.lA fin a k=p at hps hpl hpN⊢;by_cases hlk:k<N
     ·have aP6:=λh=>a3W fin k h;by_cases hfk:fin.getD k 0=a
      ·rw[aUF hfk]at hps;have a38:=hfk;rw[bF]at a38;cases p
       all_goals
        repeat'(first|refine bl ?_|refine bS (λh=>?_) (λh=>?_)|refine Y5 rfl eD (by simp only[aB];omega) (aP6 oM) (bw ?_)|refine Y5 rfl eD oM (aGC _ _ _ oM) (bw ?_))
        all_goals try(exfalso;omega)
        refine n8 (by simp only[cE,aS,bE,aB];omega) kK ?_;conv=>whnf
        try(refine E9.mk (λXN=>absurd XN sM) (λXN=>?_);conv=>whnf)
        refine bl ?_;refine⟨k+1,oM,oM,?_⟩;rw[hps]
       ·exact mv 62128 902
       ·refine mq 62128 902 ?_;exact cO rfl (by simp[bE];rfl)
      ·rw[aT7 hfk,dS]at hps;have a38:=hfk;rw[bF]at a38;cases p
       all_goals
        repeat'(first|refine bl ?_|refine bS (λh=>?_) (λh=>?_)|refine Y5 rfl eD (by simp only[aB];omega) (aP6 oM) (bw ?_)|refine Y5 rfl eD oM (aGC _ _ _ oM) (bw ?_))
        all_goals try(exfalso;omega)
        refine⟨k+1,oM,oM,?_⟩;rw[hps];exact mZ
     ·have e:N=k:=oM;subst e;rw[hpN rfl];cases p
      all_goals
       refine bl ?_;refine O8.f (aU0 (by(try simp only[aB]);omega)) ?_;refine bl ?_;exact⟨(),tV,mZ⟩
    rintro _ _;rw[hX];have hpl:=aPU l.length w.lA fin a N;generalize aEX l.length w.lA fin a N=p at HG hpl⊢;rcases p with _|⟨r,p⟩
    ·rw[aUF rfl,dS]at HG;refine bl ?_;refine⟨a+1,oM,oM,?_⟩;rw[HG];exact mZ
    ·rw[aT7 sM]at HG;refine bl ?_;refine O8.t (aUZ (by simp only[bE,aB,aQ];omega)) ?_;refine bl ?_;refine n8 (by simp only[cE,aS,bE,aB,aQ,cS]at hGl⊢;omega) kK ?_;conv=>whnf
     try(refine E9.mk (λXN=>absurd XN sM) (λXN=>?_);conv=>whnf)
     refine bl ?_;refine⟨a+1,oM,oM,?_⟩;refine cN.trans (l':=[(5,.d (.sl 3 (ndR l.length w.lA))),(8,.d (.sl 1 (aO0 fin))),(15,.h 70048),(16,.d (ci (a+1:Nat)))]) (ml':=[(70048,dU 47 1 (gR (X++[r::p])))]) (cN.freeze [902] tV ⟨.same _,.same _,.same _,.same _,tV⟩ ⟨⟨rfl,a5D X (r::p) rfl (by rw[hX];rfl) rfl rfl rfl⟩,tV⟩ ⟨tV,tV,⟨sn,tV⟩,tV,tV⟩ ⟨aZ,tV⟩) ?_;rw[HG,hX];exact mv 70048 901
  ·have e:N=a:=oM;subst e;rw[hGN rfl];cases G
   all_goals
    refine bl ?_;refine O8.f (aU0 (by(try simp only[aB]);omega)) ?_;refine bl ?_;exact⟨(),tV,mZ⟩
 rintro _ _;generalize aHY l.length w.lA fin N N=G;cases G
 all_goals refine bl ?_
 ·exact .one (.nz _ _)
 ·exact .one (.dU (t:=47) rfl)
def aY3(L:List Nat)(k v x:Nat)(hk:k<L.length):(L.set k v).getD x 0=if x=k then v else L.getD x 0:=by
 by_cases h:x=k
 ·subst h;rw[aUF rfl,bF,aDN hk];rfl
 ·rw[aT7 h,bF,aBJ oM,bF]
def aPY{α σ:Type}(f:σ×Bool->α->σ×Bool)(C:σ×Bool->α->Prop)(h:∀s a,(f s a).2=false->f s a=s/\C s a):∀(l:List α)(s:σ×Bool),(l.foldl f s).2=false->l.foldl f s=s/\∀a∈l,C s a
 |[],s,_=>⟨rfl,λa ha=>by cases ha⟩
 |a::l,s,hl=>by
  rw[fX]at hl⊢;obtain⟨e,h2⟩:=aPY f C h l (f s a) hl;rw[e]at hl;obtain⟨e1,h1⟩:=h s a hl;rw[e1]at e h2;rw[e1,e]
  exact⟨rfl,λb hb=>by
   rcases aO.1 hb with rfl|hb
   · exact h1
   · exact h2 b hb⟩
def aSN{J:Nat->List Int}{N:Nat}{L:List Nat}(h:(aQ6 n T J N L).2=false):(aQ6 n T J N L).1=L/\∀i,i<N->∀k,k<N->n<=k->T.getD (k -n) 0∈J i->L.getD k 0=L.getD i 0:=by
 have hK:∀to i s k,(aO2 n T to i s k).2=false->aO2 n T to i s k=s/\¬((n<=k/\T.getD (k -n) 0∈to)/\s.1.getD k 0≠s.1.getD i 0):=by
  intro to i s k hq;unfold aO2 at hq⊢;split at hq
  ·cases hq
  ·rename_i hc;rw[aT7 hc];exact⟨rfl,hc⟩
 have hI:=aPY (aY2 n T J N) (λs i=>∀k∈List.range N,¬((n<=k/\T.getD (k -n) 0∈J i)/\s.1.getD k 0≠s.1.getD i 0)) (λs i hq=>aPY _ _ (hK (J i) i) _ s hq) (List.range N) (L,false) h;refine⟨congrArg Prod.fst hI.1,λi hi k hk hn ht=>?_⟩;have:=hI.2 i (jI.2 hi) k (jI.2 hk);by_cases e:L.getD k 0=L.getD i 0
 ·exact e
 ·exact absurd ⟨⟨hn,ht⟩,e⟩ this
def a3R{n:Nat}{T:List Int}{J:Nat->List Int}{N:Nat}(Q:List Nat->Prop)(hQ:∀L,Q L->Q (aQ6 n T J N L).1):∀(f:Nat)(L:List Nat),L.length=N->L.sum<f->Q L->Q (aQG n T J N f L)/\(aQ6 n T J N (aQG n T J N f L)).2=false/\(aQG n T J N f L).length=N
 |0,L,_,h,_=>oM
 |f+1,L,hL,h,hq=>by
  obtain⟨h1,h2,h3⟩:=a0Z n T J N L hL;rw[aQG];split
  ·rename_i hb;exact a3R Q hQ f _ h1 (by have:=h3 hb;omega) (hQ L hq)
  ·rename_i hb;have hb:(aQ6 n T J N L).2=false:=by simpa using hb
   have e:=(aSN hb).1;rw[e];exact⟨hq,hb,hL⟩
def a56{g:Nat->Nat}(hF:aNU F low.length)(hi:i<low.length)(hg:kJ F r=true->g (cR F r).toNat=g i)(h:∀x,g (lB low x)=g x)(x:Nat):g (lB (XR F i low r) x)=g x:=by
 by_cases hr:kJ F r=true
 ·rw[aNC hF hi hr];have h1:=h i;have h2:=h (cR F r).toNat;have h3:=hg hr;have h4:=h x;generalize lB low i=a at*;generalize lB low (cR F r).toNat=b at*;generalize lB low x=c at*;split
  ·rename_i e;rcases aPA a b with q|q
   ·rw[aL2 q];rw[Nat.max_eq_right q]at e;subst e;omega
   ·rw[aO1 q];rw[Nat.max_eq_left q]at e;subst e;omega
  ·exact h4
 ·unfold XR;rw[aT7 hr];exact h x
def a4R{F:List (Int×Int)}{i:Nat}{g:Nat->Nat}:∀(L:List Int)(low:List Nat),aNU F low.length->i<low.length->(∀r∈L,kJ F r=true->g (cR F r).toNat=g i)->(∀x,g (lB low x)=g x)->∀x,g (lB (L.foldl (XR F i) low) x)=g x
 |[],low,_,_,_,h=>h
 |r::L,low,hF,hi,hg,h=>by
  rw[fX];exact a4R L _ (by rw[aFY];exact hF) (by rw[aFY];exact hi) (λq hq=>hg q (uE _ hq)) (a56 hF hi (hg r (G7 ..)) h)
def a4Q{F:List (Int×Int)}{E:Nat->List Int}{g:Nat->Nat}:∀(n k:Nat)(low:List Nat),aNU F low.length->k+n<=low.length->(∀i,k<=i->i<k+n->∀r∈E i,kJ F r=true->g (cR F r).toNat=g i)->(∀x,g (lB low x)=g x)->∀x,g (lB (aH6 F E n k low) x)=g x
 |0,k,low,_,_,_,h=>h
 |n+1,k,low,hF,hk,hg,h=>by
  rw[aH6];exact a4Q n (k+1) _ (by rw[aCU];exact hF) (by rw[aCU];omega) (λi h1 h2=>hg i oM oM) (a4R _ _ hF oM (hg k oM oM) h)
def a31(n x:Nat):lB (List.range n) x=x:=by
 have:aEM (List.range n) x=x:=by
  unfold aEM;by_cases h:x<n
  ·rw[aAW h];rfl
  ·rw[lD zM];rfl
 rw[lB,dif_neg oM]
def a5Q{J E:Nat->List Int}{N:Nat}(hF:aNU F N)(h1:∀i,i<N->∀r∈E i,kJ F r=true->n<=(cR F r).toNat/\T.getD ((cR F r).toNat -n) 0∈J i)
 (h2:∀i,i<N->∀k,k<N->n<=k->T.getD (k -n) 0∈J i->T.getD (k -n) 0∈E i/\kJ F (T.getD (k -n) 0)=true/\(cR F (T.getD (k -n) 0)).toNat=k):aQG n T J N (N*N+1) (List.range N)=(List.range N).map (lB (aH6 F E N 0 (List.range N))):=by
 have hF':aNU F (List.range N).length:=by rw[aEJ];exact hF
 have aYR:=a0L (E:=E) N 0 (List.range N) hF' sM;have hgg:=λg:Nat->Nat=>a4Q (E:=E) (g:=g) N 0 (List.range N) hF' sM;generalize aH6 F E N 0 (List.range N)=low at aYR hgg⊢;have hkk:∀(to:List Int)(i:Nat),i<N->to=J i->∀(s:List Nat×Bool)(k:Nat),k<N->(s.1.length=N/\∀x,x<N->s.1.getD x 0<=x/\lB low (s.1.getD x 0)=lB low x)->((aO2 n T to i s k).1.length=N/\∀x,x<N->(aO2 n T to i s k).1.getD x 0<=x/\lB low ((aO2 n T to i s k).1.getD x 0)=lB low x):=by
  rintro to i hi rfl s k hk ⟨q1,q2⟩;refine⟨by rw[aSM];exact q1,?_⟩;unfold aO2;split
  ·rename_i hc;obtain⟨p1,p2,p3⟩:=h2 i hi k hk hc.1.1 hc.1.2;have hr:=aYR i oM oM _ p1 p2;rw[p3]at hr;have hqk:=q2 k hk;have hqi:=q2 i hi;intro x hx;dsimp only;rw[aY3 _ _ _ _ (by rw[cE];omega),aY3 _ _ _ _ oM];generalize s.1.getD k 0=a at*;generalize s.1.getD i 0=b at*;have hm:lB low (min a b)=lB low k:=by
    rcases aPA a b with q|q
    ·rw[aL2 q];exact hqk.2
    ·rw[aO1 q];rw[hqi.2,hr]
   by_cases e1:x=i
   ·rw[aUF e1];subst e1;exact⟨oM,by rw[hm,hr]⟩
   ·rw[aT7 e1];by_cases e2:x=k
    ·rw[aUF e2];subst e2;exact⟨oM,hm⟩
    ·rw[aT7 e2];exact q2 x hx
  ·exact q2
 obtain⟨⟨a1,a2⟩,a3,a4⟩:=a3R (n:=n) (T:=T) (J:=J) (N:=N) (λL=>L.length=N/\∀x,x<N->L.getD x 0<=x/\lB low (L.getD x 0)=lB low x)
  (λL hL=>aM1 _ (λs:List Nat×Bool=>s.1.length=N/\∀x,x<N->s.1.getD x 0<=x/\lB low (s.1.getD x 0)=lB low x) _ _ (λs i hi hs=>aM1 _ (λs:List Nat×Bool=>s.1.length=N/\∀x,x<N->s.1.getD x 0<=x/\lB low (s.1.getD x 0)=lB low x) _ _ (λs k hk hs=>hkk (J i) i (jI.1 hi) rfl s k (jI.1 hk) hs) hs) hL)
  (N*N+1) (List.range N) sM (aO4 N) ⟨sM,λx hx=>by
    rw[bF,aAW hx];exact⟨bT _,rfl⟩⟩
 have a5:=(aSN a3).2;generalize aQG n T J N (N*N+1) (List.range N)=fin at*
 have hg:=hgg (λx=>fin.getD x 0) (λi _ hi r hr hk=>by
  obtain⟨b1,b2⟩:=h1 i oM r hr hk;have:=hF.at hk
  exact a5 i oM _ oM b1 b2) (λx=>by rw[a31])
 refine aEH (by simp[a4]) λk hk EN=>?_;have hkN:k<N:=oM;have b1:=hg k;have b2:=aFH low k;have b3:=(a2 (lB low k) oM).1;have b4:=(a2 k hkN).2;have b5:=aFH low (fin.getD k 0);rw[fO,List.getElem_range,show fin[k]=fin.getD k 0 by rw[bF,aC hk];rfl];omega
variable{x:X4}{l:List U4}
def a4K:∀(n:Nat)(T:List Int)(f:Int×Int),f∈atF n T->∃j,∃h:j<T.length,f=(T[j],((n+j:Nat):Int))
 |n,[],f,h=>by simp[atF]at h
 |n,r::T,f,h=>by
  rw[atF]at h;rcases aO.1 h with rfl|h
  ·exact⟨0,sM,rfl⟩
  ·obtain⟨j,hj,e⟩:=a4K (n+1) T f h;refine⟨j+1,by simpa using hj,?_⟩;rw[e,cJ,show n+1+j=n+(j+1) by omega]
def a58{x:W4}{w:D4}(h:w.AA x=true)(h0:x.of≠0):(x.kind=6\/x.kind=7\/x.kind=9\/x.kind=13)\/(x.kind=14\/x.kind=11)\/(x.kind=15\/x.kind=16):=by
 have e:x.of=x.bare.of:=by
  unfold D4.AA W4.HE at h;simp only[aE,aUA]at h;exact h.1.2.2.2.2.1
 unfold W4.bare at e;by_cases c1:x.kind=1
 ·rw[aUF c1]at e;exact absurd e h0
 rw[aT7 c1]at e;by_cases c2:x.kind=2\/x.kind=4
 ·rw[aUF c2]at e;exact absurd e h0
 rw[aT7 c2]at e;by_cases c3:x.kind=3
 ·rw[aUF c3]at e;exact absurd e h0
 rw[aT7 c3]at e;by_cases c4:x.kind=6\/x.kind=11
 ·omega
 rw[aT7 c4]at e;by_cases c5:x.kind=7
 ·omega
 rw[aT7 c5]at e;by_cases c6:x.kind=8
 ·rw[aUF c6]at e;exact absurd e h0
 rw[aT7 c6]at e;by_cases c7:x.kind=9
 ·omega
 rw[aT7 c7]at e;by_cases c8:x.kind=10
 ·rw[aUF c8]at e;exact absurd e h0
 rw[aT7 c8]at e;by_cases c9:x.kind=12
 ·rw[aUF c9]at e;exact absurd e h0
 rw[aT7 c9]at e;by_cases c10:x.kind=13
 ·omega
 rw[aT7 c10]at e;by_cases c11:x.kind=15\/x.kind=16
 ·omega
 rw[aT7 c11]at e;by_cases c12:x.kind=14
 ·omega
 rw[aT7 c12]at e;exact absurd e h0
section
variable{x:X4}{l:List U4}
def aOF.a6W(h:aOF x l)(hck:l.all (bJ x).zE=true)(i:Nat)(q:Int):q∈(rW x).jR l i↔q∈aMZ (bJ x) l i:=by
 unfold R4.jR aMZ;by_cases hi:i<l.length
 ·rw[dif_pos hi,dif_pos hi,OD,YI (h.names hck _ (aY hi))]
 ·rw[dif_neg hi,dif_neg hi,show(bJ x).aP[i -l.length]?.getD 0=(rW x).lA.getD (i -l.length) 0 by rw[bF];rfl];generalize(rW x).lA.getD (i -l.length) 0=r;have hb:=h.fr.bth;rw[bN,bN,hb.steps r q,hb.iI];have HG:=hb.steps r q;have hf:(bJ x).mI r=true->(bJ x).iI r∈x.aT4.map (·.bQ):=λhr=>by
   unfold D4.mI at hr;unfold D4.iI;cases hfd:(bJ x).find r with
   |none=>rw[hfd]at hr;cases hr
   |some t=>exact aA4.2 ⟨t,(N0 hfd).1,rfl⟩
  have hnf:(bJ x).mI r=false->((bJ x).iI r).of=0:=λhr=>by
   unfold D4.mI at hr;unfold D4.iI;cases hfd:(bJ x).find r with
   |none=>rfl
   |some t=>rw[hfd]at hr;cases hr
  unfold ofJ;constructor
  ·rintro(a|a)
   ·exact .inl a
   ·refine .inr ?_;unfold W4.more at a;split at a
    ·rename_i hc;rw[aT7 hc.2];exact a
    ·cases a
  ·rintro(a|a)
   ·exact .inl a
   ·by_cases h0:((bJ x).iI r).of=0
    ·rw[aUF h0]at a;cases a
    ·rw[aT7 h0]at a;have hB:(bJ x).mI r=true:=by
      cases hr:(bJ x).mI r with
      |true=>rfl
      |false=>exact absurd (hnf hr) h0
     obtain⟨t,ht,e⟩:=aA4.1 (hf hB);have hfm:=(Q9 _ _ _ _ h.fr.f.th).1 t ht;rw[e]at hfm;have hE:(bJ x).aDH r=0:=by unfold D4.aDH;rw[aUF hB]
     rcases a58 hfm h0 with hk|hk|hk
     ·refine .inr ?_;unfold W4.more;rw[aUF ⟨hk,h0⟩];exact a
     ·refine .inl (HG.1 ?_);unfold D4.aLX D4.nW;rw[aT7 oM,aUF hk];exact List.mem_append_right _ a
     ·refine .inl (HG.1 ?_);unfold D4.aLX D4.nW;rw[aT7 oM,aT7 oM,aUF hk];refine List.mem_append_right _ ?_;rw[aR]at a;rw[a];exact G7 ..
def a34(h:kJ (atF n T) r=true):∃j,∃hj:j<T.length,r=T[j]/\cR (atF n T) r=((n+j:Nat):Int):=by
 obtain⟨f,h1,h2,h3⟩:=rT _ r h;obtain⟨j,hj,e⟩:=a4K _ _ f h1;subst e;exact⟨j,hj,h2.symm,h3.symm⟩
def aOF.labels(h:aOF x l)(hck:l.all (bJ x).zE=true):aQG l.length (rW x).lA ((rW x).jR l) (l.length+(rW x).lA.length) ((l.length+(rW x).lA.length)*(l.length+(rW x).lA.length)+1) (List.range (l.length+(rW x).lA.length))=(List.range (l.length+(rW x).lA.length)).map (lB ((bJ x).aEI l)):=by
 have y4:((rW x).lA).Nodup:=h.fr.bth.nd;have hF:=aE3 (bJ x) l;have hat:∀r,kJ ((bJ x).pR l) r=true->∃j,∃hj:j<(rW x).lA.length,r=(rW x).lA[j]/\cR ((bJ x).pR l) r=((l.length+j:Nat):Int):=λr hr=>a34 hr;have a7D:∀r,r∈(rW x).lA->kJ ((bJ x).pR l) r=true:=λr hr=>by
  unfold D4.pR;rw[mP,aLE];exact hr
 refine a5Q (E:=aMZ (bJ x) l) (F:=(bJ x).pR l) hF (λi hi r hr hk=>?_) (λi hi k hk hn ht=>?_)
 ·obtain⟨j,hj,e1,e2⟩:=hat r hk;rw[e2,hP];refine⟨oM,?_⟩;rw[show l.length+j -l.length=j by omega,bF,aC hj];show(rW x).lA[j]∈_;rw[<-e1];exact(h.a6W hck i r).2 hr
 ·refine⟨(h.a6W hck i _).1 ht,?_⟩;have hkl:k -l.length<(rW x).lA.length:=oM;have e0:(rW x).lA.getD (k -l.length) 0=(rW x).lA[k -l.length]:=by rw[bF,aC hkl];rfl
  rw[e0];have hK:=a7D _ (aY hkl);refine⟨hK,?_⟩;obtain⟨j,hj,e1,e2⟩:=hat _ hK;rw[e2,hP];have:=(a4A y4).1 e1;omega
end
end Go.Pv
