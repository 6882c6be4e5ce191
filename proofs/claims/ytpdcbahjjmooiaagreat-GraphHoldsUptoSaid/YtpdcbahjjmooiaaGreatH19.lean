import Derived.Test.YtpdcbahjjmooiaaGreatH18
import Derived.Test.YtpdcbahjjmooiaaGreatRows
import Derived.Deep.Slices
import Derived.ChangeArms
import Derived.ChangeMaps5
/- A program logic over the model, contracts of the functions that the law reaches: part 19. (Names and blanks were shortened by program.) -/
set_option linter.unusedVariables false
set_option linter.unusedSimpArgs false
set_option linter.constructorNameAsVariable false
set_option linter.unusedSectionVars false
set_option linter.deprecated false
set_option maxRecDepth 100000
set_option maxHeartbeats 8000000
open Go Go.Proofs
namespace Go.Pv
open Go.RowKit
variable{w:D4}{r:Int}{n:Nat}{t:TypeId}{cs:List Value}
abbrev kB(n:Int):Ky:=.one (.int .u8 n)
def CJ:List (Ky×A):=[(kB 1,.fn (.func 242) [] []),(kB 2,.fn (.func 244) [] []),(kB 3,.fn (.func 247) [] []),(kB 4,.fn (.func 248) [] []),(kB 5,.fn (.func 249) [] []),(kB 6,.fn (.func 250) [] []),(kB 7,.fn (.func 251) [] []),(kB 8,.fn (.func 252) [] []),(kB 9,.fn (.func 253) [] [])]
def P4:R:=.mp false CJ []
theorem NT:∀(m:Mem)(d:Nat),m d=none->aJ Tryz.prog 237 [] m (.ok (.h d)) (aX m d P4):=by
 refine iW mix (F:=A.h) (r:=P4) Tryz.func237 rfl kK (bD rfl) rfl rfl (λ_ _=>rfl) (λi j hj=>by simpa [A.hs]using hj) (λg=>rfl) ?_
 repeat'(first|refine bl ?_|refine aB4.BP kK kK (bw ?_))
 exact⟨_,rfl,rfl⟩
def S4.KM(v b:S4)(ok:Bool):Bool:=ok&&(decide (v.name=b.name)&&(decide (v.second=b.second)&&(decide (v.jR=b.jR)&&(decide (v.bQ=b.bQ)&&(decide (b.a.sV=v.a.sV)&&(decide (b.b.sV=v.b.sV)&&(decide (b.t.length=v.t.length)&&(decide (b.e.length=v.e.length)&&(decide (b.c.length=v.c.length)&&decide (b.w.length=v.w.length))))))))))
theorem aKC(v:S4)(hk:fL (kB v.op) CJ=none)(hf:kH Tryz.prog 203 (kB v.op) CJ=true):Pu 233 [.d (.agg v.aT1)] (.d (cb false)):=by
 refine iC mix Tryz.func233 ?_
 repeat'(first|refine bl ?_|refine xQ.fresh A.h P4 NT rfl (bw ?_))
 refine .BP hf hk ?_;conv=>whnf
 refine bl ?_;exact dP rfl
theorem aNF{v b:S4}{ok:Bool}(h1:ok=true)(h2:v.name=b.name)(h3:v.second=b.second)(h4:v.jR=b.jR)(h5:v.bQ=b.bQ)(h6:b.a.sV=v.a.sV)(h7:b.b.sV=v.b.sV)(h8:(b.t.length:Int)=v.t.length)(h9:(b.e.length:Int)=v.e.length)(h10:(b.c.length:Int)=v.c.length):
 decide ((b.w.length:Int)=v.w.length)=(ok&&(decide (v.name=b.name)&&(decide (v.second=b.second)&&(decide (v.jR=b.jR)&&(decide (v.bQ=b.bQ)&&(decide (b.a.sV=v.a.sV)&&(decide (b.b.sV=v.b.sV)&&(decide (b.t.length=v.t.length)&&(decide (b.e.length=v.e.length)&&(decide (b.c.length=v.c.length)&&decide (b.w.length=v.w.length))))))))))):=by
 rw[h1,aUZ h2,aUZ h3,aUZ h4,aUZ h5,aUZ h6,aUZ h7,aUZ (by omega:b.t.length=v.t.length),aUZ (by omega:b.e.length=v.e.length),aUZ (by omega:b.c.length=v.c.length),show decide ((b.w.length:Int)=v.w.length)=decide (b.w.length=v.w.length)from decide_eq_decide.2 oM];simp
theorem yN(v b:S4)(ok:Bool)(k:FuncId)(hk:fL (kB v.op) CJ=some (.fn (.func k) [] []))(hf:kH Tryz.prog 203 (kB v.op) CJ=true)(hc:Pu k [.d (.agg v.aT1)] (.eL [.d (.agg b.aT1),.d (cb ok)])):Pu 233 [.d (.agg v.aT1)] (.d (cb (v.KM b ok))):=by
 refine iC mix Tryz.func233 ?_
 repeat'(first|refine bl ?_|refine xQ.fresh A.h P4 NT rfl (bw ?_))
 refine .CL _ hf hk ?_;conv=>whnf
 repeat'(first|refine bl ?_|refine bS (λh=>?_) (λh=>?_)|refine dR hc (.cons (.agg v.aT1) .nil) (bw ?_)|refine jV (wS b.a) (.cons (.agg b.a.aT1) .nil) (bw ?_)|refine jV (wS b.b) (.cons (.agg b.b.aT1) .nil) (bw ?_)|refine jV (wS v.a) (.cons (.agg v.a.aT1) .nil) (bw ?_)|refine jV (wS v.b) (.cons (.agg v.b.aT1) .nil) (bw ?_))
 all_goals(refine dP ?_;unfold S4.KM;first|(simp_all;done)|(simp_all;omega;done)|(simp only[aB];exact aNF aM aM aM aM aM aM aM aM aM aM))
def S4.aKB(v:S4):Bool:=
 if v.op=1 then v.KM v.aIX v.aKL else if v.op=2 then v.KM v.aIY v.aKM else if v.op=3 then v.KM v.sU v.pL else if v.op=4 then v.KM v.aIZ v.aKN else if v.op=5 then v.KM v.aI0 v.aKO
 else if v.op=6 then v.KM v.aI1 v.aKP else if v.op=7 then v.KM v.aI2 v.aKQ else if v.op=8 then v.KM v.aI3 v.aKR else if v.op=9 then v.KM v.aI4 v.aKS else false
theorem Z9(x:Int):kH Tryz.prog 203 (kB x) CJ=true:=kK
theorem aFV(v:S4)(hv:v.cR<=2^38)(ha:0<=v.jR/\v.jR<256):Pu 233 [.d (.agg v.aT1)] (.d (cb v.aKB)):=by
 have hf:=Z9 v.op;have hv2:v.cR<=2^40:=oM;unfold S4.aKB;by_cases h1:v.op=1
 ·rw[aUF h1];exact yN v _ _ _ (by rw[h1];rfl) hf (aCZ v hv2 ha.1 ha.2)
 rw[aT7 h1];by_cases h2:v.op=2
 ·rw[aUF h2];exact yN v _ _ _ (by rw[h2];rfl) hf (aC0 v hv2 ha.1 ha.2)
 rw[aT7 h2];by_cases h3:v.op=3
 ·rw[aUF h3];exact yN v _ _ _ (by rw[h3];rfl) hf (aD2 v hv)
 rw[aT7 h3];by_cases h4:v.op=4
 ·rw[aUF h4];exact yN v _ _ _ (by rw[h4];rfl) hf (aC1 v hv2 ha.1 ha.2)
 rw[aT7 h4];by_cases h5:v.op=5
 ·rw[aUF h5];exact yN v _ _ _ (by rw[h5];rfl) hf (aC2 v hv2 ha.1 ha.2)
 rw[aT7 h5];by_cases h6:v.op=6
 ·rw[aUF h6];exact yN v _ _ _ (by rw[h6];rfl) hf (aC3 v hv2 ha.1 ha.2)
 rw[aT7 h6];by_cases h7:v.op=7
 ·rw[aUF h7];exact yN v _ _ _ (by rw[h7];rfl) hf (aC4 v hv2 ha.1 ha.2)
 rw[aT7 h7];by_cases h8:v.op=8
 ·rw[aUF h8];exact yN v _ _ _ (by rw[h8];rfl) hf (aC5 v hv2 ha.1 ha.2)
 rw[aT7 h8];by_cases h9:v.op=9
 ·rw[aUF h9];exact yN v _ _ _ (by rw[h9];rfl) hf (aC6 v hv2 ha.1 ha.2)
 rw[aT7 h9];refine aKC v ?_ hf;unfold CJ;simp only[fL,kB,Ky.one.injEq,KC.int.injEq,true_and,h1,h2,h3,h4,h5,h6,h7,h8,h9,if_false]
def S4.tl(v:S4)(n:Int):Bool×Int×Int:=if n=512 then(false,512,4)else if v.aKB=true then(true,0,0)else(false,n,160)
mutual
def S4.wk:S4->Int->Bool×Int×Int×Int
 |.mk op n1 n2 ab wh a b t e c w,n=>match S4.tl (.mk op n1 n2 ab wh a b t e c w) n with
  |(false,q)=>(false,n+1,q)
  |(true,_)=>match S4.vS t (n+1)with
   |(false,q)=>(false,q)
   |(true,m,_)=>match S4.vS e m with
    |(false,q)=>(false,q)
    |(true,m,_)=>S4.vS c m
def S4.vS:List S4->Int->Bool×Int×Int×Int
 |[],n=>(true,n,0,0)
 |v::r,n=>match S4.wk v n with
  |(false,q)=>(false,q)
  |(true,m,_)=>S4.vS r m
end
theorem S4.aLC(v:S4)(n:Int):v.wk n=match v.tl n with
 |(false,q)=>(false,n+1,q)
 |(true,_)=>match S4.vS v.t (n+1)with
  |(false,q)=>(false,q)
  |(true,m,_)=>match S4.vS v.e m with
   |(false,q)=>(false,q)
   |(true,m,_)=>S4.vS v.c m:=by cases v;rw[S4.wk];rfl
abbrev WE(q:Bool×Int×Int×Int):Prop:=0<=q.2.1/\q.2.1<=513/\(q.1=true->q.2.1<=512/\q.2.2=(0,0))
theorem S4.aF3(v:S4)(n:Int):(v.tl n).1=true->n≠512/\(v.tl n).2=(0,0):=by
 unfold S4.tl;split
 ·simp
 ·split
  ·intro;exact⟨aM,rfl⟩
  ·simp
mutual
theorem S4.aMY:∀(v:S4)(n:Int),0<=n->n<=512->WE (v.wk n)
 |.mk op n1 n2 ab wh a b t e c w,n,h0,h1=>by
  rw[S4.wk];have h2:=S4.aF3 (.mk op n1 n2 ab wh a b t e c w) n;generalize S4.tl (.mk op n1 n2 ab wh a b t e c w) n=q at h2⊢;obtain⟨x,y⟩:=q;cases x with
  |false=>simp[WE];omega
  |true=>
   have i1:=S4.wI t (n+1) oM (by have:=(h2 rfl).1;omega);dsimp only;generalize S4.vS t (n+1)=q at i1⊢;obtain⟨x,m,z⟩:=q;cases x with
   |false=>exact i1
   |true=>
    have i2:=S4.wI e m i1.1 (i1.2.2 rfl).1;dsimp only;generalize S4.vS e m=q2 at i2⊢;obtain⟨y,k,z2⟩:=q2;cases y with
    |false=>exact i2
    |true=>exact S4.wI c k i2.1 (i2.2.2 rfl).1
theorem S4.wI:∀(l:List S4)(n:Int),0<=n->n<=512->WE (S4.vS l n)
 |[],n,h0,h1=>by rw[S4.vS];simp[WE];omega
 |v::r,n,h0,h1=>by
  rw[S4.vS];have i1:=S4.aMY v n h0 h1;generalize S4.wk v n=q at i1⊢;obtain⟨x,m,z⟩:=q;cases x with
  |false=>exact i1
  |true=>exact S4.wI r m i1.1 (i1.2.2 rfl).1
end
theorem S4.aF9(l:List S4)(i:Nat)(h:i<l.length)(n:Int):S4.vS (l.drop i) n=match S4.wk l[i] n with
 |(false,q)=>(false,q)
 |(true,m,_)=>S4.vS (l.drop (i+1)) m:=by
 rw[dE h,S4.vS]
def AW(n a e:Int):List (Nat×R):=[(0,fV n),(1,fV a),(2,fV e)]
theorem ZT(v:S4)(hv:v.cR<=2^38)(ha:0<=v.jR/\v.jR<256)(q n d:Int):aJ Tryz.prog 232 [.d (ci n),.d (ci d),.d (.agg v.aT1),.lp 1 0,.lp 2 0] (aK (AW q 0 0)) (.ok (.d (cb (v.tl n).1))) (aH (aK (AW q 0 0)) [(1,fV (v.tl n).2.1),(2,fV (v.tl n).2.2)]):=by
 refine wE mix 100 Tryz.func232 tV ⟨tV,tV,tV⟩ ?_
 repeat'(first|refine bl ?_|refine bS (λh=>?_) (λh=>?_)|refine dR (aFV v hv ha) (.cons (.agg v.aT1) .nil) (bw ?_))
 all_goals(first
  |(have e:v.tl n=(false,512,4):=by unfold S4.tl;simp_all
    rw[e]
    subst_vars
    exact em;done)
  |(have e:v.tl n=(true,0,0):=by unfold S4.tl;simp_all
    rw[e]
    exact em;done)
  |(have e:v.tl n=(false,n,160):=by unfold S4.tl;simp_all
    rw[e]
    exact em;done)
  |skip)
mutual
def S4.ab:S4->Prop
 |.mk _ _ _ x _ _ _ t e c _=>(0<=x/\x<256)/\S4.RF t/\S4.RF e/\S4.RF c
def S4.RF:List S4->Prop
 |[]=>True
 |v::r=>S4.ab v/\S4.RF r
end
theorem S4.aJM(v:S4)(h:v.ab):(0<=v.jR/\v.jR<256)/\S4.RF v.t/\S4.RF v.e/\S4.RF v.c:=by cases v;exact h
theorem S4.XE:∀(l:List S4)(i:Nat)(h:i<l.length),S4.RF l->l[i].ab
 |v::r,0,h,hl=>hl.1
 |v::r,i+1,h,hl=>S4.XE r i (by simpa using h) hl.2
def wkB:List (List S4)->Int->Bool×Int×Int×Int
 |[],n=>(true,n,0,0)
 |b::r,n=>match S4.vS b n with
  |(false,q)=>(false,q)
  |(true,m,_)=>wkB r m
theorem S4.aB1(v:S4)(n:Int)(h0:0<=n)(h1:n<=512):v.wk n=match v.tl n with
 |(false,q)=>(false,n+1,q)
 |(true,_)=>wkB [v.t,v.e,v.c] (n+1):=by
 rw[S4.aLC];have h2:=S4.aF3 v n;generalize v.tl n=q at h2⊢;obtain⟨x,y⟩:=q;cases x with
 |false=>rfl
 |true=>
  have tO:=S4.wI v.t (n+1) oM (by have:=(h2 rfl).1;omega);dsimp only;rw[wkB];generalize S4.vS v.t (n+1)=q1 at tO⊢;obtain⟨x1,m1,z1⟩:=q1;cases x1 with
  |false=>rfl
  |true=>
   have hb2:=S4.wI v.e m1 tO.1 (tO.2.2 rfl).1;dsimp only;rw[wkB];generalize S4.vS v.e m1=q2 at hb2⊢;obtain⟨x2,m2,z2⟩:=q2;cases x2 with
   |false=>rfl
   |true=>
    have hb3:=S4.wI v.c m2 hb2.1 (hb2.2.2 rfl).1;dsimp only;rw[wkB];generalize S4.vS v.c m2=q3 at hb3⊢;obtain⟨x3,m3,z3⟩:=q3;cases x3 with
    |false=>rfl
    |true=>
     have:=(hb3.2.2 rfl).2;simp only at this;subst this;rfl
abbrev aM3(v:S4):List (List C):=[[jX v.t],[jX v.e],[jX v.c]]
abbrev UK:A:=.fn (.func 232) [] [.lp 1 0,.lp 2 0]
theorem R0(l:List S4)(hv:S4.dB l<=2^38)(ha:S4.RF l)(d n:Int)(hd:0<=d)(hd2:d+S4.dB l<=2^40)(h0:0<=n)(h1:n<=512):aJ Tryz.prog 231 [.d (jX l),.d (ci d),.lp 0 0,UK] (aK (AW n 0 0)) (.ok (.d (cb (S4.vS l n).1))) (aH (aK (AW n 0 0)) [(0,fV (S4.vS l n).2.1),(1,fV (S4.vS l n).2.2.1),(2,fV (S4.vS l n).2.2.2)]):=by
 have hl:=S4.eW l;refine wE mix 100 Tryz.func231 tV ⟨tV,tV,tV,tV⟩ ?_;refine bl ?_;refine bV mix (λa:Nat×Int=>a.1<=l.length/\(0<=a.2/\a.2<=512)/\S4.vS (l.drop a.1) a.2=S4.vS l n) (I:=λa=>[(1,.d (ci d)),(2,.lp 0 0),(3,UK),(14,.d (jX l)),(15,.d (ci l.length)),(16,.d (ci a.1))])
  (J:=λa=>AW a.2 0 0) (μ:=λa=>l.length -a.1) 100 (0,n) ⟨dM,⟨h0,h1⟩,rfl⟩ mZ ?_
 rintro⟨i,q⟩ ⟨hi,hqb,hq⟩;dsimp only at hi hq hqb⊢
 repeat'(first|refine bl ?_|refine bS (λh=>?_) (λh=>?_)|refine eE S4.cP rfl eD aM (bw ?_))
 ·exfalso;omega
 ·have cX:i<l.length:=aM;have hcg:=S4.dG l i cX;have AZ:=l[i].fA;have hab:=S4.XE l i cX ha;have aZ5:=S4.aJM _ hab;have hdr:=S4.aF9 l i cX q;rw[S4.aB1 _ _ hqb.1 hqb.2]at hdr;have hc1:=ZT l[i] oM aZ5.1 (q+1) q d;have htb:=S4.aF3 l[i] q;generalize S4.tl l[i] q=z at hc1 htb hdr;obtain⟨b,a1,e1⟩:=z;refine dZ.mk (.d (cb b)) [(1,fV a1),(2,fV e1)] ((aJ.l8 hc1 ⟨sn,sn,tV⟩ ⟨rfl,rfl,rfl,tV⟩ ⟨tV,tV,tV,tV⟩ ⟨.inl sn,.inl sn,tV⟩).mR (.cons (.same _) (.cons (.same _) (.cons (.agg l[i].aT1) (.cons (.same _) (.cons (.same _) .nil)))))) ?_;conv=>whnf
  cases b with
  |false=>
   refine bl ?_;have e:S4.vS l n=(false,q+1,a1,e1):=by rw[<-hq,hdr]
   rw[e];exact em
  |true=>
   obtain⟨hq5,h00⟩:=htb rfl;simp only[aD]at h00;obtain⟨rfl,rfl⟩:=h00;dsimp only at hdr;refine bl ?_;refine cY mix (λa:Nat×Int=>a.1<=3/\(0<=a.2/\a.2<=512)/\wkB ([l[i].t,l[i].e,l[i].c].drop a.1) a.2=wkB [l[i].t,l[i].e,l[i].c] (q+1)) (I:=λa=>[(1,.d (ci d)),(2,.lp 0 0),(3,UK),(14,.d (jX l)),(15,.d (ci l.length)),(16,.d (ci i)),(44,.h 900),(45,.d (ci 3)),(46,.d (ci a.1))])
    (J:=λa=>(900,dU 29 1 (aM3 l[i]))::AW a.2 0 0) (μ:=λa=>3 -a.1) 2000 (0,q+1) 2
    (λm:Int=>(0<=m/\m<=512)/\wkB [l[i].t,l[i].e,l[i].c] (q+1)=(true,m,0,0)) (λm=>[(1,.d (ci d)),(2,.lp 0 0),(3,UK),(14,.d (jX l)),(15,.d (ci l.length)),(16,.d (ci i))]) (λm=>AW m 0 0) 4000 ⟨dM,dM,rfl⟩ (mv 348 900) ?_ ?_
   ·rintro⟨j,m⟩ ⟨hj,hm,hw⟩;dsimp only at hj hm hw⊢;have step:∀b:List S4,S4.dB b<S4.dB l->S4.RF b->aJ Tryz.prog 231 [.d (jX b),.d (ci (d+1)),.lp 0 0,UK] (aK (AW m 0 0)) (.ok (.d (cb (S4.vS b m).1))) (aH (aK (AW m 0 0)) [(0,fV (S4.vS b m).2.1),(1,fV (S4.vS b m).2.2.1),(2,fV (S4.vS b m).2.2.2)]):=λb hb hb2=>R0 b oM hb2 (d+1) m oM oM hm.1 hm.2;obtain rfl|rfl|rfl|rfl:j=0\/j=1\/j=2\/j=3:=oM
    ·skip
     repeat'(first|refine bl ?_|refine lG.mk 0 rfl (by simp[bE]) (bw ?_))
     have wF:=step l[i].t oM aZ5.2.1;have hb2:=S4.wI l[i].t m hm.1 hm.2;simp only[pR,n6]at hw;rw[wkB]at hw;generalize S4.vS l[i].t m=z at wF hb2 hw;obtain⟨b,m2,a2,e2⟩:=z;refine dZ.mk (.d (cb b)) [(0,fV m2),(1,fV a2),(2,fV e2)] (aJ.l8 wF ⟨sn,sn,sn,tV⟩ ⟨rfl,rfl,rfl,tV⟩ ⟨tV,tV,tV,tV⟩ ⟨.inl sn,.inl sn,.inl sn,tV⟩) ?_;conv=>whnf
     cases b with
     |false=>
      refine bl ?_;have e:S4.vS l n=(false,m2,a2,e2):=by rw[<-hq,hdr,<-hw]
      rw[e];exact em
     |true=>
      obtain⟨g1,g2,g3⟩:=hb2;obtain⟨g4,g5⟩:=g3 rfl;simp only[aD]at g5;obtain⟨rfl,rfl⟩:=g5;dsimp only at hw g1 g4;refine bl ?_;refine⟨(1,m2),dM,⟨dM,⟨g1,g4⟩,?_⟩,?_⟩
      ·dsimp only;exact hw
      ·exact mZ
    ·skip
     repeat'(first|refine bl ?_|refine lG.mk 1 rfl (by simp[bE]) (bw ?_))
     have wF:=step l[i].e oM aZ5.2.2.1;have hb2:=S4.wI l[i].e m hm.1 hm.2;simp only[pR,n6]at hw;rw[wkB]at hw;generalize S4.vS l[i].e m=z at wF hb2 hw;obtain⟨b,m2,a2,e2⟩:=z;refine dZ.mk (.d (cb b)) [(0,fV m2),(1,fV a2),(2,fV e2)] (aJ.l8 wF ⟨sn,sn,sn,tV⟩ ⟨rfl,rfl,rfl,tV⟩ ⟨tV,tV,tV,tV⟩ ⟨.inl sn,.inl sn,.inl sn,tV⟩) ?_;conv=>whnf
     cases b with
     |false=>
      refine bl ?_;have e:S4.vS l n=(false,m2,a2,e2):=by rw[<-hq,hdr,<-hw]
      rw[e];exact em
     |true=>
      obtain⟨g1,g2,g3⟩:=hb2;obtain⟨g4,g5⟩:=g3 rfl;simp only[aD]at g5;obtain⟨rfl,rfl⟩:=g5;dsimp only at hw g1 g4;refine bl ?_;refine⟨(2,m2),dM,⟨dM,⟨g1,g4⟩,?_⟩,?_⟩
      ·dsimp only;exact hw
      ·exact mZ
    ·skip
     repeat'(first|refine bl ?_|refine lG.mk 2 rfl (by simp[bE]) (bw ?_))
     have wF:=step l[i].c oM aZ5.2.2.2;have hb2:=S4.wI l[i].c m hm.1 hm.2;simp only[pR,n6]at hw;rw[wkB]at hw;generalize S4.vS l[i].c m=z at wF hb2 hw;obtain⟨b,m2,a2,e2⟩:=z;refine dZ.mk (.d (cb b)) [(0,fV m2),(1,fV a2),(2,fV e2)] (aJ.l8 wF ⟨sn,sn,sn,tV⟩ ⟨rfl,rfl,rfl,tV⟩ ⟨tV,tV,tV,tV⟩ ⟨.inl sn,.inl sn,.inl sn,tV⟩) ?_;conv=>whnf
     cases b with
     |false=>
      refine bl ?_;have e:S4.vS l n=(false,m2,a2,e2):=by rw[<-hq,hdr,<-hw]
      rw[e];exact em
     |true=>
      obtain⟨g1,g2,g3⟩:=hb2;obtain⟨g4,g5⟩:=g3 rfl;simp only[aD]at g5;obtain⟨rfl,rfl⟩:=g5;dsimp only at hw g1 g4;refine bl ?_;refine⟨(3,m2),dM,⟨dM,⟨g1,g4⟩,?_⟩,?_⟩
      ·dsimp only;exact hw
      ·exact mZ
    ·skip
     refine bl ?_;rw[dT sM,wkB]at hw;refine⟨m,⟨hm,hw.symm⟩,?_⟩;exact mZ
   rintro m ⟨hm,hw⟩;refine bl ?_;refine⟨(i+1,m),dM,⟨dM,hm,?_⟩,?_⟩
   ·dsimp only;rw[hw]at hdr;rw[<-hq,hdr]
   ·exact mZ
 ·rw[dT oM]at hq;rw[<-hq,S4.vS];exact em
 termination_by S4.dB l
def gE(i:Nat):Nat:=swp 0 17 (swp 2 9 i)
def gF(i:Nat):Nat:=swp 2 9 (swp 0 17 i)
theorem gEF(i:Nat):gF (gE i)=i:=by unfold gE gF;rw[fH,fH]
theorem gFE(i:Nat):gE (gF i)=i:=by unfold gE gF;rw[fH,fH]
theorem aLB(l:List S4)(hv:S4.dB l<=2^38)(ha:S4.RF l):aJ Tryz.prog 231 [.d (jX l),.d (ci 0),.lp 17 0,.fn (.func 232) [] [.lp 1 0,.lp 9 0]] (aK [(17,fV 0),(1,fV 0),(9,fV 0)]) (.ok (.d (cb (S4.vS l 0).1))) (aH (aK [(17,fV 0),(1,fV 0),(9,fV 0)]) [(17,fV (S4.vS l 0).2.1),(1,fV (S4.vS l 0).2.2.1),(9,fV (S4.vS l 0).2.2.2)]):=by
 have k:=(R0 l hv ha 0 0 oM oM oM oM).eZ gEF gFE;rw[rJ gEF gFE,tZ gEF gFE]at k;exact k
def I9(l:List S4):Int:=(S4.vS l 0).2.2.2
def ckA(l:List S4):Int:=(S4.vS l 0).2.2.1
theorem ZS(l:List S4)(hv:S4.dB l<=2^38)(ha:S4.RF l):Pu 214 [.d (jX l)] (.eL [.d (ci (ckA l)),.d (ci (I9 l))]):=by
 refine iC mix Tryz.func214 ?_;have k:=aLB l hv ha;unfold ckA I9;generalize S4.vS l 0=z at k⊢;obtain⟨b,m1,a1,e1⟩:=z
 repeat'(first|refine bl ?_|refine dZ.mk (.d (cb b)) [(17,fV m1),(1,fV a1),(9,fV e1)] (aJ.l8 k ⟨sn,sn,sn,tV⟩ ⟨rfl,rfl,rfl,tV⟩ ⟨tV,tV,tV,tV⟩ ⟨.inl sn,.inl sn,.inl sn,tV⟩) (bw ?_))
 exact .eL (cs:=[ci a1,ci e1]) (.cons (.d _) (.cons (.d _) .nil))
theorem VB(l:List S4)(hv:S4.dB l<=2^38)(ha:S4.RF l):Pu 186 [.d (jX l)] (.d (ci (I9 l))):=by
 refine iC mix Tryz.func186 ?_
 repeat'(first|refine bl ?_|refine aF (ZS l hv ha) (bw ?_))
 exact oF rfl
def aI6(l:List S4):Bool:=decide (I9 l=0)
theorem aGU(l:List S4)(hv:S4.dB l<=2^38)(ha:S4.RF l):Pu 158 [.d (jX l)] (.d (cb (aI6 l))):=by
 refine iC mix Tryz.func158 ?_
 repeat'(first|refine bl ?_|refine aF (VB l hv ha) (bw ?_))
 exact dP rfl
def D4.aP(w:D4):List Int:=w.aT4.map (·.ref)

theorem PL(d:Array Int):∀(m:Nat)(x:Int),x∈Go.Lib.compactUpTo d m↔∃j,j<m/\d[j]! =x
 |0,x=>by simp[Go.Lib.compactUpTo]
 |m+1,x=>by
  rw[Go.Lib.compactUpTo_succ,bN,PL d m x];constructor
  ·rintro(⟨j,hj,e⟩|h)
   ·exact⟨j,oM,e⟩
   ·split at h
    ·exact⟨m,oM,(aR.1 h).symm⟩
    ·simp at h
  ·rintro⟨j,hj,e⟩;by_cases hk:Go.Lib.keeps d m=true
   ·rw[aUF hk];by_cases hjm:j<m
    ·exact .inl ⟨j,hjm,e⟩
    ·have:j=m:=oM;subst this;exact .inr (by simp[e])
   ·rw[aT7 hk];refine .inl ?_;by_cases hjm:j<m
    ·exact⟨j,hjm,e⟩
    ·have:j=m:=oM;subst this;unfold Go.Lib.keeps at hk;simp only[aUA,not_or,Decidable.not_not]at hk;exact⟨j -1,oM,by rw[<-hk.2];exact e⟩
theorem XR(d:Array Int):∀(m:Nat),(∀i j,i<j->j<m->d[i]! <=d[j]!)->(Go.Lib.compactUpTo d m).Pairwise (· <·)
 |0,_=>by simp[Go.Lib.compactUpTo]
 |m+1,h=>by
  rw[Go.Lib.compactUpTo_succ];have ih:=XR d m λi j h1 h2=>h i j h1 oM;by_cases hk:Go.Lib.keeps d m=true
  ·rw[aUF hk];refine List.pairwise_append.2 ⟨ih,sM,λx hx y hy=>?_⟩;rw[aR.1 hy];obtain⟨j,hj,e⟩:=(PL d m x).1 hx;unfold Go.Lib.keeps at hk;simp only[aUA]at hk;have h1:d[m -1]! <=d[m]! :=h (m -1) m oM oM;have h2:d[j]! <=d[m -1]! :=by
    by_cases e2:j=m -1
    ·subst e2;exact Int.le_refl _
    ·exact h j (m -1) oM oM
   have h3:d[m]! ≠d[m -1]! :=by
    rcases hk with hk|hk
    ·omega
    ·exact hk
   omega
  ·rw[aT7 hk,dS];exact ih
theorem GS(L:List Int):(Go.Sort.sort eF L.toArray).toList=L.mergeSort (λx y=>decide (x<=y)):=Go.Sort.sortInt L
theorem ID(d:Array Int)(j:Nat)(h:j<d.size):d[j]! =d.toList[j]'(by simpa using h):=by
 rw[getElem!_pos d j h];simp
theorem o3(L:List Int)(x:Int):x∈oZ L↔x∈L:=by
 unfold oZ DH;rw[jY,PL];have h1:x∈(Go.Sort.sort eF L.toArray).toList↔x∈L:=by rw[GS];simp
 rw[<-h1,dH];constructor
 ·rintro⟨j,hj,e⟩;exact⟨j,by simpa using hj,by rw[<-ID _ _ hj];exact e⟩
 ·rintro⟨j,hj,e⟩;have QB:j<(Go.Sort.sort eF L.toArray).size:=by simpa using hj
  exact⟨j,QB,by rw[ID _ _ QB];exact e⟩
theorem K9(L:List Int):(oZ L).Pairwise (· <·):=by
 unfold oZ DH;rw[jY];refine XR _ _ λi j h1 h2=>?_;rw[ID _ _ oM,ID _ _ h2];have h3:(L.mergeSort λx y=>decide (x<=y)).Pairwise λa b=>decide (a<=b)=true:=List.pairwise_mergeSort (λa b c h1 h2=>by simp only[aUA]at*;omega) (λa b=>by simp only[gP,aUA];omega) L;have h4:=List.pairwise_iff_getElem.1 h3;simp only[<-GS]at h4;simpa using h4 i j zM (by simpa using h2) h1
theorem aD0:∀{A B:List Int},A.Pairwise (· <·)->B.Pairwise (· <·)->(∀x,x∈A↔x∈B)->A=B
 |[],[],_,_,_=>rfl
 |[],b::B,_,_,h=>by have:=(h b).2 sM;simp at this
 |a::A,[],_,_,h=>by have:=(h a).1 sM;simp at this
 |a::A,b::B,h1,h2,h=>by
  rw[kR]at h1 h2;have e:a=b:=by
   have h3:=(h a).1 sM;have h4:=(h b).2 sM;rcases aO.1 h3 with e|h3
   ·exact e
   rcases aO.1 h4 with e|h4
   ·exact e.symm
   have:=h1.1 _ h4;have:=h2.1 _ h3;omega
  subst e;congr 1;refine aD0 h1.2 h2.2 λx=>?_;constructor
  ·intro hx;rcases aO.1 ((h x).1 (by simp[hx]))with e|h5
   ·subst e;have:=h1.1 _ hx;omega
   ·exact h5
  ·intro hx;rcases aO.1 ((h x).2 (by simp[hx]))with e|h5
   ·subst e;have:=h2.1 _ hx;omega
   ·exact h5
theorem GD:∀{A B:List Int},A.Nodup->(∀x∈A,x∈B)->A.length<=B.length
 |[],B,_,_=>sM
 |a::A,B,h,hs=>by
  have h1:=gR.1 h;have ha:a∈B:=hs a sM;have h2:∀x∈A,x∈B.erase a:=λx hx=>by
   have hZ:x≠a:=λe=>h1.1 (e▸hx);exact(List.mem_erase_of_ne hZ).2 (hs x (by simp[hx]))
  have h3:=GD h1.2 h2;have h4:=List.length_erase_of_mem ha;have:0<B.length:=List.length_pos_of_mem ha;simp only[aQ];omega
def D4.EP(w:D4):Prop:=(w.aT4.map (·.ref)).Pairwise (· <·)
theorem aIM{L M:List Int}(hM:M.Pairwise (· <·))(hp:L.Perm M):(Go.Sort.sort eF L.toArray)=M.toArray:=by
 have h:(Go.Sort.sort eF L.toArray).toList=M:=by
  rw[GS];have h1:(L.mergeSort λx y=>decide (x<=y)).Perm M:=(List.mergeSort_perm _ _).trans hp;have h2:(L.mergeSort λx y=>decide (x<=y)).Pairwise λa b=>decide (a<=b)=true:=List.pairwise_mergeSort (λa b c h1 h2=>by simp only[aUA]at*;omega) (λa b=>by simp only[gP,aUA];omega) L;have h3:M.Pairwise λa b=>decide (a<=b)=true:=hM.imp λh=>by simp only[aUA];omega
  exact h1.eq_of_pairwise (λa b _ _ h1 h2=>by simp only[aUA]at*;omega) h2 h3
 exact Array.ext' (by rw[h])
theorem K6(w:D4)(hl:w.aT4.length<=2^30)(hr:w.EP):∀(m:Mem)(d:Nat),m d=none->aJ Tryz.prog 83 [.d (.ip w.aT1)] m (.ok (.h d)) (aX m d (dU 25 1 (iR w.aP))):=by
 refine iW mix (F:=A.h) (r:=dU 25 1 (iR w.aP)) Tryz.func83 rfl kK (bD rfl) rfl (oJ _ _ _) (λ_ _=>rfl) (λi j hj=>by simpa [A.hs]using hj) (λg=>eT g _ _ _) ?_;refine bl ?_;have hb:Tryz.prog.bytesOf 25=8:=kK;have hz:(zc Tryz.prog 8 25).length=Tryz.prog.cellsOf 25:=kK;have XO:0<Tryz.prog.cellsOf 25:=bD kK;refine xR.mk ?_ ?_
 ·rw[aE];refine⟨aUZ ⟨hz,XO,oM,oM,?_,?_⟩,rfl⟩
  ·rw[hb,aB];omega
  ·rw[aB];omega
 conv=>whnf
 refine bl ?_;refine xI rfl ?_;conv=>whnf
 refine bl ?_;refine cY mix (λa:Option (Ky×C)×List T4×List Int=>(a.2.2++a.2.1.map (·.ref)).Perm w.aP) (I:=λa=>[(3,.h 900),(15,.h 97)])
  (J:=λa=>[(900,dU 25 1 (iR a.2.2)),(97,.di a.1 (a.2.1.map T4.kv))]) (μ:=λa=>a.2.1.length) 1000 (none,w.aT4,[]) 0
  (λQ:List Int=>Q.Perm w.aP) (λQ=>[(3,.h 900)]) (λQ=>[(900,dU 25 1 (iR Q))]) 2000 (.refl _) (mv 49 900) ?_ ?_
 ·rintro⟨cur,L,Q⟩ hp;dsimp only at hp⊢;have hlen:=hp.length_eq;unfold D4.aP at hlen;simp only[aU,aB]at hlen;refine bl ?_;refine EI (λh0=>?_) (λi hi=>?_)
  ·conv=>whnf
   refine bl ?_;subst h0;refine⟨Q,by simpa using hp,?_⟩;exact mZ
  ·conv=>whnf
   refine bl ?_;refine n8 (by simp only[aB,bE,cE,aS];omega) kK ?_;conv=>whnf
   refine bl ?_;refine⟨(some (T4.kv L[i]),L.eraseIdx i,Q++[L[i].ref]),xL _ _ hi,?_,?_⟩
   ·dsimp only;refine List.Perm.trans ?_ hp;rw[bG];refine qX _ ?_;have:=(CU L i hi).map (λt:T4=>t.ref);exact this.symm
   ·skip
    refine mq 1064 900 ?_
    all_goals exact cO rfl (gG Q [L[i].ref])
 rintro Q hQ;have hlen:=hQ.length_eq;unfold D4.aP at hlen;rw[aB]at hlen;have hs:=aIM hr hQ
 repeat'(first|refine bl ?_|refine lN 900 (iG (Go.Sort.sort eF Q.toArray)) ((rK Q.toArray (by simp only[nJ];omega)).AK (oJ _ _ _) (λg=>eT g _ _ _) (λg=>eT g _ _ _) rfl (by simp[A.lQ,A.hs]) (aK _) 900 rfl) (bw ?_))
 rw[hs];exact⟨_,rfl,rfl⟩
def xP:List Bool->Int->List Int
 |[],_=>[]
 |b::r,k=>if b=true then k::xP r (k+1)else xP r (k+1)
theorem aBH(L M:List T4):bE (L.map T4.aT1)++bE (M.map T4.aT1)=bE ((L++M).map T4.aT1):=by simp[bE]
def D4.tell(w:D4):X4:=⟨w.parents,xP w.cut 0,w.aT4,w.last,w.made⟩
theorem ZC(w:D4)(hg:w.gA)(hr:w.EP)(h1:w.parents.length<=2^38)(h2:w.made.length<=2^38)(h3:w.cut.length<=2^36):Pu 38 [.d (.ip w.aT1)] (.d (.agg w.tell.aT1)):=by
 refine iC mix Tryz.func38 ?_
 repeat'(first|refine bl ?_|refine aF (vQ w) (bw ?_)|refine cH (G6 (iR w.made) (by simp only[aB];omega) sM) (bw ?_)|refine cH (DG (iR w.parents) (by simp only[aB];omega) sM) (bw ?_))
 have hyl:∀(L:List Bool)(k:Int),(xP L k).length<=L.length:=λL=>by
  induction L with
  |nil=>intro k;simp[xP]
  |cons b r ih=>intro k;rw[xP];have:=ih (k+1);split<;>simp only[aQ]<;>omega
 refine cY mix (λa:Nat×List Int=>a.1<=w.cut.length/\a.2++xP (w.cut.drop a.1) a.1=xP w.cut 0) (I:=λa=>[(0,.d (.ip w.aT1)),(2,.lp 1 0),(3,.lp 145 0),(29,.d (.sl 1 (w.cut.map λb=>[cb b]))),(30,.d (ci w.cut.length)),(31,.d (ci a.1))])
  (J:=λa=>(1,.cells false (List.map A.d (zc Tryz.prog 8 27)))::(145,.cells false [.d (.sl 1 (iR w.parents)),lv 1 900 (iR a.2),.d (.nl 17),.d (ci w.last),.d (.sl 1 (iR w.made))])::lm 900 3 1 (iR a.2) []) (μ:=λa=>w.cut.length -a.1) 1000 (0,[]) 0
  (λ_:Unit=>True) (λ_=>[(0,.d (.ip w.aT1)),(2,.lp 1 0),(3,.lp 145 0)]) (λ_=>[(1,.cells false (List.map A.d (zc Tryz.prog 8 27))),(145,.cells false [.d (.sl 1 (iR w.parents)),.d (.sl 1 (iR (xP w.cut 0))),.d (.nl 17),.d (ci w.last),.d (.sl 1 (iR w.made))])]) 2000 ⟨sM,sM⟩ mZ ?_ ?_
 ·rintro⟨i,Q⟩ ⟨hi,hQ⟩;dsimp only at hi hQ⊢;have hql:Q.length<=w.cut.length:=by
   have h5:=congrArg List.length hQ;have h6:=hyl w.cut 0;simp only[aU]at h5;omega
  have eB:∀(h:i<w.cut.length),(w.cut[i]=true->(Q++[(i:Int)])++xP (w.cut.drop (i+1)) ((i+1:Nat):Int)=xP w.cut 0)/\(w.cut[i]=false->Q++xP (w.cut.drop (i+1)) ((i+1:Nat):Int)=xP w.cut 0):=λh=>by
   rw[dE h,xP]at hQ;rw[show(i:Int)+1=((i+1:Nat):Int) by omega]at hQ;constructor<;>intro e<;>rw[e]at hQ
   ·rw[aUF rfl]at hQ;rw[bG];exact hQ
   ·rw[aT7 gO]at hQ;exact hQ
  cases Q with
  |nil=>
   show vc _ _ _ _ _ [(1,.cells false (List.map A.d (zc Tryz.prog 8 27))),(145,.cells false [.d (.sl 1 (iR w.parents)),.d (.nl 1),.d (.nl 17),.d (ci w.last),.d (.sl 1 (iR w.made))])] _ _
   repeat'(first|refine bl ?_|refine bS (λh=>?_) (λh=>?_)|refine cD rfl eD aM (bw ?_))
   ·refine n8 (by simp only[aB,bE,cE,aS];omega) kK ?_;conv=>whnf
    refine E9.mk (λh=>by cases h) (λh=>?_);conv=>whnf
    refine bl ?_;refine⟨(i+1,[(i:Int)]),dM,⟨dM,(eB aM).1 aM⟩,?_⟩;dsimp only[iR,List.map_cons,List.map_nil,lv,lm];exact mv 1088 900
    all_goals exact cO rfl rfl
   ·refine⟨(i+1,[]),dM,⟨dM,(eB aM).2 aM⟩,?_⟩;dsimp only[iR,List.map_cons,List.map_nil,lv,lm];exact mZ
   ·rw[dT oM,xP,dS]at hQ;refine⟨(),tV,?_⟩;rw[<-hQ];exact cN.freeze [] tV ⟨.same _,.same _,.same _,tV⟩ ⟨⟨rfl,_,rfl,.cells (.same _)⟩,⟨rfl,_,rfl,.cells (.cons (.same _) (.cons (.rd (.nz _ _)) (.same _)))⟩,tV⟩ ⟨tV,⟨sn,tV⟩,⟨sn,tV⟩,tV⟩ ⟨tV,tV,tV⟩
  |cons q0 Q=>
   show vc _ _ _ _ _ [(1,.cells false (List.map A.d (zc Tryz.prog 8 27))),(145,.cells false [.d (.sl 1 (iR w.parents)),.h 900,.d (.nl 17),.d (ci w.last),.d (.sl 1 (iR w.made))]),(900,dU 3 1 (iR (q0::Q)))] _ _
   repeat'(first|refine bl ?_|refine bS (λh=>?_) (λh=>?_)|refine cD rfl eD aM (bw ?_))
   ·refine n8 (by simp only[aB,bE,cE,aS];omega) kK ?_;conv=>whnf
    refine bl ?_;refine⟨(i+1,q0::(Q++[(i:Int)])),dM,⟨dM,(eB aM).1 aM⟩,?_⟩;dsimp only[iR,List.map_cons,List.map_nil,lv,lm];refine mq 1088 900 ?_
    all_goals exact cO rfl (gG (q0::Q) [(i:Int)])
   ·refine⟨(i+1,q0::Q),dM,⟨dM,(eB aM).2 aM⟩,?_⟩;dsimp only[iR,List.map_cons,List.map_nil,lv,lm];exact mZ
    all_goals exact cO rfl rfl
   ·rw[dT oM,xP,dS]at hQ;refine⟨(),tV,?_⟩;rw[<-hQ];exact cN.freeze [900] tV ⟨.same _,.same _,.same _,tV⟩ ⟨⟨rfl,_,rfl,.cells (.same _)⟩,⟨rfl,_,rfl,.cells (.cons (.same _) (.cons (.rd (.dU (eX rfl rfl))) (.same _)))⟩,tV⟩ ⟨tV,⟨sn,tV⟩,⟨sn,tV⟩,tV⟩ ⟨tV,tV,tV⟩
 rintro _ _
 repeat'(first|refine bl ?_|refine fQ (K6 w hg.len hr) 3000 rfl (bw ?_))
 have E0:w.aP.length=w.aT4.length:=by unfold D4.aP;rw[aB]
 refine cY mix (λi:Nat=>i<=w.aT4.length) (I:=λi=>[(0,.d (.ip w.aT1)),(2,.lp 1 0),(3,.lp 145 0),(45,.d (.sl 1 (iR w.aP))),(46,.d (ci w.aP.length)),(47,.d (ci i))])
  (J:=λi=>(1,.cells false (List.map A.d (zc Tryz.prog 8 27)))::(145,.cells false [.d (.sl 1 (iR w.parents)),.d (.sl 1 (iR (xP w.cut 0))),lv 17 900 ((w.aT4.take i).map T4.aT1),.d (ci w.last),.d (.sl 1 (iR w.made))])::lm 900 93 17 ((w.aT4.take i).map T4.aT1) []) (μ:=λi=>w.aT4.length -i) 5000 0 2
  (λ_:Unit=>True) (λ_=>[(2,.lp 1 0),(3,.lp 145 0)]) (λ_=>[(1,.cells false (List.map A.d (zc Tryz.prog 8 27))),(145,.cells false [.d (.sl 1 (iR w.parents)),.d (.sl 1 (iR (xP w.cut 0))),.d (.sl 17 (w.aT4.map T4.aT1)),.d (ci w.last),.d (.sl 1 (iR w.made))])]) 7000 oM ?_ ?_ ?_
 ·refine cN.freeze [3000] tV ⟨.same _,.same _,.same _,.rd (.dU (eX rfl rfl)),GR (qD (by simp only[aB,bE])),.same _,tV⟩ ⟨⟨rfl,_,rfl,.cells (.same _)⟩,⟨rfl,_,rfl,.cells (.same _)⟩,tV⟩ ⟨tV,⟨sn,tV⟩,⟨sn,tV⟩,tV,tV,tV,tV⟩ ?_;rw[fD];exact⟨tV,tV,tV⟩
 ·intro i hi;have eB:∀(h:i<w.aT4.length),w.aP[i]' oM =w.aT4[i].ref/\w.find w.aT4[i].ref=some w.aT4[i]/\w.aT4.take (i+1)=w.aT4.take i++[w.aT4[i]]:=λh=>by
   refine⟨by simp[D4.aP],?_,aT h⟩;unfold D4.find;cases hf:w.aT4.find? λt=>decide (t.ref=w.aT4[i].ref)with
   |none=>
    have:=mN.1 hf w.aT4[i] (aY h);simp at this
   |some t=>
    have e1:=iD hf;simp only[aUA]at e1;obtain⟨j,hj,e2⟩:=dH.1 (cT hf);subst e2;have hn:=hg.nodup;have:j=i:=by
     refine(jB (h₀:=by simpa using hj) (h₁:=by simpa using h) hn).1 ?_;simpa using e1
    subst this;rfl
  have aZI:(w.aT4.take i).length<=w.aT4.length:=zM;have hgl:=hg.len;generalize hQ:w.aT4.take i=Q at eB aZI⊢;cases Q with
  |nil=>
   show vc _ _ _ _ _ [(1,.cells false (List.map A.d (zc Tryz.prog 8 27))),(145,.cells false [.d (.sl 1 (iR w.parents)),.d (.sl 1 (iR (xP w.cut 0))),.d (.nl 17),.d (ci w.last),.d (.sl 1 (iR w.made))])] _ _
   repeat'(first|refine bl ?_|refine bS (λh=>?_) (λh=>?_)|refine cD rfl eD aM (bw ?_))
   ·have cX:i<w.aP.length:=aM;obtain⟨s1,s2,s3⟩:=eB oM;refine EA eD (λt ht=>?_) (λht=>?_)
    ·have e:t=w.aT4[i]' oM :=eY ((show w.find w.aP[i]=some t from ht).symm.trans (by rw[s1];exact s2));subst e;have hm:=aY (show i<w.aT4.length by omega);obtain⟨m1,m2,m3⟩:=hg.may _ hm;have hcn:=hg.cR _ hm;conv=>whnf
     repeat' refine cH (yX _ oM m1 m2 m3) (bw ?_)
     rw[s1];refine n8 (by simp only[aB,bE,cE,aS,aQ]at*;omega) kK ?_;conv=>whnf
     refine E9.mk (λh=>by cases h) (λh=>?_);conv=>whnf
     refine bl ?_;refine⟨i+1,oM,oM,?_⟩;rw[s3];dsimp only[List.nil_append,List.map_cons,List.map_nil,lv,lm];exact mv 5144 900
     all_goals exact cO rfl rfl
    ·exfalso;have:w.find w.aP[i]=none:=ht;rw[s1,s2]at this;cases this
   ·rw[aI oM]at hQ;refine⟨(),tV,?_⟩;rw[hQ];exact cN.freeze [] tV ⟨.same _,.same _,tV⟩ ⟨⟨rfl,_,rfl,.cells (.same _)⟩,⟨rfl,_,rfl,.cells (.cons (.same _) (.cons (.same _) (.cons (.rd (.nz _ _)) (.same _))))⟩,tV⟩ ⟨⟨sn,tV⟩,⟨sn,tV⟩,tV⟩ ⟨tV,tV,tV⟩
  |cons q0 Q=>
   show vc _ _ _ _ _ [(1,.cells false (List.map A.d (zc Tryz.prog 8 27))),(145,.cells false [.d (.sl 1 (iR w.parents)),.d (.sl 1 (iR (xP w.cut 0))),.h 900,.d (ci w.last),.d (.sl 1 (iR w.made))]),(900,dU 93 17 ((q0::Q).map T4.aT1))] _ _
   repeat'(first|refine bl ?_|refine bS (λh=>?_) (λh=>?_)|refine cD rfl eD aM (bw ?_))
   ·have cX:i<w.aP.length:=aM;obtain⟨s1,s2,s3⟩:=eB oM;refine EA eD (λt ht=>?_) (λht=>?_)
    ·have e:t=w.aT4[i]' oM :=eY ((show w.find w.aP[i]=some t from ht).symm.trans (by rw[s1];exact s2));subst e;have hm:=aY (show i<w.aT4.length by omega);obtain⟨m1,m2,m3⟩:=hg.may _ hm;have hcn:=hg.cR _ hm;conv=>whnf
     repeat' refine cH (yX _ oM m1 m2 m3) (bw ?_)
     rw[s1];refine n8 (by simp only[aB,bE,cE,aS,aQ]at*;omega) kK ?_;conv=>whnf
     refine bl ?_;refine⟨i+1,oM,oM,?_⟩;rw[s3];dsimp only[List.cons_append,List.map_cons,List.map_nil,lv,lm];refine mq 5144 900 ?_
     all_goals exact cO rfl (aBH (q0::Q) [w.aT4[i]])
    ·exfalso;have:w.find w.aP[i]=none:=ht;rw[s1,s2]at this;cases this
   ·rw[aI oM]at hQ;refine⟨(),tV,?_⟩;rw[hQ];exact cN.freeze [900] tV ⟨.same _,.same _,tV⟩ ⟨⟨rfl,_,rfl,.cells (.same _)⟩,⟨rfl,_,rfl,.cells (.cons (.same _) (.cons (.same _) (.cons (.rd (.dU (eX rfl rfl))) (.same _))))⟩,tV⟩ ⟨⟨sn,tV⟩,⟨sn,tV⟩,tV⟩ ⟨tV,tV,tV⟩
 rintro _ _;refine bl ?_;exact .one (.agg (wJ.data _ w.tell.aT1))
def D4.pK(w:D4)(r:Int):Bool:=decide (1<=r)&&(w.mI r||decide (r<=w.last))
def D4.zE(w:D4)(u:U4):Bool:=w.HU u.side&&(aI6 u.code&&(BA u.names&&((u.seen.all w.pK&&decide u.seen.Nodup)&&(jL u.names).all λr=>w.mI r&&decide (r∈u.seen))))
def D4.I9(w:D4)(u:U4):Int:=if w.zE u=true then 0 else 190
theorem aIG(h:r<1):w.pK r=false:=by unfold D4.pK;rw[aU0 oM];rfl
theorem aIH(h1:w.mI r=false)(h2:w.tell.last<r):w.pK r=false:=by
 have h2:w.last<r:=h2;unfold D4.pK;rw[h1,aU0 (by omega:¬r<=w.last)];simp
theorem aII(h:1<=r)(h1:w.mI r=true):w.pK r=true:=by unfold D4.pK;rw[h1,aUZ h];rfl
theorem aIJ(h:1<=r)(h2:r<=w.tell.last):w.pK r=true:=by
 have h2:r<=w.last:=h2;unfold D4.pK;rw[aUZ h,aUZ h2];simp
structure U4.gA(u:U4):Prop where
 side:-9223372036854775808<=u.side/\u.side<=9223372036854775807
 code:S4.dB u.code<=2^38
 jR:S4.RF u.code
 names:V.dB (u.names.map (·.value))<=2^34
 nlen:u.names.length<=2^34
 seen:u.seen.length<=2^35
structure D4.qV(w:D4):Prop extends w.gA where
 EP:w.EP
 pl:w.parents.length<=2^38
 ml:w.made.length<=2^38
 cl:w.cut.length<=2^36
 pos:∀t∈w.aT4,0<t.ref
theorem aA9(w:D4)(hw:w.qV)(u:U4)(hu:u.gA):Pu 104 [.d (.ip w.aT1),.d (.agg u.aT1)] (.d (ci (w.I9 u))):=by
 have pG:∀m,w.zE u=false->A1 m (.d (ci 190)) (.d (ci (w.I9 u))):=λm h=>by unfold D4.I9;rw[h];exact oF rfl
 have hm:=hw.ml;refine iC mix Tryz.func104 ?_
 repeat'(first|refine bl ?_|refine bS (λh=>?_) (λh=>?_)|refine aF (aEY w hw.sides) (bw ?_)|refine aF (aE2 w u.side hu.side.1 hu.side.2) (bw ?_)|refine aF (aGU u.code hu.code hu.jR) (bw ?_)|refine aF (TM u.names (by have:=hu.names;omega) (by have:=hu.nlen;omega)) (bw ?_))
 ·exact pG _ (by unfold D4.zE;simp_all)
 ·exact pG _ (by unfold D4.zE;simp_all)
 ·exact pG _ (by unfold D4.zE;simp_all)
 have hck:w.zE u=((u.seen.all w.pK&&decide u.seen.Nodup)&&(jL u.names).all λr=>w.mI r&&decide (r∈u.seen)):=by unfold D4.zE;simp_all
 have LB:=hu.seen;refine cY mix (λs:Nat×List (Int×Int)=>s.1<=u.seen.length/\s.2.map (·.1)=u.seen.take s.1/\(∀f∈s.2,f.2=1)/\(u.seen.take s.1).Nodup/\(u.seen.take s.1).all w.pK=true) (I:=λs=>[(0,.d (.ip w.aT1)),(3,.lp 1 0),(5,.h 169),(33,.d (.sl 1 (iR u.seen))),(34,.d (ci u.seen.length)),(35,.d (ci s.1))])
  (J:=λs=>[(1,.cells false (u.aT1.map A.d)),(169,.mp false (iZ s.2) [])]) (μ:=λs=>u.seen.length -s.1) 1000 (0,[]) 0
  (λF:List (Int×Int)=>F.map (·.1)=u.seen/\(∀f∈F,f.2=1)/\(u.seen.all w.pK&&decide u.seen.Nodup)=true) (λF=>[(0,.d (.ip w.aT1)),(3,.lp 1 0),(5,.h 169)]) (λF=>[(1,.cells false (u.aT1.map A.d)),(169,.mp false (iZ F) [])]) 2000 ⟨sM,sM,sM,sM,sM⟩ mZ ?_ ?_
 ·rintro⟨i,F⟩ ⟨g1,g2,g3,g4,g5⟩;dsimp only at g1 g2 g3 g4 g5⊢;have hcb:∀r,0<=cR F r/\cR F r<=1:=λr=>by
   cases hh:kJ F r with
   |true=>obtain⟨f,k1,k2,k3⟩:=rT F r hh;have:=g3 f k1;omega
   |false=>rw[uC F r hh];omega
  repeat'(first|refine bl ?_|refine bS (λh=>?_) (λh=>?_)|refine cD rfl eD aM (bw ?_))
  ·have cX:i<u.seen.length:=aM;have TW:=hcb u.seen[i];have J3:=aT cX;have aX4:w.pK u.seen[i]=false->w.zE u=false:=λe=>by
    rw[hck];have:u.seen.all w.pK=false:=by rw[iA];exact⟨_,aY cX,by simp[e]⟩
    rw[this];simp
   have hme:u.seen[i]∈u.seen.take i->w.zE u=false:=λhm=>by
    have hn:¬u.seen.Nodup:=λhn=>by
     obtain⟨j,hj,e⟩:=dH.1 hm;rw[cW]at hj;rw[List.getElem_take]at e;have:=(jB hn).1 e;omega
    rw[hck,aU0 hn];simp
   generalize u.seen[i]=r at TW J3 aX4 hme⊢;refine lkC eD (λh=>h) ?_;conv=>whnf
   refine bl ?_;refine aBP eD (λhh=>?_) (λhh=>?_)
   ·conv=>whnf
    have hr:r∈u.seen.take i:=by rw[<-g2];exact mP.1 hh
    repeat'(first|refine bl ?_|refine bS (λh=>?_) (λh=>?_)|refine aF (sB w _) (bw ?_)|refine aF (ZC w hw.togA hw.EP hw.pl hw.ml hw.cl) (bw ?_)|refine lkE (EE F r (cR F r+1)) eD (λh=>h) (bw ?_))
    all_goals first
     |exact pG _ (hme hr)
     |(exfalso
       rw[PQ F r _ r hh,aUF rfl]at h;obtain⟨f,hf,_,k3⟩:=rT F r hh
       have:=g3 f hf;omega)
   ·conv=>whnf
    have hr:r∉u.seen.take i:=λe=>by rw[<-g2]at e;rw[mP.2 e]at hh;cases hh
    repeat'(first|refine bl ?_|refine bS (λh=>?_) (λh=>?_)|refine aF (sB w _) (bw ?_)|refine aF (ZC w hw.togA hw.EP hw.pl hw.ml hw.cl) (bw ?_)|refine lkE (vP F r (cR F r+1)) eD (λh=>h) (bw ?_))
    all_goals first
     |exact pG _ (aX4 (aIG aM))
     |exact pG _ (aX4 (aIH aM aM))
     |(exfalso
       rw[PN F r _ r hh,aUF rfl,uC F r hh]at h
       omega)
     |(have hso:w.pK r=true:=by first|exact aII aM aM|exact aIJ aM aM
       refine⟨(i+1,F++[(r,cR F r+1)]),dM,⟨dM,by dsimp only;rw[bP,g2,J3];rfl,?_,?_,?_⟩,?_⟩
       · dsimp only
         intro f hf;rcases bN.1 hf with hf|hf
         · exact g3 f hf
         · rw[aR.1 hf,uC F r hh];rfl
       · dsimp only
         rw[J3];refine iS.2 ⟨g4,sM,λx hx y hy e=>?_⟩;rw[aR.1 hy]at e;exact hr (e▸hx)
       · dsimp only
         rw[J3,gQ,g5];simp[hso]
       · have aZJ:=vP F r (cR F r+1)
         (refine cN.swap 5000 5001 ?_ ?_ ?_ ?_ ?_<;>repeat'(first|exact aW|exact rfl|exact sn|exact aZ|exact wW|exact IK rfl|exact cO rfl rfl|exact aD4 rfl|exact KS rfl rfl|exact aEP|(refine qD ?_;simp only[aB,bE];done)|(refine aDO ?_;(try dsimp only);omega)|refine bI ?_ ?_))
         all_goals first|exact aEP|exact KS rfl aZJ)
  ·rw[aI oM]at g2 g4 g5;exact⟨F,⟨g2,g3,by rw[g5,aUZ g4];rfl⟩,mZ⟩
 rintro F ⟨f1,f2,f3⟩;refine bl ?_;rw[f3,cA]at hck;have hnb:∀i(h:i<u.names.length),u.names[i].value.cR<=2^35:=λi h=>by
  have:=V.dG (u.names.map (·.value)) i (by simpa using h);rw[fO]at this;have:=hu.names;omega
 have E0:=hu.nlen;have aWE:∀r,0<cR F r↔r∈u.seen:=λr=>by
  rw[<-f1];constructor
  ·intro hc;cases hh:kJ F r with
   |true=>exact mP.1 hh
   |false=>rw[uC F r hh]at hc;omega
  ·intro hm;obtain⟨f,k1,k2,k3⟩:=rT F r (mP.2 hm);have:=f2 f k1;omega
 have hcb:∀r,0<=cR F r/\cR F r<=1:=λr=>by
  cases hh:kJ F r with
  |true=>obtain⟨f,k1,k2,k3⟩:=rT F r hh;have:=f2 f k1;omega
  |false=>rw[uC F r hh];omega
 refine cY mix (λi:Nat=>i<=u.names.length/\(jL (u.names.take i)).all (λr=>w.mI r&&decide (r∈u.seen))=true) (I:=λi=>[(0,.d (.ip w.aT1)),(5,.h 169),(66,.d (.sl 6 (u.names.map N4.aT1))),(67,.d (ci u.names.length)),(68,.d (ci i))])
  (J:=λi=>[(169,.mp false (iZ F) [])]) (μ:=λi=>u.names.length -i) 3000 0 2
  (λ_:Unit=>(jL u.names).all (λr=>w.mI r&&decide (r∈u.seen))=true) (λF=>[]) (λF=>[]) 6000 ⟨oM,by simp[jL]⟩ mZ ?_ ?_
 ·rintro i ⟨hi,h0⟩
  repeat'(first|refine bl ?_|refine bS (λh=>?_) (λh=>?_)|refine cD rfl eD aM (bw ?_)|refine dR (jG u.names[i].value (by have:=hnb i aM;omega)) (.cons (.agg u.names[i].value.aT1) .nil) (bw ?_))
  ·have cX:i<u.names.length:=aM;have eB:jL (u.names.take (i+1))=jL (u.names.take i)++u.names[i].value.eI:=by
    unfold jL;rw[aT cX,bP,fJ];simp
   have aVM:∀r∈u.names[i].value.eI,r∈jL u.names:=λr hr=>by
    unfold jL;exact List.mem_flatten.2 ⟨_,aA4.2 ⟨_,aY cX,rfl⟩,hr⟩
   have aX4:∀r∈u.names[i].value.eI,(w.mI r&&decide (r∈u.seen))=false->w.zE u=false:=λr hr e=>by
    rw[hck,iA];exact⟨r,aVM r hr,by rw[e];simp⟩
   have hrl:=u.names[i].value.iY;have a24:=hnb i cX;generalize u.names[i].value.eI=R at eB aX4 hrl;refine cY mix (λj:Nat=>j<=R.length/\(R.take j).all (λr=>w.mI r&&decide (r∈u.seen))=true) (I:=λj=>[(0,.d (.ip w.aT1)),(5,.h 169),(66,.d (.sl 6 (u.names.map N4.aT1))),(67,.d (ci u.names.length)),(68,.d (ci i)),(74,.d (.sl 1 (iR R))),(75,.d (ci R.length)),(76,.d (ci j))])
    (J:=λj=>[(169,.mp false (iZ F) [])]) (μ:=λj=>R.length -j) 4000 0 4
    (λ_:Unit=>R.all (λr=>w.mI r&&decide (r∈u.seen))=true) (λ_=>[(0,.d (.ip w.aT1)),(5,.h 169),(66,.d (.sl 6 (u.names.map N4.aT1))),(67,.d (ci u.names.length)),(68,.d (ci i))]) (λ_=>[(169,.mp false (iZ F) [])]) 5000 ⟨oM,sM⟩ mZ ?_ ?_
   ·rintro j ⟨hj,hj0⟩
    repeat'(first|refine bl ?_|refine bS (λh=>?_) (λh=>?_)|refine cD rfl eD aM (bw ?_)|refine aF (sB w _) (bw ?_)|refine lkC eD (λh=>h) (bw ?_))
    ·have hl2:j<R.length:=aM;exact pG _ (aX4 _ (aY hl2) (by rw[show w.mI R[j]=false by assumption];rfl))
    ·have hl2:j<R.length:=aM;have hz:cR F R[j]=0:=aM;refine pG _ (aX4 _ (aY hl2) ?_);rw[aU0 (λhm=>by have:=(aWE _).2 hm;omega)];simp
    ·have hl2:j<R.length:=aM;have hz:¬cR F R[j]=0:=aM;have wF:=hcb R[j];refine⟨j+1,oM,⟨oM,?_⟩,mZ⟩;rw[aT hl2,gQ,hj0,cA];simp only[o9,List.all_nil,o6];rw[show w.mI R[j]=true by assumption,aUZ ((aWE _).1 oM)];rfl
    ·rw[aI oM]at hj0;exact⟨(),hj0,mZ⟩
   rintro _ hR;refine bl ?_;refine⟨i+1,oM,⟨oM,by rw[eB,gQ,h0,hR];rfl⟩,mZ⟩
  ·rw[aI oM]at h0;exact⟨(),h0,mZ⟩
 rintro _ aWV;refine bl ?_;unfold D4.I9;rw[hck,aWV];exact oF rfl
theorem aCC{u:U4}(h:¬w.I9 u=0):w.zE u=false/\w.I9 u=190:=by
 unfold D4.I9 at*;cases hc:w.zE u<;>simp[hc]at h⊢
theorem XP{u:U4}(h:w.I9 u=0):w.zE u=true:=by
 unfold D4.I9 at*;cases hc:w.zE u<;>simp[hc]at h⊢
def D4.s8(w:D4)(l:List U4):Int:=if l.all w.zE=true then 0 else 190
theorem yG(w:D4)(hw:w.qV)(l:List U4)(hl:l.length<=2^30)(hu:∀i(h:i<l.length),l[i].gA):Pu 45 [.d (.ip w.aT1),.d (.sl 4 (l.map U4.aT1))] (.d (ci (w.s8 l))):=by
 have hsd:=hw.sides;refine iC mix Tryz.func45 ?_
 repeat'(first|refine bl ?_|refine bS (λh=>?_) (λh=>?_)|refine aF (o4 w) (bw ?_))
 ·exfalso;simp_all
 refine bV mix (λi:Nat=>i<=l.length/\(l.take i).all w.zE=true) (I:=λi=>[(0,.d (.ip w.aT1)),(15,.d (.sl 4 (l.map U4.aT1))),(16,.d (ci l.length)),(17,.d (ci i))])
  (J:=λi=>[]) (μ:=λi=>l.length -i) 1000 0 ⟨oM,sM⟩ mZ ?_
 rintro i ⟨hi,h0⟩
 repeat'(first|refine bl ?_|refine bS (λh=>?_) (λh=>?_)|refine cD rfl eD aM (bw ?_)|refine dR (aA9 w hw l[i] (hu i aM)) (.cons (.same _) (.cons (.agg l[i].aT1) .nil)) (bw ?_))
 ·have cX:i<l.length:=aM;obtain⟨c1,c2⟩:=aCC (show ¬w.I9 l[i]=0 by assumption);have e:w.s8 l=190:=by
   unfold D4.s8;rw[aT7];intro h;rw[cV.1 h _ (aY cX)]at c1;cases c1
  rw[e,c2];exact oF rfl
 ·have cX:i<l.length:=aM;refine⟨i+1,oM,⟨oM,?_⟩,mZ⟩;rw[aT cX,gQ,h0];simp[XP (show w.I9 l[i]=0 by assumption)]
 ·rw[aI oM]at h0;unfold D4.s8;rw[aUF h0];exact oF rfl
theorem IG(u:U4):(jL u.names).length<=V.dB (u.names.map (·.value)):=by
 have h1:=qN (u.names.map (·.value));rw[bH]at h1;exact h1
theorem aH6(w:D4)(hw:w.qV)(u:U4)(hu:u.gA):Pu 28 [.d (.ip w.aT1),.d (.agg u.aT1)] (.eL [.d (.sl 1 (iR (if w.zE u=true then oZ (jL u.names)else []))),.d (ci (w.I9 u))]):=by
 have hn:=hu.names;have E0:=hu.nlen;refine iC mix Tryz.func28 ?_;have aX5:∀i(h:i<[u].length),[u][i].gA:=λi h=>match i,h with
  |0,_=>hu
 have hm:=yG w hw [u] sM aX5;have hme:w.s8 [u]=w.I9 u:=by unfold D4.s8 D4.I9;simp
 rw[hme]at hm
 repeat'(first|refine bl ?_|refine bS (λh=>?_) (λh=>?_)|(refine fU (cs:=[.ip w.aT1,.sl 4 [u.aT1]]) hm (.v _) (.cons (.d _) (.cons (.os rfl (D6.data _ [u.aT1])) .nil)) ?_;(conv=>whnf))|refine aF (D0 u.names oM) (bw ?_)|refine aF (aPU (jL u.names) (by have:=IG u;omega)) (bw ?_))
 ·have hz:=aCC (show ¬w.I9 u=0 by assumption);rw[hz.1,aT7 gO];exact .eL (cs:=[.sl 1 [],ci _]) (.cons (.nz _ _) (.cons (.d _) .nil))
 ·have hz:w.I9 u=0:=aM;rw[XP hz,aUF rfl,hz];exact .eL (cs:=[.sl 1 _,ci 0]) (.cons (.d _) (.cons (.d _) .nil))
def over(A:List Int)(i:Nat):List Int:=List.replicate i 77++A.drop i
theorem aEI(A:List Int)(i:Nat)(h:i<=A.length):(over A i).length=A.length:=by unfold over;simp;omega
theorem aEH(A:List Int)(i:Nat)(h:i<A.length):(over A i)[i]?=some A[i]:=by
 unfold over;rw[bO sM];simp[h]
theorem aEJ(A:List Int)(i:Nat)(h:i<A.length):(over A i).set i 77=over A (i+1):=by
 unfold over;rw[List.set_append_right _ _ sM,List.replicate_succ',bG,aS,Nat.sub_self,dE h];rfl
theorem aNS(A:List Int)(i:Nat)(h:i<A.length):(bE (iR (over A i)))[i]?=some [.d (ci A[i])]:=by
 refine gB _ _ [ci A[i]] ?_;rw[cK,aEH A i h];rfl
theorem aBJ(A:List Int)(i:Nat)(h:i<A.length):(bE (iR (over A i))).set i [.d (ci 77)]=bE (iR (over A (i+1))):=by
 rw[<-aEJ A i h];simp only[bE,qS];rfl
theorem aIC(A:List Int)(hA:A.length<=2^38):aJ Tryz.prog 13 [.h 0,.d (.sl 1 (iR A))] (aK [(0,dU 25 1 (iR A))]) (.ok (.d (cb true))) (aH (aK [(0,dU 25 1 (iR A))]) [(0,dU 25 1 (iR (over A A.length)))]):=by
 refine wE mix 1000 Tryz.func13 tV ⟨aZ,tV⟩ ?_
 repeat'(first|refine bl ?_|refine bS (λh=>?_) (λh=>?_))
 ·exact absurd (by simp[bE]) h
 refine bV mix (λi:Nat=>i<=A.length) (I:=λi=>[(0,.h 0),(1,.d (.sl 1 (iR A))),(5,.d (cb true)),(6,.d (ci i))]) (J:=λi=>[(0,dU 25 1 (iR (over A i)))]) (μ:=λi=>A.length -i) 1000 0 oM mZ ?_;intro i hi;have hol:=aEI A i hi;have aZI:i<(bE (iR (over A i))).length->i<A.length:=λh=>by simp only[bE,aB]at h;omega
 repeat'(first|refine bl ?_|refine bS (λh=>?_) (λh=>?_))
 ·have cX:=aZI aM
  repeat'(first|refine bl ?_|refine lG.mk i rfl (by simp only[bE,aB];omega) (bw ?_)|(refine fZ.mk _ (aNS A i cX) ?_;(conv=>whnf))|refine cD rfl eD cX (bw ?_))
  refine⟨i+1,oM,oM,?_⟩;rw[aUZ (rfl:A[i]=A[i])];refine mq 5000 5001 ?_
  all_goals exact cO rfl (aBJ A i cX)
 ·obtain rfl:i=A.length:=by simp only[bE,aB]at h;omega
  exact em
theorem Q9(w:D4)(xl:Int):∀(T:List T4)(q:Int),ZE w xl T q=true->(∀t∈T,w.AA t.bQ=true)/\(T.map (·.ref)).Pairwise (· <·)
 |[],q,h=>sM
 |t::r,q,h=>by
  simp only[ZE,aE,aUA]at h;obtain⟨h1,h2⟩:=Q9 w xl r t.ref h.2;obtain⟨h3,_⟩:=xN w xl r t.ref h.2;refine⟨λu hu=>?_,?_⟩
  ·rcases aO.1 hu with rfl|hu
   ·exact h.1.2
   ·exact h1 u hu
  ·rw[aG,kR];refine⟨λa ha=>?_,h2⟩;obtain⟨u,hu,rfl⟩:=aA4.1 ha;exact h3 u hu
structure RI(x:X4):Prop where
 b:y9 x=true
 made:x.made.length=x.parents.length+1
 th:ZE (oD x.parents (DU x) []) x.last x.aT4 0=true
 snd:(oD x.parents (DU x) x.aT4).sH=true
theorem aL0{x:X4}(h:y9 x=true):RI x:=by
 have h0:=h;unfold y9 at h0;simp only[aE,aUA]at h0;obtain⟨_,_,h3,_,h5,h6⟩:=h0;refine⟨h,h3,h5,?_⟩;unfold YB at h6;simp only[aE]at h6;exact h6.2.2.2.1
theorem vM:w.mI r=true↔r∈w.aP:=by
 unfold D4.mI D4.find D4.aP;rw[List.find?_isSome];constructor
 ·rintro⟨t,h1,h2⟩;exact aA4.2 ⟨t,h1,by simpa using h2⟩
 ·intro h;obtain⟨t,h1,rfl⟩:=aA4.1 h;exact⟨t,h1,sM⟩
theorem J1{x:X4}(h:RI x)(aXR:∀t∈x.aT4,t.bQ.cR<=2^20)(hlen:x.aT4.length<=60)(hpl:x.parents.length<=40):(bJ x).qV where
 cR:=λt ht=>cL (aXR t ht) (bD rfl)
 len:=by show x.aT4.length<=2^30;omega
 nodup:=(xN _ _ _ _ h.th).2
 may:=λt ht=>by
  obtain⟨a,b,c,_⟩:=NS ((Q9 _ _ _ _ h.th).1 t ht);exact⟨a,b,c⟩
 sides:=by show 0<x.made.length;rw[h.made];omega
 EP:=(Q9 _ _ _ _ h.th).2
 pl:=by show x.parents.length<=2^38;omega
 ml:=by show x.made.length<=2^38;rw[h.made];omega
 cl:=by
  show(xY (oW x.parents) x.aU3).length<=2^36;rw[RX];unfold oW;rw[aS];omega
 pos:=(xN _ _ _ _ h.th).1
variable{x:X4}{l:List U4}
theorem KB{L:List (List Int)}{B:Nat}(h:∀e∈L,e.length<=B):L.flatten.length<=L.length*B:=by
 induction L with
 |nil=>simp
 |cons a L ih=>
  have:=h a sM;have:=ih λe he=>h e (by simp[he]);rw[dL,aU,aQ,fS,Nat.one_mul];omega
open Classical in

theorem aAU:RK (yI Tryz.prog aA0 60 (.fn 9) [] .nil 1) (.d (cb true))=true:=kK
theorem D9:Pu 9 [] (.d (cb true)):=zO mix aAU rfl
open Go.Proofs.YtpdcbahjjmooiaaGreat (Rows.uptoBulk Rows.uptoBulkAll)
abbrev rI{H:Type}(d:DataW H):Nat:=Rows.uptoBulk d
abbrev rZ{H:Type}(l:List (DataW H)):Nat:=Rows.uptoBulkAll l
section
variable{H:Type}(enc:TypeId×Value->H)(P:Program)(w:World)
def sL(l:List C)(cs:List Value):Prop:=C.bR w (λ_=>False) l cs/\∀y∈cs,y.oneCell'=true
def xF(n:Nat)(t:TypeId)(cs:List Value)(d:DataW H):Prop:=∃ps,DataW.trod enc P w 0 (λ_=>true) true n t cs=some (d,ps)
def TrF(n:Nat):List TypeId->List Value->List (DataW H)->Prop
 |[],cs,ds=>cs=[]/\ds=[]
 |t::ts,cs,ds=>∃a b d r,cs=a++b/\ds=d::r/\xF enc P w n t a d/\TrF n ts b r
end
section
variable{H:Type}{enc:TypeId×Value->H}{P:Program}{w:World}
theorem sL.app{l m:List C}{a b:List Value}(h:sL w l a)(h':sL w m b):sL w (l++m) (a++b):=by
 refine⟨C.iH h.1 h'.1,λy hy=>?_⟩;rcases bN.1 hy with e|e
 ·exact h.2 y e
 ·exact h'.2 y e
theorem sL.nil:sL w [] []:=⟨by simp[C.bR],sM⟩
theorem sL.one{x:Value}(h:x.oneCell'=true):sL w [.v x] [x]:=by
 refine⟨?_,by simpa using h⟩;simp[C.bR,C.Den]
theorem sL.len{l:List C}{a:List Value}(h:sL w l a):l.length=a.length:=(C.c9.1 h.1).1
theorem kQ{k:IntKind}{d:DataW H}(ht:P.underlying t=some (.int k))(h:xF enc P w n t cs d):∃i,sL w [.v (.int k i)] cs/\1<=rI d/\k.min<=i/\i<=k.max:=by
 obtain⟨ps,h⟩:=h;obtain⟨i,rfl,hx,hw⟩:=DataW.trod_int ht h;simp only[aD]at hx;simp only[Lit.wf,aE,aUA]at hw;exact⟨i,sL.one rfl,by rw[hx.1];simp[rI,Rows.uptoBulk],hw.1,hw.2⟩
theorem aIP{d:DataW H}(ht:P.underlying t=some .bool)(h:xF enc P w n t cs d):∃b,sL w [.v (.bool b)] cs/\1<=rI d:=by
 obtain⟨ps,h⟩:=h;obtain⟨i,rfl,hx⟩:=DataW.trod_bool ht h;simp only[aD]at hx;exact⟨i,sL.one rfl,by rw[hx.1];simp[rI,Rows.uptoBulk]⟩
theorem GX{d:DataW H}(ht:P.underlying t=some .string)(h:xF enc P w n t cs d):∃s,sL w [.v (.string s)] cs/\1<=rI d:=by
 obtain⟨ps,h⟩:=h;cases n with
 |zero=>simp[DataW.trod]at h
 |succ n=>
  unfold DataW.trod at h;rw[ht]at h;split at h<;>try(simp at h;done)
  all_goals(rename_i hu;try(cases hu;done))
  rename_i s;split at h
  ·simp only[aA,aD]at h;exact⟨_,sL.one rfl,by rw[<-h.1];simp[rI,Rows.uptoBulk]⟩
  ·cases h
theorem aP0{b:Nat}:∀{l:List C}{cs:List Value}{off:Nat},sL w l cs->(∀i,i<cs.length->w.cell? ⟨b,off+i,none⟩=cs[i]?)->C.sS w (λ_=>False) b off l
 |[],cs,off,_,_=>by simp[C.sS]
 |c::l,cs,off,h,hc=>by
  obtain⟨h1,h2⟩:=h;simp only[C.bR]at h1;obtain⟨y,yr,rfl,hy,hr⟩:=h1;simp only[C.sS];refine⟨⟨y,by simpa using hc 0 sM,h2 y sM,hy⟩,?_⟩;refine aP0 (l:=l) (cs:=yr) ⟨hr,λz hz=>h2 z (by simp[hz])⟩ λi hi=>?_;have:=hc (i+1) zM;rw[show off+1+i=off+(i+1) by omega,this];simp
theorem mE(d:DataW H)(r:List (DataW H)):rZ (d::r)=rI d+rZ r:=by simp[rZ,rI,Rows.uptoBulkAll]
theorem RO{a:Addr}(h:a.spot=none)(i:Nat):a.add i=⟨a.block,a.off+i,none⟩:=by
 unfold Addr.add;cases a;simp only at h;subst h;split<;>simp_all
theorem ZH{α:Type}{row:α->List C}{m:α->Nat}{p:α->Prop}{n:Nat}{e:TypeId}{es:Nat}{a:Addr}(aWU:0<es)(ha:a.spot=none)
 (ih:∀cs(d:DataW H),xF enc P w n e cs d->∃x,sL w (row x) cs/\m x<=rI d/\p x):∀(els:List (DataW H×List MemPlace))(k:Nat),
 (∀i,i<els.length->(w.cells? 0 (a.add ((k+i)*es)) es).bind (DataW.trod enc P w 0 (λ_=>true) true n e)=els[i]?)->
 ∃l:List α,l.length=els.length/\C.lS w (λ_=>False) a.block es (a.off+k*es) (l.map row)/\(l.map m).sum<=rZ (els.map (·.1))/\∀x∈l,p x
 |[],k,h=>⟨[],rfl,by simp[C.lS],sM,sM⟩
 |x::els,k,h=>by
  have h0:=h 0 sM;simp only[iE,iK,Option.bind_eq_some_iff]at h0;obtain⟨cs,TW,htr⟩:=h0;obtain⟨y,hy,hm,hp⟩:=ih cs x.1 ⟨x.2,htr⟩
  obtain⟨l,hl,hd,hs,hq⟩:=ZH aWU ha ih els (k+1) (λi hi=>by
   have:=h (i+1) zM;rw[show k+(i+1)=k+1+i by omega]at this
   rw[this];simp)
  obtain⟨_,hlen,aW7⟩:=World.cells?_some TW;refine⟨y::l,by simp[hl],?_,?_,?_⟩
  ·simp only[aG,C.lS];refine⟨by rw[hy.len,hlen],aP0 hy λi hi=>?_,?_⟩
   ·rw[<-aW7 i oM,RO ha,RO (by rfl)]
   ·rw[show a.off+k*es+es=a.off+(k+1)*es by rw[gY];omega];exact hd
  ·simp only[aG,gU,mE];omega
  ·intro z hz;rcases aO.1 hz with e|e
   ·exact e▸hp
   ·exact hq z e
theorem oV{α:Type}(row:α->List C)(m:α->Nat)(p:α->Prop){n:Nat}{t e:TypeId}(es:Nat){cs:List Value}{d:DataW H}(ht:P.underlying t=some (.slice e))(wP:P.cellsOf e=es)(aWU:0<es)
 (ih:∀k,k<n->∀cs(d:DataW H),xF enc P w k e cs d->∃x,sL w (row x) cs/\m x<=rI d/\p x)(h:xF enc P w n t cs d):
 ∃l:List α,sL w [.sl es (l.map row)] cs/\(l.map m).sum+1<=rI d/\∀x∈l,p x:=by
 obtain⟨ps,h⟩:=h;rcases DataW.trod_slice ht h with⟨rfl,hx⟩|⟨a,len,cap,elems,rest,k,rfl,rfl,hx,_,hl,_,hlen,O2,_,_⟩
 ·simp only[aD]at hx;refine⟨[],⟨?_,by simp[Value.oneCell']⟩,by rw[hx.1];simp[rI,Rows.uptoBulk],sM⟩;simp[C.bR,C.Den]
 ·simp only[aD]at hx;rw[wP]at O2;have hb:rI d=rZ (elems.map (·.1))+rZ (rest.map (·.1))+1:=by rw[hx.1];simp[rI,rZ,Rows.uptoBulk]
  cases elems with
  |nil=>
   simp only[cS]at hlen;subst hlen;refine⟨[],⟨?_,by simp[Value.oneCell']⟩,zM,sM⟩;simp[C.bR,C.Den]
  |cons x elems=>
   have h0:=O2 0 (by rw[<-hlen];simp);simp only[Nat.zero_mul,iK,Option.bind_eq_some_iff]at h0;obtain⟨cs,TW,_⟩:=h0;obtain⟨_,_,aW7⟩:=World.cells?_some TW;have hc0:=aW7 0 aWU;rw[show(a.add 0).add 0=a by simp[Addr.add]]at hc0;have n0:cs.length=es:=(World.cells?_some TW).2.1;rw[aC oM]at hc0;unfold World.cell? at hc0;have ha:a.spot=none/\a.block<w.heap.size:=by
    split at hc0
    ·rename_i heq;split at hc0
     ·cases hc0
     ·rename_i hs;exact⟨by simpa using hs,(aL.1 heq).1⟩
    ·cases hc0
   obtain⟨l,hll,hd,hs,hq⟩:=ZH (row:=row) (m:=m) (p:=p) aWU ha.1 (ih k oM) (x::elems) 0 (λi hi=>by rw[fF];exact O2 i (by rw[<-hlen];exact hi));refine⟨l,⟨?_,by simp[Value.oneCell']⟩,oM,hq⟩;simp only[C.bR,C.Den];refine⟨_,[],rfl,⟨some a,cap,?_,?_,eV ⟨a.block,a.off,?_,λe=>e,ha.2,?_⟩⟩,rfl⟩
   ·rw[aB,hll,hlen]
   ·rw[aB,hll,hlen];exact hl
   ·cases a;simp_all
   ·simpa using hd
def u7(P:Program)(t:TypeId):Option (List TypeId):=match P.underlying t with
 |some (.struct fs)=>if go fs.toList 0 (P.cellsOf t)then some (fs.toList.map (·.type))else none
 |_=>none
where go:List Field->Nat->Nat->Bool
 |[],k,n=>k==n
 |f::r,k,n=>f.offset==k&&go r (k+P.cellsOf f.type) n
theorem ZG{n:Nat}{N:Nat}{cs:List Value}:∀(fs:List Field)(k:Nat)(xs:List (DataW H×List MemPlace)),u7.go P fs k N=true->cs.length=N->xs.length=fs.length->
 (∀(i:Nat)(f:Field),fs[i]?=some f->DataW.trod enc P w 0 (λ_=>true) true n f.type ((cs.drop f.offset).take (P.cellsOf f.type))=xs[i]?)->
 TrF enc P w n (fs.map (·.type)) (cs.drop k) (xs.map (·.1))
 |[],k,xs,hg,hl,hx,h=>by
  simp only[u7.go,beq_iff_eq]at hg;cases xs with
  |nil=>exact⟨zM,rfl⟩
  |cons=>simp at hx
 |f::fs,k,xs,hg,hl,hx,h=>by
  simp only[u7.go,aE,beq_iff_eq]at hg;cases xs with
  |nil=>simp at hx
  |cons x xs=>
   have h0:=h 0 f sM;rw[hg.1]at h0;refine⟨(cs.drop k).take (P.cellsOf f.type),cs.drop (k+P.cellsOf f.type),x.1,xs.map (·.1),?_,rfl,⟨x.2,by rw[h0];simp⟩,?_⟩
   ·rw[<-List.drop_drop,gJ]
   ·exact ZG fs _ xs hg.2 hl (by simpa using hx) λi f' hf=>by
     have:=h (i+1) f' (by simpa using hf);simpa using this
theorem p9{ts:List TypeId}{d:DataW H}(ht:u7 P t=some ts)(h:xF enc P w n t cs d):∃k ds,n=k+1/\rI d=rZ ds+1/\TrF enc P w k ts cs ds:=by
 obtain⟨ps,h⟩:=h;unfold u7 at ht;split at ht
 ·rename_i fs hfs;obtain⟨xs,k,hk,hx,hl,LR,hf⟩:=DataW.trod_struct hfs h;split at ht
  ·rename_i hg;cases ht;simp only[aD]at hx;exact⟨k,xs.map (·.1),hk,by rw[hx.1];simp[rI,rZ,Rows.uptoBulk],by simpa using ZG (enc:=enc) (w:=w) (n:=k) (cs:=cs) fs.toList 0 xs hg hl (by simpa using LR) (λi f h=>hf i f (by simpa using h))⟩
  ·cases ht
 ·cases ht
end
structure R4 where
 parents:List Int
 aU3:List Bool
 aT4:List T4
 last:Int
 made:List Int
def R4.aT1(w:R4):List C:=[.sl 1 (iR w.parents),.sl 1 (w.aU3.map λb=>[cb b]),.sl 17 (w.aT4.map T4.aT1),ci w.last,.sl 1 (iR w.made)]
def R4.find(w:R4)(r:Int):Option T4:=w.aT4.find? λt=>decide (t.ref=r)
def R4.mI(w:R4)(r:Int):Bool:=(w.find r).isSome
def R4.iI(w:R4)(r:Int):W4:=((w.find r).map (·.bQ)).getD W4.zero
theorem aSH{α:Type}(p:α->Bool)(L:List α)(i:Nat)(h:i<L.length)(h0:(L.take i).find? p=none)(hp:p L[i]=false):(L.take (i+1)).find? p=none:=by
 rw[aT h,y3,h0];simp[hp]
theorem aTS{α:Type}(p:α->Bool)(L:List α)(i:Nat)(h:i<L.length)(h0:(L.take i).find? p=none)(hp:p L[i]=true):L.find? p=some L[i]:=by
 have e:L=L.take i++L.drop i:=(gJ i L).symm;conv=>lhs;rw[e]
 rw[y3,h0,dE h,eN,hp];rfl
abbrev wH:List A:=[.d (.v (.int .u8 0)),.d (ci 0),.d (.v (.int .u8 0)),.d (ci 0),.d (.v (.string ByteArray.empty)),.d (.nl 5),.d (ci 0),.d (.nl 5),.d (ci 0),.d (ci 0),.d (ci 0),.d (ci 0),.d (.v (.int .u8 0)),.d (cb false),.d (.nl 17),.d (.nl 6)]
theorem zP(w:R4)(r:Int)(hl:w.aT4.length<=2^30):Pu 52 [.d (.ip w.aT1),.d (ci r)] (.eL [.d (.agg (w.iI r).aT1),.d (cb (w.mI r))]):=by
 refine iC mix Tryz.func52 ?_;refine bl ?_;refine bV mix (λi:Nat=>i<=w.aT4.length/\(w.aT4.take i).find? (λt=>decide (t.ref=r))=none) (I:=λi=>[(0,.d (.ip w.aT1)),(1,.d (ci r)),(4,.lp 1 0),(5,.d (cb false)),(6,.d (ci i))])
  (J:=λi=>[(1,.cells false wH)]) (μ:=λi=>w.aT4.length -i) 100 0 ⟨oM,rfl⟩ mZ ?_
 rintro i ⟨hi,h0⟩
 repeat'(first|refine bl ?_|refine bS (λh=>?_) (λh=>?_)|refine cD rfl eD aM (bw ?_))
 ·have cX:i<w.aT4.length:=aM;have hf:w.find r=some w.aT4[i]:=aTS _ _ i cX h0 (by simpa using‹w.aT4[i].ref=r›);have e1:w.iI r=w.aT4[i].bQ:=by unfold R4.iI;rw[hf];rfl
  have e2:w.mI r=true:=by unfold R4.mI;rw[hf];rfl
  rw[e1,e2];exact .eL (cs:=[.agg w.aT4[i].bQ.aT1,cb true]) (.cons (.agg (wJ.data _ w.aT4[i].bQ.aT1)) (.cons (.d _) .nil))
 ·have cX:i<w.aT4.length:=aM;exact⟨i+1,oM,⟨oM,aSH _ _ i cX h0 (by simpa using‹¬w.aT4[i].ref=r›)⟩,mZ⟩
 ·rw[aI oM]at h0;have hf:w.find r=none:=h0;have e1:w.iI r=W4.zero:=by unfold R4.iI;rw[hf];rfl
  have e2:w.mI r=false:=by unfold R4.mI;rw[hf];rfl
  rw[e1,e2];exact .eL (cs:=[.agg W4.zero.aT1,cb false]) (.cons (.agg aES) (.cons (.d _) .nil))
structure R4.wt(w:R4):Prop where
 len:w.aT4.length<=2^30
 cR:∀t∈w.aT4,t.bQ.cR<=2^35
 kind:∀t∈w.aT4,0<=t.bQ.kind/\t.bQ.kind<256
theorem R4.AF{w:R4}(h:w.wt)(r:Int):0<=(w.iI r).kind/\(w.iI r).kind<256:=by
 unfold R4.iI;cases hf:w.find r with
 |none=>exact⟨Int.le_refl _,(by decide:(0:Int)<256)⟩
 |some t=>exact h.kind t (cT hf)
def R4.zB(w:R4)(r:Int):Int:=(w.iI r).kind
theorem aQI(w:R4)(r:Int)(hw:w.wt):Pu 101 [.d (.ip w.aT1),.d (ci r)] (.d (ci (w.zB r))):=by
 refine iC mix Tryz.func101 ?_;obtain⟨h0,h1⟩:=R4.AF hw r
 repeat'(first|refine bl ?_|refine aF (zP w r hw.len) (bw ?_))
 exact .one (.d _)
def y5(k:Int):Bool:=decide (k=14)||(decide (k=15)||decide (k=16))
theorem aH5(k:Int):Pu 100 [.d (ci k)] (.d (cb (y5 k))):=by
 refine iC mix Tryz.func100 ?_
 repeat'(first|refine bl ?_|refine bS (λh=>?_) (λh=>?_))
 all_goals(refine dP ?_;simp_all[y5])
def R4.pX(w:R4):Nat->Int->List Int
 |0,_=>[]
 |n+1,r=>match w.find r with
  |none=>[]
  |some t=>r::(if y5 t.bQ.kind=true then w.pX n t.bQ.of else [])
def R4.CT(w:R4)(r:Int):List Int:=w.pX (w.aT4.length+1) r
theorem R4.aQU(w:R4):∀(n:Nat)(r:Int),(w.pX n r).length<=n
 |0,_=>by simp[R4.pX]
 |n+1,r=>by
  rw[R4.pX];split
  ·simp
  ·rw[aQ];split
   ·have:=R4.aQU w n (by assumption:T4).bQ.of;omega
   ·simp
theorem Rd.UN{m:Mem}{i:Nat}{es:Nat}{rows:List (List A)}{L:List (List C)}(h:m i=some (.fW false t es rows))(hr:rows=bE L):Rd m (.h i) (.sl es L):=.dU (by rw[h,hr];rfl)
theorem aUT{w:R4}(h:w.mI r=false):w.pX (n+1) r=[]:=by
 unfold R4.mI at h;rw[R4.pX];cases hf:w.find r with
 |none=>rfl
 |some t=>rw[hf]at h;cases h
theorem aSA{w:R4}(h:w.mI r=true)(hk:y5 (w.iI r).kind=false):w.pX (n+1) r=[r]:=by
 unfold R4.mI at h;unfold R4.iI at hk;rw[R4.pX];cases hf:w.find r with
 |none=>rw[hf]at h;cases h
 |some t=>rw[hf]at hk;simp only[dF,gZ]at hk;simp[hk]
theorem aUS{w:R4}(h:w.mI r=true)(hk:y5 (w.iI r).kind=true):w.pX (n+1) r=r::w.pX n (w.iI r).of:=by
 unfold R4.mI at h;unfold R4.iI at hk⊢;rw[R4.pX];cases hf:w.find r with
 |none=>rw[hf]at h;cases h
 |some t=>rw[hf]at hk;simp only[dF,gZ]at hk⊢;simp[hk]
theorem aVD(w:R4)(r:Int)(hw:w.wt):Pu 99 [.d (.ip w.aT1),.d (ci r)] (.d (.sl 1 (iR (w.CT r)))):=by
 have hlen:=hw.len;refine iC mix Tryz.func99 ?_;refine bl ?_;refine cY mix (λa:(Nat×Int)×List Int=>a.1.1<=w.aT4.length+1/\a.2.length<=a.1.1/\a.2++w.pX (w.aT4.length+1 -a.1.1) a.1.2=w.CT r) (I:=λa=>[(0,.d (.ip w.aT1)),(1,.d (ci a.1.2)),(5,lv 1 900 (iR a.2)),(6,.d (ci a.1.1))])
  (J:=λa=>lm 900 25 1 (iR a.2) []) (μ:=λa=>w.aT4.length+1 -a.1.1) 2000 ((0,r),[]) 0
  (λQ:List Int=>Q=w.CT r) (λQ=>[(5,dl Q)]) (λQ=>[]) 4000 ⟨sM,sM,by simp[R4.CT]⟩ mZ ?_ ?_
 ·rintro⟨⟨i,s⟩,Q⟩ ⟨hi,hQl,hQ⟩;dsimp only at hi hQl hQ⊢;obtain⟨hk0,hk1⟩:=R4.AF hw s;cases Q with
  |nil=>
   show vc _ _ _ _ _ [] _ _
   repeat'(first|refine bl ?_|refine bS (λh=>?_) (λh=>?_)|refine aF (zP w s hw.len) (bw ?_))
   ·have hwl:w.CT r=[]:=by
     rw[<-hQ,bZ];obtain⟨k,hk⟩:∃k,w.aT4.length+1 -i=k+1:=⟨w.aT4.length -i,oM⟩;rw[hk,aUT aM]
    rw[hwl];exact .one (.nz _ _)
   ·refine n8 (by simp only[cE,aS];omega) kK ?_;conv=>whnf
    refine E9.mk (λh1=>absurd h1 sM) (λh1=>?_);conv=>whnf
    repeat'(first|refine bl ?_|refine bS (λh=>?_) (λh=>?_)|refine aF (aH5 (w.iI s).kind) (bw ?_))
    ·have hwl:w.CT r=[s]:=by
      rw[<-hQ,bZ];obtain⟨k,hk⟩:∃k,w.aT4.length+1 -i=k+1:=⟨w.aT4.length -i,oM⟩;rw[hk,aSA aM aM]
     rw[hwl];exact .one (.dU (t:=25) rfl)
    ·refine⟨((i+1,(w.iI s).of),[s]),dM,⟨dM,sM,?_⟩,?_⟩
     ·dsimp only;rw[<-hQ];obtain⟨k,hk⟩:∃k,w.aT4.length+1 -i=k+1:=⟨w.aT4.length -i,oM⟩;rw[hk,aUS aM aM,show w.aT4.length+1 -(i+1)=k by omega];rfl
     ·dsimp only[iR,List.map_cons,List.map_nil,lv,lm];exact mv 2168 900
      all_goals exact cO rfl rfl
   ·refine⟨[],?_,mZ⟩;rw[<-hQ,show w.aT4.length+1 -i=0 by omega];rfl
  |cons q0 Q=>
   show vc _ _ _ _ _ [(900,dU 25 1 (iR (q0::Q)))] _ _
   repeat'(first|refine bl ?_|refine bS (λh=>?_) (λh=>?_)|refine aF (zP w s hw.len) (bw ?_))
   ·have hwl:w.CT r=q0::Q:=by
     rw[<-hQ];obtain⟨k,hk⟩:∃k,w.aT4.length+1 -i=k+1:=⟨w.aT4.length -i,oM⟩;rw[hk,aUT aM,dS]
    rw[hwl];exact .one (.dU (t:=25) rfl)
   ·refine n8 (by simp only[cE,aS,aB,bE];omega) kK ?_;conv=>whnf
    repeat'(first|refine bl ?_|refine bS (λh=>?_) (λh=>?_)|refine aF (aH5 (w.iI s).kind) (bw ?_))
    ·have hwl:w.CT r=q0::(Q++[s]):=by
      rw[<-hQ];obtain⟨k,hk⟩:∃k,w.aT4.length+1 -i=k+1:=⟨w.aT4.length -i,oM⟩;rw[hk,aSA aM aM];rfl
     rw[hwl];exact .one (Rd.UN (t:=25) rfl (gG (q0::Q) [s]))
    ·refine⟨((i+1,(w.iI s).of),q0::(Q++[s])),dM,⟨dM,by simp at hQl⊢;omega,?_⟩,?_⟩
     ·dsimp only;rw[<-hQ];obtain⟨k,hk⟩:∃k,w.aT4.length+1 -i=k+1:=⟨w.aT4.length -i,oM⟩;rw[hk,aUS aM aM,show w.aT4.length+1 -(i+1)=k by omega];simp
     ·dsimp only[iR,List.map_cons,List.map_nil,lv,lm];refine mq 2168 900 ?_
      all_goals exact cO rfl (gG (q0::Q) [s])
   ·refine⟨q0::Q,?_,cN.freeze [900] tV ⟨.rd (.dU (eX rfl rfl)),tV⟩ tV ⟨tV,tV⟩ tV⟩;rw[<-hQ,show w.aT4.length+1 -i=0 by omega];simp[R4.pX]
 ·rintro Q hQ;cases Q with
  |nil=>
   refine bl ?_;rw[<-hQ];exact .one (.nz _ _)
  |cons q0 Q=>
   refine bl ?_;rw[<-hQ];exact .one (.d _)
end Go.Pv
