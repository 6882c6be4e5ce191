import Derived.Test.YtpdcbahjjmooiaaGreatP18
/- A program logic over the model, contracts of the functions that the law reaches: part 19. (Names and blanks were shortened by program.) -/
set_option linter.unusedVariables false
set_option linter.unusedSimpArgs false
set_option linter.constructorNameAsVariable false
set_option linter.unusedSectionVars false
set_option linter.deprecated false
set_option maxRecDepth 100000
set_option maxHeartbeats 8000000
open Go Go.Proofs
namespace Go.Pv
open Go.RowKit
variable{st:Int->List Int}{to r:Int}{T:List Int}{F F0:List (Int×Int)}{w:D4}
abbrev kB(n:Int):Ky:=.one (.int .u8 n)
def CJ:List (Ky×A):=[(kB 1,.fn (.func 242) [] []),(kB 2,.fn (.func 244) [] []),(kB 3,.fn (.func 247) [] []),(kB 4,.fn (.func 248) [] []),(kB 5,.fn (.func 249) [] []),(kB 6,.fn (.func 250) [] []),(kB 7,.fn (.func 251) [] []),(kB 8,.fn (.func 252) [] []),(kB 9,.fn (.func 253) [] [])]
def P4:R:=.mp false CJ []
theorem NT:∀(m:Mem)(d:Nat),m d=none->aJ Tryz.prog 237 [] m (.ok (.h d)) (aX m d P4):=by
 refine iW mix (F:=A.h) (r:=P4) Tryz.func237 rfl kK (bD rfl) rfl rfl (λ_ _=>rfl) (λi j hj=>by simpa [A.hs]using hj) (λg=>rfl) ?_
 repeat'(first|refine bl ?_|refine aB4.BP kK kK (bw ?_))
 exact⟨_,rfl,rfl⟩
def S4.KM(v b:S4)(ok:Bool):Bool:=ok&&(decide (v.name=b.name)&&(decide (v.second=b.second)&&(decide (v.jR=b.jR)&&(decide (v.bQ=b.bQ)&&(decide (b.a.sV=v.a.sV)&&(decide (b.b.sV=v.b.sV)&&(decide (b.t.length=v.t.length)&&(decide (b.e.length=v.e.length)&&(decide (b.c.length=v.c.length)&&decide (b.w.length=v.w.length))))))))))
theorem aKC(v:S4)(hk:fL (kB v.op) CJ=none)(hf:kH Tryz.prog 203 (kB v.op) CJ=true):Pu 233 [.d (.agg v.aT1)] (.d (cb false)):=by
 refine iC mix Tryz.func233 ?_
 repeat'(first|refine bl ?_|refine xQ.fresh A.h P4 NT rfl (bw ?_))
 refine .BP hf hk ?_;conv=>whnf
 refine bl ?_;exact dP rfl
theorem aNF{v b:S4}{ok:Bool}(h1:ok=true)(h2:v.name=b.name)(h3:v.second=b.second)(h4:v.jR=b.jR)(h5:v.bQ=b.bQ)(h6:b.a.sV=v.a.sV)(h7:b.b.sV=v.b.sV)(h8:(b.t.length:Int)=v.t.length)(h9:(b.e.length:Int)=v.e.length)(h10:(b.c.length:Int)=v.c.length):
 decide ((b.w.length:Int)=v.w.length)=(ok&&(decide (v.name=b.name)&&(decide (v.second=b.second)&&(decide (v.jR=b.jR)&&(decide (v.bQ=b.bQ)&&(decide (b.a.sV=v.a.sV)&&(decide (b.b.sV=v.b.sV)&&(decide (b.t.length=v.t.length)&&(decide (b.e.length=v.e.length)&&(decide (b.c.length=v.c.length)&&decide (b.w.length=v.w.length))))))))))):=by
 rw[h1,aUZ h2,aUZ h3,aUZ h4,aUZ h5,aUZ h6,aUZ h7,aUZ (by omega:b.t.length=v.t.length),aUZ (by omega:b.e.length=v.e.length),aUZ (by omega:b.c.length=v.c.length),show decide ((b.w.length:Int)=v.w.length)=decide (b.w.length=v.w.length)from decide_eq_decide.2 oM];simp
theorem yN(v b:S4)(ok:Bool)(k:FuncId)(hk:fL (kB v.op) CJ=some (.fn (.func k) [] []))(hf:kH Tryz.prog 203 (kB v.op) CJ=true)(hc:Pu k [.d (.agg v.aT1)] (.eL [.d (.agg b.aT1),.d (cb ok)])):Pu 233 [.d (.agg v.aT1)] (.d (cb (v.KM b ok))):=by
 refine iC mix Tryz.func233 ?_
 repeat'(first|refine bl ?_|refine xQ.fresh A.h P4 NT rfl (bw ?_))
 refine .CL _ hf hk ?_;conv=>whnf
 repeat'(first|refine bl ?_|refine bS (λh=>?_) (λh=>?_)|refine dR hc (.cons (.agg v.aT1) .nil) (bw ?_)|refine jV (wS b.a) (.cons (.agg b.a.aT1) .nil) (bw ?_)|refine jV (wS b.b) (.cons (.agg b.b.aT1) .nil) (bw ?_)|refine jV (wS v.a) (.cons (.agg v.a.aT1) .nil) (bw ?_)|refine jV (wS v.b) (.cons (.agg v.b.aT1) .nil) (bw ?_))
 all_goals(refine dP ?_;unfold S4.KM;first|(simp_all;done)|(simp_all;omega;done)|(simp only[aB];exact aNF aM aM aM aM aM aM aM aM aM aM))
def S4.aKB(v:S4):Bool:=
 if v.op=1 then v.KM v.aIX v.aKL else if v.op=2 then v.KM v.aIY v.aKM else if v.op=3 then v.KM v.sU v.pL else if v.op=4 then v.KM v.aIZ v.aKN else if v.op=5 then v.KM v.aI0 v.aKO
 else if v.op=6 then v.KM v.aI1 v.aKP else if v.op=7 then v.KM v.aI2 v.aKQ else if v.op=8 then v.KM v.aI3 v.aKR else if v.op=9 then v.KM v.aI4 v.aKS else false
theorem Z9(x:Int):kH Tryz.prog 203 (kB x) CJ=true:=kK
theorem aFV(v:S4)(hv:v.cR<=2^38)(ha:0<=v.jR/\v.jR<256):Pu 233 [.d (.agg v.aT1)] (.d (cb v.aKB)):=by
 have hf:=Z9 v.op;have hv2:v.cR<=2^40:=oM;unfold S4.aKB;by_cases h1:v.op=1
 ·rw[aUF h1];exact yN v _ _ _ (by rw[h1];rfl) hf (aCZ v hv2 ha.1 ha.2)
 rw[aT7 h1];by_cases h2:v.op=2
 ·rw[aUF h2];exact yN v _ _ _ (by rw[h2];rfl) hf (aC0 v hv2 ha.1 ha.2)
 rw[aT7 h2];by_cases h3:v.op=3
 ·rw[aUF h3];exact yN v _ _ _ (by rw[h3];rfl) hf (aD2 v hv)
 rw[aT7 h3];by_cases h4:v.op=4
 ·rw[aUF h4];exact yN v _ _ _ (by rw[h4];rfl) hf (aC1 v hv2 ha.1 ha.2)
 rw[aT7 h4];by_cases h5:v.op=5
 ·rw[aUF h5];exact yN v _ _ _ (by rw[h5];rfl) hf (aC2 v hv2 ha.1 ha.2)
 rw[aT7 h5];by_cases h6:v.op=6
 ·rw[aUF h6];exact yN v _ _ _ (by rw[h6];rfl) hf (aC3 v hv2 ha.1 ha.2)
 rw[aT7 h6];by_cases h7:v.op=7
 ·rw[aUF h7];exact yN v _ _ _ (by rw[h7];rfl) hf (aC4 v hv2 ha.1 ha.2)
 rw[aT7 h7];by_cases h8:v.op=8
 ·rw[aUF h8];exact yN v _ _ _ (by rw[h8];rfl) hf (aC5 v hv2 ha.1 ha.2)
 rw[aT7 h8];by_cases h9:v.op=9
 ·rw[aUF h9];exact yN v _ _ _ (by rw[h9];rfl) hf (aC6 v hv2 ha.1 ha.2)
 rw[aT7 h9];refine aKC v ?_ hf;unfold CJ;simp only[fL,kB,Ky.one.injEq,KC.int.injEq,true_and,h1,h2,h3,h4,h5,h6,h7,h8,h9,if_false]
def S4.tl(v:S4)(n:Int):Bool×Int×Int:=if n=512 then(false,512,4)else if v.aKB=true then(true,0,0)else(false,n,160)
mutual
def S4.wk:S4->Int->Bool×Int×Int×Int
 |.mk op n1 n2 ab wh a b t e c w,n=>match S4.tl (.mk op n1 n2 ab wh a b t e c w) n with
  |(false,q)=>(false,n+1,q)
  |(true,_)=>match S4.vS t (n+1)with
   |(false,q)=>(false,q)
   |(true,m,_)=>match S4.vS e m with
    |(false,q)=>(false,q)
    |(true,m,_)=>S4.vS c m
def S4.vS:List S4->Int->Bool×Int×Int×Int
 |[],n=>(true,n,0,0)
 |v::r,n=>match S4.wk v n with
  |(false,q)=>(false,q)
  |(true,m,_)=>S4.vS r m
end
theorem S4.aLC(v:S4)(n:Int):v.wk n=match v.tl n with
 |(false,q)=>(false,n+1,q)
 |(true,_)=>match S4.vS v.t (n+1)with
  |(false,q)=>(false,q)
  |(true,m,_)=>match S4.vS v.e m with
   |(false,q)=>(false,q)
   |(true,m,_)=>S4.vS v.c m:=by cases v;rw[S4.wk];rfl
abbrev WE(q:Bool×Int×Int×Int):Prop:=0<=q.2.1/\q.2.1<=513/\(q.1=true->q.2.1<=512/\q.2.2=(0,0))
theorem S4.aF3(v:S4)(n:Int):(v.tl n).1=true->n≠512/\(v.tl n).2=(0,0):=by
 unfold S4.tl;split
 ·simp
 ·split
  ·intro;exact⟨aM,rfl⟩
  ·simp
mutual
theorem S4.aMY:∀(v:S4)(n:Int),0<=n->n<=512->WE (v.wk n)
 |.mk op n1 n2 ab wh a b t e c w,n,h0,h1=>by
  rw[S4.wk];have h2:=S4.aF3 (.mk op n1 n2 ab wh a b t e c w) n;generalize S4.tl (.mk op n1 n2 ab wh a b t e c w) n=q at h2⊢;obtain⟨x,y⟩:=q;cases x with
  |false=>simp[WE];omega
  |true=>
   have i1:=S4.wI t (n+1) oM (by have:=(h2 rfl).1;omega);dsimp only;generalize S4.vS t (n+1)=q at i1⊢;obtain⟨x,m,z⟩:=q;cases x with
   |false=>exact i1
   |true=>
    have i2:=S4.wI e m i1.1 (i1.2.2 rfl).1;dsimp only;generalize S4.vS e m=q2 at i2⊢;obtain⟨y,k,z2⟩:=q2;cases y with
    |false=>exact i2
    |true=>exact S4.wI c k i2.1 (i2.2.2 rfl).1
theorem S4.wI:∀(l:List S4)(n:Int),0<=n->n<=512->WE (S4.vS l n)
 |[],n,h0,h1=>by rw[S4.vS];simp[WE];omega
 |v::r,n,h0,h1=>by
  rw[S4.vS];have i1:=S4.aMY v n h0 h1;generalize S4.wk v n=q at i1⊢;obtain⟨x,m,z⟩:=q;cases x with
  |false=>exact i1
  |true=>exact S4.wI r m i1.1 (i1.2.2 rfl).1
end
theorem S4.aF9(l:List S4)(i:Nat)(h:i<l.length)(n:Int):S4.vS (l.drop i) n=match S4.wk l[i] n with
 |(false,q)=>(false,q)
 |(true,m,_)=>S4.vS (l.drop (i+1)) m:=by
 rw[dE h,S4.vS]
def AW(n a e:Int):List (Nat×R):=[(0,fV n),(1,fV a),(2,fV e)]
theorem ZT(v:S4)(hv:v.cR<=2^38)(ha:0<=v.jR/\v.jR<256)(q n d:Int):aJ Tryz.prog 232 [.d (ci n),.d (ci d),.d (.agg v.aT1),.lp 1 0,.lp 2 0] (aK (AW q 0 0)) (.ok (.d (cb (v.tl n).1))) (aH (aK (AW q 0 0)) [(1,fV (v.tl n).2.1),(2,fV (v.tl n).2.2)]):=by
 refine wE mix 100 Tryz.func232 tV ⟨tV,tV,tV⟩ ?_
 repeat'(first|refine bl ?_|refine bS (λh=>?_) (λh=>?_)|refine dR (aFV v hv ha) (.cons (.agg v.aT1) .nil) (bw ?_))
 all_goals(first
  |(have e:v.tl n=(false,512,4):=by unfold S4.tl;simp_all
    rw[e]
    subst_vars
    exact em;done)
  |(have e:v.tl n=(true,0,0):=by unfold S4.tl;simp_all
    rw[e]
    exact em;done)
  |(have e:v.tl n=(false,n,160):=by unfold S4.tl;simp_all
    rw[e]
    exact em;done)
  |skip)
mutual
def S4.ab:S4->Prop
 |.mk _ _ _ x _ _ _ t e c _=>(0<=x/\x<256)/\S4.RF t/\S4.RF e/\S4.RF c
def S4.RF:List S4->Prop
 |[]=>True
 |v::r=>S4.ab v/\S4.RF r
end
theorem S4.aJM(v:S4)(h:v.ab):(0<=v.jR/\v.jR<256)/\S4.RF v.t/\S4.RF v.e/\S4.RF v.c:=by cases v;exact h
theorem S4.XE:∀(l:List S4)(i:Nat)(h:i<l.length),S4.RF l->l[i].ab
 |v::r,0,h,hl=>hl.1
 |v::r,i+1,h,hl=>S4.XE r i (by simpa using h) hl.2
def wkB:List (List S4)->Int->Bool×Int×Int×Int
 |[],n=>(true,n,0,0)
 |b::r,n=>match S4.vS b n with
  |(false,q)=>(false,q)
  |(true,m,_)=>wkB r m
theorem S4.aB1(v:S4)(n:Int)(h0:0<=n)(h1:n<=512):v.wk n=match v.tl n with
 |(false,q)=>(false,n+1,q)
 |(true,_)=>wkB [v.t,v.e,v.c] (n+1):=by
 rw[S4.aLC];have h2:=S4.aF3 v n;generalize v.tl n=q at h2⊢;obtain⟨x,y⟩:=q;cases x with
 |false=>rfl
 |true=>
  have hb1:=S4.wI v.t (n+1) oM (by have:=(h2 rfl).1;omega);dsimp only;rw[wkB];generalize S4.vS v.t (n+1)=q1 at hb1⊢;obtain⟨x1,m1,z1⟩:=q1;cases x1 with
  |false=>rfl
  |true=>
   have hb2:=S4.wI v.e m1 hb1.1 (hb1.2.2 rfl).1;dsimp only;rw[wkB];generalize S4.vS v.e m1=q2 at hb2⊢;obtain⟨x2,m2,z2⟩:=q2;cases x2 with
   |false=>rfl
   |true=>
    have hb3:=S4.wI v.c m2 hb2.1 (hb2.2.2 rfl).1;dsimp only;rw[wkB];generalize S4.vS v.c m2=q3 at hb3⊢;obtain⟨x3,m3,z3⟩:=q3;cases x3 with
    |false=>rfl
    |true=>
     have:=(hb3.2.2 rfl).2;simp only at this;subst this;rfl
abbrev aM3(v:S4):List (List C):=[[jX v.t],[jX v.e],[jX v.c]]
abbrev UK:A:=.fn (.func 232) [] [.lp 1 0,.lp 2 0]
theorem R0(l:List S4)(hv:S4.dB l<=2^38)(ha:S4.RF l)(d n:Int)(hd:0<=d)(hd2:d+S4.dB l<=2^40)(h0:0<=n)(h1:n<=512):aJ Tryz.prog 231 [.d (jX l),.d (ci d),.lp 0 0,UK] (aK (AW n 0 0)) (.ok (.d (cb (S4.vS l n).1))) (aH (aK (AW n 0 0)) [(0,fV (S4.vS l n).2.1),(1,fV (S4.vS l n).2.2.1),(2,fV (S4.vS l n).2.2.2)]):=by
 have hl:=S4.eW l;refine wE mix 100 Tryz.func231 tV ⟨tV,tV,tV,tV⟩ ?_;refine bl ?_;refine bV mix (λa:Nat×Int=>a.1<=l.length/\(0<=a.2/\a.2<=512)/\S4.vS (l.drop a.1) a.2=S4.vS l n) (I:=λa=>[(1,.d (ci d)),(2,.lp 0 0),(3,UK),(14,.d (jX l)),(15,.d (ci l.length)),(16,.d (ci a.1))])
  (J:=λa=>AW a.2 0 0) (μ:=λa=>l.length -a.1) 100 (0,n) ⟨dM,⟨h0,h1⟩,rfl⟩ mZ ?_
 rintro⟨i,q⟩ ⟨hi,hqb,hq⟩;dsimp only at hi hq hqb⊢
 repeat'(first|refine bl ?_|refine bS (λh=>?_) (λh=>?_)|refine eE S4.cP rfl eD aM (bw ?_))
 ·exfalso;omega
 ·have hlt:i<l.length:=aM;have hcg:=S4.dG l i hlt;have hcd:=l[i].fA;have hab:=S4.XE l i hlt ha;have aZ5:=S4.aJM _ hab;have hdr:=S4.aF9 l i hlt q;rw[S4.aB1 _ _ hqb.1 hqb.2]at hdr;have hc1:=ZT l[i] oM aZ5.1 (q+1) q d;have htb:=S4.aF3 l[i] q;generalize S4.tl l[i] q=z at hc1 htb hdr;obtain⟨b,a1,e1⟩:=z;refine dZ.mk (.d (cb b)) [(1,fV a1),(2,fV e1)] ((aJ.l8 hc1 ⟨sn,sn,tV⟩ ⟨rfl,rfl,rfl,tV⟩ ⟨tV,tV,tV,tV⟩ ⟨.inl sn,.inl sn,tV⟩).mR (.cons (.same _) (.cons (.same _) (.cons (.agg l[i].aT1) (.cons (.same _) (.cons (.same _) .nil)))))) ?_;conv=>whnf
  cases b with
  |false=>
   refine bl ?_;have e:S4.vS l n=(false,q+1,a1,e1):=by rw[<-hq,hdr]
   rw[e];exact em
  |true=>
   obtain⟨hq5,h00⟩:=htb rfl;simp only[aD]at h00;obtain⟨rfl,rfl⟩:=h00;dsimp only at hdr;refine bl ?_;refine cY mix (λa:Nat×Int=>a.1<=3/\(0<=a.2/\a.2<=512)/\wkB ([l[i].t,l[i].e,l[i].c].drop a.1) a.2=wkB [l[i].t,l[i].e,l[i].c] (q+1)) (I:=λa=>[(1,.d (ci d)),(2,.lp 0 0),(3,UK),(14,.d (jX l)),(15,.d (ci l.length)),(16,.d (ci i)),(44,.h 900),(45,.d (ci 3)),(46,.d (ci a.1))])
    (J:=λa=>(900,dU 29 1 (aM3 l[i]))::AW a.2 0 0) (μ:=λa=>3 -a.1) 2000 (0,q+1) 2
    (λm:Int=>(0<=m/\m<=512)/\wkB [l[i].t,l[i].e,l[i].c] (q+1)=(true,m,0,0)) (λm=>[(1,.d (ci d)),(2,.lp 0 0),(3,UK),(14,.d (jX l)),(15,.d (ci l.length)),(16,.d (ci i))]) (λm=>AW m 0 0) 4000 ⟨dM,dM,rfl⟩ (mv 348 900) ?_ ?_
   ·rintro⟨j,m⟩ ⟨hj,hm,hw⟩;dsimp only at hj hm hw⊢;have step:∀b:List S4,S4.dB b<S4.dB l->S4.RF b->aJ Tryz.prog 231 [.d (jX b),.d (ci (d+1)),.lp 0 0,UK] (aK (AW m 0 0)) (.ok (.d (cb (S4.vS b m).1))) (aH (aK (AW m 0 0)) [(0,fV (S4.vS b m).2.1),(1,fV (S4.vS b m).2.2.1),(2,fV (S4.vS b m).2.2.2)]):=λb hb hb2=>R0 b oM hb2 (d+1) m oM oM hm.1 hm.2;obtain rfl|rfl|rfl|rfl:j=0\/j=1\/j=2\/j=3:=oM
    ·skip
     repeat'(first|refine bl ?_|refine lG.mk 0 rfl (by simp[bE]) (bw ?_))
     have hc2:=step l[i].t oM aZ5.2.1;have hb2:=S4.wI l[i].t m hm.1 hm.2;simp only[List.drop_succ_cons,n6]at hw;rw[wkB]at hw;generalize S4.vS l[i].t m=z at hc2 hb2 hw;obtain⟨b,m2,a2,e2⟩:=z;refine dZ.mk (.d (cb b)) [(0,fV m2),(1,fV a2),(2,fV e2)] (aJ.l8 hc2 ⟨sn,sn,sn,tV⟩ ⟨rfl,rfl,rfl,tV⟩ ⟨tV,tV,tV,tV⟩ ⟨.inl sn,.inl sn,.inl sn,tV⟩) ?_;conv=>whnf
     cases b with
     |false=>
      refine bl ?_;have e:S4.vS l n=(false,m2,a2,e2):=by rw[<-hq,hdr,<-hw]
      rw[e];exact em
     |true=>
      obtain⟨g1,g2,g3⟩:=hb2;obtain⟨g4,g5⟩:=g3 rfl;simp only[aD]at g5;obtain⟨rfl,rfl⟩:=g5;dsimp only at hw g1 g4;refine bl ?_;refine⟨(1,m2),dM,⟨dM,⟨g1,g4⟩,?_⟩,?_⟩
      ·dsimp only;exact hw
      ·exact mZ
    ·skip
     repeat'(first|refine bl ?_|refine lG.mk 1 rfl (by simp[bE]) (bw ?_))
     have hc2:=step l[i].e oM aZ5.2.2.1;have hb2:=S4.wI l[i].e m hm.1 hm.2;simp only[List.drop_succ_cons,n6]at hw;rw[wkB]at hw;generalize S4.vS l[i].e m=z at hc2 hb2 hw;obtain⟨b,m2,a2,e2⟩:=z;refine dZ.mk (.d (cb b)) [(0,fV m2),(1,fV a2),(2,fV e2)] (aJ.l8 hc2 ⟨sn,sn,sn,tV⟩ ⟨rfl,rfl,rfl,tV⟩ ⟨tV,tV,tV,tV⟩ ⟨.inl sn,.inl sn,.inl sn,tV⟩) ?_;conv=>whnf
     cases b with
     |false=>
      refine bl ?_;have e:S4.vS l n=(false,m2,a2,e2):=by rw[<-hq,hdr,<-hw]
      rw[e];exact em
     |true=>
      obtain⟨g1,g2,g3⟩:=hb2;obtain⟨g4,g5⟩:=g3 rfl;simp only[aD]at g5;obtain⟨rfl,rfl⟩:=g5;dsimp only at hw g1 g4;refine bl ?_;refine⟨(2,m2),dM,⟨dM,⟨g1,g4⟩,?_⟩,?_⟩
      ·dsimp only;exact hw
      ·exact mZ
    ·skip
     repeat'(first|refine bl ?_|refine lG.mk 2 rfl (by simp[bE]) (bw ?_))
     have hc2:=step l[i].c oM aZ5.2.2.2;have hb2:=S4.wI l[i].c m hm.1 hm.2;simp only[List.drop_succ_cons,n6]at hw;rw[wkB]at hw;generalize S4.vS l[i].c m=z at hc2 hb2 hw;obtain⟨b,m2,a2,e2⟩:=z;refine dZ.mk (.d (cb b)) [(0,fV m2),(1,fV a2),(2,fV e2)] (aJ.l8 hc2 ⟨sn,sn,sn,tV⟩ ⟨rfl,rfl,rfl,tV⟩ ⟨tV,tV,tV,tV⟩ ⟨.inl sn,.inl sn,.inl sn,tV⟩) ?_;conv=>whnf
     cases b with
     |false=>
      refine bl ?_;have e:S4.vS l n=(false,m2,a2,e2):=by rw[<-hq,hdr,<-hw]
      rw[e];exact em
     |true=>
      obtain⟨g1,g2,g3⟩:=hb2;obtain⟨g4,g5⟩:=g3 rfl;simp only[aD]at g5;obtain⟨rfl,rfl⟩:=g5;dsimp only at hw g1 g4;refine bl ?_;refine⟨(3,m2),dM,⟨dM,⟨g1,g4⟩,?_⟩,?_⟩
      ·dsimp only;exact hw
      ·exact mZ
    ·skip
     refine bl ?_;rw[dT sM,wkB]at hw;refine⟨m,⟨hm,hw.symm⟩,?_⟩;exact mZ
   rintro m ⟨hm,hw⟩;refine bl ?_;refine⟨(i+1,m),dM,⟨dM,hm,?_⟩,?_⟩
   ·dsimp only;rw[hw]at hdr;rw[<-hq,hdr]
   ·exact mZ
 ·rw[dT oM]at hq;rw[<-hq,S4.vS];exact em
 termination_by S4.dB l
def gE(i:Nat):Nat:=swp 0 17 (swp 2 9 i)
def gF(i:Nat):Nat:=swp 2 9 (swp 0 17 i)
theorem gEF(i:Nat):gF (gE i)=i:=by unfold gE gF;rw[fH,fH]
theorem gFE(i:Nat):gE (gF i)=i:=by unfold gE gF;rw[fH,fH]
theorem aLB(l:List S4)(hv:S4.dB l<=2^38)(ha:S4.RF l):aJ Tryz.prog 231 [.d (jX l),.d (ci 0),.lp 17 0,.fn (.func 232) [] [.lp 1 0,.lp 9 0]] (aK [(17,fV 0),(1,fV 0),(9,fV 0)]) (.ok (.d (cb (S4.vS l 0).1))) (aH (aK [(17,fV 0),(1,fV 0),(9,fV 0)]) [(17,fV (S4.vS l 0).2.1),(1,fV (S4.vS l 0).2.2.1),(9,fV (S4.vS l 0).2.2.2)]):=by
 have k:=(R0 l hv ha 0 0 oM oM oM oM).eZ gEF gFE;rw[rJ gEF gFE,tZ gEF gFE]at k;exact k
def I9(l:List S4):Int:=(S4.vS l 0).2.2.2
def ckA(l:List S4):Int:=(S4.vS l 0).2.2.1
theorem ZS(l:List S4)(hv:S4.dB l<=2^38)(ha:S4.RF l):Pu 214 [.d (jX l)] (.eL [.d (ci (ckA l)),.d (ci (I9 l))]):=by
 refine iC mix Tryz.func214 ?_;have k:=aLB l hv ha;unfold ckA I9;generalize S4.vS l 0=z at k⊢;obtain⟨b,m1,a1,e1⟩:=z
 repeat'(first|refine bl ?_|refine dZ.mk (.d (cb b)) [(17,fV m1),(1,fV a1),(9,fV e1)] (aJ.l8 k ⟨sn,sn,sn,tV⟩ ⟨rfl,rfl,rfl,tV⟩ ⟨tV,tV,tV,tV⟩ ⟨.inl sn,.inl sn,.inl sn,tV⟩) (bw ?_))
 exact .eL (cs:=[ci a1,ci e1]) (.cons (.d _) (.cons (.d _) .nil))
theorem VB(l:List S4)(hv:S4.dB l<=2^38)(ha:S4.RF l):Pu 186 [.d (jX l)] (.d (ci (I9 l))):=by
 refine iC mix Tryz.func186 ?_
 repeat'(first|refine bl ?_|refine aF (ZS l hv ha) (bw ?_))
 exact oF rfl
def aI6(l:List S4):Bool:=decide (I9 l=0)
theorem aGU(l:List S4)(hv:S4.dB l<=2^38)(ha:S4.RF l):Pu 158 [.d (jX l)] (.d (cb (aI6 l))):=by
 refine iC mix Tryz.func158 ?_
 repeat'(first|refine bl ?_|refine aF (VB l hv ha) (bw ?_))
 exact dP rfl
def D4.aP(w:D4):List Int:=w.aT4.map (·.ref)
theorem E0(w:D4)(r:Int)(h:r∉w.aP):w.cX r=[]:=by
 have hf:w.find r=none:=by
  unfold D4.find;rw[mN];intro t ht e;exact h (aA4.2 ⟨t,ht,by simpa using e⟩)
 have hw:w.aDH r=5:=by
  unfold D4.aDH D4.mI;rw[hf];rfl
 unfold D4.cX;rw[D8 (by rw[hw];decide)];unfold D4.nW;rw[aUF (by rw[hw];decide)];rfl
theorem T9(T:List Int)(k:Nat)(h:k<T.length):(bE (iR T))[k]?=some [.d (ci T[k])]:=by
 refine gB _ _ [ci T[k]] ?_;rw[cK,aC h];rfl

theorem PL(d:Array Int):∀(m:Nat)(x:Int),x∈Go.Lib.compactUpTo d m↔∃j,j<m/\d[j]! =x
 |0,x=>by simp[Go.Lib.compactUpTo]
 |m+1,x=>by
  rw[Go.Lib.compactUpTo_succ,bN,PL d m x];constructor
  ·rintro(⟨j,hj,e⟩|h)
   ·exact⟨j,oM,e⟩
   ·split at h
    ·exact⟨m,oM,(aR.1 h).symm⟩
    ·simp at h
  ·rintro⟨j,hj,e⟩;by_cases hk:Go.Lib.keeps d m=true
   ·rw[aUF hk];by_cases hjm:j<m
    ·exact .inl ⟨j,hjm,e⟩
    ·have:j=m:=oM;subst this;exact .inr (by simp[e])
   ·rw[aT7 hk];refine .inl ?_;by_cases hjm:j<m
    ·exact⟨j,hjm,e⟩
    ·have:j=m:=oM;subst this;unfold Go.Lib.keeps at hk;simp only[aUA,not_or,Decidable.not_not]at hk;exact⟨j -1,oM,by rw[<-hk.2];exact e⟩
theorem XR(d:Array Int):∀(m:Nat),(∀i j,i<j->j<m->d[i]! <=d[j]!)->(Go.Lib.compactUpTo d m).Pairwise (· <·)
 |0,_=>by simp[Go.Lib.compactUpTo]
 |m+1,h=>by
  rw[Go.Lib.compactUpTo_succ];have ih:=XR d m λi j h1 h2=>h i j h1 oM;by_cases hk:Go.Lib.keeps d m=true
  ·rw[aUF hk];refine List.pairwise_append.2 ⟨ih,sM,λx hx y hy=>?_⟩;rw[aR.1 hy];obtain⟨j,hj,e⟩:=(PL d m x).1 hx;unfold Go.Lib.keeps at hk;simp only[aUA]at hk;have h1:d[m -1]! <=d[m]! :=h (m -1) m oM oM;have h2:d[j]! <=d[m -1]! :=by
    by_cases e2:j=m -1
    ·subst e2;exact Int.le_refl _
    ·exact h j (m -1) oM oM
   have h3:d[m]! ≠d[m -1]! :=by
    rcases hk with hk|hk
    ·omega
    ·exact hk
   omega
  ·rw[aT7 hk,dS];exact ih
theorem GS(L:List Int):(Go.Sort.sort eF L.toArray).toList=L.mergeSort (λx y=>decide (x<=y)):=Go.Sort.sortInt L
theorem ID(d:Array Int)(j:Nat)(h:j<d.size):d[j]! =d.toList[j]'(by simpa using h):=by
 rw[getElem!_pos d j h];simp
theorem o3(L:List Int)(x:Int):x∈oZ L↔x∈L:=by
 unfold oZ DH;rw[jY,PL];have h1:x∈(Go.Sort.sort eF L.toArray).toList↔x∈L:=by rw[GS];simp
 rw[<-h1,dH];constructor
 ·rintro⟨j,hj,e⟩;exact⟨j,by simpa using hj,by rw[<-ID _ _ hj];exact e⟩
 ·rintro⟨j,hj,e⟩;have hj':j<(Go.Sort.sort eF L.toArray).size:=by simpa using hj
  exact⟨j,hj',by rw[ID _ _ hj'];exact e⟩
theorem K9(L:List Int):(oZ L).Pairwise (· <·):=by
 unfold oZ DH;rw[jY];refine XR _ _ λi j h1 h2=>?_;rw[ID _ _ oM,ID _ _ h2];have h3:(L.mergeSort λx y=>decide (x<=y)).Pairwise λa b=>decide (a<=b)=true:=List.pairwise_mergeSort (λa b c h1 h2=>by simp only[aUA]at*;omega) (λa b=>by simp only[gP,aUA];omega) L;have h4:=List.pairwise_iff_getElem.1 h3;simp only[<-GS]at h4;simpa using h4 i j zM (by simpa using h2) h1
theorem FD.trans{L M:List Int}{x:Int}(h:FD st L x)(hm:∀y∈L,FD st M y):FD st M x:=by
 induction h with
 |base hb=>exact hm _ hb
 |step _ hq ih=>exact .step ih hq
def HG(F:List (Int×Int))(r v:Int):List (Int×Int):=if kJ F r=true then xG F r v else F++[(r,v)]
theorem SU(F:List (Int×Int))(r v q:Int):cR (HG F r v) q=if q=r then v else cR F q:=by
 unfold HG;split
 ·rename_i h;exact PQ F r v q h
 ·rename_i h;exact PN F r v q (by simpa using h)
theorem aH6(F:List (Int×Int))(r v:Int):(HG F r v).map (·.1)=if kJ F r=true then F.map (·.1)else F.map (·.1)++[r]:=by
 unfold HG;split
 ·exact EN F r v
 ·simp
def wP(F:List (Int×Int))(r q:Int):Bool:=decide (0<cR F q)&&(decide (cR F r=0)||decide (cR F q+1<cR F r))
def vZ(r:Int)(s:List (Int×Int)×Bool)(q:Int):List (Int×Int)×Bool:=if wP s.1 r q=true then(HG s.1 r (cR s.1 q+1),true)else s
def zI(st:Int->List Int)(s:List (Int×Int)×Bool)(r:Int):List (Int×Int)×Bool:=(st r).foldl (vZ r) s
def aFH(st:Int->List Int)(T:List Int)(F:List (Int×Int)):List (Int×Int)×Bool:=T.foldl (zI st) (F,false)
def aE4(st:Int->List Int)(T:List Int):Nat->List (Int×Int)->List (Int×Int)
 |0,F=>F
 |n+1,F=>if(aFH st T F).2=true then aE4 st T n (aFH st T F).1 else(aFH st T F).1
inductive Way(st:Int->List Int)(to:Int):Nat->Int->Prop
 |here:Way st to 1 to
 |step {n:Nat} {r q:Int} (hq:q∈st r) (h:Way st to n q):Way st to (n+1) r
theorem Way.pos{n:Nat}(h:Way st to n r):1<=n:=by cases h<;>omega
structure R2(st:Int->List Int)(T:List Int)(to:Int)(F:List (Int×Int)):Prop where
 keys:∀k∈F.map (·.1),k∈T
 nodup:(F.map (·.1)).Nodup
 val:∀f∈F,1<=f.2/\f.2<=F.length
 way:∀r,0<cR F r->Way st to (cR F r).toNat r
 at1:cR F to=1
theorem R2.bd(h:R2 st T to F)(r:Int):0<=cR F r/\cR F r<=F.length:=by
 cases hh:kJ F r with
 |true=>obtain⟨f,h1,h2,h3⟩:=rT F r hh;have:=h.val f h1;omega
 |false=>rw[uC F r hh];omega
theorem GD:∀{A B:List Int},A.Nodup->(∀x∈A,x∈B)->A.length<=B.length
 |[],B,_,_=>sM
 |a::A,B,h,hs=>by
  have h1:=gR.1 h;have ha:a∈B:=hs a sM;have h2:∀x∈A,x∈B.erase a:=λx hx=>by
   have hne:x≠a:=λe=>h1.1 (e▸hx);exact(List.mem_erase_of_ne hne).2 (hs x (by simp[hx]))
  have h3:=GD h1.2 h2;have h4:=List.length_erase_of_mem ha;have:0<B.length:=y4 ha;simp only[aQ];omega
theorem R2.len(h:R2 st T to F):F.length<=T.length:=by
 have:=GD h.nodup h.keys;simpa using this
theorem VV(st:Int->List Int)(T:List Int)(to:Int)(h:to∈T):R2 st T to [(to,1)]where
 keys:=by simp[h]
 nodup:=sM
 val:=sM
 way:=λr hr=>by
  unfold cR at hr⊢;by_cases e:to=r
  ·subst e;simp;exact .here
  ·simp[e]at hr
 at1:=by simp[cR]
theorem aQF(h:R2 st T to F)(r:Int):kJ F r=true↔0<cR F r:=by
 constructor
 ·intro hh;obtain⟨f,h1,h2,h3⟩:=rT F r hh;have:=h.val f h1;omega
 ·intro hh;cases hk:kJ F r with
  |true=>rfl
  |false=>rw[uC F r hk]at hh;omega
theorem R2.look(h:R2 st T to F){r q:Int}(hr:r∈T)(hq:q∈st r)(hb:wP F r q=true):R2 st T to (HG F r (cR F q+1)):=by
 unfold wP at hb;simp only[aE,gP,aUA]at hb;have hq1:=h.bd q;have hne:r≠to:=by
  rintro rfl;have:=h.at1;rcases hb.2 with h2|h2<;>omega
 refine⟨?_,?_,?_,?_,?_⟩
 ·intro k hk;rw[aH6]at hk;split at hk
  ·exact h.keys k hk
  ·rcases bN.1 hk with hk|hk
   ·exact h.keys k hk
   ·rw[aR.1 hk];exact hr
 ·rw[aH6];split
  ·exact h.nodup
  ·rename_i hn;refine iS.2 ⟨h.nodup,sM,λx hx y hy e=>?_⟩;rw[aR.1 hy]at e;exact hn (mP.2 (e▸hx))
 ·unfold HG;split
  ·rename_i hh;have hc:=(aQF h r).1 hh;have hrb:=h.bd r;intro f hf;unfold xG at hf⊢;rw[aB];obtain⟨f0,hf0,rfl⟩:=aA4.1 hf;have:=h.val f0 hf0;split
   ·dsimp only;rcases hb.2 with h2|h2<;>omega
   ·exact this
  ·intro f hf;rw[aU,nX];rcases bN.1 hf with hf|hf
   ·have:=h.val f hf;omega
   ·rw[aR.1 hf];dsimp only;omega
 ·intro x hx;rw[SU]at hx⊢;split
  ·rename_i e;subst e;have:=Way.step hq (h.way q hb.1);have e2:(cR F q+1).toNat=(cR F q).toNat+1:=oM;rw[e2];exact this
  ·rename_i e;rw[aT7 e]at hx;exact h.way x hx
 ·rw[SU,aT7 (Ne.symm hne)];exact h.at1
def O2(T:List Int)(N:Nat)(F:List (Int×Int)):Nat:=(T.map λt=>if cR F t=0 then N+1 else(cR F t).toNat).sum
theorem aLF(N:Nat)(F:List (Int×Int))(r v:Int)(h1:0<v)(h2:v<=N)(h3:cR F r=0\/(0<cR F r/\v<cR F r)):∀(T:List Int),O2 T N (HG F r v)<=O2 T N F/\(r∈T->O2 T N (HG F r v)<O2 T N F)
 |[]=>by simp[O2]
 |t::T=>by
  obtain⟨i1,i2⟩:=aLF N F r v h1 h2 h3 T;unfold O2 at i1 i2⊢;simp only[aG,gU];by_cases e:t=r
  ·subst e;have e2:(if cR (HG F t v) t=0 then N+1 else(cR (HG F t v) t).toNat)<if cR F t=0 then N+1 else(cR F t).toNat:=by
    rw[SU,aUF rfl,aT7 oM];split<;>omega
   exact⟨oM,λ_=>oM⟩
  ·have e2:(if cR (HG F r v) t=0 then N+1 else(cR (HG F r v) t).toNat)=if cR F t=0 then N+1 else(cR F t).toNat:=by
    rw[SU,aT7 e]
   rw[e2];refine⟨oM,λhm=>?_⟩;rcases aO.1 hm with e3|hm
   ·exact absurd e3.symm e
   ·have:=i2 hm;omega
theorem aQ6(h:R2 st T to F){r q:Int}(hr:r∈T)(hq:q∈st r)(hb:wP F r q=true):O2 T T.length (HG F r (cR F q+1))<O2 T T.length F:=by
 have h2:=(h.look hr hq hb).bd r;have h3:=(h.look hr hq hb).len;rw[SU,aUF rfl]at h2;unfold wP at hb;simp only[aE,gP,aUA]at hb;refine(aLF _ F r _ oM oM ?_ T).2 hr;rcases hb.2 with h4|h4
 ·exact .inl h4
 ·exact .inr ⟨oM,h4⟩
structure PE(st:Int->List Int)(T:List Int)(to:Int)(F0:List (Int×Int))(s:List (Int×Int)×Bool):Prop where
 inv:R2 st T to s.1
 same:s.2=false->s.1=F0
 less:s.2=true->O2 T T.length s.1<O2 T T.length F0
theorem PE.look{st:Int->List Int}{T:List Int}{to:Int}{F0:List (Int×Int)}{s:List (Int×Int)×Bool}(h:PE st T to F0 s){r q:Int}(hr:r∈T)(hq:q∈st r):PE st T to F0 (vZ r s q):=by
 unfold vZ;split
 ·rename_i hb;have hw:=aQ6 h.inv hr hq hb;refine⟨h.inv.look hr hq hb,sM,λ_=>?_⟩;cases h2:s.2 with
  |false=>rw[h.same h2]at hw⊢;exact hw
  |true=>have:=h.less h2;dsimp only;omega
 ·exact h
theorem PE.foldl{st:Int->List Int}{T:List Int}{to:Int}{F0:List (Int×Int)}{r:Int}(hr:r∈T):∀(L:List Int)(s:List (Int×Int)×Bool),PE st T to F0 s->(∀q∈L,q∈st r)->PE st T to F0 (L.foldl (vZ r) s)
 |[],s,h,_=>h
 |q::L,s,h,hL=>PE.foldl hr L _ (h.look hr (hL q sM)) λx hx=>hL x (by simp[hx])
theorem PE.row{s:List (Int×Int)×Bool}(h:PE st T to F0 s){r:Int}(hr:r∈T):PE st T to F0 (zI st s r):=PE.foldl hr (st r) s h λq hq=>hq
theorem PE.rows{st:Int->List Int}{T:List Int}{to:Int}{F0:List (Int×Int)}:∀(L:List Int)(s:List (Int×Int)×Bool),PE st T to F0 s->(∀q∈L,q∈T)->PE st T to F0 (L.foldl (zI st) s)
 |[],s,h,_=>h
 |r::L,s,h,hL=>PE.rows L _ (h.row (hL r sM)) λx hx=>hL x (by simp[hx])
theorem aGC(h:R2 st T to F):PE st T to F (aFH st T F):=PE.rows T (F,false) ⟨h,λ_=>rfl,sM⟩ λq hq=>hq
theorem aO1{r:Int}:∀(L:List Int)(s:List (Int×Int)×Bool),(L.foldl (vZ r) s).2=false->s.2=false/\L.foldl (vZ r) s=s/\∀q∈L,wP s.1 r q=false
 |[],s,h=>⟨h,rfl,sM⟩
 |q::L,s,h=>by
  rw[fX]at h⊢;obtain⟨h1,h2,h3⟩:=aO1 L _ h;unfold vZ at h1 h2 h3;by_cases hb:wP s.1 r q=true
  ·rw[aUF hb]at h1;cases h1
  ·rw[aT7 hb]at h1 h2 h3;have hs:vZ r s q=s:=by unfold vZ;rw[aT7 hb]
   rw[hs];refine⟨h1,h2,λx hx=>?_⟩;rcases aO.1 hx with rfl|hx
   ·simpa using hb
   ·exact h3 x hx
theorem aQP{st:Int->List Int}:∀(L:List Int)(s:List (Int×Int)×Bool),(L.foldl (zI st) s).2=false->s.2=false/\∀r∈L,∀q∈st r,wP s.1 r q=false
 |[],s,h=>⟨h,sM⟩
 |r::L,s,h=>by
  rw[fX]at h;obtain⟨h1,h3⟩:=aQP L _ h;obtain⟨g1,g2,g3⟩:=aO1 (st r) s h1;have g2:zI st s r=s:=g2;rw[g2]at h3;refine⟨g1,λx hx=>?_⟩;rcases aO.1 hx with rfl|hx
  ·exact g3
  ·exact h3 x hx
theorem aAF{st:Int->List Int}{T:List Int}{to:Int}:∀(n:Nat)(F:List (Int×Int)),R2 st T to F->O2 T T.length F<n->R2 st T to (aE4 st T n F)/\∀r∈T,∀q∈st r,wP (aE4 st T n F) r q=false
 |0,F,h,hw=>oM
 |n+1,F,h,hw=>by
  have hp:=aGC h;rw[aE4];split
  ·rename_i hb;have:=hp.less hb;exact aAF n _ hp.inv oM
  ·rename_i hb;have hb:(aFH st T F).2=false:=by simpa using hb
   refine⟨hp.inv,?_⟩;rw[hp.same hb];exact(aQP T (F,false) hb).2
structure aQ3(st:Int->List Int)(T:List Int)(to:Int)(F:List (Int×Int)):Prop where
 inv:R2 st T to F
 least:∀n r,Way st to n r->0<cR F r/\cR F r<=n
theorem aJK(hst:∀r,r∉T->st r=[])(h:R2 st T to F)(he:∀r∈T,∀q∈st r,wP F r q=false):aQ3 st T to F:=by
 refine⟨h,λn r hw=>?_⟩;induction hw with
 |here=>rw[h.at1];omega
 | @step n r q hq _ ih=>
   have hr:r∈T:=by
    by_cases hr:r∈T
    ·exact hr
    ·rw[hst r hr]at hq;simp at hq
   have h1:=he r hr q hq;unfold wP at h1;have h2:=h.bd r;simp only[gI,uJ,aU1]at h1;omega
def tO(F:List (Int×Int))(b r:Int):Int:=if 0<cR F r/\(b=0\/cR F r<cR F b)then r else b
def n0(F:List (Int×Int))(l:List Int):Int:=(oZ l).foldl (tO F) 0
theorem aJ7(F:List (Int×Int)):∀(L:List Int)(b:Int),(∀x∈L,0<cR F x->x≠0)->(b≠0->0<cR F b)->(L.foldl (tO F) b=0/\b=0/\∀x∈L,¬0<cR F x)\/(L.foldl (tO F) b≠0/\0<cR F (L.foldl (tO F) b)/\(L.foldl (tO F) b∈L\/L.foldl (tO F) b=b)/\(∀x∈L,0<cR F x->cR F (L.foldl (tO F) b)<=cR F x)/\(b≠0->cR F (L.foldl (tO F) b)<=cR F b))
 |[],b,_,hb=>by
  by_cases h:b=0
  ·exact .inl ⟨h,h,sM⟩
  ·exact .inr ⟨h,hb h,.inr rfl,sM,λ_=>sM⟩
 |r::L,b,h0,hb=>by
  rw[fX];have hL:∀x∈L,0<cR F x->x≠0:=λx hx=>h0 x (by simp[hx]);by_cases hc:0<cR F r/\(b=0\/cR F r<cR F b)
  ·have e:tO F b r=r:=by unfold tO;rw[aUF hc]
   rw[e];have hr0:=h0 r sM hc.1;rcases aJ7 F L r hL (λ_=>hc.1)with⟨_,g,_⟩|⟨g1,g2,g3,g4,g5⟩
   ·exact absurd g hr0
   ·refine .inr ⟨g1,g2,.inl ?_,λx hx hx0=>?_,λhb0=>?_⟩
    ·rcases g3 with g3|g3
     ·simp[g3]
     ·rw[g3];simp
    ·rcases aO.1 hx with rfl|hx
     ·exact g5 hr0
     ·exact g4 x hx hx0
    ·have:=g5 hr0;rcases hc.2 with h|h
     ·exact absurd h hb0
     ·omega
  ·have e:tO F b r=b:=by unfold tO;rw[aT7 hc]
   rw[e];rcases aJ7 F L b hL hb with⟨g1,g2,g3⟩|⟨g1,g2,g3,g4,g5⟩
   ·refine .inl ⟨g1,g2,λx hx=>?_⟩;rcases aO.1 hx with rfl|hx
    ·exact λh=>hc ⟨h,.inl g2⟩
    ·exact g3 x hx
   ·refine .inr ⟨g1,g2,?_,λx hx hx0=>?_,g5⟩
    ·rcases g3 with g3|g3
     ·simp[g3]
     ·exact .inr g3
    ·rcases aO.1 hx with rfl|hx
     ·by_cases hb0:b=0
      ·exact absurd ⟨hx0,.inl hb0⟩ hc
      ·have:=g5 hb0;by_cases hlt:cR F x<cR F b
       ·exact absurd ⟨hx0,.inr hlt⟩ hc
       ·omega
     ·exact g4 x hx hx0
theorem I5(F:List (Int×Int))(l:List Int)(h0:∀x∈l,0<cR F x->x≠0):(n0 F l=0/\∀x∈l,¬0<cR F x)\/(n0 F l≠0/\0<cR F (n0 F l)/\n0 F l∈l/\∀x∈l,0<cR F x->cR F (n0 F l)<=cR F x):=by
 have hm:=o3 l;rcases aJ7 F (oZ l) 0 (λx hx=>h0 x ((hm x).1 hx)) (λh=>absurd rfl h)with⟨g1,_,g3⟩|⟨g1,g2,g3,g4,_⟩
 ·exact .inl ⟨g1,λx hx=>g3 x ((hm x).2 hx)⟩
 ·refine .inr ⟨g1,g2,?_,λx hx=>g4 x ((hm x).2 hx)⟩;rcases g3 with g3|g3
  ·exact(hm _).1 g3
  ·exact absurd g3 g1
def goS(F:List (Int×Int))(st:Int->List Int)(to:Int):Nat->Int->List Int->List Int×Bool
 |0,_,_=>([],false)
 |n+1,a,out=>if a=0 then([],false)else if a=to then(out++[a],true)else goS F st to n (n0 F (st a)) (out++[a])
inductive Trail(st:Int->List Int)(to:Int):List Int->Prop
 |one:Trail st to [to]
 |cons {r q:Int} {l:List Int} (hq:q∈st r) (h:Trail st to (q::l)):Trail st to (r::q::l)
theorem aAG{F:List (Int×Int)}{st:Int->List Int}{T:List Int}{to:Int}(h:aQ3 st T to F)(hst:∀r,r∉T->st r=[])(hl:∀r∈T,∀q∈st r,wP F r q=false)(h0:cR F 0=0):∀(n m:Nat)(a:Int)(out:List Int),cR F a=(n:Int)->0<n->n<=m->∃P,goS F st to m a out=(out++a::P,true)/\Trail st to (a::P)/\P.length+1=n
 |0,m,a,out,hc,hn,_=>oM
 |n+1,0,a,out,hc,hn,hm=>oM
 |n+1,m+1,a,out,hc,hn,hm=>by
  have ha0:a≠0:=by rintro rfl;omega
  rw[goS,aT7 ha0];by_cases e:a=to
  ·subst e;rw[aUF rfl];have:=h.inv.at1;exact⟨[],rfl,.one,zM⟩
  ·rw[aT7 e];have hw:=h.inv.way a oM;have e2:(cR F a).toNat=n+1:=oM;rw[e2]at hw;cases hw with
   |here=>exact absurd rfl e
   | @step k r q hq hw=>
     have hl1:=h.least _ _ hw;have hne:∀x∈st a,0<cR F x->x≠0:=λx _ hx=>by rintro rfl;omega
     rcases I5 F (st a) hne with⟨g1,g2⟩|⟨g1,g2,g3,g4⟩
     ·exact absurd hl1.1 (g2 q hq)
     ·have g5:=g4 q hq hl1.1;have haT:a∈T:=by
       by_cases hr:a∈T
       ·exact hr
       ·rw[hst a hr]at hq;simp at hq
      have hlk:=hl a haT _ g3;unfold wP at hlk;simp only[gI,uJ,aU1]at hlk;have hp:=hw.pos;obtain⟨P,p1,p2,p3⟩:=aAG h hst hl h0 n m (n0 F (st a)) (out++[a]) oM oM oM;refine⟨n0 F (st a)::P,?_,.cons g3 p2,by simp only[aQ];omega⟩;rw[p1];simp
theorem aJO(n:Nat)(out:List Int):goS F st to n 0 out=([],false):=by cases n<;>simp[goS]
theorem aPY{P:List Int}(h:Trail st to P):∀k(hk:k<P.length),Way st to (P.length -k) P[k]:=by
 induction h with
 |one=>intro k hk;simp at hk;subst hk;exact .here
 | @cons r q l hq h ih=>
   intro k hk;cases k with
   |zero=>exact .step hq (ih 0 sM)
   |succ k=>
    have:=ih k (by simpa using hk);simpa using this
theorem Way.snoc{q:Int}{n:Nat}(h:Way st to n r)(hq:q∈st to):Way st q (n+1) r:=by
 induction h with
 |here=>exact .step hq .here
 |step hq' _ ih=>exact .step hq' ih
def aSM(st:Int->List Int)(H:List Int)(to:Int)(n:Nat):Prop:=(∃r∈H,Way st to n r)/\∀m r,r∈H->Way st to m r->n<=m
theorem aSD{n:Nat}(h:Way st to n r):FD st [r] to:=by
 induction h with
 |here=>exact .base sM
 |step hq _ ih=>exact ih.trans λy hy=>by rw[aR.1 hy];exact .step (.base sM) hq
theorem aRS{H:List Int}{x:Int}(h:FD st H x):∃r∈H,∃n,Way st x n r:=by
 induction h with
 |base hb=>exact⟨_,hb,1,.here⟩
 |step _ hq ih=>obtain⟨r,h1,n,h2⟩:=ih;exact⟨r,h1,n+1,h2.snoc hq⟩
def M9(st:Int->List Int)(T H:List Int)(to:Int):List Int×Bool:=
 let F:=aE4 st T (O2 T T.length [(to,1)]+1) [(to,1)]
 goS F st to (T.length+1) (n0 F H) []
structure aQ4(st:Int->List Int)(T:List Int):Prop where
 out:∀r,r∉T->st r=[]
 zero:(0:Int)∉T
 nodup:T.Nodup
theorem aH1{H:List Int}(h:aQ4 st T)(ht:to∈T):
 (M9 st T H to=([],false)/\¬FD st H to)\/∃P,M9 st T H to=(P,true)/\FD st H to/\Trail st to P/\aSM st H to P.length/\∃hp:0<P.length,P[0]∈H:=by
 obtain⟨e1,e2⟩:=aAF (O2 T T.length [(to,1)]+1) [(to,1)] (VV st T to ht) (wF _);unfold M9;dsimp only;generalize aE4 st T (O2 T T.length [(to,1)]+1) [(to,1)]=F at e1 e2⊢;have hE:=aJK h.out e1 e2;have hz:cR F 0=0:=by
  cases hk:kJ F 0 with
  |false=>exact uC F 0 hk
  |true=>exact absurd (e1.keys _ (mP.1 hk)) h.zero
 have hne:∀x∈H,0<cR F x->x≠0:=λx _ hx=>by rintro rfl;omega
 rcases I5 F H hne with⟨g1,g2⟩|⟨g1,g2,g3,g4⟩
 ·refine .inl ⟨by rw[g1,aJO],λhr=>?_⟩;obtain⟨r,hr,n,hw⟩:=aRS hr;exact g2 r hr (hE.least _ _ hw).1
 ·have hb:=e1.bd (n0 F H);have hlen:=e1.len;obtain⟨P,p1,p2,p3⟩:=aAG hE h.out e2 hz (cR F (n0 F H)).toNat (T.length+1) (n0 F H) [] oM oM oM;refine .inr ⟨n0 F H::P,by simpa using p1,?_,p2,?_,sM,g3⟩
  ·exact(aSD (e1.way _ g2)).trans λy hy=>by rw[aR.1 hy];exact .base g3
  ·rw[aQ,p3];refine⟨⟨_,g3,e1.way _ g2⟩,λm r hr hw=>?_⟩;have h1:=hE.least _ _ hw;have h2:=g4 r hr h1.1;omega

def D4.EP(w:D4):Prop:=(w.aT4.map (·.ref)).Pairwise (· <·)
theorem aIM{L M:List Int}(hM:M.Pairwise (· <·))(hp:L.Perm M):(Go.Sort.sort eF L.toArray)=M.toArray:=by
 have h:(Go.Sort.sort eF L.toArray).toList=M:=by
  rw[GS];have h1:(L.mergeSort λx y=>decide (x<=y)).Perm M:=(List.mergeSort_perm _ _).trans hp;have h2:(L.mergeSort λx y=>decide (x<=y)).Pairwise λa b=>decide (a<=b)=true:=List.pairwise_mergeSort (λa b c h1 h2=>by simp only[aUA]at*;omega) (λa b=>by simp only[gP,aUA];omega) L;have h3:M.Pairwise λa b=>decide (a<=b)=true:=hM.imp λh=>by simp only[aUA];omega
  exact h1.eq_of_pairwise (λa b _ _ h1 h2=>by simp only[aUA]at*;omega) h2 h3
 exact Array.ext' (by rw[h])
theorem K6(w:D4)(hl:w.aT4.length<=2^30)(hr:w.EP):∀(m:Mem)(d:Nat),m d=none->aJ Tryz.prog 83 [.d (.ip w.aT1)] m (.ok (.h d)) (aX m d (dU 25 1 (iR w.aP))):=by
 refine iW mix (F:=A.h) (r:=dU 25 1 (iR w.aP)) Tryz.func83 rfl kK (bD rfl) rfl (oJ _ _ _) (λ_ _=>rfl) (λi j hj=>by simpa [A.hs]using hj) (λg=>eT g _ _ _) ?_;refine bl ?_;have hb:Tryz.prog.bytesOf 25=8:=kK;have hz:(zc Tryz.prog 8 25).length=Tryz.prog.cellsOf 25:=kK;have hz2:0<Tryz.prog.cellsOf 25:=bD kK;refine xR.mk ?_ ?_
 ·rw[aE];refine⟨aUZ ⟨hz,hz2,oM,oM,?_,?_⟩,rfl⟩
  ·rw[hb,aB];omega
  ·rw[aB];omega
 conv=>whnf
 refine bl ?_;refine xI rfl ?_;conv=>whnf
 refine bl ?_;refine cY mix (λa:Option (Ky×C)×List T4×List Int=>(a.2.2++a.2.1.map (·.ref)).Perm w.aP) (I:=λa=>[(3,.h 900),(15,.h 97)])
  (J:=λa=>[(900,dU 25 1 (iR a.2.2)),(97,.di a.1 (a.2.1.map T4.kv))]) (μ:=λa=>a.2.1.length) 1000 (none,w.aT4,[]) 0
  (λQ:List Int=>Q.Perm w.aP) (λQ=>[(3,.h 900)]) (λQ=>[(900,dU 25 1 (iR Q))]) 2000 (.refl _) (mv 49 900) ?_ ?_
 ·rintro⟨cur,L,Q⟩ hp;dsimp only at hp⊢;have hlen:=hp.length_eq;unfold D4.aP at hlen;simp only[aU,aB]at hlen;refine bl ?_;refine EI (λh0=>?_) (λi hi=>?_)
  ·conv=>whnf
   refine bl ?_;subst h0;refine⟨Q,by simpa using hp,?_⟩;exact mZ
  ·conv=>whnf
   refine bl ?_;refine n8 (by simp only[aB,bE,cE,aS];omega) kK ?_;conv=>whnf
   refine bl ?_;refine⟨(some (T4.kv L[i]),L.eraseIdx i,Q++[L[i].ref]),xL _ _ hi,?_,?_⟩
   ·dsimp only;refine List.Perm.trans ?_ hp;rw[bG];refine qX _ ?_;have:=(CU L i hi).map (λt:T4=>t.ref);exact this.symm
   ·skip
    refine mq 1064 900 ?_
    all_goals exact cO rfl (gG Q [L[i].ref])
 rintro Q hQ;have hlen:=hQ.length_eq;unfold D4.aP at hlen;rw[aB]at hlen;have hs:=aIM hr hQ
 repeat'(first|refine bl ?_|refine lN 900 (iG (Go.Sort.sort eF Q.toArray)) ((rK Q.toArray (by simp only[nJ];omega)).AK (oJ _ _ _) (λg=>eT g _ _ _) (λg=>eT g _ _ _) rfl (by simp[A.lQ,A.hs]) (aK _) 900 rfl) (bw ?_))
 rw[hs];exact⟨_,rfl,rfl⟩
def xP:List Bool->Int->List Int
 |[],_=>[]
 |b::r,k=>if b=true then k::xP r (k+1)else xP r (k+1)
theorem aBH(L M:List T4):bE (L.map T4.aT1)++bE (M.map T4.aT1)=bE ((L++M).map T4.aT1):=by simp[bE]
def D4.tell(w:D4):X4:=⟨w.parents,xP w.cut 0,w.aT4,w.last,w.made⟩
theorem ZC(w:D4)(hg:w.gA)(hr:w.EP)(h1:w.parents.length<=2^38)(h2:w.made.length<=2^38)(h3:w.cut.length<=2^36):Pu 38 [.d (.ip w.aT1)] (.d (.agg w.tell.aT1)):=by
 refine iC mix Tryz.func38 ?_
 repeat'(first|refine bl ?_|refine aF (vQ w) (bw ?_)|refine cH (G6 (iR w.made) (by simp only[aB];omega) sM) (bw ?_)|refine cH (DG (iR w.parents) (by simp only[aB];omega) sM) (bw ?_))
 have hyl:∀(L:List Bool)(k:Int),(xP L k).length<=L.length:=λL=>by
  induction L with
  |nil=>intro k;simp[xP]
  |cons b r ih=>intro k;rw[xP];have:=ih (k+1);split<;>simp only[aQ]<;>omega
 refine cY mix (λa:Nat×List Int=>a.1<=w.cut.length/\a.2++xP (w.cut.drop a.1) a.1=xP w.cut 0) (I:=λa=>[(0,.d (.ip w.aT1)),(2,.lp 1 0),(3,.lp 145 0),(29,.d (.sl 1 (w.cut.map λb=>[cb b]))),(30,.d (ci w.cut.length)),(31,.d (ci a.1))])
  (J:=λa=>(1,.cells false (List.map A.d (zc Tryz.prog 8 27)))::(145,.cells false [.d (.sl 1 (iR w.parents)),lv 1 900 (iR a.2),.d (.nl 17),.d (ci w.last),.d (.sl 1 (iR w.made))])::lm 900 3 1 (iR a.2) []) (μ:=λa=>w.cut.length -a.1) 1000 (0,[]) 0
  (λ_:Unit=>True) (λ_=>[(0,.d (.ip w.aT1)),(2,.lp 1 0),(3,.lp 145 0)]) (λ_=>[(1,.cells false (List.map A.d (zc Tryz.prog 8 27))),(145,.cells false [.d (.sl 1 (iR w.parents)),.d (.sl 1 (iR (xP w.cut 0))),.d (.nl 17),.d (ci w.last),.d (.sl 1 (iR w.made))])]) 2000 ⟨sM,sM⟩ mZ ?_ ?_
 ·rintro⟨i,Q⟩ ⟨hi,hQ⟩;dsimp only at hi hQ⊢;have hql:Q.length<=w.cut.length:=by
   have h5:=congrArg List.length hQ;have h6:=hyl w.cut 0;simp only[aU]at h5;omega
  have hst:∀(h:i<w.cut.length),(w.cut[i]=true->(Q++[(i:Int)])++xP (w.cut.drop (i+1)) ((i+1:Nat):Int)=xP w.cut 0)/\(w.cut[i]=false->Q++xP (w.cut.drop (i+1)) ((i+1:Nat):Int)=xP w.cut 0):=λh=>by
   rw[dE h,xP]at hQ;rw[show(i:Int)+1=((i+1:Nat):Int) by omega]at hQ;constructor<;>intro e<;>rw[e]at hQ
   ·rw[aUF rfl]at hQ;rw[bG];exact hQ
   ·rw[aT7 gO]at hQ;exact hQ
  cases Q with
  |nil=>
   show vc _ _ _ _ _ [(1,.cells false (List.map A.d (zc Tryz.prog 8 27))),(145,.cells false [.d (.sl 1 (iR w.parents)),.d (.nl 1),.d (.nl 17),.d (ci w.last),.d (.sl 1 (iR w.made))])] _ _
   repeat'(first|refine bl ?_|refine bS (λh=>?_) (λh=>?_)|refine cD rfl eD aM (bw ?_))
   ·refine n8 (by simp only[aB,bE,cE,aS];omega) kK ?_;conv=>whnf
    refine E9.mk (λh=>by cases h) (λh=>?_);conv=>whnf
    refine bl ?_;refine⟨(i+1,[(i:Int)]),dM,⟨dM,(hst aM).1 aM⟩,?_⟩;dsimp only[iR,List.map_cons,List.map_nil,lv,lm];exact mv 1088 900
    all_goals exact cO rfl rfl
   ·refine⟨(i+1,[]),dM,⟨dM,(hst aM).2 aM⟩,?_⟩;dsimp only[iR,List.map_cons,List.map_nil,lv,lm];exact mZ
   ·rw[dT oM,xP,dS]at hQ;refine⟨(),tV,?_⟩;rw[<-hQ];exact cN.freeze [] tV ⟨.same _,.same _,.same _,tV⟩ ⟨⟨rfl,_,rfl,.cells (.same _)⟩,⟨rfl,_,rfl,.cells (.cons (.same _) (.cons (.rd (.nz _ _)) (.same _)))⟩,tV⟩ ⟨tV,⟨sn,tV⟩,⟨sn,tV⟩,tV⟩ ⟨tV,tV,tV⟩
  |cons q0 Q=>
   show vc _ _ _ _ _ [(1,.cells false (List.map A.d (zc Tryz.prog 8 27))),(145,.cells false [.d (.sl 1 (iR w.parents)),.h 900,.d (.nl 17),.d (ci w.last),.d (.sl 1 (iR w.made))]),(900,dU 3 1 (iR (q0::Q)))] _ _
   repeat'(first|refine bl ?_|refine bS (λh=>?_) (λh=>?_)|refine cD rfl eD aM (bw ?_))
   ·refine n8 (by simp only[aB,bE,cE,aS];omega) kK ?_;conv=>whnf
    refine bl ?_;refine⟨(i+1,q0::(Q++[(i:Int)])),dM,⟨dM,(hst aM).1 aM⟩,?_⟩;dsimp only[iR,List.map_cons,List.map_nil,lv,lm];refine mq 1088 900 ?_
    all_goals exact cO rfl (gG (q0::Q) [(i:Int)])
   ·refine⟨(i+1,q0::Q),dM,⟨dM,(hst aM).2 aM⟩,?_⟩;dsimp only[iR,List.map_cons,List.map_nil,lv,lm];exact mZ
    all_goals exact cO rfl rfl
   ·rw[dT oM,xP,dS]at hQ;refine⟨(),tV,?_⟩;rw[<-hQ];exact cN.freeze [900] tV ⟨.same _,.same _,.same _,tV⟩ ⟨⟨rfl,_,rfl,.cells (.same _)⟩,⟨rfl,_,rfl,.cells (.cons (.same _) (.cons (.rd (.dU (eX rfl rfl))) (.same _)))⟩,tV⟩ ⟨tV,⟨sn,tV⟩,⟨sn,tV⟩,tV⟩ ⟨tV,tV,tV⟩
 rintro _ _
 repeat'(first|refine bl ?_|refine fQ (K6 w hg.len hr) 3000 rfl (bw ?_))
 have hnl:w.aP.length=w.aT4.length:=by unfold D4.aP;rw[aB]
 refine cY mix (λi:Nat=>i<=w.aT4.length) (I:=λi=>[(0,.d (.ip w.aT1)),(2,.lp 1 0),(3,.lp 145 0),(45,.d (.sl 1 (iR w.aP))),(46,.d (ci w.aP.length)),(47,.d (ci i))])
  (J:=λi=>(1,.cells false (List.map A.d (zc Tryz.prog 8 27)))::(145,.cells false [.d (.sl 1 (iR w.parents)),.d (.sl 1 (iR (xP w.cut 0))),lv 17 900 ((w.aT4.take i).map T4.aT1),.d (ci w.last),.d (.sl 1 (iR w.made))])::lm 900 93 17 ((w.aT4.take i).map T4.aT1) []) (μ:=λi=>w.aT4.length -i) 5000 0 2
  (λ_:Unit=>True) (λ_=>[(2,.lp 1 0),(3,.lp 145 0)]) (λ_=>[(1,.cells false (List.map A.d (zc Tryz.prog 8 27))),(145,.cells false [.d (.sl 1 (iR w.parents)),.d (.sl 1 (iR (xP w.cut 0))),.d (.sl 17 (w.aT4.map T4.aT1)),.d (ci w.last),.d (.sl 1 (iR w.made))])]) 7000 oM ?_ ?_ ?_
 ·refine cN.freeze [3000] tV ⟨.same _,.same _,.same _,.rd (.dU (eX rfl rfl)),GR (qD (by simp only[aB,bE])),.same _,tV⟩ ⟨⟨rfl,_,rfl,.cells (.same _)⟩,⟨rfl,_,rfl,.cells (.same _)⟩,tV⟩ ⟨tV,⟨sn,tV⟩,⟨sn,tV⟩,tV,tV,tV,tV⟩ ?_;rw[fD];exact⟨tV,tV,tV⟩
 ·intro i hi;have hst:∀(h:i<w.aT4.length),w.aP[i]' oM =w.aT4[i].ref/\w.find w.aT4[i].ref=some w.aT4[i]/\w.aT4.take (i+1)=w.aT4.take i++[w.aT4[i]]:=λh=>by
   refine⟨by simp[D4.aP],?_,aT h⟩;unfold D4.find;cases hf:w.aT4.find? λt=>decide (t.ref=w.aT4[i].ref)with
   |none=>
    have:=mN.1 hf w.aT4[i] (aY h);simp at this
   |some t=>
    have e1:=iD hf;simp only[aUA]at e1;obtain⟨j,hj,e2⟩:=dH.1 (cT hf);subst e2;have hn:=hg.nodup;have:j=i:=by
     refine(jB (h₀:=by simpa using hj) (h₁:=by simpa using h) hn).1 ?_;simpa using e1
    subst this;rfl
  have aZI:(w.aT4.take i).length<=w.aT4.length:=zM;have hgl:=hg.len;generalize hQ:w.aT4.take i=Q at hst aZI⊢;cases Q with
  |nil=>
   show vc _ _ _ _ _ [(1,.cells false (List.map A.d (zc Tryz.prog 8 27))),(145,.cells false [.d (.sl 1 (iR w.parents)),.d (.sl 1 (iR (xP w.cut 0))),.d (.nl 17),.d (ci w.last),.d (.sl 1 (iR w.made))])] _ _
   repeat'(first|refine bl ?_|refine bS (λh=>?_) (λh=>?_)|refine cD rfl eD aM (bw ?_))
   ·have hlt:i<w.aP.length:=aM;obtain⟨s1,s2,s3⟩:=hst oM;refine EA eD (λt ht=>?_) (λht=>?_)
    ·have e:t=w.aT4[i]' oM :=eY ((show w.find w.aP[i]=some t from ht).symm.trans (by rw[s1];exact s2));subst e;have hm:=aY (show i<w.aT4.length by omega);obtain⟨m1,m2,m3⟩:=hg.may _ hm;have hcn:=hg.cR _ hm;conv=>whnf
     repeat' refine cH (yX _ oM m1 m2 m3) (bw ?_)
     rw[s1];refine n8 (by simp only[aB,bE,cE,aS,aQ]at*;omega) kK ?_;conv=>whnf
     refine E9.mk (λh=>by cases h) (λh=>?_);conv=>whnf
     refine bl ?_;refine⟨i+1,oM,oM,?_⟩;rw[s3];dsimp only[List.nil_append,List.map_cons,List.map_nil,lv,lm];exact mv 5144 900
     all_goals exact cO rfl rfl
    ·exfalso;have:w.find w.aP[i]=none:=ht;rw[s1,s2]at this;cases this
   ·rw[aI oM]at hQ;refine⟨(),tV,?_⟩;rw[hQ];exact cN.freeze [] tV ⟨.same _,.same _,tV⟩ ⟨⟨rfl,_,rfl,.cells (.same _)⟩,⟨rfl,_,rfl,.cells (.cons (.same _) (.cons (.same _) (.cons (.rd (.nz _ _)) (.same _))))⟩,tV⟩ ⟨⟨sn,tV⟩,⟨sn,tV⟩,tV⟩ ⟨tV,tV,tV⟩
  |cons q0 Q=>
   show vc _ _ _ _ _ [(1,.cells false (List.map A.d (zc Tryz.prog 8 27))),(145,.cells false [.d (.sl 1 (iR w.parents)),.d (.sl 1 (iR (xP w.cut 0))),.h 900,.d (ci w.last),.d (.sl 1 (iR w.made))]),(900,dU 93 17 ((q0::Q).map T4.aT1))] _ _
   repeat'(first|refine bl ?_|refine bS (λh=>?_) (λh=>?_)|refine cD rfl eD aM (bw ?_))
   ·have hlt:i<w.aP.length:=aM;obtain⟨s1,s2,s3⟩:=hst oM;refine EA eD (λt ht=>?_) (λht=>?_)
    ·have e:t=w.aT4[i]' oM :=eY ((show w.find w.aP[i]=some t from ht).symm.trans (by rw[s1];exact s2));subst e;have hm:=aY (show i<w.aT4.length by omega);obtain⟨m1,m2,m3⟩:=hg.may _ hm;have hcn:=hg.cR _ hm;conv=>whnf
     repeat' refine cH (yX _ oM m1 m2 m3) (bw ?_)
     rw[s1];refine n8 (by simp only[aB,bE,cE,aS,aQ]at*;omega) kK ?_;conv=>whnf
     refine bl ?_;refine⟨i+1,oM,oM,?_⟩;rw[s3];dsimp only[List.cons_append,List.map_cons,List.map_nil,lv,lm];refine mq 5144 900 ?_
     all_goals exact cO rfl (aBH (q0::Q) [w.aT4[i]])
    ·exfalso;have:w.find w.aP[i]=none:=ht;rw[s1,s2]at this;cases this
   ·rw[aI oM]at hQ;refine⟨(),tV,?_⟩;rw[hQ];exact cN.freeze [900] tV ⟨.same _,.same _,tV⟩ ⟨⟨rfl,_,rfl,.cells (.same _)⟩,⟨rfl,_,rfl,.cells (.cons (.same _) (.cons (.same _) (.cons (.rd (.dU (eX rfl rfl))) (.same _))))⟩,tV⟩ ⟨⟨sn,tV⟩,⟨sn,tV⟩,tV⟩ ⟨tV,tV,tV⟩
 rintro _ _;refine bl ?_;exact .one (.agg (wJ.data _ w.tell.aT1))
def D4.pK(w:D4)(r:Int):Bool:=decide (1<=r)&&(w.mI r||decide (r<=w.last))
def D4.zE(w:D4)(u:U4):Bool:=w.HU u.side&&(aI6 u.code&&(BA u.names&&((u.seen.all w.pK&&decide u.seen.Nodup)&&(jL u.names).all λr=>w.mI r&&decide (r∈u.seen))))
def D4.I9(w:D4)(u:U4):Int:=if w.zE u=true then 0 else 190
theorem aIG(h:r<1):w.pK r=false:=by unfold D4.pK;rw[aU0 oM];rfl
theorem aIH(h1:w.mI r=false)(h2:w.tell.last<r):w.pK r=false:=by
 have h2:w.last<r:=h2;unfold D4.pK;rw[h1,aU0 (by omega:¬r<=w.last)];simp
theorem aII(h:1<=r)(h1:w.mI r=true):w.pK r=true:=by unfold D4.pK;rw[h1,aUZ h];rfl
theorem aIJ(h:1<=r)(h2:r<=w.tell.last):w.pK r=true:=by
 have h2:r<=w.last:=h2;unfold D4.pK;rw[aUZ h,aUZ h2];simp
structure U4.gA(u:U4):Prop where
 side:-9223372036854775808<=u.side/\u.side<=9223372036854775807
 code:S4.dB u.code<=2^38
 jR:S4.RF u.code
 names:V.dB (u.names.map (·.value))<=2^34
 nlen:u.names.length<=2^34
 seen:u.seen.length<=2^35
structure D4.qV(w:D4):Prop extends w.gA where
 EP:w.EP
 pl:w.parents.length<=2^38
 ml:w.made.length<=2^38
 cl:w.cut.length<=2^36
 pos:∀t∈w.aT4,0<t.ref
theorem aA9(w:D4)(hw:w.qV)(u:U4)(hu:u.gA):Pu 104 [.d (.ip w.aT1),.d (.agg u.aT1)] (.d (ci (w.I9 u))):=by
 have hno:∀m,w.zE u=false->A1 m (.d (ci 190)) (.d (ci (w.I9 u))):=λm h=>by unfold D4.I9;rw[h];exact oF rfl
 have hm:=hw.ml;refine iC mix Tryz.func104 ?_
 repeat'(first|refine bl ?_|refine bS (λh=>?_) (λh=>?_)|refine aF (aEY w hw.sides) (bw ?_)|refine aF (aE2 w u.side hu.side.1 hu.side.2) (bw ?_)|refine aF (aGU u.code hu.code hu.jR) (bw ?_)|refine aF (TM u.names (by have:=hu.names;omega) (by have:=hu.nlen;omega)) (bw ?_))
 ·exact hno _ (by unfold D4.zE;simp_all)
 ·exact hno _ (by unfold D4.zE;simp_all)
 ·exact hno _ (by unfold D4.zE;simp_all)
 have hck:w.zE u=((u.seen.all w.pK&&decide u.seen.Nodup)&&(jL u.names).all λr=>w.mI r&&decide (r∈u.seen)):=by unfold D4.zE;simp_all
 have hsl:=hu.seen;refine cY mix (λs:Nat×List (Int×Int)=>s.1<=u.seen.length/\s.2.map (·.1)=u.seen.take s.1/\(∀f∈s.2,f.2=1)/\(u.seen.take s.1).Nodup/\(u.seen.take s.1).all w.pK=true) (I:=λs=>[(0,.d (.ip w.aT1)),(3,.lp 1 0),(5,.h 169),(33,.d (.sl 1 (iR u.seen))),(34,.d (ci u.seen.length)),(35,.d (ci s.1))])
  (J:=λs=>[(1,.cells false (u.aT1.map A.d)),(169,.mp false (iZ s.2) [])]) (μ:=λs=>u.seen.length -s.1) 1000 (0,[]) 0
  (λF:List (Int×Int)=>F.map (·.1)=u.seen/\(∀f∈F,f.2=1)/\(u.seen.all w.pK&&decide u.seen.Nodup)=true) (λF=>[(0,.d (.ip w.aT1)),(3,.lp 1 0),(5,.h 169)]) (λF=>[(1,.cells false (u.aT1.map A.d)),(169,.mp false (iZ F) [])]) 2000 ⟨sM,sM,sM,sM,sM⟩ mZ ?_ ?_
 ·rintro⟨i,F⟩ ⟨g1,g2,g3,g4,g5⟩;dsimp only at g1 g2 g3 g4 g5⊢;have hcb:∀r,0<=cR F r/\cR F r<=1:=λr=>by
   cases hh:kJ F r with
   |true=>obtain⟨f,k1,k2,k3⟩:=rT F r hh;have:=g3 f k1;omega
   |false=>rw[uC F r hh];omega
  repeat'(first|refine bl ?_|refine bS (λh=>?_) (λh=>?_)|refine cD rfl eD aM (bw ?_))
  ·have hlt:i<u.seen.length:=aM;have hcs:=hcb u.seen[i];have hti:=aT hlt;have aX4:w.pK u.seen[i]=false->w.zE u=false:=λe=>by
    rw[hck];have:u.seen.all w.pK=false:=by rw[iA];exact⟨_,aY hlt,by simp[e]⟩
    rw[this];simp
   have hme:u.seen[i]∈u.seen.take i->w.zE u=false:=λhm=>by
    have hn:¬u.seen.Nodup:=λhn=>by
     obtain⟨j,hj,e⟩:=dH.1 hm;rw[cW]at hj;rw[List.getElem_take]at e;have:=(jB hn).1 e;omega
    rw[hck,aU0 hn];simp
   generalize u.seen[i]=r at hcs hti aX4 hme⊢;refine lkC eD (λh=>h) ?_;conv=>whnf
   refine bl ?_;refine aBP eD (λhh=>?_) (λhh=>?_)
   ·conv=>whnf
    have hr:r∈u.seen.take i:=by rw[<-g2];exact mP.1 hh
    repeat'(first|refine bl ?_|refine bS (λh=>?_) (λh=>?_)|refine aF (sB w _) (bw ?_)|refine aF (ZC w hw.togA hw.EP hw.pl hw.ml hw.cl) (bw ?_)|refine lkE (EE F r (cR F r+1)) eD (λh=>h) (bw ?_))
    all_goals first
     |exact hno _ (hme hr)
     |(exfalso
       rw[PQ F r _ r hh,aUF rfl]at h;obtain⟨f,hf,_,k3⟩:=rT F r hh
       have:=g3 f hf;omega)
   ·conv=>whnf
    have hr:r∉u.seen.take i:=λe=>by rw[<-g2]at e;rw[mP.2 e]at hh;cases hh
    repeat'(first|refine bl ?_|refine bS (λh=>?_) (λh=>?_)|refine aF (sB w _) (bw ?_)|refine aF (ZC w hw.togA hw.EP hw.pl hw.ml hw.cl) (bw ?_)|refine lkE (vP F r (cR F r+1)) eD (λh=>h) (bw ?_))
    all_goals first
     |exact hno _ (aX4 (aIG aM))
     |exact hno _ (aX4 (aIH aM aM))
     |(exfalso
       rw[PN F r _ r hh,aUF rfl,uC F r hh]at h
       omega)
     |(have hso:w.pK r=true:=by first|exact aII aM aM|exact aIJ aM aM
       refine⟨(i+1,F++[(r,cR F r+1)]),dM,⟨dM,by dsimp only;rw[bP,g2,hti];rfl,?_,?_,?_⟩,?_⟩
       · dsimp only
         intro f hf;rcases bN.1 hf with hf|hf
         · exact g3 f hf
         · rw[aR.1 hf,uC F r hh];rfl
       · dsimp only
         rw[hti];refine iS.2 ⟨g4,sM,λx hx y hy e=>?_⟩;rw[aR.1 hy]at e;exact hr (e▸hx)
       · dsimp only
         rw[hti,gQ,g5];simp[hso]
       · have aZJ:=vP F r (cR F r+1)
         (refine cN.swap 5000 5001 ?_ ?_ ?_ ?_ ?_<;>repeat'(first|exact aW|exact rfl|exact sn|exact aZ|exact wW|exact IK rfl|exact cO rfl rfl|exact aD4 rfl|exact KS rfl rfl|exact aEP|(refine qD ?_;simp only[aB,bE];done)|(refine aDO ?_;(try dsimp only);omega)|refine bI ?_ ?_))
         all_goals first|exact aEP|exact KS rfl aZJ)
  ·rw[aI oM]at g2 g4 g5;exact⟨F,⟨g2,g3,by rw[g5,aUZ g4];rfl⟩,mZ⟩
 rintro F ⟨f1,f2,f3⟩;refine bl ?_;rw[f3,cA]at hck;have hnb:∀i(h:i<u.names.length),u.names[i].value.cR<=2^35:=λi h=>by
  have:=V.dG (u.names.map (·.value)) i (by simpa using h);rw[fO]at this;have:=hu.names;omega
 have hnl:=hu.nlen;have aWE:∀r,0<cR F r↔r∈u.seen:=λr=>by
  rw[<-f1];constructor
  ·intro hc;cases hh:kJ F r with
   |true=>exact mP.1 hh
   |false=>rw[uC F r hh]at hc;omega
  ·intro hm;obtain⟨f,k1,k2,k3⟩:=rT F r (mP.2 hm);have:=f2 f k1;omega
 have hcb:∀r,0<=cR F r/\cR F r<=1:=λr=>by
  cases hh:kJ F r with
  |true=>obtain⟨f,k1,k2,k3⟩:=rT F r hh;have:=f2 f k1;omega
  |false=>rw[uC F r hh];omega
 refine cY mix (λi:Nat=>i<=u.names.length/\(jL (u.names.take i)).all (λr=>w.mI r&&decide (r∈u.seen))=true) (I:=λi=>[(0,.d (.ip w.aT1)),(5,.h 169),(66,.d (.sl 6 (u.names.map N4.aT1))),(67,.d (ci u.names.length)),(68,.d (ci i))])
  (J:=λi=>[(169,.mp false (iZ F) [])]) (μ:=λi=>u.names.length -i) 3000 0 2
  (λ_:Unit=>(jL u.names).all (λr=>w.mI r&&decide (r∈u.seen))=true) (λF=>[]) (λF=>[]) 6000 ⟨oM,by simp[jL]⟩ mZ ?_ ?_
 ·rintro i ⟨hi,h0⟩
  repeat'(first|refine bl ?_|refine bS (λh=>?_) (λh=>?_)|refine cD rfl eD aM (bw ?_)|refine dR (jG u.names[i].value (by have:=hnb i aM;omega)) (.cons (.agg u.names[i].value.aT1) .nil) (bw ?_))
  ·have hlt:i<u.names.length:=aM;have hst:jL (u.names.take (i+1))=jL (u.names.take i)++u.names[i].value.eI:=by
    unfold jL;rw[aT hlt,bP,fJ];simp
   have aVM:∀r∈u.names[i].value.eI,r∈jL u.names:=λr hr=>by
    unfold jL;exact rQ.2 ⟨_,aA4.2 ⟨_,aY hlt,rfl⟩,hr⟩
   have aX4:∀r∈u.names[i].value.eI,(w.mI r&&decide (r∈u.seen))=false->w.zE u=false:=λr hr e=>by
    rw[hck,iA];exact⟨r,aVM r hr,by rw[e];simp⟩
   have hrl:=u.names[i].value.iY;have a24:=hnb i hlt;generalize u.names[i].value.eI=R at hst aX4 hrl;refine cY mix (λj:Nat=>j<=R.length/\(R.take j).all (λr=>w.mI r&&decide (r∈u.seen))=true) (I:=λj=>[(0,.d (.ip w.aT1)),(5,.h 169),(66,.d (.sl 6 (u.names.map N4.aT1))),(67,.d (ci u.names.length)),(68,.d (ci i)),(74,.d (.sl 1 (iR R))),(75,.d (ci R.length)),(76,.d (ci j))])
    (J:=λj=>[(169,.mp false (iZ F) [])]) (μ:=λj=>R.length -j) 4000 0 4
    (λ_:Unit=>R.all (λr=>w.mI r&&decide (r∈u.seen))=true) (λ_=>[(0,.d (.ip w.aT1)),(5,.h 169),(66,.d (.sl 6 (u.names.map N4.aT1))),(67,.d (ci u.names.length)),(68,.d (ci i))]) (λ_=>[(169,.mp false (iZ F) [])]) 5000 ⟨oM,sM⟩ mZ ?_ ?_
   ·rintro j ⟨hj,hj0⟩
    repeat'(first|refine bl ?_|refine bS (λh=>?_) (λh=>?_)|refine cD rfl eD aM (bw ?_)|refine aF (sB w _) (bw ?_)|refine lkC eD (λh=>h) (bw ?_))
    ·have hl2:j<R.length:=aM;exact hno _ (aX4 _ (aY hl2) (by rw[show w.mI R[j]=false by assumption];rfl))
    ·have hl2:j<R.length:=aM;have hz:cR F R[j]=0:=aM;refine hno _ (aX4 _ (aY hl2) ?_);rw[aU0 (λhm=>by have:=(aWE _).2 hm;omega)];simp
    ·have hl2:j<R.length:=aM;have hz:¬cR F R[j]=0:=aM;have hc2:=hcb R[j];refine⟨j+1,oM,⟨oM,?_⟩,mZ⟩;rw[aT hl2,gQ,hj0,cA];simp only[o9,List.all_nil,o6];rw[show w.mI R[j]=true by assumption,aUZ ((aWE _).1 oM)];rfl
    ·rw[aI oM]at hj0;exact⟨(),hj0,mZ⟩
   rintro _ hR;refine bl ?_;refine⟨i+1,oM,⟨oM,by rw[hst,gQ,h0,hR];rfl⟩,mZ⟩
  ·rw[aI oM]at h0;exact⟨(),h0,mZ⟩
 rintro _ aWV;refine bl ?_;unfold D4.I9;rw[hck,aWV];exact oF rfl
theorem aCC{u:U4}(h:¬w.I9 u=0):w.zE u=false/\w.I9 u=190:=by
 unfold D4.I9 at*;cases hc:w.zE u<;>simp[hc]at h⊢
theorem XP{u:U4}(h:w.I9 u=0):w.zE u=true:=by
 unfold D4.I9 at*;cases hc:w.zE u<;>simp[hc]at h⊢
def D4.s8(w:D4)(l:List U4):Int:=if l.all w.zE=true then 0 else 190
theorem yG(w:D4)(hw:w.qV)(l:List U4)(hl:l.length<=2^30)(hu:∀i(h:i<l.length),l[i].gA):Pu 45 [.d (.ip w.aT1),.d (.sl 4 (l.map U4.aT1))] (.d (ci (w.s8 l))):=by
 have hsd:=hw.sides;refine iC mix Tryz.func45 ?_
 repeat'(first|refine bl ?_|refine bS (λh=>?_) (λh=>?_)|refine aF (o4 w) (bw ?_))
 ·exfalso;simp_all
 refine bV mix (λi:Nat=>i<=l.length/\(l.take i).all w.zE=true) (I:=λi=>[(0,.d (.ip w.aT1)),(15,.d (.sl 4 (l.map U4.aT1))),(16,.d (ci l.length)),(17,.d (ci i))])
  (J:=λi=>[]) (μ:=λi=>l.length -i) 1000 0 ⟨oM,sM⟩ mZ ?_
 rintro i ⟨hi,h0⟩
 repeat'(first|refine bl ?_|refine bS (λh=>?_) (λh=>?_)|refine cD rfl eD aM (bw ?_)|refine dR (aA9 w hw l[i] (hu i aM)) (.cons (.same _) (.cons (.agg l[i].aT1) .nil)) (bw ?_))
 ·have hlt:i<l.length:=aM;obtain⟨c1,c2⟩:=aCC (show ¬w.I9 l[i]=0 by assumption);have e:w.s8 l=190:=by
   unfold D4.s8;rw[aT7];intro h;rw[cV.1 h _ (aY hlt)]at c1;cases c1
  rw[e,c2];exact oF rfl
 ·have hlt:i<l.length:=aM;refine⟨i+1,oM,⟨oM,?_⟩,mZ⟩;rw[aT hlt,gQ,h0];simp[XP (show w.I9 l[i]=0 by assumption)]
 ·rw[aI oM]at h0;unfold D4.s8;rw[aUF h0];exact oF rfl
theorem IG(u:U4):(jL u.names).length<=V.dB (u.names.map (·.value)):=by
 have h1:=qN (u.names.map (·.value));rw[bH]at h1;exact h1
end Go.Pv
