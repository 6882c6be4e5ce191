import Derived.Test.YtpdcbahjjmooiaaGreatQ12
/- Contracts of functions that the law reaches, and their logic. No conditions. -/
set_option linter.all false
set_option maxRecDepth 100000
set_option maxHeartbeats 8000000
open Go Go.Proofs
namespace Go.Pv
open Go.RowKit
variable{x:W4}{i:Nat}{r:Int}{t:T4}
def W4.rb(x:W4):W4:={x.bare with values:=[],code:=[],names:=[]}
def W4.vB(x:W4):Bool:=decide (x.kind=2\/x.kind=4)
def W4.nB(x:W4):Bool:=decide (x.kind=12)
def W4.aXO(h:x.kind=2\/x.kind=4):x.vB=true:=aUZ h
def W4.aXF(h:¬(x.kind=2\/x.kind=4)):x.vB=false:=aU0 h
def W4.aW6(h:x.kind=12):x.nB=true:=aUZ h
def W4.aXL(h:¬x.kind=12):x.nB=false:=aU0 h
def W4.kM(x:W4)(n:Int):Bool:=decide (1<=x.kind/\x.kind<=16/\(x.kind=14\/0<=x.home/\x.home<n))
def W4.EV(x:W4):Bool:=
 if x.kind=2\/x.kind=4 then decide (x.values.length<=512)&&(V.mk 3 0 ByteArray.empty x.values 0).nI
 else if x.kind=8 then decide (0<=x.lost/\x.lost<=x.n)
 else if x.kind=10 then x.full||decide (x.value.kind=0)
 else if x.kind=12 then decide (x.names.length<=64/\S4.nF x.code 0<=512)&&(S4.jD x.code&&x.names.all λn=>n.value.nI)
 else true
def W4.rtl(x:W4):Bool:=decide (0<=x.n/\x.n<=9007199254740992)&&x.value.nI
def W4.req(x y:W4):Bool:=decide (x.home=y.home)&&(x.value.same y.value&&(decide (x.n=y.n)&&(decide (x.lost=y.lost)&&(decide (x.of=y.of)&&(decide (x.by_=y.by_)&&(decide (x.set=y.set)&&(decide (x.full=y.full)&&((x.vB||decide (x.values.length=0))&&((x.nB||decide (x.names.length=0))&&(x.nB||decide (x.code.length=0)))))))))))
def W4.aR0(x:W4):x.rb.home=if x.kind=14 then 0 else x.home:=by
 show x.bare.home=_;unfold W4.bare;by_cases h0:x.kind=1
 ·rw[aUF h0,aT7 oM]
 rw[aT7 h0];by_cases h1:x.kind=2\/x.kind=4
 ·rw[aUF h1,aT7 oM]
 rw[aT7 h1];by_cases h2:x.kind=3
 ·rw[aUF h2,aT7 oM]
 rw[aT7 h2];by_cases h3:x.kind=6\/x.kind=11
 ·rw[aUF h3,aT7 oM]
 rw[aT7 h3];by_cases h4:x.kind=7
 ·rw[aUF h4,aT7 oM]
 rw[aT7 h4];by_cases h5:x.kind=8
 ·rw[aUF h5,aT7 oM]
 rw[aT7 h5];by_cases h6:x.kind=9
 ·rw[aUF h6,aT7 oM]
 rw[aT7 h6];by_cases h7:x.kind=10
 ·rw[aUF h7,aT7 oM]
 rw[aT7 h7];by_cases h8:x.kind=12
 ·rw[aUF h8,aT7 oM]
 rw[aT7 h8];by_cases h9:x.kind=13
 ·rw[aUF h9,aT7 oM]
 rw[aT7 h9];by_cases h10:x.kind=15\/x.kind=16
 ·rw[aUF h10,aT7 oM]
 rw[aT7 h10];by_cases h11:x.kind=14
 ·rw[aUF h11,aUF h11]
 rw[aT7 h11,aT7 h11]
def W4.aUD(x:W4):x.rb.value=x.value\/x.rb.value=V.zero:=by
 show x.bare.value=_\/x.bare.value=_;unfold W4.bare;by_cases h0:x.kind=1
 ·rw[aUF h0];first|exact .inl rfl|exact .inr rfl
 rw[aT7 h0];by_cases h1:x.kind=2\/x.kind=4
 ·rw[aUF h1];first|exact .inl rfl|exact .inr rfl
 rw[aT7 h1];by_cases h2:x.kind=3
 ·rw[aUF h2];first|exact .inl rfl|exact .inr rfl
 rw[aT7 h2];by_cases h3:x.kind=6\/x.kind=11
 ·rw[aUF h3];first|exact .inl rfl|exact .inr rfl
 rw[aT7 h3];by_cases h4:x.kind=7
 ·rw[aUF h4];first|exact .inl rfl|exact .inr rfl
 rw[aT7 h4];by_cases h5:x.kind=8
 ·rw[aUF h5];first|exact .inl rfl|exact .inr rfl
 rw[aT7 h5];by_cases h6:x.kind=9
 ·rw[aUF h6];first|exact .inl rfl|exact .inr rfl
 rw[aT7 h6];by_cases h7:x.kind=10
 ·rw[aUF h7];first|exact .inl rfl|exact .inr rfl
 rw[aT7 h7];by_cases h8:x.kind=12
 ·rw[aUF h8];first|exact .inl rfl|exact .inr rfl
 rw[aT7 h8];by_cases h9:x.kind=13
 ·rw[aUF h9];first|exact .inl rfl|exact .inr rfl
 rw[aT7 h9];by_cases h10:x.kind=15\/x.kind=16
 ·rw[aUF h10];first|exact .inl rfl|exact .inr rfl
 rw[aT7 h10];by_cases h11:x.kind=14
 ·rw[aUF h11];first|exact .inl rfl|exact .inr rfl
 rw[aT7 h11];exact .inr rfl
abbrev aW0(x:W4)(k:Int):List A:=[.d (.v (.int .u8 x.kind)),.d (ci k),.d (.v (.int .u8 0)),.d (ci 0),.d (.v (.string ByteArray.empty)),.d (.nl 5),.d (ci 0),.d (.nl 5),.d (ci 0),.d (ci 0),.d (ci 0),.d (ci 0),.d (.v (.int .u8 0)),.d (cb false),.d (.nl 17),.d (.nl 6)]
def W4.tB(x:W4)(n:Int):Bool:=x.kM n&&(x.EV&&(x.rtl&&x.req x.rb))
def aQK(x:W4)(hx:x.cR<=2^34)(hw:x.wt)(n:Int)(hh:-9223372036854775808<=x.home/\x.home<=9223372036854775807):Pu 97 [.d (.agg x.aT1),.d (ci n)] (.d (cb (x.tB n))):=by
 have hcc:x.cR=x.value.cR+V.dB x.values+S4.dB x.code+x.names.length+V.dB (x.names.map (·.value)):=rfl;have hk:=hw.kind;have hrv:x.rb.value.cR<=2^38:=by
  rcases x.aUD with e|e
  ·rw[e];omega
  ·rw[e];exact bD rfl
 have pG:x.kM n=false->x.tB n=false:=λh=>by unfold W4.tB;rw[h,c0]
 refine iC mix Tryz.func97 ?_
 repeat'(first|with_reducible (first|refine tG ?_|refine w9 ?_|refine nN.mk ?_)|((with_reducible refine wr ?_);(conv=>whnf))|((with_reducible refine FC.mk (RG (by(try dsimp only);omega) (by(try dsimp only);omega)) ?_);(conv=>whnf)))
 refine QH ?_
 repeat'(first|with_reducible (first|refine tG ?_|refine w2 ?_|refine w4 ?_|refine w9 ?_|refine wb ?_|refine nN.mk ?_|refine O8.t rfl ?_|refine O8.f rfl ?_)|((with_reducible (first|refine wr ?_|refine wi ?_|refine wx ?_|refine wh ?_));(conv=>whnf))|((with_reducible refine nQ (λh=>?_) (λh=>?_))<;>(try rw[h])<;>(conv at h=>{simp})))
 ·rw[pG (by unfold W4.kM;simp;omega)];exact .one (.d _)
 ·rw[pG (by unfold W4.kM;simp;omega)];exact .one (.d _)
 refine BH (λ_:Unit=>x.kM n=true) (λ_=>[(1,.d (ci n)),(2,.lp 1 0),(5,.lp 41 0),(6,.d (ci x.kind))]) (λ_=>[(1,.cells false (x.aT1.map A.d)),(41,.cells false (aW0 x x.rb.home))]) 2000 ?_ ?_
 ·skip
  repeat'(first|refine bl ?_|refine bS (λh=>?_) (λh=>?_))
  ·rw[pG (by unfold W4.kM;simp;omega)];exact .one (.d _)
  ·rw[pG (by unfold W4.kM;simp;omega)];exact .one (.d _)
  ·refine⟨(),by unfold W4.kM;simp;omega,?_⟩;rw[x.aR0,aT7 aM];exact mZ
  ·refine⟨(),by unfold W4.kM;simp;omega,?_⟩;rw[x.aR0,aUF aM];exact mZ
 rintro _ hhd;have aZV:x.EV=false->x.tB n=false:=λh=>by unfold W4.tB;rw[h];simp
 have hfo:x.EV=true->x.tB n=(x.rtl&&x.req x.rb):=λh=>by unfold W4.tB;rw[h,hhd];rfl
 repeat'(first|with_reducible (first|refine tG ?_|refine w9 ?_|refine nN.mk ?_)|((with_reducible refine wr ?_);(conv=>whnf)))
 refine BH (λ_:Unit=>x.EV=true) (λ_=>[(1,.d (ci n)),(2,.lp 1 0),(5,.lp 41 0),(7,.d (cb x.vB)),(8,.d (cb x.nB)),(9,.d (cb x.nB))]) (λ_=>[(1,.cells false (x.aT1.map A.d)),(41,.cells false (x.rb.aT1.map A.d))]) 5000 ?_ ?_
 ·have hml:(V.mk 3 0 ByteArray.empty x.values 0).cR<=2^40:=by rw[V.fA];show 1+V.dB x.values<=_;omega
  have hmw:(V.mk 3 0 ByteArray.empty x.values 0).wt:=⟨eD,eD,hw.values⟩
  repeat'(first|refine bl ?_|refine bS (λh=>?_) (λh=>?_)|refine aF (aHR (V.mk 3 0 ByteArray.empty x.values 0) hml hmw) (bw ?_)|refine aF (aUI x.values) (bw ?_)|refine aF (IS x.code oM) (bw ?_)|refine aF (vD x.code oM hw.code) (bw ?_))
  all_goals try((with_reducible show A1 _ _ _);rw[aZV (by(unfold W4.EV;repeat(first|rw[aT7 oM]|rw[aUF oM]));first|(simp_all;done)|(simp_all;omega))];exact .one (.d _))
  all_goals try(refine⟨(),by(unfold W4.EV;repeat(first|rw[aT7 oM]|rw[aUF oM]));all_goals first|rfl|(simp_all;done)|(simp_all;omega),?_⟩)
  all_goals try((with_reducible show cN _ _ _ _ _ _);(first|rw[W4.aXO oM]|rw[W4.aXF oM]);(first|rw[W4.aW6 oM]|rw[W4.aXL oM]);unfold W4.rb W4.bare;(repeat(first|rw[aT7 oM]|rw[aUF oM]));exact cN.freeze [] aW ⟨.same _,.same _,.same _,.same _,.same _,.same _,aW⟩ ⟨⟨rfl,_,rfl,.cells (.same _)⟩,⟨rfl,_,rfl,.cells (by repeat'(first|exact IX.same _|refine IX.cons (by first|exact Cv.same _|exact Cv.rd (.nz _ _)) ?_))⟩,aW⟩ ⟨tV,⟨nofun,tV⟩,⟨nofun,tV⟩,tV,tV,tV,tV⟩ ⟨tV,tV,tV⟩)
  have hnb:∀i(h:i<x.names.length),x.names[i].value.cR<=2^34:=λi h=>by
   have:=V.dG (x.names.map (·.value)) i (by simpa using h);rw[fO]at this;omega
  have hnw:∀i(h:i<x.names.length),x.names[i].value.wt:=λi h=>by
   have:=V.nH _ hw.names i (by simpa using h)
   rwa [fO]at this
  have hrs:x.EV=(x.names.all λn=>n.value.nI):=by
   unfold W4.EV;repeat(first|rw[aT7 oM]|rw[aUF oM])
   rw[aUZ ⟨oM,oM⟩,‹S4.jD x.code=true›];rfl
  refine bV mix (λi:Nat=>i<=x.names.length/\(x.names.take i).all (λn=>n.value.nI)=true) (I:=λi=>[(1,.d (ci n)),(2,.lp 1 0),(5,.lp 41 0),(7,.d (cb false)),(8,.d (cb true)),(9,.d (cb true)),(10,.d (ci i))])
   (J:=λi=>[(1,.cells false (x.aT1.map A.d)),(41,.cells false (aW0 x x.rb.home))]) (μ:=λi=>x.names.length -i) 20 0 ⟨oM,rfl⟩ mZ ?_
  rintro i ⟨hi,ht⟩
  repeat'(first|refine bl ?_|refine bS (λh=>?_) (λh=>?_)|refine cD rfl eD oM (bw ?_)|refine aF (aHR x.names[i].value (by have:=hnb i oM;omega) (hnw i oM)) (bw ?_))
  ·rw[aZV (by rw[hrs,iA];exact⟨_,aY aM,by simp[‹_=false›]⟩)];exact .one (.d _)
  ·exact⟨i+1,oM,⟨oM,ZO _ _ i oM ht aM⟩,mZ⟩
  ·rw[aI oM]at ht;refine⟨(),by rw[hrs];exact ht,?_⟩;rw[W4.aXF oM,W4.aW6 oM];unfold W4.rb W4.bare
   (repeat(first|rw[aT7 oM]|rw[aUF oM]))
   exact cN.freeze [] aW ⟨.same _,.same _,.same _,.same _,.same _,.same _,aW⟩ ⟨⟨rfl,_,rfl,.cells (.same _)⟩,⟨rfl,_,rfl,.cells (by repeat'(first|exact IX.same _|refine IX.cons (by first|exact Cv.same _|exact Cv.rd (.nz _ _)) ?_))⟩,aW⟩ ⟨tV,⟨nofun,tV⟩,⟨nofun,tV⟩,tV,tV,tV,tV⟩ ⟨tV,tV,tV⟩
 rintro _ hs;rw[hfo hs]
 repeat'(first|refine bl ?_|refine bS (λh=>?_) (λh=>?_)|refine fT (cs:=x.value.aT1) (aHR x.value oM hw.value) (bw ?_)|refine dR (aQQ x.value x.rb.value oM hrv) (.cons (.agg x.value.aT1) (.cons (.agg x.rb.value.aT1) .nil)) (bw ?_))
 all_goals try((with_reducible show A1 _ _ _);refine dP ?_;(try unfold W4.rtl W4.req);first|(simp_all;done)|(simp_all;omega))
 all_goals skip
def aOG{α:Type}{p:α->Bool}{L:List α}(h:(L.take i).all p=false):L.all p=false:=by
 cases hh:L.all p with
 |false=>rfl
 |true=>
  rw[cV]at hh;have:(L.take i).all p=true:=cV.2 λy hy=>hh y (dJ hy);rw[this]at h;cases h
def aQY{α:Type}(p:α->Bool)(L:List α)(i:Nat)(h:i<L.length):(L.take (i+1)).all p=((L.take i).all p&&p L[i]):=by
 rw[aT h,gQ];simp
def aOH{α:Type}{a:Bool}{p:α->Bool}{L:List α}(h:false=(a&&(L.take i).all p)):false=(a&&L.all p):=by
 cases a with
 |false=>rfl
 |true=>rw[cA]at h⊢;exact(aOG h.symm).symm
def W4.aR9(x:W4):Bool:=decide (x.kind=6\/x.kind=7\/x.kind=9\/x.kind=11\/x.kind=14\/x.kind=15\/x.kind=16\/x.kind=13/\x.of≠0)
def R4.aA5(w:R4)(x:W4):Bool:=(x.aR9&& !w.mI x.of)||(decide (x.kind=15\/x.kind=16)&& !w.mI x.by_)
def R4.n4(w:R4)(x:W4)(of k:Int):Bool:=decide ((w.iI of).kind=k)&&decide ((w.iI of).home=x.home)
def FX(r:Int)(x:W4)(t:T4):Bool:=decide (t.ref=r)||(decide (t.bQ.kind≠14)||(decide (t.bQ.of≠x.of)||decide (t.bQ.set≠x.set)))
def aV5(h:t.ref=r):true=FX r x t:=by unfold FX;rw[aUZ h];rfl
def aV6(h:¬t.bQ.kind=14):true=FX r x t:=by unfold FX;rw[aUZ (p:=t.bQ.kind≠14) h];simp
def aV7(h:¬t.bQ.of=x.of):true=FX r x t:=by unfold FX;rw[aUZ (p:=t.bQ.of≠x.of) h];simp
def aV8(h:¬t.ref=r)(h2:t.bQ.kind=14)(h3:t.bQ.of=x.of):(!decide (t.bQ.set=x.set))=FX r x t:=by
 unfold FX;rw[aU0 h,aU0 (p:=t.bQ.kind≠14) (λk=>k h2),aU0 (p:=t.bQ.of≠x.of) (λk=>k h3)];simp
def R4.EK(w:R4)(r:Int)(x:W4)(v:Int):Bool:=
 if x.kind=6 then w.n4 x x.of 5&& !w.QN r 6 x.of false
 else if x.kind=7 then w.n4 x x.of 5
 else if x.kind=9 then w.n4 x x.of 8
 else if x.kind=11 then w.n4 x x.of 10&& !w.QN r 11 x.of false
 else if x.kind=13 then decide (x.of=0)||(decide ((w.iI x.of).kind=15)&&decide ((w.iI x.of).by_=r))
 else if x.kind=15 then(w.n4 x x.by_ 13&& !w.QN r 15 x.by_ true)&&(decide (r=0)||decide ((w.iI x.by_).of=r))
 else if x.kind=16 then w.n4 x x.by_ 3
 else if x.kind=14 then(decide ((w.iI x.of).kind≠14)&&(decide (a7O .andNot .u8 x.set v=0)&&decide (x.set≠v)))&&w.aT4.all (FX r x)
 else true
def R4.WO(w:R4)(x:W4):Bool:=x.refs.all λr=>decide (w.zB r≠0)
def R4.RV(w:R4)(r:Int)(x:W4)(v:Int):Int:=if w.WO x=false then 5 else if w.aA5 x=true then 5 else if w.EK r x v=true then 0 else 70
def aSX(w:R4)(hw:w.wt)(r:Int)(x:W4)(hx:x.cR<=2^34)(hk:0<=x.kind/\x.kind<256)(n:Nat)(v:Int)(hv:x.kind=14->w.MD n x.of=some v):
 Pu 102 [.d (.ip w.aT1),.d (ci r),.d (.agg x.aT1)] (.d (ci (w.RV r x v))):=by
 have hrl:x.refs.length<=2^36:=by
  have h1:=aHQ x.vA;have h2:=x.aF6;unfold W4.refs;omega
 have hwl:=hw.len;have QS:=R4.AF hw x.of;have hkb:=R4.AF hw x.by_;refine iC mix Tryz.func102 ?_
 repeat'(first|refine bl ?_|refine fT (cs:=x.aT1) (aOR x oM) (bw ?_))
 refine cY mix (λi:Nat=>i<=x.refs.length/\(x.refs.take i).all (λr=>decide (w.zB r≠0))=true) (I:=λi=>[(0,.d (.ip w.aT1)),(1,.d (ci r)),(5,.lp 1 0),(7,.d (.sl 1 (iR x.refs))),(8,.d (ci i))])
  (J:=λi=>[(1,.cells false (x.aT1.map A.d))]) (μ:=λi=>x.refs.length -i) 1000 0 0
  (λ_:Unit=>w.WO x=true) (λ_=>[(0,.d (.ip w.aT1)),(1,.d (ci r)),(5,.lp 1 0)]) (λ_=>[(1,.cells false (x.aT1.map A.d))]) 2000 ⟨oM,rfl⟩ mZ ?_ ?_
 ·rintro i ⟨hi,h0⟩
  repeat'(first|refine bl ?_|refine bS (λh=>?_) (λh=>?_)|refine cD rfl eD aM (bw ?_)|refine aF (aQI w x.refs[i] hw) (bw ?_))
  ·have hf:w.WO x=false:=by
    unfold R4.WO;rw[iA];exact⟨_,aY aM,by simpa using‹w.zB _=0›⟩
   unfold R4.RV;rw[aUF hf];exact .one (.d _)
  ·exact⟨i+1,oM,⟨oM,ZO _ _ i aM h0 (aUZ aM)⟩,mZ⟩
  ·rw[aI oM]at h0;exact⟨(),h0,mZ⟩
 rintro _ wB
 repeat'(with_reducible (first|refine w9 ?_|refine we ?_))
 refine tG ?_
 repeat'(first|with_reducible (first|refine w9 ?_|refine nN.mk ?_)|((with_reducible refine wr ?_);(conv=>whnf))|((with_reducible refine FC.mk (RG (by(try dsimp only);omega) (by(try dsimp only);omega)) ?_);(conv=>whnf)))
 refine tG ?_
 repeat'(first|with_reducible (first|refine w9 ?_|refine nN.mk ?_)|((with_reducible refine wr ?_);(conv=>whnf))|((refine aF (zP w x.of hwl) ?_);(conv=>whnf)))
 refine tG ?_
 repeat'(first|with_reducible (first|refine w9 ?_|refine nN.mk ?_)|((with_reducible refine wr ?_);(conv=>whnf))|((refine aF (zP w x.by_ hwl) ?_);(conv=>whnf)))
 refine BH (λb:Bool=>b=x.aR9) (λb=>[(0,.d (.ip w.aT1)),(1,.d (ci r)),(5,.lp 1 0),(9,.d (ci x.kind)),(10,.lp 2088 0),(11,.d (cb (w.mI x.of))),(12,.lp 2168 0),(13,.d (cb (w.mI x.by_))),(14,.d (cb b))]) (λ_=>[(1,.cells false (x.aT1.map A.d)),(2088,.cells false ((w.iI x.of).aT1.map A.d)),(2168,.cells false ((w.iI x.by_).aT1.map A.d))]) 3000 ?_ ?_
 ·skip
  repeat'(first|with_reducible (first|refine w9 ?_|refine nN.mk ?_|refine O8.t rfl ?_|refine O8.f rfl ?_)|((with_reducible (first|refine wr ?_|refine wg ?_|refine wh ?_));(conv=>whnf))|((with_reducible refine nQ (λh=>?_) (λh=>?_))<;>(try rw[h])<;>(conv at h=>{simp}))|((refine aF (aH5 x.kind) ?_);(conv=>whnf)))
  all_goals(apply vT;apply bI;rotate_left;exact mZ;unfold W4.aR9;first|(simp_all[y5];done)|(simp_all[y5];omega))
  all_goals skip
 rintro b rfl;refine BH (λ_:Unit=>w.aA5 x=false) (λ_=>[(0,.d (.ip w.aT1)),(1,.d (ci r)),(5,.lp 1 0),(9,.d (ci x.kind)),(10,.lp 2088 0),(11,.d (cb (w.mI x.of))),(12,.lp 2168 0),(13,.d (cb (w.mI x.by_)))]) (λ_=>[(1,.cells false (x.aT1.map A.d)),(2088,.cells false ((w.iI x.of).aT1.map A.d)),(2168,.cells false ((w.iI x.by_).aT1.map A.d))]) 4000 ?_ ?_
 ·skip
  repeat'(first|refine bl ?_|refine bS (λh=>?_) (λh=>?_))
  all_goals first
   |((with_reducible show A1 _ _ _)
     have hf:w.aA5 x=true:=by unfold R4.aA5;first|(simp_all;done)|(simp_all;omega)
     unfold R4.RV;rw[aT7 (by rw[wB];decide),aUF hf];exact .one (.d _))
   |exact⟨(),by unfold R4.aA5;first|(simp_all;done)|(simp_all;omega),mZ⟩
 rintro _ hla
 repeat'(first|with_reducible (first|refine tG ?_|refine w9 ?_|refine nN.mk ?_)|((with_reducible refine wr ?_);(conv=>whnf)))
 refine BH (λb:Bool=>b=w.EK r x v) (λb=>[(15,.d (cb b))]) (λ_=>[]) 6000 ?_ ?_
 ·skip
  repeat'(first|refine bl ?_|refine bS (λh=>?_) (λh=>?_)|refine aF (aLI w hw r 6 x.of false) (bw ?_)|refine aF (aLI w hw r 11 x.of false) (bw ?_)|refine aF (aLI w hw r 15 x.by_ true) (bw ?_)|refine aF (aOQ w hw n x.of v (hv aM)) (bw ?_))
  all_goals try(apply vT;apply bI;rotate_left;exact mZ;unfold R4.EK;(repeat(first|rw[aT7 oM]|rw[aUF oM]));all_goals((try unfold R4.n4);first|(simp_all;done)|(simp_all;omega)))
  ·refine bV mix (λa:Nat×Bool=>a.1<=w.aT4.length/\a.2=((!decide (x.set=v))&&(w.aT4.take a.1).all (FX r x))) (I:=λa=>[(0,.d (.ip w.aT1)),(1,.d (ci r)),(5,.lp 1 0),(15,.d (cb a.2)),(17,.d (ci a.1))])
    (J:=λa=>[(1,.cells false (x.aT1.map A.d))]) (μ:=λa=>w.aT4.length -a.1) 7000 (0,!decide (x.set=v)) ⟨dM,sM⟩ mZ ?_
   rintro⟨i,b⟩ ⟨hi,hb⟩;dsimp only at hi hb⊢;have aWW:∀b:Bool,b=((!decide (x.set=v))&&w.aT4.all (FX r x))->b=w.EK r x v:=λb e=>by
    rw[e];unfold R4.EK;(repeat(first|rw[aT7 oM]|rw[aUF oM]));simp_all
   by_cases cX:i<w.aT4.length
   ·obtain⟨hk0,hk1⟩:=hw.kind _ (aY cX);have hs:=aQY (FX r x) w.aT4 i cX;cases b with
    |true=>
     repeat'(first|refine bl ?_|refine bS (λh=>?_) (λh=>?_)|refine cD rfl eD aM (bw ?_))
     all_goals try(exfalso;omega)
     all_goals
      have uB:∀c:Bool,c=FX r x w.aT4[i]->c=(!decide (x.set=v)&&(w.aT4.take (i+1)).all (FX r x)):=λc e=>by
       rw[hs,<-Bool.and_assoc,<-hb,e];simp
      first
      |exact⟨(i+1,true),dM,⟨dM,uB _ (by first|exact aV5 aM|exact aV6 aM|exact aV7 aM)⟩,mZ⟩
      |exact⟨(i+1,!decide (w.aT4[i].bQ.set=x.set)),dM,⟨dM,uB _ (aV8 aM aM aM)⟩,mZ⟩
    |false=>
     repeat'(first|refine bl ?_|refine bS (λh=>?_) (λh=>?_))
     all_goals try(exfalso;omega)
     all_goals(apply vT;apply bI;rotate_left;exact mZ;exact aWW _ (aOH hb))
   ·rw[aI oM]at hb
    repeat'(first|refine bl ?_|refine bS (λh=>?_) (λh=>?_))
    all_goals try(exfalso;omega)
    all_goals(apply vT;apply bI;rotate_left;exact mZ;exact aWW _ hb)
  ·refine bV mix (λa:Nat×Bool=>a.1<=w.aT4.length/\a.2=((false)&&(w.aT4.take a.1).all (FX r x))) (I:=λa=>[(0,.d (.ip w.aT1)),(1,.d (ci r)),(5,.lp 1 0),(15,.d (cb a.2)),(17,.d (ci a.1))])
    (J:=λa=>[(1,.cells false (x.aT1.map A.d))]) (μ:=λa=>w.aT4.length -a.1) 7000 (0,false) ⟨dM,sM⟩ mZ ?_
   rintro⟨i,b⟩ ⟨hi,hb⟩;dsimp only at hi hb⊢;have aWW:∀b:Bool,b=((false)&&w.aT4.all (FX r x))->b=w.EK r x v:=λb e=>by
    rw[e];unfold R4.EK;(repeat(first|rw[aT7 oM]|rw[aUF oM]));simp_all
   obtain rfl:b=false:=by simpa using hb
   repeat'(first|refine bl ?_|refine bS (λh=>?_) (λh=>?_))
   all_goals(apply vT;apply bI;rotate_left;exact mZ;exact aWW _ rfl)
  ·refine bV mix (λa:Nat×Bool=>a.1<=w.aT4.length/\a.2=((false)&&(w.aT4.take a.1).all (FX r x))) (I:=λa=>[(0,.d (.ip w.aT1)),(1,.d (ci r)),(5,.lp 1 0),(15,.d (cb a.2)),(17,.d (ci a.1))])
    (J:=λa=>[(1,.cells false (x.aT1.map A.d))]) (μ:=λa=>w.aT4.length -a.1) 7000 (0,false) ⟨dM,sM⟩ mZ ?_
   rintro⟨i,b⟩ ⟨hi,hb⟩;dsimp only at hi hb⊢;have aWW:∀b:Bool,b=((false)&&w.aT4.all (FX r x))->b=w.EK r x v:=λb e=>by
    rw[e];unfold R4.EK;(repeat(first|rw[aT7 oM]|rw[aUF oM]));simp_all
   obtain rfl:b=false:=by simpa using hb
   repeat'(first|refine bl ?_|refine bS (λh=>?_) (λh=>?_))
   all_goals(apply vT;apply bI;rotate_left;exact mZ;exact aWW _ rfl)
 rintro b rfl
 repeat'(first|refine bl ?_|refine bS (λh=>?_) (λh=>?_))
 ·unfold R4.RV;rw[aT7 (by rw[wB];decide),aT7 (by rw[hla];decide),aT7 (by rw[h];decide)];exact .one (.d _)
 ·unfold R4.RV;rw[aT7 (by rw[wB];decide),aT7 (by rw[hla];decide),aUF aM];exact .one (.d _)
def rU8{n:Int}(h:0<=n)(h':n<=255):MN .u8 n:=by
 simp[MN,IntKind.min,IntKind.max,IntKind.signed,IntKind.bits];omega
def aW8:Nat->Int->Nat
 |0,_=>0
 |n+1,a=>if a<=0 then 0 else aW8 n (aB8 a (a -1))+1
def aAK(a:Int):Nat:=aW8 9 a
def aRZ:((List.range 256).all λk=>decide (aAK k<=8)&&(Nat.beq k 0||(decide (aAK k=aAK (aB8 k (k -1))+1)&&(decide (0<=aB8 k (k -1))&&decide (aB8 k (k -1)<k)))))=true:=kK
def aQ9(a:Int)(h0:0<=a)(h1:a<=255):aAK a<=8:=by
 have hx:((a.toNat:Nat):Int)=a:=oM;have:=cV.1 aRZ a.toNat (jI.2 oM);rw[hx,aE]at this;exact aUL this.1
def aWH(a:Int)(h0:0<a)(h1:a<=255):aAK a=aAK (aB8 a (a -1))+1/\0<=aB8 a (a -1)/\aB8 a (a -1)<a:=by
 have hx:((a.toNat:Nat):Int)=a:=oM;have:=cV.1 aRZ a.toNat (jI.2 oM);have hz:Nat.beq a.toNat 0=false:=by
  cases h:Nat.beq a.toNat 0 with
  |false=>rfl
  |true=>have:=bB h;omega
 rw[hz,hx]at this;simp only[aLD,aE,aUA]at this;exact this.2
def aW9:aAK 0=0:=rfl
def R4.tY(w:R4)(r:Int):Int:=(w.MD (w.aT4.length+1) r).getD 0
def aTL(k s:Int)(h0:0<=s)(h1:s<256):0<=aD8 k s/\aD8 k s<=255:=by
 unfold aD8
 repeat(first|(split;omega))
 omega
def R4.VA{w:R4}(hs:∀t∈w.aT4,0<=t.bQ.set/\t.bQ.set<256):∀(n:Nat)(r v:Int),w.MD n r=some v->0<=v/\v<=255
 |0,r,v,h=>by cases h
 |n+1,r,v,h=>by
  rw[R4.MD]at h;cases hf:w.find r with
  |none=>rw[hf]at h;have:=eY h;omega
  |some t=>
   rw[hf]at h;have hm:=hs t (cT hf);dsimp only at h;split at h
   ·exact R4.VA hs n _ v h
   ·rw[<-Option.some.inj h];exact aTL _ _ hm.1 hm.2
def R4.term(w:R4)(t:T4):Int:=if t.bQ.kind=14 then -1 else 2^aAK (w.tY t.ref)-1
def R4.oL(w:R4):List T4->Int
 |[]=>0
 |t::L=>w.term t+R4.oL w L
def R4.aQR(w:R4)(L:List T4)(i:Nat)(h:i<L.length):w.oL (L.take (i+1))=w.oL (L.take i)+w.term L[i]:=by
 have a1Y:∀(a b:List T4),w.oL (a++b)=w.oL a+w.oL b:=λa b=>by
  induction a with
  |nil=>simp[R4.oL]
  |cons t a ih=>simp only[bW,R4.oL,ih];omega
 rw[aT h,a1Y];simp[R4.oL]
def aWI(n:Nat)(h:n<=8):1<=(2:Int)^n/\(2:Int)^n<=256:=by
 have h1:(2:Nat)^n<=2^8:=Nat.pow_le_pow_right oM h;have h2:0<(2:Nat)^n:=Nat.pos_of_ne_zero sM;have e:((2:Nat)^n:Int)=(2:Int)^n:=sM;omega
structure R4.ends(w:R4):Prop extends w.wt where
 set:∀t∈w.aT4,0<=t.bQ.set/\t.bQ.set<256
 FD:∀t∈w.aT4,t.bQ.kind≠14->(w.MD (w.aT4.length+1) t.ref).isSome=true
def R4.ends.MD{w:R4}(h:w.ends){t:T4}(ht:t∈w.aT4)(hk:t.bQ.kind≠14):w.MD (w.aT4.length+1) t.ref=some (w.tY t.ref):=by
 have:=h.FD t ht hk;unfold R4.tY;cases e:w.MD (w.aT4.length+1) t.ref with
 |none=>rw[e]at this;cases this
 |some v=>rfl
def R4.ends.bd{w:R4}(h:w.ends){t:T4}(ht:t∈w.aT4)(hk:t.bQ.kind≠14):0<=w.tY t.ref/\w.tY t.ref<=255:=R4.VA h.set _ _ _ (h.MD ht hk)
def R4.ends.term{w:R4}(h:w.ends){t:T4}(ht:t∈w.aT4):-1<=w.term t/\w.term t<=255:=by
 unfold R4.term;by_cases hk:t.bQ.kind=14
 ·rw[aUF hk];omega
 ·rw[aT7 hk];have hb:=h.bd ht hk;have:=aWI _ (aQ9 _ hb.1 hb.2);omega
def R4.ends.spare{w:R4}(h:w.ends):∀(L:List T4),(∀t∈L,t∈w.aT4)->-(L.length:Int)<=w.oL L/\w.oL L<=255*L.length
 |[],_=>by simp[R4.oL]
 |t::L,hL=>by
  have h1:=h.term (hL t sM);have h2:=h.spare L λt ht=>hL t (by simp[ht]);simp only[R4.oL,aQ];omega
def aS9(w:R4)(hw:w.ends):Pu 103 [.d (.ip w.aT1)] (.d (ci (w.oL w.aT4))):=by
 have hlen:=hw.len;refine iC mix Tryz.func103 ?_;refine bl ?_;refine bV mix (λi:Nat=>i<=w.aT4.length) (I:=λi=>[(0,.d (.ip w.aT1)),(3,.d (ci (w.oL (w.aT4.take i)))),(4,.d (ci i))])
  (J:=λi=>[]) (μ:=λi=>w.aT4.length -i) 1000 0 (Nat.zero_le _) mZ ?_
 rintro i hi;have hsb:=hw.spare (w.aT4.take i) λt ht=>dJ ht;rw[cW]at hsb;by_cases cX:i<w.aT4.length
 ·obtain⟨hk0,hk1⟩:=hw.kind _ (aY cX);have HG:=w.aQR w.aT4 i cX;have aWE:=aY cX;by_cases h14:w.aT4[i].bQ.kind=14
  ·have ht:w.term w.aT4[i]=-1:=by unfold R4.term;rw[aUF h14]
   repeat'(first|refine bl ?_|refine bS (λh=>?_) (λh=>?_)|refine cD rfl eD cX (bw ?_))
   all_goals try(exfalso;omega)
   exact⟨i+1,oM,oM,mZ⟩
  ·have ht:w.term w.aT4[i]=2^aAK (w.tY w.aT4[i].ref)-1:=by unfold R4.term;rw[aT7 h14]
   have hb:=hw.bd aWE h14;have hpl:=aQ9 _ hb.1 hb.2;have hpw:=aWI _ hpl;have hab:=hw.MD aWE h14
   repeat'(first|refine bl ?_|refine bS (λh=>?_) (λh=>?_)|refine cD rfl eD cX (bw ?_)|refine aF (aOQ w hw.towt _ w.aT4[i].ref _ hab) (bw ?_))
   all_goals try(exfalso;omega)
   clear hab;generalize w.tY w.aT4[i].ref=v at ht hb hpl hpw⊢;refine cY mix (λa:Int×Int=>(0<=a.1/\a.1<=255)/\(1<=a.2/\a.2<=256)/\a.2*2^aAK a.1=2^aAK v) (I:=λa=>[(0,.d (.ip w.aT1)),(3,.d (ci (w.oL (w.aT4.take i)))),(4,.d (ci i)),(6,.d (ci a.2)),(7,.d (.v (.int .u8 a.1)))])
    (J:=λa=>[]) (μ:=λa=>a.1.toNat) 2000 (v,1) 2
    (λ_:Unit=>True) (λ_=>[(0,.d (.ip w.aT1)),(3,.d (ci (w.oL (w.aT4.take i)))),(4,.d (ci i)),(6,.d (ci (2^aAK v)))]) (λ_=>[]) 4000 ⟨hb,dM,sM⟩ mZ ?_ ?_
   ·rintro⟨a,z⟩ ⟨ha,hz,he⟩;dsimp only at ha hz he⊢
    repeat'(first|refine bl ?_|refine bS (λh=>?_) (λh=>?_))
    ·refine FC.mk (rU8 oM oM) ?_;conv=>whnf
     refine bl ?_;obtain⟨g1,g2,g3⟩:=aWH a oM ha.2;have g4:2*z*2^aAK (aB8 a (a -1))=2^aAK v:=by rw[<-he,g1,Int.pow_succ];rw[Int.mul_comm 2 z,Int.mul_assoc,Int.mul_comm 2]
     have g5:=aWI _ (aQ9 (aB8 a (a -1)) g2 oM);have g6:2*z*1<=2*z*2^aAK (aB8 a (a -1)):=Int.mul_le_mul_of_nonneg_left g5.1 oM;exact⟨(aB8 a (a -1),2*z),dM,⟨dM,dM,g4⟩,mZ⟩
    ·have h0:a=0:=oM;subst h0;rw[aW9,Int.pow_zero,Int.mul_one]at he;subst he;exact⟨(),tV,mZ⟩
   ·rintro _ _;refine bl ?_;exact⟨i+1,oM,oM,mZ⟩
 ·skip
  repeat'(first|refine bl ?_|refine bS (λh=>?_) (λh=>?_))
  all_goals try(exfalso;omega)
  rw[aI oM];exact oF rfl
abbrev qM(L:List Bool):List (List C):=L.map λb=>[cb b]
def aVH(L:List Int)(hll:L.length<=2^38)(hn:¬(L.length<16/\zD L 0=true)):Pu 96 [.d (.sl 1 (iR L))] (.eL [.d H5,.d (ci 71)]):=by
 refine iC mix Tryz.func96 ?_
 repeat'(first|refine bl ?_|refine bS (λh=>?_) (λh=>?_))
 ·exact .eL (cs:=[H5,ci 71]) (.cons (.d _) (.cons (.d _) .nil))
 have hn:zD L 0=false:=by
  cases h:zD L 0 with
  |false=>rfl
  |true=>exact absurd ⟨oM,h⟩ hn
 refine FC.mk (RG (by simp only[aB];omega) (by simp only[aB];omega)) ?_;conv=>whnf
 skip
 refine WH kK kK (by simp only[aB];omega) (by simp only[aB];omega) kK rfl ?_;conv=>whnf
 skip
 refine WH kK kK (by simp only[aB];omega) (by simp only[aB];omega) kK rfl ?_;conv=>whnf
 refine bl ?_;have e1:List.replicate (((List.map (λx=>List.map A.d x) (iR L)).length:Int)+1).toNat (List.map A.d (zc Tryz.prog 8 3))=bE (iR (List.replicate (L.length+1) 0)):=by
  have e:zc Tryz.prog 8 3=[ci 0]:=kK;rw[e,aB,aB,show((L.length:Int)+1).toNat=L.length+1 by omega];simp[bE,iR]
 have e2:List.replicate ((List.map (λx=>List.map A.d x) (iR L)).length:Int).toNat (List.map A.d (zc Tryz.prog 8 4))=bE (qM (List.replicate L.length false)):=by
  have e:zc Tryz.prog 8 4=[cb false]:=kK;rw[e,aB,aB,hP];simp[bE]
 rw[e1,e2];refine bV mix (λa:Nat×List Int=>a.1<=L.length/\a.2=L.take a.1/\zD (L.drop a.1) a.1=false) (I:=λa=>[(0,.d (.sl 1 (iR L))),(4,.lp 105 0),(5,.d (ci a.1))])
  (J:=λa=>(105,.cells false [lv 1 900 (iR a.2),.h 89,.d (.nl 17),.d (ci 0),.h 65])::lm 900 3 1 (iR a.2) [(89,dU 4 1 (qM (List.replicate L.length false))),(65,dU 3 1 (iR (List.replicate (L.length+1) 0)))]) (μ:=λa=>L.length -a.1) 1000 (0,[]) ⟨dM,rfl,hn⟩ mZ ?_
 rintro⟨i,Q⟩ ⟨hi,hQ,hk⟩;dsimp only at hi hQ hk⊢;by_cases cX:i<L.length
 ·rw[TQ L i cX]at hk;have EN:(decide (0<=L[i])&&decide (L[i]<=(i:Int))&&zD (L.drop (i+1)) ((i+1:Nat):Int))=false->0<=L[i]->L[i]<=(i:Int)->zD (L.drop (i+1)) ((i+1:Nat):Int)=false:=λh a b=>by rw[aUZ a,aUZ b]at h;simpa using h
  cases Q with
  |nil=>
   show vc _ _ _ _ _ [(105,.cells false [.d (.nl 1),.h 89,.d (.nl 17),.d (ci 0),.h 65]),(89,dU 4 1 (qM (List.replicate L.length false))),(65,dU 3 1 (iR (List.replicate (L.length+1) 0)))] _ _
   repeat'(first|refine bl ?_|refine bS (λh=>?_) (λh=>?_)|refine cD rfl eD cX (bw ?_))
   all_goals first
    |(exfalso;omega)
    |exact .eL (cs:=[H5,ci 71]) (.cons (.d _) (.cons (.d _) .nil))
    |skip
   ·refine n8 (by simp only[cE,aS];omega) kK ?_;conv=>whnf
    refine E9.mk (λh1=>absurd h1 sM) (λh1=>?_);conv=>whnf
    refine bl ?_;refine⟨(i+1,[L[i]]),dM,⟨dM,by dsimp only;rw[aT cX,<-hQ];rfl,EN hk oM oM⟩,?_⟩;dsimp only[iR,List.map_cons,List.map_nil,lv,lm];exact mv 1216 900
    all_goals exact cO rfl rfl
  |cons r Q=>
   show vc _ _ _ _ _ [(105,.cells false [.h 900,.h 89,.d (.nl 17),.d (ci 0),.h 65]),(900,dU 3 1 (iR (r::Q))),(89,dU 4 1 (qM (List.replicate L.length false))),(65,dU 3 1 (iR (List.replicate (L.length+1) 0)))] _ _;have hql:(r::Q).length<=i:=by rw[hQ,cW];omega
   repeat'(first|refine bl ?_|refine bS (λh=>?_) (λh=>?_)|refine cD rfl eD cX (bw ?_))
   all_goals first
    |(exfalso;omega)
    |exact .eL (cs:=[H5,ci 71]) (.cons (.d _) (.cons (.d _) .nil))
    |skip
   ·refine n8 (by simp only[cE,aS,aB,aQ,bE];simp only[aQ]at hql;omega) kK ?_;conv=>whnf
    refine bl ?_;refine⟨(i+1,r::(Q++[L[i]])),dM,⟨dM,by dsimp only;rw[aT cX,<-hQ];rfl,EN hk oM oM⟩,?_⟩;dsimp only[iR,List.map_cons,List.map_nil,lv,lm];refine mq 1216 900 ?_
    all_goals exact cO rfl (gG (r::Q) [L[i]])
 ·rw[dT oM]at hk;rw[aI oM]at hQ;cases hk
def aVP(L:List Int):List (Nat×R):=[(204,.cells false [.d (.sl 1 (iR L)),.h 188,.d (.nl 17),.d (ci 0),.h 164]),(188,dU 4 1 (qM (List.replicate L.length false))),(164,dU 3 1 (iR (List.replicate (L.length+1) 0)))]
def aVI(L:List Int)(hll:L.length<16)(hp:zD L 0=true):aJ Tryz.prog 96 [.d (.sl 1 (iR L))] (aK []) (.ok (.eL [.lp 204 0,.d (ci 0)])) (aH (aK []) (aVP L)):=by
 refine wE mix 100 Tryz.func96 ?_ ?_ ?_
 ·exact⟨sn,tV⟩
 ·exact⟨⟨sn,sn,tV⟩,aZ,aZ,tV⟩
 repeat'(first|refine bl ?_|refine bS (λh=>?_) (λh=>?_))
 ·exfalso;(try simp only[aB]at*);omega
 refine FC.mk (RG (by simp only[aB];omega) (by simp only[aB];omega)) ?_;conv=>whnf
 skip
 refine WH kK kK (by simp only[aB];omega) (by simp only[aB];omega) kK rfl ?_;conv=>whnf
 skip
 refine WH kK kK (by simp only[aB];omega) (by simp only[aB];omega) kK rfl ?_;conv=>whnf
 refine bl ?_;have e1:List.replicate (((List.map (λx=>List.map A.d x) (iR L)).length:Int)+1).toNat (List.map A.d (zc Tryz.prog 8 3))=bE (iR (List.replicate (L.length+1) 0)):=by
  have e:zc Tryz.prog 8 3=[ci 0]:=kK;rw[e,aB,aB,show((L.length:Int)+1).toNat=L.length+1 by omega];simp[bE,iR]
 have e2:List.replicate ((List.map (λx=>List.map A.d x) (iR L)).length:Int).toNat (List.map A.d (zc Tryz.prog 8 4))=bE (qM (List.replicate L.length false)):=by
  have e:zc Tryz.prog 8 4=[cb false]:=kK;rw[e,aB,aB,hP];simp[bE]
 rw[e1,e2];refine cY mix (λa:Nat×List Int=>a.1<=L.length/\a.2=L.take a.1/\zD (L.drop a.1) a.1=true) (I:=λa=>[(0,.d (.sl 1 (iR L))),(4,.lp 204 0),(5,.d (ci a.1))])
  (J:=λa=>(204,.cells false [lv 1 900 (iR a.2),.h 188,.d (.nl 17),.d (ci 0),.h 164])::lm 900 3 1 (iR a.2) [(188,dU 4 1 (qM (List.replicate L.length false))),(164,dU 3 1 (iR (List.replicate (L.length+1) 0)))]) (μ:=λa=>L.length -a.1) 1000 (0,[]) 0
  (λQ:List Int=>Q=L) (λ_=>[(4,.lp 204 0)]) (λ_=>[(204,.cells false [.d (.sl 1 (iR L)),.h 188,.d (.nl 17),.d (ci 0),.h 164]),(188,dU 4 1 (qM (List.replicate L.length false))),(164,dU 3 1 (iR (List.replicate (L.length+1) 0)))]) 2000 ⟨dM,rfl,hp⟩ mZ ?_ ?_
 ·rintro⟨i,Q⟩ ⟨hi,hQ,hk⟩;dsimp only at hi hQ hk⊢;by_cases cX:i<L.length
  ·rw[TQ L i cX]at hk;simp only[aE,aUA]at hk;cases Q with
   |nil=>
    show vc _ _ _ _ _ [(204,.cells false [.d (.nl 1),.h 188,.d (.nl 17),.d (ci 0),.h 164]),(188,dU 4 1 (qM (List.replicate L.length false))),(164,dU 3 1 (iR (List.replicate (L.length+1) 0)))] _ _
    repeat'(first|refine bl ?_|refine bS (λh=>?_) (λh=>?_)|refine cD rfl eD cX (bw ?_))
    all_goals first
     |(exfalso;omega)
     |(exfalso;omega)
     |skip
    ·refine n8 (by simp only[cE,aS];omega) kK ?_;conv=>whnf
     refine E9.mk (λh1=>absurd h1 sM) (λh1=>?_);conv=>whnf
     refine bl ?_;refine⟨(i+1,[L[i]]),dM,⟨dM,by dsimp only;rw[aT cX,<-hQ];rfl,hk.2⟩,?_⟩;dsimp only[iR,List.map_cons,List.map_nil,lv,lm];exact mv 1216 900
     all_goals exact cO rfl rfl
   |cons r Q=>
    show vc _ _ _ _ _ [(204,.cells false [.h 900,.h 188,.d (.nl 17),.d (ci 0),.h 164]),(900,dU 3 1 (iR (r::Q))),(188,dU 4 1 (qM (List.replicate L.length false))),(164,dU 3 1 (iR (List.replicate (L.length+1) 0)))] _ _;have hql:(r::Q).length<=i:=by rw[hQ,cW];omega
    repeat'(first|refine bl ?_|refine bS (λh=>?_) (λh=>?_)|refine cD rfl eD cX (bw ?_))
    all_goals first
     |(exfalso;omega)
     |(exfalso;omega)
     |skip
    ·refine n8 (by simp only[cE,aS,aB,aQ,bE];simp only[aQ]at hql;omega) kK ?_;conv=>whnf
     refine bl ?_;refine⟨(i+1,r::(Q++[L[i]])),dM,⟨dM,by dsimp only;rw[aT cX,<-hQ];rfl,hk.2⟩,?_⟩;dsimp only[iR,List.map_cons,List.map_nil,lv,lm];refine mq 1216 900 ?_
     all_goals exact cO rfl (gG (r::Q) [L[i]])
  ·rw[dT oM]at hk;rw[aI oM]at hQ;cases Q with
   |nil=>
    show vc _ _ _ _ _ [(204,.cells false [.d (.nl 1),.h 188,.d (.nl 17),.d (ci 0),.h 164]),(188,dU 4 1 (qM (List.replicate L.length false))),(164,dU 3 1 (iR (List.replicate (L.length+1) 0)))] _ _
    repeat'(first|refine bl ?_|refine bS (λh=>?_) (λh=>?_)|refine cD rfl eD aM (bw ?_))
    all_goals try(exfalso;omega)
    exact⟨[],hQ,cN.freeze [] tV ⟨.same _,tV⟩ ⟨⟨rfl,_,rfl,.cells (.cons (.rd (aVF hQ.symm)) (.same _))⟩,⟨rfl,_,rfl,.fW (.same _)⟩,⟨rfl,_,rfl,.fW (.same _)⟩,tV⟩ ⟨⟨nofun,tV⟩,tV⟩ ⟨⟨nofun,nofun,tV⟩,aZ,aZ,tV⟩⟩
   |cons r Q=>
    show vc _ _ _ _ _ [(204,.cells false [.h 900,.h 188,.d (.nl 17),.d (ci 0),.h 164]),(900,dU 3 1 (iR (r::Q))),(188,dU 4 1 (qM (List.replicate L.length false))),(164,dU 3 1 (iR (List.replicate (L.length+1) 0)))] _ _
    repeat'(first|refine bl ?_|refine bS (λh=>?_) (λh=>?_)|refine cD rfl eD aM (bw ?_))
    all_goals try(exfalso;omega)
    exact⟨r::Q,hQ,by rw[<-hQ];exact cN.freeze [900] tV ⟨.same _,tV⟩ ⟨⟨rfl,_,rfl,.cells (.cons (.rd (.dU (eX rfl rfl))) (.same _))⟩,⟨rfl,_,rfl,.fW (.same _)⟩,⟨rfl,_,rfl,.fW (.same _)⟩,tV⟩ ⟨⟨nofun,tV⟩,tV⟩ ⟨⟨nofun,nofun,tV⟩,aZ,aZ,tV⟩⟩
 ·rintro Q rfl;refine bl ?_;exact dA rfl ⟨.inr rfl,.inr rfl,.inr rfl,tV⟩
def J4(c:List Bool)(l:List Int):List Bool:=l.foldl (λa k=>a.set (k -1).toNat true) c
def aSY(l:List Int):∀c:List Bool,(J4 c l).length=c.length:=by
 induction l with
 |nil=>intro c;rfl
 |cons a r ih=>intro c;simp only[J4,fX]at ih⊢;rw[ih];simp
def aRG(c:List Bool)(l:List Int)(i:Nat)(h:i<l.length):J4 c (l.take (i+1))=(J4 c (l.take i)).set (l[i]-1).toNat true:=by
 simp only[J4];rw[aT h,iB];rfl
def L4(n xl:Int):List T4->Int->Bool
 |[],_=>true
 |t::r,last=>(decide (last<t.ref)&&decide (t.ref<=xl))&&(t.bQ.tB n&&L4 n xl r t.ref)
def aTA(n xl:Int)(T:List T4)(i:Nat)(h:i<T.length)(q:Int):L4 n xl (T.drop i) q=((decide (q<T[i].ref)&&decide (T[i].ref<=xl))&&(T[i].bQ.tB n&&L4 n xl (T.drop (i+1)) (AG T (i+1)))):=by
 rw[dE h,L4,AG,aC h];rfl
def aA6(M:List Int):Bool:=M.all λm=>decide (0<=m)&&decide (m<=512)
def X7:List Int->List Int->Bool
 |h::r,m::s=>decide (h<=m)&&X7 r s
 |_,_=>true
def aTY(H M:List Int)(i:Nat)(h:i<H.length)(h2:i<M.length):X7 (H.drop i) (M.drop i)=(decide (H[i]<=M[i])&&X7 (H.drop (i+1)) (M.drop (i+1))):=by
 rw[dE h,dE h2,X7]
def rC(x:X4):List Bool:=J4 (List.replicate x.parents.length false) x.aU3
def rW(x:X4):R4:=⟨x.parents,rC x,x.aT4,x.last,x.made⟩
def R4.yK(w:R4)(r:Int):Bool:=decide ((w.CT r).length<=w.aT4.length)&& !y5 (w.zB ((w.CT r).getD ((w.CT r).length -1) 0))
def aPS(x:X4):Bool:=x.aT4.all (λt=>(rW x).yK t.ref)&&(x.aT4.all (λt=>decide ((rW x).RV t.ref t.bQ ((rW x).tY t.bQ.of)=0))&&decide (x.last+(rW x).oL x.aT4<=64*x.made.sum))
def aOT(x:X4):Bool:=(decide (0<=x.last)&&(decide (x.last<=64*x.made.sum)&&decide (x.aT4.length<=64*x.made.sum)))&&(L4 x.made.length x.last x.aT4 0&&(X7 (UR x.made.length x.aT4) x.made&&aPS x))
def v7(x:X4):Bool:=(decide (x.parents.length<16)&&zD x.parents 0)&&(decide (x.made.length=x.parents.length+1)&&(E7 (x.parents.length+1) x.aU3 none&&(aA6 x.made&&aOT x)))
def RC(x:X4):C:=if v7 x=true then .ip (rW x).aT1 else H5
def QO(x:X4):Int:=if v7 x=true then 0 else 71
def kC{x:X4}(m:Mem)(h:v7 x=false):A1 m (.eL [.d H5,.d (ci 71)]) (.eL [.d (RC x),.d (ci (QO x))]):=by
 unfold RC QO;rw[h,aT7 gO,aT7 gO];exact .eL (cs:=[H5,ci 71]) (.cons (.d _) (.cons (.d _) .nil))
abbrev tR(L:List T4):List (List C):=L.map T4.aT1
def aS7(a:List T4)(b:T4):bE (tR a)++[b.aT1.map A.d]=bE (tR (a++[b])):=by rw[tR,tR,bP,ER];rfl
def aXB{m:Mem}{ty:Nat}{Q L:List T4}(h:m i=some (dU ty 17 (tR Q)))(e:Q=L):Rd m (.h i) (.sl 17 (L.map T4.aT1)):=by subst e;exact .dU h
def aVO{m:Mem}{a b:List Int}(h:m i=some (dU 3 1 (iR a)))(e:a=b):Rd m (.h i) (.sl 1 (iR b)):=by subst e;exact .dU h
def YV(T:List T4)(i:Nat)(h:0<i)(h2:i<=T.length):AG T i=(T[i -1]' oM).ref:=by
 cases i with
 |zero=>omega
 |succ k=>rw[AG,aC oM];rfl
def aOS{n:Int}(h:x.tB n=true):x.kind=14\/0<=x.home/\x.home<n:=by
 unfold W4.tB W4.kM at h;simp only[aE,aUA]at h;exact h.1.2.2
def R4.aQV(w:R4){t:T4}(h:t∈w.aT4):0<(w.CT t.ref).length:=by
 unfold R4.CT;rw[R4.pX];cases hf:w.find t.ref with
 |none=>
  unfold R4.find at hf;rw[mN]at hf;exact absurd sM (hf t h)
 |some u=>dsimp only;split<;>simp
def R4.aUR(w:R4)(r:Int):(w.CT r).length<=w.aT4.length+1:=w.aQU _ r
def R4.aOE(w:R4):∀(n:Nat)(r:Int),(w.pX n r).length<n->(w.MD n r).isSome=true
 |0,r,h=>oM
 |n+1,r,h=>by
  rw[R4.MD];rw[R4.pX]at h;cases hf:w.find r with
  |none=>rfl
  |some u=>
   rw[hf]at h;dsimp only at h⊢;by_cases hk:u.bQ.kind=15\/u.bQ.kind=16
   ·rw[aUF hk];have hw:y5 u.bQ.kind=true:=by
     unfold y5;rcases hk with e|e<;>rw[e]<;>decide
    rw[hw]at h;exact R4.aOE w n _ (by simpa using h)
   ·rw[aT7 hk];rfl
def aS0{x:X4}{m:Mem}(h:v7 x=true):A1 m (.eL [.d (.ip (rW x).aT1),.d (ci 0)]) (.eL [.d (RC x),.d (ci (QO x))]):=by
 unfold RC QO;rw[h,aUF rfl,aUF rfl];exact .eL (cs:=[.ip (rW x).aT1,ci 0]) (.cons (.d _) (.cons (.d _) .nil))
abbrev cI(v:Int):List C:=[ci v]
abbrev rwA(x:X4):R:=.cells false [.d (.sl 1 (iR x.parents)),.h 188,.d (.nl 17),.d (ci 0),.h 164]
def aQL(x:X4)(aXR:∀t∈x.aT4,t.bQ.cR<=2^33/\t.bQ.wt)(hlen:x.aT4.length<=2^30)(hpl:x.parents.length<=2^38)(n0:x.aU3.length<=2^38)(hml:x.made.length<=2^38)(hhm:∀t∈x.aT4,-9223372036854775808<=t.bQ.home/\t.bQ.home<=9223372036854775807):
 Pu 44 [.d (.agg x.aT1)] (.eL [.d (RC x),.d (ci (QO x))]):=by
 refine iC mix Tryz.func44 ?_;refine bl ?_;by_cases aYR:x.parents.length<16/\zD x.parents 0=true
 case neg=>
  refine aF (aVH x.parents hpl aYR) ?_;conv=>whnf
  refine bl ?_;refine kC _ ?_;unfold v7;rw[show(decide (x.parents.length<16)&&zD x.parents 0)=false by simp only[gI,aU1];simp only[not_and,Bool.not_eq_true]at aYR;by_cases h:x.parents.length<16;exact .inr (aYR h);exact .inl h,c0]
 obtain⟨P0,hn2⟩:=aYR;have tO:v7 x=(decide (x.made.length=x.parents.length+1)&&(E7 (x.parents.length+1) x.aU3 none&&(aA6 x.made&&aOT x))):=by
  unfold v7;rw[hn2,aUZ P0,cA,cA]
 refine dZ.mk (.eL [.lp 204 0,.d (ci 0)]) (aVP x.parents) (aJ.l8 (aVI x.parents P0 hn2) tV tV tV ⟨.inr rfl,.inr rfl,.inr rfl,tV⟩) ?_;conv=>whnf
 refine bl ?_;refine FC.mk (RG (by(try simp only[aB]);omega) (by(try simp only[aB]);omega)) ?_;conv=>whnf
 repeat'(first|refine bl ?_|refine bS (λh=>?_) (λh=>?_))
 ·refine kC _ ?_;rw[tO,aU0 (by(try simp at h);omega),c0]
 have T9:x.made.length=x.parents.length+1:=by(try simp at h);omega
 rw[aUZ T9,cA]at tO;have hz:iR (List.replicate (x.parents.length+1) 0)=half cI [ci 0] x.made 0:=by rw[aAL,T9];simp[iR]
 rw[hz];refine cY mix (λi:Nat=>i<=x.aU3.length/\E7 (x.parents.length+1) (x.aU3.drop i) (EM x.aU3 i)=E7 (x.parents.length+1) x.aU3 none) (I:=λi=>[(1,.lp 1 0),(4,.lp 204 0),(6,.d (ci i))])
  (J:=λi=>[(1,.cells false (x.aT1.map A.d)),(204,rwA x),(188,dU 4 1 (qM (J4 (List.replicate x.parents.length false) (x.aU3.take i)))),(164,dU 3 1 (half cI [ci 0] x.made 0))]) (μ:=λi=>x.aU3.length -i) 1000 0 0
  (λ_:Unit=>E7 (x.parents.length+1) x.aU3 none=true) (λ_=>[(1,.lp 1 0),(4,.lp 204 0)]) (λ_=>[(1,.cells false (x.aT1.map A.d)),(204,rwA x),(188,dU 4 1 (qM (rC x))),(164,dU 3 1 (half cI [ci 0] x.made 0))]) 2000 ⟨oM,rfl⟩ mZ ?_ ?_
 ·rintro i ⟨hi,h0⟩;have hcu:(J4 (List.replicate x.parents.length false) (x.aU3.take i)).length=x.parents.length:=by rw[aSY];simp
  by_cases cX:i<x.aU3.length
  ·rw[C3 _ _ _ cX]at h0;have pG:(K3 (EM x.aU3 i) x.aU3[i]&&(decide (0<x.aU3[i])&&decide (x.aU3[i]<((x.parents.length+1:Nat):Int))))=false->v7 x=false:=λe=>by
    rw[tO,<-h0,e];simp
   have aX9:(K3 (EM x.aU3 i) x.aU3[i]&&(decide (0<x.aU3[i])&&decide (x.aU3[i]<((x.parents.length+1:Nat):Int))))=true->E7 (x.parents.length+1) (x.aU3.drop (i+1)) (EM x.aU3 (i+1))=E7 (x.parents.length+1) x.aU3 none:=λe=>by
    rw[<-h0,e,cA]
   have HG:∀k:Nat,x.aU3[i]-1=k->(bE (qM (J4 (List.replicate x.parents.length false) (x.aU3.take i)))).set k [.d (cb true)]=bE (qM (J4 (List.replicate x.parents.length false) (x.aU3.take (i+1)))):=λk hk=>by
    rw[aRG _ _ _ cX,show(x.aU3[i]-1).toNat=k by omega];exact(tU _ k [cb true]).trans (by rw[<-List.map_set])
   clear h0
   repeat'(first|refine bl ?_|refine bS (λh=>?_) (λh=>?_)|refine cD rfl eD aM (bw ?_)|refine aHH (i -1) oM rfl eD oM (bw ?_))
   ·refine kC _ (pG ?_);rw[show decide (0<x.aU3[i])=false from aU0 oM];simp
   ·refine kC _ (pG ?_);rw[show decide (x.aU3[i]<((x.parents.length+1:Nat):Int))=false from aU0 oM];simp
   ·refine kC _ (pG ?_);rw[OE _ _ aM oM,show K3 (some x.aU3[i -1]) x.aU3[i]=false from aU0 oM,c0]
   ·obtain⟨k,hk⟩:∃k:Nat,x.aU3[i]-1=k:=⟨(x.aU3[i]-1).toNat,oM⟩;refine lG.mk k hk (by simp only[bE,aB];omega) ?_;conv=>whnf
    skip
    refine fZ.mk [.d (cb (J4 (List.replicate x.parents.length false) (x.aU3.take i))[k])] (gB _ _ [cb (J4 (List.replicate x.parents.length false) (x.aU3.take i))[k]] sM) ?_;conv=>whnf
    refine bl ?_;refine⟨i+1,oM,⟨oM,aX9 ?_⟩,?_⟩
    ·rw[OE _ _ aM oM,show K3 (some x.aU3[i -1]) x.aU3[i]=true from aUZ aM,aUZ oM,aUZ oM];rfl
    ·refine mq 5000 5001 ?_
     all_goals exact cO rfl (HG k hk)
   ·obtain⟨k,hk⟩:∃k:Nat,x.aU3[i]-1=k:=⟨(x.aU3[i]-1).toNat,oM⟩;refine lG.mk k hk (by simp only[bE,aB];omega) ?_;conv=>whnf
    skip
    refine fZ.mk [.d (cb (J4 (List.replicate x.parents.length false) (x.aU3.take i))[k])] (gB _ _ [cb (J4 (List.replicate x.parents.length false) (x.aU3.take i))[k]] sM) ?_;conv=>whnf
    refine bl ?_;have hi0:i=0:=aM;refine⟨i+1,oM,⟨oM,aX9 ?_⟩,?_⟩
    ·rw[show K3 (EM x.aU3 i) x.aU3[i]=true by subst hi0;rfl,aUZ oM,aUZ oM];rfl
    ·refine mq 5000 5001 ?_
     all_goals exact cO rfl (HG k hk)
   ·exfalso;omega
  ·skip
   refine bl ?_;refine O8.f (aU0 (by(try simp only[aB]);omega)) ?_;refine bl ?_;rw[dT oM,E7]at h0;rw[aI oM];exact⟨(),h0.symm,mZ⟩
 rintro _ hwl;rw[hwl,cA]at tO;refine bl ?_;refine cY mix (λa:Nat×Int=>a.1<=x.made.length/\aA6 (x.made.take a.1)=true/\a.2=(x.made.take a.1).sum/\0<=a.2/\a.2<=512*a.1) (I:=λa=>[(1,.lp 1 0),(4,.lp 204 0),(7,.d (ci a.2)),(8,.d (ci a.1))])
  (J:=λa=>[(1,.cells false (x.aT1.map A.d)),(204,rwA x),(188,dU 4 1 (qM (rC x))),(164,dU 3 1 (half cI [ci 0] x.made a.1))]) (μ:=λa=>x.made.length -a.1) 3000 (0,0) 2
  (λ_:Unit=>aA6 x.made=true/\0<=x.made.sum/\x.made.sum<=512*x.made.length) (λ_=>[(1,.lp 1 0),(4,.lp 204 0),(7,.d (ci x.made.sum))]) (λ_=>[(1,.cells false (x.aT1.map A.d)),(204,rwA x),(188,dU 4 1 (qM (rC x))),(164,dU 3 1 (iR x.made))]) 4000 ⟨sM,rfl,rfl,sM,sM⟩ mZ ?_ ?_
 ·rintro⟨i,sm⟩ ⟨hi,h2,hsm,hs0,hs1⟩;dsimp only at hi h2 hsm hs0 hs1⊢;by_cases cX:i<x.made.length
  ·have pG:(decide (0<=x.made[i])&&decide (x.made[i]<=512))=false->v7 x=false:=λe=>by
    have:aA6 x.made=false:=by unfold aA6;rw[iA];exact⟨_,aY cX,by rw[e];decide⟩
    rw[tO,this,c0]
   have hlm:=DZ cI [ci 0] x.made i hi
   repeat'(first|refine bl ?_|refine bS (λh=>?_) (λh=>?_)|refine cD rfl eD aM (bw ?_))
   ·refine kC _ (pG ?_);rw[aU0 oM];rfl
   ·refine kC _ (pG ?_);rw[show decide (x.made[i]<=512)=false from aU0 oM];simp
   ·refine lG.mk i rfl (by simp only[bE,aB];omega) ?_;conv=>whnf
    skip
    refine fZ.mk [.d (ci 0)] (gB _ _ [ci 0] (aDD _ _ _ _ cX)) ?_;conv=>whnf
    repeat'(first|refine bl ?_|refine cD rfl eD aM (bw ?_))
    refine⟨(i+1,sm+x.made[i]),dM,⟨dM,ZO _ _ i cX h2 (by rw[aUZ aM,aUZ aM];rfl),by dsimp only;rw[aFZ _ _ cX,<-hsm],dM,dM⟩,?_⟩;refine mq 5000 5001 ?_
    all_goals exact cO rfl ((tU _ i [ci x.made[i]]).trans (by rw[<-aDE cI [ci 0] x.made i cX]))
   ·exfalso;omega
  ·skip
   refine bl ?_;refine O8.f (aU0 (by(try simp only[aB]);omega)) ?_;refine bl ?_;rw[aI oM]at h2 hsm;have hi:i=x.made.length:=oM;subst hi;refine⟨(),⟨h2,oM,oM⟩,?_⟩;rw[<-hsm];refine mq 5000 5001 ?_
   all_goals exact cO rfl (by rw[aDC])
 rintro _ ⟨hmo,hs0,hs1⟩;rw[hmo,cA]at tO;have hfr:aOT x=((decide (0<=x.last)&&(decide (x.last<=64*x.made.sum)&&decide (x.aT4.length<=64*x.made.sum)))&&(L4 x.made.length x.last x.aT4 0&&(X7 (UR x.made.length x.aT4) x.made&&aPS x))):=rfl;rw[hfr]at tO;clear hfr
 repeat'(first|refine bl ?_|refine bS (λh=>?_) (λh=>?_))
 ·refine kC _ ?_;rw[tO,show decide (0<=x.last)=false from aU0 oM];simp
 ·refine kC _ ?_;rw[tO,show decide (x.last<=64*x.made.sum)=false from aU0 oM];simp
 ·refine kC _ ?_;rw[tO,show decide ((x.aT4.length:Int)<=64*x.made.sum)=false from aU0 oM];simp
 rw[show decide (0<=x.last)=true from aUZ oM,show decide (x.last<=64*x.made.sum)=true from aUZ oM,show decide ((x.aT4.length:Int)<=64*x.made.sum)=true from aUZ oM,cA,cA,cA]at tO;refine WH kK kK (by simp only[aB];omega) (by simp only[aB];omega) kK rfl ?_;conv=>whnf
 refine bl ?_;have XO:List.replicate ((List.map (λx=>List.map A.d x) (iR x.made)).length:Int).toNat (List.map A.d (zc Tryz.prog 8 3))=bE (iR (UR x.made.length [])):=by
  have e:zc Tryz.prog 8 3=[ci 0]:=kK;rw[e,aB,aB,hP];simp[bE,iR,UR]
 rw[XO];refine cY mix (λa:Nat×List T4=>a.1<=x.aT4.length/\a.2=x.aT4.take a.1/\0<=AG x.aT4 a.1/\L4 x.made.length x.last (x.aT4.drop a.1) (AG x.aT4 a.1)=L4 x.made.length x.last x.aT4 0) (I:=λa=>[(1,.lp 1 0),(4,.lp 204 0),(7,.d (ci x.made.sum)),(9,.h 4216),(10,.d (ci a.1))])
  (J:=λa=>(1,.cells false (x.aT1.map A.d))::(204,.cells false [.d (.sl 1 (iR x.parents)),.d (.sl 1 (qM (rC x))),lv 17 900 (tR a.2),.d (ci x.last),.d (.sl 1 (iR x.made))])::lm 900 93 17 (tR a.2) [(4216,dU 3 1 (iR (UR x.made.length a.2)))]) (μ:=λa=>x.aT4.length -a.1) 5000 (0,[]) 4
  (λ_:Unit=>L4 x.made.length x.last x.aT4 0=true) (λ_=>[(1,.lp 1 0),(4,.d (.ip (rW x).aT1)),(7,.d (ci x.made.sum)),(9,.d (.sl 1 (iR (UR x.made.length x.aT4))))]) (λ_=>[(1,.cells false (x.aT1.map A.d))]) 7000 ⟨sM,rfl,by simp[AG],rfl⟩ ?_ ?_ ?_
 ·refine cN.freeze [188,164] tV ⟨.same _,.same _,.same _,.same _,.same _,tV⟩ ⟨⟨rfl,_,rfl,.cells (.same _)⟩,⟨rfl,_,rfl,.cells (.cons (.same _) (.cons (.rd (.dU (eX rfl rfl))) (.cons (.same _) (.cons (.same _) (.cons (.rd (.dU (eX rfl rfl))) (.same _))))))⟩,⟨rfl,_,rfl,.fW (.same _)⟩,tV⟩ ⟨⟨nofun,tV⟩,⟨nofun,tV⟩,tV,⟨nofun,tV⟩,tV,tV⟩ ⟨tV,tV,aZ,tV⟩
 ·rintro⟨i,Q⟩ ⟨hi,hQ,hla,h1⟩;dsimp only at hi hQ hla h1⊢;by_cases cX:i<x.aT4.length
  ·have aWE:=aY cX;obtain⟨hc1,wF⟩:=aXR _ aWE;obtain⟨hk0,hk1⟩:=wF.kind;rw[aTA _ _ _ _ cX]at h1;have pG:(decide (AG x.aT4 i<x.aT4[i].ref)&&(decide (x.aT4[i].ref<=x.last)&&x.aT4[i].bQ.tB x.made.length))=false->v7 x=false:=λe=>by
    rw[tO,<-h1];cases e1:decide (AG x.aT4 i<x.aT4[i].ref)<;>cases e2:decide (x.aT4[i].ref<=x.last)<;>cases e3:x.aT4[i].bQ.tB x.made.length<;>simp[e1,e2,e3]at e⊢
   cases Q with
   |nil=>
    show vc _ _ _ _ _ [(1,.cells false (x.aT1.map A.d)),(204,.cells false [.d (.sl 1 (iR x.parents)),.d (.sl 1 (qM (rC x))),.d (.nl 17),.d (ci x.last),.d (.sl 1 (iR x.made))]),(4216,dU 3 1 (iR (UR x.made.length ([]))))] _ _;have hHl:(UR x.made.length ([])).length=x.made.length:=ZF _ _;have hHb:∀v∈UR x.made.length ([]),0<=v/\v<=i:=by rw[hQ];exact aF1 _ _ _ hi
    refine QH ?_
    repeat'(first|with_reducible (first|refine tG ?_|refine w9 ?_|refine nN.mk ?_)|((with_reducible (first|refine wr ?_|refine wi ?_));(conv=>whnf)))
    refine O8.t (aUZ (by(try simp only[aB]);omega)) ?_
    repeat'(with_reducible (first|refine w2 ?_|refine w9 ?_))
    refine TA ?_
    repeat'(first|with_reducible (first|refine tG ?_|refine w5 ?_|refine w9 ?_|refine nN.mk ?_)|((with_reducible refine wr ?_);(conv=>whnf))|((refine cD rfl eD cX ?_);(conv=>whnf)))
    refine BH (λ_:Unit=>AG x.aT4 i<x.aT4[i].ref/\x.aT4[i].ref<=x.last/\x.aT4[i].bQ.tB x.made.length=true) (λ_=>[(1,.lp 1 0),(4,.lp 204 0),(7,.d (ci x.made.sum)),(9,.h 4216),(10,.d (ci i)),(11,.lp 5080 0)]) (λ_=>[(5080,.cells false (x.aT4[i].aT1.map A.d)),(1,.cells false (x.aT1.map A.d)),(204,.cells false [.d (.sl 1 (iR x.parents)),.d (.sl 1 (qM (rC x))),.d (.nl 17),.d (ci x.last),.d (.sl 1 (iR x.made))]),(4216,dU 3 1 (iR (UR x.made.length ([]))))]) 6000 ?_ ?_
    ·skip
     repeat'(first|refine bl ?_|refine bS (λh=>?_) (λh=>?_)|refine aHH (i -1) oM rfl eD oM (bw ?_)|(refine jV (aQK x.aT4[i].bQ oM wF ((List.map (λx=>List.map A.d x) (iR x.made)).length:Nat) (hhm _ aWE)) (.cons (.agg x.aT4[i].bQ.aT1) (.cons (.same _) .nil)) ?_;(conv=>whnf)))
     ·refine kC _ (pG ?_);rw[show decide (AG x.aT4 i<x.aT4[i].ref)=false from aU0 oM,c0]
     ·refine kC _ (pG ?_);rw[show decide (x.aT4[i].ref<=x.last)=false from aU0 oM];simp
     ·refine kC _ (pG ?_);rw[YV _ _ aM hi,show decide (x.aT4[i -1].ref<x.aT4[i].ref)=false from aU0 oM,c0]
     ·refine kC _ (pG ?_);rw[‹W4.tB _ _=false›];simp
     ·exact⟨(),⟨by rw[YV _ _ aM hi];assumption,aM,aM⟩,mZ⟩
     ·refine kC _ (pG ?_);rw[‹W4.tB _ _=false›];simp
     ·have hi0:i=0:=aM;exact⟨(),⟨by subst hi0;show(0:Int)<_;omega,aM,aM⟩,mZ⟩
    rintro _ ⟨hg1,hg2,hg3⟩;rw[aUZ hg1,aUZ hg2]at h1;rw[hg3,cA,cA,cA]at h1;have hhr:=aOS hg3;refine BH (λ_:Unit=>True) (λ_=>[(1,.lp 1 0),(4,.lp 204 0),(7,.d (ci x.made.sum)),(9,.h 4216),(10,.d (ci i)),(11,.lp 5080 0)]) (λ_=>[(5080,.cells false (x.aT4[i].aT1.map A.d)),(1,.cells false (x.aT1.map A.d)),(204,.cells false [.d (.sl 1 (iR x.parents)),.d (.sl 1 (qM (rC x))),.d (.nl 17),.d (ci x.last),.d (.sl 1 (iR x.made))]),(4216,dU 3 1 (iR (yV (UR x.made.length ([])) x.aT4[i])))]) 6500 ?_ ?_
    ·skip
     repeat'(first|refine bl ?_|refine bS (λh=>?_) (λh=>?_))
     ·have aZG:¬x.aT4[i].bQ.kind=14:=aM;obtain⟨k,hk⟩:∃k:Nat,x.aT4[i].bQ.home=k:=⟨x.aT4[i].bQ.home.toNat,oM⟩;have hkl:k<(UR x.made.length ([])).length:=oM;have hbv:=hHb _ (aY hkl);refine lG.mk k hk (by simp only[bE,aB];exact hkl) ?_;conv=>whnf
      skip
      refine fZ.mk [.d (ci (UR x.made.length ([]))[k])] (gB _ _ [ci (UR x.made.length ([]))[k]] (by rw[cK,aC hkl];rfl)) ?_;conv=>whnf
      refine bl ?_;refine lG.mk k hk (by simp only[bE,aB];exact hkl) ?_;conv=>whnf
      skip
      refine fZ.mk [.d (ci (UR x.made.length ([]))[k])] (gB _ _ [ci (UR x.made.length ([]))[k]] (by rw[cK,aC hkl];rfl)) ?_;conv=>whnf
      refine bl ?_;refine⟨(),tV,?_⟩;rw[yV,aT7 aZG];refine mq 5000 5001 ?_
      all_goals exact cO rfl (by rw[show x.aT4[i].bQ.home.toNat=k by omega,bF,aC hkl,gZ];exact(tU _ k [ci ((UR x.made.length ([]))[k]+1)]).trans (by rw[<-List.map_set]))
     ·refine⟨(),tV,?_⟩;rw[yV,aUF aM];exact mZ
    rintro _ _
    repeat'(first|refine bl ?_|refine jV (aR3 x.aT4[i].bQ oM) (.cons (.agg x.aT4[i].bQ.aT1) .nil) (bw ?_))
    refine n8 (by simp only[cE,aS];omega) kK ?_;conv=>whnf
    refine E9.mk (λXN=>absurd XN sM) (λXN=>?_);conv=>whnf
    refine bl ?_;have aZH:AG x.aT4 (i+1)=x.aT4[i].ref:=by rw[AG,aC cX];rfl
    have hQ2:[x.aT4[i]]=x.aT4.take (i+1):=by rw[aT cX,<-hQ];rfl
    have hth:yV (UR x.made.length []) x.aT4[i]=UR x.made.length ([x.aT4[i]]):=by rw[hQ2,LX _ _ _ cX,<-hQ]
    refine⟨(i+1,[x.aT4[i]]),dM,⟨dM,hQ2,by dsimp only;rw[aZH];omega,h1⟩,?_⟩;dsimp only[tR,List.map_cons,List.map_nil,lv,lm];exact mv 6596 900
    all_goals first|exact cO rfl (by rw[hth])|exact cO rfl rfl
   |cons r Q=>
    show vc _ _ _ _ _ [(1,.cells false (x.aT1.map A.d)),(204,.cells false [.d (.sl 1 (iR x.parents)),.d (.sl 1 (qM (rC x))),.h 900,.d (ci x.last),.d (.sl 1 (iR x.made))]),(900,dU 93 17 (tR (r::Q))),(4216,dU 3 1 (iR (UR x.made.length (r::Q))))] _ _;have hql:(r::Q).length<=i:=by rw[hQ,cW];omega
    have hHl:(UR x.made.length (r::Q)).length=x.made.length:=ZF _ _;have hHb:∀v∈UR x.made.length (r::Q),0<=v/\v<=i:=by rw[hQ];exact aF1 _ _ _ hi
    refine QH ?_
    repeat'(first|with_reducible (first|refine tG ?_|refine w9 ?_|refine nN.mk ?_)|((with_reducible (first|refine wr ?_|refine wi ?_));(conv=>whnf)))
    refine O8.t (aUZ (by(try simp only[aB]);omega)) ?_
    repeat'(with_reducible (first|refine w2 ?_|refine w9 ?_))
    refine TA ?_
    repeat'(first|with_reducible (first|refine tG ?_|refine w5 ?_|refine w9 ?_|refine nN.mk ?_)|((with_reducible refine wr ?_);(conv=>whnf))|((refine cD rfl eD cX ?_);(conv=>whnf)))
    refine BH (λ_:Unit=>AG x.aT4 i<x.aT4[i].ref/\x.aT4[i].ref<=x.last/\x.aT4[i].bQ.tB x.made.length=true) (λ_=>[(1,.lp 1 0),(4,.lp 204 0),(7,.d (ci x.made.sum)),(9,.h 4216),(10,.d (ci i)),(11,.lp 5080 0)]) (λ_=>[(5080,.cells false (x.aT4[i].aT1.map A.d)),(1,.cells false (x.aT1.map A.d)),(204,.cells false [.d (.sl 1 (iR x.parents)),.d (.sl 1 (qM (rC x))),.h 900,.d (ci x.last),.d (.sl 1 (iR x.made))]),(900,dU 93 17 (tR (r::Q))),(4216,dU 3 1 (iR (UR x.made.length (r::Q))))]) 6000 ?_ ?_
    ·skip
     repeat'(first|refine bl ?_|refine bS (λh=>?_) (λh=>?_)|refine aHH (i -1) oM rfl eD oM (bw ?_)|(refine jV (aQK x.aT4[i].bQ oM wF ((List.map (λx=>List.map A.d x) (iR x.made)).length:Nat) (hhm _ aWE)) (.cons (.agg x.aT4[i].bQ.aT1) (.cons (.same _) .nil)) ?_;(conv=>whnf)))
     ·refine kC _ (pG ?_);rw[show decide (AG x.aT4 i<x.aT4[i].ref)=false from aU0 oM,c0]
     ·refine kC _ (pG ?_);rw[show decide (x.aT4[i].ref<=x.last)=false from aU0 oM];simp
     ·refine kC _ (pG ?_);rw[YV _ _ aM hi,show decide (x.aT4[i -1].ref<x.aT4[i].ref)=false from aU0 oM,c0]
     ·refine kC _ (pG ?_);rw[‹W4.tB _ _=false›];simp
     ·exact⟨(),⟨by rw[YV _ _ aM hi];assumption,aM,aM⟩,mZ⟩
     ·refine kC _ (pG ?_);rw[‹W4.tB _ _=false›];simp
     ·have hi0:i=0:=aM;exact⟨(),⟨by subst hi0;show(0:Int)<_;omega,aM,aM⟩,mZ⟩
    rintro _ ⟨hg1,hg2,hg3⟩;rw[aUZ hg1,aUZ hg2]at h1;rw[hg3,cA,cA,cA]at h1;have hhr:=aOS hg3;refine BH (λ_:Unit=>True) (λ_=>[(1,.lp 1 0),(4,.lp 204 0),(7,.d (ci x.made.sum)),(9,.h 4216),(10,.d (ci i)),(11,.lp 5080 0)]) (λ_=>[(5080,.cells false (x.aT4[i].aT1.map A.d)),(1,.cells false (x.aT1.map A.d)),(204,.cells false [.d (.sl 1 (iR x.parents)),.d (.sl 1 (qM (rC x))),.h 900,.d (ci x.last),.d (.sl 1 (iR x.made))]),(900,dU 93 17 (tR (r::Q))),(4216,dU 3 1 (iR (yV (UR x.made.length (r::Q)) x.aT4[i])))]) 6500 ?_ ?_
    ·skip
     repeat'(first|refine bl ?_|refine bS (λh=>?_) (λh=>?_))
     ·have aZG:¬x.aT4[i].bQ.kind=14:=aM;obtain⟨k,hk⟩:∃k:Nat,x.aT4[i].bQ.home=k:=⟨x.aT4[i].bQ.home.toNat,oM⟩;have hkl:k<(UR x.made.length (r::Q)).length:=oM;have hbv:=hHb _ (aY hkl);refine lG.mk k hk (by simp only[bE,aB];exact hkl) ?_;conv=>whnf
      skip
      refine fZ.mk [.d (ci (UR x.made.length (r::Q))[k])] (gB _ _ [ci (UR x.made.length (r::Q))[k]] (by rw[cK,aC hkl];rfl)) ?_;conv=>whnf
      refine bl ?_;refine lG.mk k hk (by simp only[bE,aB];exact hkl) ?_;conv=>whnf
      skip
      refine fZ.mk [.d (ci (UR x.made.length (r::Q))[k])] (gB _ _ [ci (UR x.made.length (r::Q))[k]] (by rw[cK,aC hkl];rfl)) ?_;conv=>whnf
      refine bl ?_;refine⟨(),tV,?_⟩;rw[yV,aT7 aZG];refine mq 5000 5001 ?_
      all_goals exact cO rfl (by rw[show x.aT4[i].bQ.home.toNat=k by omega,bF,aC hkl,gZ];exact(tU _ k [ci ((UR x.made.length (r::Q))[k]+1)]).trans (by rw[<-List.map_set]))
     ·refine⟨(),tV,?_⟩;rw[yV,aUF aM];exact mZ
    rintro _ _
    repeat'(first|refine bl ?_|refine jV (aR3 x.aT4[i].bQ oM) (.cons (.agg x.aT4[i].bQ.aT1) .nil) (bw ?_))
    refine n8 (by simp only[cE,aS,aB,aQ,bE];simp only[aQ]at hql;omega) kK ?_;conv=>whnf
    refine bl ?_;have aZH:AG x.aT4 (i+1)=x.aT4[i].ref:=by rw[AG,aC cX];rfl
    have hQ2:r::(Q++[x.aT4[i]])=x.aT4.take (i+1):=by rw[aT cX,<-hQ];rfl
    have hth:yV (UR x.made.length (r::Q)) x.aT4[i]=UR x.made.length (r::(Q++[x.aT4[i]])):=by rw[hQ2,LX _ _ _ cX,<-hQ]
    refine⟨(i+1,r::(Q++[x.aT4[i]])),dM,⟨dM,hQ2,by dsimp only;rw[aZH];omega,h1⟩,?_⟩;dsimp only[tR,List.map_cons,List.map_nil,lv,lm]
    (refine cN.swap 6596 900 ?_ ?_ ?_ ?_ ?_<;>repeat'(first|exact aW|exact rfl|exact sn|exact aZ|refine bI ?_ ?_))
    all_goals first|exact cO rfl (by rw[hth])|exact cO rfl (aS7 (r::Q) x.aT4[i])
  ·rw[dT oM,L4]at h1;rw[aI oM]at hQ;cases Q with
   |nil=>
    show vc _ _ _ _ _ [(1,.cells false (x.aT1.map A.d)),(204,.cells false [.d (.sl 1 (iR x.parents)),.d (.sl 1 (qM (rC x))),.d (.nl 17),.d (ci x.last),.d (.sl 1 (iR x.made))]),(4216,dU 3 1 (iR (UR x.made.length ([]))))] _ _;refine bl ?_;refine O8.f (aU0 (by(try simp only[aB]);omega)) ?_;refine bl ?_;exact⟨(),h1.symm,cN.freeze [204,4216] tV ⟨.same _,.rd (.lp (eX rfl rfl) (.cons (.d _) (.cons (.d _) (.cons (aVF hQ.symm) (.cons (.d _) (.cons (.d _) .nil)))))),.same _,.rd (aVO (eX rfl rfl) (by rw[<-hQ])),tV⟩ ⟨⟨rfl,_,rfl,.cells (.same _)⟩,tV⟩ ⟨⟨nofun,tV⟩,tV,tV,tV,tV⟩ ⟨tV,tV⟩⟩
   |cons r Q=>
    show vc _ _ _ _ _ [(1,.cells false (x.aT1.map A.d)),(204,.cells false [.d (.sl 1 (iR x.parents)),.d (.sl 1 (qM (rC x))),.h 900,.d (ci x.last),.d (.sl 1 (iR x.made))]),(900,dU 93 17 (tR (r::Q))),(4216,dU 3 1 (iR (UR x.made.length (r::Q))))] _ _;refine bl ?_;refine O8.f (aU0 (by(try simp only[aB]);omega)) ?_;refine bl ?_;exact⟨(),h1.symm,cN.freeze [204,900,4216] tV ⟨.same _,.rd (.lp (eX rfl rfl) (.cons (.d _) (.cons (.d _) (.cons (aXB (eX rfl rfl) hQ) (.cons (.d _) (.cons (.d _) .nil)))))),.same _,.rd (aVO (eX rfl rfl) (by rw[<-hQ])),tV⟩ ⟨⟨rfl,_,rfl,.cells (.same _)⟩,tV⟩ ⟨⟨nofun,tV⟩,tV,tV,tV,tV⟩ ⟨tV,tV⟩⟩
 rintro _ hrt;rw[hrt,cA]at tO;refine bl ?_;have hFl:(UR x.made.length x.aT4).length=x.made.length:=ZF _ _;refine cY mix (λi:Nat=>i<=x.made.length/\X7 ((UR x.made.length x.aT4).drop i) (x.made.drop i)=X7 (UR x.made.length x.aT4) x.made) (I:=λi=>[(4,.d (.ip (rW x).aT1)),(7,.d (ci x.made.sum)),(9,.d (.sl 1 (iR (UR x.made.length x.aT4)))),(12,.d (ci i))])
  (J:=λi=>[]) (μ:=λi=>x.made.length -i) 8000 0 6
  (λ_:Unit=>X7 (UR x.made.length x.aT4) x.made=true) (λ_=>[(4,.d (.ip (rW x).aT1)),(7,.d (ci x.made.sum))]) (λ_=>[]) 9000 ⟨oM,rfl⟩ mZ ?_ ?_
 ·rintro i ⟨hi,h0⟩;by_cases cX:i<x.made.length
  ·rw[aTY _ _ _ oM cX]at h0;have hF2:i<(UR x.made.length x.aT4).length:=oM;have hM2:i<(rW x).made.length:=cX
   repeat'(first|refine bl ?_|refine bS (λh=>?_) (λh=>?_)|refine cD rfl eD hF2 (bw ?_)|refine cD rfl eD hM2 (bw ?_))
   ·have hg:x.made[i]<(UR x.made.length x.aT4)[i]:=aM;refine kC _ ?_;rw[tO,<-h0,aU0 oM];simp
   ·have hg:(UR x.made.length x.aT4)[i]<=x.made[i]:=aM;rw[aUZ oM,cA]at h0;exact⟨i+1,oM,⟨oM,h0⟩,mZ⟩
   ·exfalso;omega
  ·skip
   refine bl ?_;refine O8.f (aU0 (by(try simp only[aB]);omega)) ?_;refine bl ?_;rw[dT oM]at h0;exact⟨(),h0.symm,mZ⟩
 rintro _ hhb;have wV:aPS x=(x.aT4.all (λt=>(rW x).yK t.ref)&&(x.aT4.all (λt=>decide ((rW x).RV t.ref t.bQ ((rW x).tY t.bQ.of)=0))&&decide (x.last+(rW x).oL x.aT4<=64*x.made.sum))):=rfl;rw[hhb,cA,wV]at tO;clear wV;have hw:(rW x).wt:=⟨hlen,λt ht=>by have:=(aXR t ht).1;omega,λt ht=>(aXR t ht).2.kind⟩;have aZ4:(rW x).aT4.length=x.aT4.length:=rfl;refine bl ?_;refine cY mix (λi:Nat=>i<=x.aT4.length/\(x.aT4.take i).all (λt=>(rW x).yK t.ref)=true) (I:=λi=>[(4,.d (.ip (rW x).aT1)),(7,.d (ci x.made.sum)),(13,.d (ci i))])
  (J:=λi=>[]) (μ:=λi=>x.aT4.length -i) 10000 0 8
  (λ_:Unit=>x.aT4.all (λt=>(rW x).yK t.ref)=true) (λ_=>[(4,.d (.ip (rW x).aT1)),(7,.d (ci x.made.sum))]) (λ_=>[]) 11000 ⟨oM,rfl⟩ mZ ?_ ?_
 ·rintro i ⟨hi,h0⟩;by_cases cX:i<x.aT4.length
  ·have aWE:=aY cX;have aWU:=(rW x).aQV aWE;have aXK:=(rW x).aUR x.aT4[i].ref;have pG:(rW x).yK x.aT4[i].ref=false->v7 x=false:=λe=>by
    have:x.aT4.all (λt=>(rW x).yK t.ref)=false:=by rw[iA];exact⟨_,aWE,by rw[e];decide⟩
    rw[tO,this,c0]
   have hgd:((rW x).CT x.aT4[i].ref).getD (((rW x).CT x.aT4[i].ref).length -1) 0=((rW x).CT x.aT4[i].ref)[((rW x).CT x.aT4[i].ref).length -1]' oM :=by
    rw[bF,aC oM,gZ]
   have hwo:(rW x).yK x.aT4[i].ref=(decide (((rW x).CT x.aT4[i].ref).length<=x.aT4.length)&& !y5 ((rW x).zB (((rW x).CT x.aT4[i].ref)[((rW x).CT x.aT4[i].ref).length -1]' oM))):=by
    unfold R4.yK;rw[hgd];rfl
   rw[hwo]at pG
   repeat'(first|refine bl ?_|refine bS (λh=>?_) (λh=>?_)|refine cD rfl eD cX (bw ?_)|refine aF (aVD (rW x) x.aT4[i].ref hw) (bw ?_))
   ·refine kC _ (pG ?_);rw[aU0 (by rw[aZ4]at*;omega)];rfl
   ·refine FC.mk (RG (by simp only[aB];omega) (by simp only[aB];omega)) ?_;conv=>whnf
    repeat'(first|refine bl ?_|refine bS (λh=>?_) (λh=>?_)|refine aHH (((rW x).CT x.aT4[i].ref).length -1) (by(try simp only[aB]);omega) rfl eD oM (bw ?_)|refine aF (aQI (rW x) _ hw) (bw ?_)|refine aF (aH5 _) (bw ?_))
    ·refine kC _ (pG ?_);rw[‹y5 _=true›];simp
    ·exact⟨i+1,oM,⟨oM,ZO _ _ i cX h0 (by rw[hwo,‹y5 _=false›,aUZ oM];rfl)⟩,mZ⟩
   ·exfalso;rw[aZ4]at*;omega
  ·skip
   refine bl ?_;refine O8.f (aU0 (by(try simp only[aB]);rw[aZ4];omega)) ?_;refine bl ?_;rw[aI oM]at h0;exact⟨(),h0,mZ⟩
 rintro _ hwy;rw[hwy,cA]at tO;have hab:∀r,((rW x).MD ((rW x).aT4.length+1) r).isSome=true:=λr=>by
  cases hf:(rW x).find r with
  |none=>rw[R4.MD,hf];rfl
  |some t=>
   have hm:=cT hf;have hr:t.ref=r:=by have:=iD hf;simpa using this
   have h1:=cV.1 hwy t hm;unfold R4.yK at h1;rw[aE,aUA]at h1;rw[<-hr];exact(rW x).aOE _ _ (by have:=h1.1;unfold R4.CT at this;omega)
 have hav:∀r,(rW x).MD ((rW x).aT4.length+1) r=some ((rW x).tY r):=λr=>by
  have:=hab r;unfold R4.tY;cases e:(rW x).MD ((rW x).aT4.length+1) r with
  |none=>rw[e]at this;cases this
  |some v=>rfl
 have hwe:(rW x).ends:=⟨hw,λt ht=>(aXR t ht).2.set,λt ht _=>hab t.ref⟩;refine bl ?_;refine cY mix (λi:Nat=>i<=x.aT4.length/\(x.aT4.take i).all (λt=>decide ((rW x).RV t.ref t.bQ ((rW x).tY t.bQ.of)=0))=true) (I:=λi=>[(4,.d (.ip (rW x).aT1)),(7,.d (ci x.made.sum)),(15,.d (ci i))])
  (J:=λi=>[]) (μ:=λi=>x.aT4.length -i) 12000 0 10
  (λ_:Unit=>x.aT4.all (λt=>decide ((rW x).RV t.ref t.bQ ((rW x).tY t.bQ.of)=0))=true) (λ_=>[(4,.d (.ip (rW x).aT1)),(7,.d (ci x.made.sum))]) (λ_=>[]) 13000 ⟨oM,rfl⟩ mZ ?_ ?_
 ·rintro i ⟨hi,h0⟩;by_cases cX:i<x.aT4.length
  ·have aWE:=aY cX;have pG:¬(rW x).RV x.aT4[i].ref x.aT4[i].bQ ((rW x).tY x.aT4[i].bQ.of)=0->v7 x=false:=λe=>by
    have:x.aT4.all (λt=>decide ((rW x).RV t.ref t.bQ ((rW x).tY t.bQ.of)=0))=false:=by rw[iA];exact⟨_,aWE,by rw[aU0 e];decide⟩
    rw[tO,this,c0]
   repeat'(first|with_reducible (first|refine w1 ?_|refine w2 ?_|refine w3 ?_|refine w4 ?_|refine w5 ?_|refine w9 ?_|refine wa ?_|refine wb ?_|refine wc ?_|refine wd ?_|refine wj ?_|refine wk ?_|refine wl ?_|refine nN.mk ?_)|((with_reducible (first|refine wr ?_|refine wi ?_|refine wx ?_));(conv=>whnf))|((with_reducible refine wt eD kK ?_);(conv=>whnf))|((with_reducible refine FC.mk (RG (by(try dsimp only);omega) (by(try dsimp only);omega)) ?_);(conv=>whnf))|((with_reducible refine nQ (λh=>?_) (λh=>?_))<;>(try rw[h])<;>(conv at h=>{simp}))|((refine cD rfl eD cX ?_);(conv=>whnf))|((refine XD.mk _ (aSX (rW x) hw x.aT4[i].ref x.aT4[i].bQ (by have:=(aXR _ aWE).1;omega) (aXR _ aWE).2.kind _ _ (λ_=>hav _)) ?_);(conv=>whnf)))
   ·exact kC _ (pG aM)
   ·exact⟨i+1,oM,⟨oM,ZO _ _ i cX h0 (aUZ aM)⟩,mZ⟩
   ·exfalso;rw[aZ4]at*;omega
  ·skip
   refine bl ?_;refine O8.f (aU0 (by(try simp only[aB]);rw[aZ4];omega)) ?_;refine bl ?_;rw[aI oM]at h0;exact⟨(),h0,mZ⟩
 rintro _ a1Z;rw[a1Z,cA]at tO;have a28:=hwe.spare x.aT4 λt ht=>ht;have aZH:(rW x).last=x.last:=rfl;have a1V:(rW x).aT4=x.aT4:=rfl
 repeat'(first|with_reducible (first|refine w1 ?_|refine w9 ?_|refine we ?_)|((with_reducible refine wt eD kK ?_);(conv=>whnf))|((refine XD.mk _ (aS9 (rW x) hwe) ?_);(conv=>whnf)))
 refine FC.mk (RG (by rw[aZH,a1V];omega) (by rw[aZH,a1V];omega)) ?_;conv=>whnf
 repeat'(first|refine bl ?_|refine bS (λh=>?_) (λh=>?_))
 ·have hg:64*x.made.sum<x.last+(rW x).oL x.aT4:=aM;refine kC _ ?_;rw[tO];exact aU0 oM
 ·have hg:x.last+(rW x).oL x.aT4<=64*x.made.sum:=aM;refine aS0 ?_;rw[tO];exact aUZ hg
def aO7(b:UInt8)(i:Nat):Bool:=(decide (97<=(b.toNat:Int))&&decide ((b.toNat:Int)<=122))||((decide (48<=(b.toNat:Int))&&decide ((b.toNat:Int)<=57))&& !decide (i=0))
def aVC(b:UInt8)(i:Nat):aO7 b i=true↔((97<=(b.toNat:Int)/\(b.toNat:Int)<=122)\/((48<=(b.toNat:Int)/\(b.toNat:Int)<=57)/\i≠0)):=by
 simp[aO7]
def aFM:List UInt8->Nat->Bool
 |[],_=>true
 |b::r,i=>aO7 b i&&aFM r (i+1)
def aUJ(s:ByteArray):Bool:=aFM s.data.toList 0&&(decide (1<=s.size)&&decide (s.size<=32))
def aSR(l:List UInt8)(i:Nat)(h:i<l.length):aFM (l.drop i) i=(aO7 l[i] i&&aFM (l.drop (i+1)) (i+1)):=by
 rw[dE h,aFM]
def aWL(s:ByteArray):aUJ s=gN s:=by
 unfold aUJ gN;have vZ:s.size=s.data.toList.length:=sM;rw[vZ];have hr:∀(r:List UInt8)(i:Nat),0<i->aFM r i=r.all B8:=by
  intro r;induction r with
  |nil=>intro i _;rfl
  |cons b r ih=>
   intro i hi;rw[aFM,o9,ih (i+1) oM];congr 1;have:=YX b;unfold aO7;rw[aU0 (by omega:¬i=0)];cases hn:B8 b with
   |true=>
    rw[hn]at this;simp only[gP,aE,aUA,fB,o6];exact this.1 rfl
   |false=>
    rw[hn]at this;cases hq:((decide (97<=(b.toNat:Int))&&decide ((b.toNat:Int)<=122))||((decide (48<=(b.toNat:Int))&&decide ((b.toNat:Int)<=57))&& !false))with
    |false=>rfl
    |true=>
     simp only[gP,aE,aUA,fB,o6]at hq;exact absurd (this.2 hq) eD
 cases hd:s.data.toList with
 |nil=>simp[aFM]
 |cons b r=>
  dsimp only;rw[aFM,hr r 1 oM,o9];have h0:aO7 b 0=(decide (97<=(b.toNat:Int))&&decide ((b.toNat:Int)<=122)):=by unfold aO7;simp
  rw[h0,aUZ (by simp:1<=(b::r).length),cA];have hnb:(decide (97<=(b.toNat:Int))&&decide ((b.toNat:Int)<=122))=true->B8 b=true:=λh=>by
   rw[YX];left;simpa using h
  cases hl:(decide (97<=(b.toNat:Int))&&decide ((b.toNat:Int)<=122))with
  |false=>simp
  |true=>rw[hnb hl];simp[Bool.and_comm]
def BC(s:ByteArray)(hs:s.size<=2^40):Pu 163 [.d (.v (.string s))] (.d (cb (gN s))):=by
 refine iC mix Tryz.func163 ?_;rw[<-aWL];have vZ:s.size=s.data.toList.length:=sM;refine bl ?_;refine bV mix (λi:Nat=>i<=s.size/\aFM (s.data.toList.drop i) i=aFM s.data.toList 0) (I:=λi=>[(0,.d (.v (.string s))),(3,.d (ci i))])
  (J:=λi=>[]) (μ:=λi=>s.size -i) 1000 0 ⟨oM,rfl⟩ mZ ?_
 rintro i ⟨hi,h0⟩;by_cases cX:i<s.size
 ·have hl2:i<s.data.toList.length:=oM;rw[aSR _ _ hl2]at h0;have hg:s[((i:Nat):Int).toNat]?=some s.data.toList[i]:=by rw[hP];exact aM2 s i _ (aC hl2)
  generalize s.data.toList[i]=b at h0 hg;have pG:aO7 b i=false->aUJ s=false:=λe=>by
   rw[e,c0]at h0;unfold aUJ;rw[<-h0];rfl
  have aX9:aO7 b i=true->aFM (s.data.toList.drop (i+1)) (i+1)=aFM s.data.toList 0:=λe=>by
   rw[<-h0,e,cA]
  have a1H:=aVC b i;clear h0
  repeat'(first|refine bl ?_|refine bS (λh=>?_) (λh=>?_)|refine aJL.mk b oM hg kK (bw ?_))
  all_goals first
   |(exfalso;omega)
   |exact⟨i+1,oM,⟨oM,aX9 (by rw[a1H];omega)⟩,mZ⟩
   |(refine dP (pG ?_).symm
     cases hh:aO7 b i with
     |false=>rfl
     |true=>exfalso;rw[a1H]at hh;omega)
 ·skip
  refine bl ?_;refine O8.f (aU0 oM) ?_
  repeat'(first|refine bl ?_|refine bS (λh=>?_) (λh=>?_))
  all_goals
   rw[dT oM,aFM]at h0;refine dP ?_;unfold aUJ;rw[<-h0]
  ·rw[aUZ (by omega:1<=s.size),show decide ((s.size:Int)<=32)=decide (s.size<=32)from decide_eq_decide.2 oM];rfl
  ·rw[aU0 (by omega:¬1<=s.size)];rfl
def aBX{α:Type}(L:List α)(i:Nat)(h:i<L.length):(L.take (i+1)).Nodup↔(L.take i).Nodup/\L[i]∉L.take i:=by
 rw[aT h,iS];constructor
 ·rintro⟨h1,_,h3⟩;exact⟨h1,λhm=>h3 _ hm _ sM rfl⟩
 ·rintro⟨h1,h2⟩;exact⟨h1,sM,λa ha b hb e=>h2 (by rw[aR.1 hb]at e;exact e▸ha)⟩
def aO5{α:Type}{L:List α}(h:L.Nodup)(i:Nat):(L.take i).Nodup:=h.sublist (List.take_sublist i L)
def aPH(L:List ByteArray)(hL:L.length<=2^38):Pu 164 [.d (.sl 1 (sR L))] (.d (cb (!decide L.Nodup))):=by
 refine iC mix Tryz.func164 ?_;refine bl ?_;refine bV mix (λi:Nat=>i<=L.length/\(L.take i).Nodup) (I:=λi=>[(0,.d (.sl 1 (sR L))),(3,.d (ci i))])
  (J:=λi=>[]) (μ:=λi=>L.length -i) 1000 0 ⟨oM,sM⟩ mZ ?_
 rintro i ⟨hi,h0⟩;by_cases cX:i<L.length
 ·skip
  refine bl ?_;refine O8.t (aUZ (by(try simp only[aB]);omega)) ?_;refine bl ?_;refine cY mix (λk:Nat=>k<=i/\L[i]∉L.take k) (I:=λk=>[(0,.d (.sl 1 (sR L))),(3,.d (ci i)),(4,.d (ci k))])
   (J:=λk=>[]) (μ:=λk=>i -k) 2000 0 2 (λ_:Unit=>L[i]∉L.take i) (λ_=>[(0,.d (.sl 1 (sR L))),(3,.d (ci i))]) (λ_=>[]) 3000 ⟨oM,sM⟩ mZ ?_ ?_
  ·rintro k ⟨hk,h1⟩
   repeat'(first|with_reducible (first|refine w1 ?_|refine w2 ?_|refine w3 ?_|refine w4 ?_|refine w5 ?_|refine w9 ?_|refine wa ?_|refine wb ?_|refine wc ?_|refine wd ?_|refine wj ?_|refine wk ?_|refine wl ?_|refine nN.mk ?_)|((with_reducible (first|refine wr ?_|refine wi ?_|refine wx ?_));(conv=>whnf))|((with_reducible refine wt eD kK ?_);(conv=>whnf))|((with_reducible refine FC.mk (RG (by(try dsimp only);omega) (by(try dsimp only);omega)) ?_);(conv=>whnf))|((with_reducible refine nQ (λh=>?_) (λh=>?_))<;>(try rw[h])<;>(conv at h=>{simp}))|((refine cD rfl eD cX ?_);(conv=>whnf))|((refine cD rfl eD (by omega:k<L.length) ?_);(conv=>whnf)))
   ·have hlk:k<i:=aM;have he:L[i]=L[k]:=aM;have y4:¬L.Nodup:=λhn=>by
     have:=(a4A hn).1 he;omega
    exact dP (by rw[aU0 y4];rfl)
   ·have hlk:k<i:=aM;have he:¬L[i]=L[k]:=aM;refine⟨k+1,oM,⟨oM,?_⟩,mZ⟩;rw[aT oM,bN];rintro(h|h)
    ·exact h1 h
    ·exact he (by simpa using h)
   ·have hki:k=i:=oM;subst hki;exact⟨(),h1,mZ⟩
  ·rintro _ hn;refine bl ?_;exact⟨i+1,oM,⟨oM,(aBX L i cX).2 ⟨h0,hn⟩⟩,mZ⟩
 ·skip
  refine bl ?_;refine O8.f (aU0 (by(try simp only[aB]);omega)) ?_;refine bl ?_;rw[aI oM]at h0;exact dP (by rw[aUZ h0];rfl)
def aAT(N:List N4):Bool:=decide (N.length<=64)&&(N.all (λn=>gN n.name&&n.value.nI)&&decide ((N.map (·.name)).Nodup))
def aPT(N:List N4)(hN:V.dB (N.map (·.value))<=2^35)(hl:N.length<=2^38)(hw:V.B5 (N.map (·.value)))(hs:∀n∈N,n.name.size<=2^40):Pu 110 [.d (.sl 6 (N.map N4.aT1))] (.d (cb (aAT N))):=by
 have hnb:∀i(h:i<N.length),N[i].value.cR<=2^40:=λi h=>by
  have:=V.dG (N.map (·.value)) i (by simpa using h);rw[fO]at this;omega
 have hnw:∀i(h:i<N.length),N[i].value.wt:=λi h=>by
  have:=V.nH _ hw i (by simpa using h)
  rwa [fO]at this
 have hns:∀i(h:i<N.length),N[i].name.size<=2^40:=λi h=>hs _ (aY h);refine iC mix Tryz.func110 ?_
 repeat'(first|refine bl ?_|refine bS (λh=>?_) (λh=>?_))
 ·refine dP ?_;unfold aAT;rw[aU0 oM];rfl
 have h64:N.length<=64:=oM;refine cY mix (λi:Nat=>i<=N.length/\(N.take i).all (λn=>gN n.name&&n.value.nI)=true) (I:=λi=>[(0,.d (.sl 6 (N.map N4.aT1))),(3,lv 1 900 (sR ((N.take i).map (·.name)))),(4,.d (ci i))])
  (J:=λi=>lm 900 9 1 (sR ((N.take i).map (·.name))) []) (μ:=λi=>N.length -i) 2000 0 0
  (λ_:Unit=>N.all (λn=>gN n.name&&n.value.nI)=true) (λ_=>[(3,dlS (N.map (·.name)))]) (λ_=>[]) 4000 ⟨oM,sM⟩ mZ ?_ ?_
 ·rintro i ⟨hi,h0⟩;generalize hQ:(N.take i).map (·.name)=Q;have hQl:Q.length<=64:=by rw[<-hQ];simp;omega
  have pG:∀(h:i<N.length),(gN N[i].name&&N[i].value.nI)=false->aAT N=false:=λh e=>by
   unfold aAT;have:N.all (λn=>gN n.name&&n.value.nI)=false:=by
    rw[iA];exact⟨N[i],aY h,by simp[e]⟩
   rw[this];simp
  have aX9:∀(h:i<N.length),(gN N[i].name&&N[i].value.nI)=true->(N.take (i+1)).all (λn=>gN n.name&&n.value.nI)=true/\(N.take (i+1)).map (·.name)=Q++[N[i].name]:=λh e=>by
   rw[aT h,gQ,h0,bP,hQ];simp[e]
  cases Q with
  |nil=>
   show vc _ _ _ _ _ [] _ _
   repeat'(first|refine bl ?_|refine bS (λh=>?_) (λh=>?_)|refine cD rfl eD aM (bw ?_)|refine aF (BC _ (hns i aM)) (bw ?_)|refine aF (aHR N[i].value (hnb i aM) (hnw i aM)) (bw ?_))
   ·exact dP (pG aM (by simp_all)).symm
   ·exact dP (pG aM (by simp_all)).symm
   ·obtain⟨y1,y2⟩:=aX9 aM (by simp_all);refine n8 sM kK ?_;conv=>whnf
    refine E9.mk (λh=>by cases h) (λh=>?_);conv=>whnf
    refine bl ?_;refine⟨i+1,oM,⟨oM,y1⟩,?_⟩;rw[y2];exact mv 2216 900
    all_goals exact cO rfl rfl
   ·rw[aI oM]at h0 hQ;refine⟨(),h0,?_⟩;rw[hQ];exact mZ
  |cons q0 Q=>
   show vc _ _ _ _ _ [(900,dU 9 1 (sR (q0::Q)))] _ _
   repeat'(first|refine bl ?_|refine bS (λh=>?_) (λh=>?_)|refine cD rfl eD aM (bw ?_)|refine aF (BC _ (hns i aM)) (bw ?_)|refine aF (aHR N[i].value (hnb i aM) (hnw i aM)) (bw ?_))
   ·exact dP (pG aM (by simp_all)).symm
   ·exact dP (pG aM (by simp_all)).symm
   ·obtain⟨y1,y2⟩:=aX9 aM (by simp_all);simp only[aQ]at hQl;refine n8 (by simp only[aB,bE,aQ,cE,aS];omega) kK ?_;conv=>whnf
    refine bl ?_;refine⟨i+1,oM,⟨oM,y1⟩,?_⟩;rw[y2];refine mq 2216 900 ?_
    all_goals exact cO rfl (aBI (q0::Q) [N[i].name])
   ·rw[aI oM]at h0 hQ;refine⟨(),h0,?_⟩;rw[hQ];exact cN.freeze [900] tV ⟨.rd (.dU (eX rfl rfl)),tV⟩ tV ⟨tV,tV⟩ trivial
 rintro _ aWV;have aWW:aAT N=decide ((N.map (·.name)).Nodup):=by unfold aAT;rw[aWV,aUZ h64];simp
 have htw:=aPH (N.map (·.name)) (by simp only[aB];omega);rw[aWW];generalize N.map (·.name)=LL at htw⊢;cases LL with
 |nil=>
  repeat'(first|refine bl ?_|refine dR htw (.cons (.nl _ _) .nil) (bw ?_))
  exact dP sM
 |cons l0 LL=>
  repeat'(first|refine bl ?_|refine aF htw (bw ?_))
  exact dP sM
def aN9(v:E4)(hv:v.cR<=2^40)(d:Int)(hd:0<=d)(hd2:d<=17):Pu 239 [.d (.agg v.aT1),.d (ci d)] (.d (ci (v.GI d))):=by
 have AZ:=v.fA;have hl:=E4.eW v.l;have ih:∀i(h:i<v.l.length),d<=16->Pu 239 [.d (.agg (E4.aT1 v.l[i])),.d (ci (d+1))] (.d (ci (v.l[i].GI (d+1)))):=λi h hd=>
  have:=v.gM i h
  aN9 v.l[i] (by have:=E4.dG v.l i h;omega) (d+1) oM oM
 refine iC mix Tryz.func239 ?_;rw[E4.QR]
 repeat'(first|refine bl ?_|refine bS (λh=>?_) (λh=>?_))
 ·rw[aUF oM];exact .one (.d _)
 rw[aT7 oM];refine bV mix (λa:Nat×Int=>a.1<=v.l.length/\1<=a.2/\a.2<=1+513*(2^40:Int)/\E4.pH (v.l.drop a.1) (d+1) a.2=E4.pH v.l (d+1) 1) (I:=λa=>[(1,.d (ci d)),(2,.lp 1 0),(5,.d (ci a.2)),(6,.d (ci a.1))])
  (J:=λi=>[(1,.cells false (v.aT1.map A.d))]) (μ:=λa=>v.l.length -a.1) 20 (0,1) ⟨oM,oM,oM,rfl⟩ (cN.U0 ⟨rfl,rfl,rfl,rfl,tV⟩ rfl) ?_
 rintro⟨i,n⟩ ⟨hi,P0,hn2,ht⟩;simp only at hi P0 hn2 ht
 repeat'(first|refine bl ?_|refine bS (λh=>?_) (λh=>?_))
 ·have h:i<v.l.length:=oM;refine eE E4.cP rfl eD h ?_;conv=>whnf
  refine bl ?_;refine aF (ih i h oM) ?_;have hb:=E4.K5 v.l[i] (d+1);have hc:=E4.dG v.l i h;have hs:=E4.GJ v.l i h (d+1) n oM;have hbd:=E4.tA v.l (d+1) 1 oM;have a09:=E4.tA (v.l.drop (i+1)) (d+1) (n+v.l[i].GI (d+1)) oM;conv=>whnf
  refine bl ?_;exact⟨(i+1,n+v.l[i].GI (d+1)),dM,⟨dM,dM,dM,by dsimp only;rw[<-hs,ht]⟩,cN.swap 5000 5001 tV ⟨rfl,rfl,rfl,rfl,tV⟩ ⟨rfl,tV⟩ ⟨tV,⟨nofun,tV⟩,tV,tV,tV⟩ ⟨tV,tV⟩⟩
 ·rw[<-ht,E4.K4 _ _ _ oM];exact .one (.d _)
 ·have e:v.l.drop i=[]:=dT oM;rw[e,E4.pH]at ht;rw[<-ht];exact .one (.d _)
 termination_by SizeOf.sizeOf v
mutual
def E4.GK:E4->Int
 |.mk k _ _ l=>if k≠3 then 0 else E4.GW l+1
def E4.GW:List E4->Int
 |[]=>0
 |v::r=>max (E4.GK v) (E4.GW r)
end
def E4.aVG(v:E4):v.GK=if v.kind≠3 then 0 else E4.GW v.l+1:=by cases v;rw[E4.GK];rfl
def E4.aSZ(l:List E4)(i:Nat)(h:i<l.length):E4.GW (l.take (i+1))=(if l[i].GK>E4.GW (l.take i)then l[i].GK else E4.GW (l.take i)):=by
 induction l generalizing i with
 |nil=>simp at h
 |cons v r ih=>
  cases i with
  |zero=>simp only[cC,fD,E4.GW,eK];omega
  |succ i=>simp only[cC,E4.GW,cJ];rw[ih i (by simpa using h)];omega
mutual
def E4.aUE:∀v:E4,0<=v.GK/\v.GK<=v.cR
 |.mk k n s l=>by
  have:=E4.aOD l;simp only[E4.GK,E4.cR];split<;>omega
def E4.aOD:∀l:List E4,0<=E4.GW l/\E4.GW l<=E4.dB l
 |[]=>by simp[E4.GW,E4.dB]
 |v::r=>by
  have h1:=E4.aUE v;have h2:=E4.aOD r;simp only[E4.GW,E4.dB];omega
end
def aON(v:E4)(hv:v.cR<=2^40):Pu 240 [.d (.agg v.aT1)] (.d (ci v.GK)):=by
 have AZ:=v.fA;have hl:=E4.eW v.l;have ih:∀i(h:i<v.l.length),Pu 240 [.d (.agg (E4.aT1 v.l[i]))] (.d (ci v.l[i].GK)):=λi h=>
  have:=v.gM i h
  aON v.l[i] (by have:=E4.dG v.l i h;omega)
 refine iC mix Tryz.func240 ?_;rw[E4.aVG]
 repeat'(first|refine bl ?_|refine bS (λh=>?_) (λh=>?_))
 ·rw[aUF (by simp_all)];exact .one (.d _)
 rw[aT7 (by simp_all)];refine bV mix (λi:Nat=>i<=v.l.length) (I:=λi=>[(1,.lp 1 0),(4,.d (ci i)),(3,.d (ci (E4.GW (v.l.take i))))])
  (J:=λi=>[(1,.cells false (v.aT1.map A.d))]) (μ:=λi=>v.l.length -i) 20 0 oM (cN.U0 ⟨rfl,rfl,rfl,tV⟩ rfl) ?_
 intro i hi;have hb:=E4.aOD (v.l.take i);have uB:=E4.kA v.l i;have fin:v.l.length<=i->E4.GW v.l=E4.GW (v.l.take i):=λh=>by rw[aI h]
 repeat'(first|refine bl ?_|refine bS (λh=>?_) (λh=>?_))
 ·have h:i<v.l.length:=oM;refine eE E4.cP rfl eD h ?_;conv=>whnf
  refine aF (ih i h) ?_;conv=>whnf
  skip
  refine xR.mk (aUZ rfl) ?_;conv=>whnf
  refine bl ?_;have hs:=E4.aSZ v.l i h;refine⟨i+1,oM,oM,cN.swap 5000 5001 tV ⟨rfl,rfl,?_,tV⟩ ⟨rfl,tV⟩ ⟨⟨nofun,tV⟩,tV,tV,tV⟩ ⟨tV,tV⟩⟩;rw[hs];rfl
 ·rw[fin oM];exact .one (.d _)
 termination_by SizeOf.sizeOf v
def E4.S3(v:E4):Bool:=
 if v.kind=1 then decide (v.s.size=0)&&decide (v.l.length=0)
 else if v.kind=2 then decide (v.n=0)&&(decide (v.s.size<=256)&&decide (v.l.length=0))
 else if v.kind=3 then decide (v.n=0)&&decide (v.s.size=0)
 else if v.kind=4 then decide (v.n=0)&&(gN v.s&&decide (v.l.length=0))
 else false
mutual
def E4.rfl:E4->Bool
 |.mk k n s l=>E4.aAS l&&E4.S3 (.mk k n s l)
def E4.aAS:List E4->Bool
 |[]=>true
 |v::r=>E4.rfl v&&E4.aAS r
end
def E4.aR2(v:E4):v.rfl=(E4.aAS v.l&&v.S3):=by cases v;rw[E4.rfl];rfl
def E4.aQJ:∀l:List E4,E4.aAS l=l.all E4.rfl
 |[]=>by rw[E4.aAS];rfl
 |v::r=>by rw[E4.aAS,E4.aQJ r];rfl
mutual
def E4.ss:E4->Prop
 |.mk _ _ s l=>s.size<=2^40/\E4.US l
def E4.US:List E4->Prop
 |[]=>True
 |v::r=>E4.ss v/\E4.US r
end
def E4.aWO(v:E4)(h:v.ss):v.s.size<=2^40/\E4.US v.l:=by cases v;exact h
def E4.aR6:∀(l:List E4)(h:E4.US l)(i:Nat)(hi:i<l.length),E4.ss l[i]
 |[],_,i,hi=>by simp at hi
 |v::r,h,0,hi=>h.1
 |v::r,h,i+1,hi=>E4.aR6 r h.2 i (by simpa using hi)
def aHJ(v:E4)(hv:v.cR<=2^40)(hs:v.ss):Pu 241 [.d (.agg v.aT1)] (.d (cb v.rfl)):=by
 have hss:=v.aWO hs;have AZ:=v.fA;have hl:=E4.eW v.l;have ih:∀i(h:i<v.l.length),Pu 241 [.d (.agg (E4.aT1 v.l[i]))] (.d (cb v.l[i].rfl)):=λi h=>
  have:=v.gM i h
  aHJ v.l[i] (by have:=E4.dG v.l i h;omega) (E4.aR6 _ hss.2 i h)
 refine iC mix Tryz.func241 ?_;rw[E4.aR2,E4.aQJ];refine bl ?_;refine bV mix (λi:Nat=>i<=v.l.length/\(v.l.take i).all E4.rfl=true) (I:=λi=>[(1,.lp 1 0),(3,.d (ci i))])
  (J:=λi=>[(1,.cells false (v.aT1.map A.d))]) (μ:=λi=>v.l.length -i) 20 0 ⟨oM,sM⟩ (cN.U0 ⟨rfl,rfl,tV⟩ rfl) ?_
 rintro i ⟨hi,ht⟩;by_cases cX:i<v.l.length
 ·skip
  refine bl ?_;refine O8.t (aUZ (by(try simp only[aB]);omega)) ?_
  repeat'(first|refine bl ?_|refine bS (λh=>?_) (λh=>?_)|refine eE E4.cP rfl eD cX (bw ?_)|refine aF (ih i cX) (bw ?_))
  ·have hf:v.l.all E4.rfl=false:=by rw[iA];exact⟨_,aY cX,by simp[‹E4.rfl _=false›]⟩
   rw[hf];exact .one (.d _)
  ·exact⟨i+1,oM,⟨oM,ZO _ _ i cX ht aM⟩,mZ⟩
 ·rw[aI oM]at ht;rw[ht,cA];refine bl ?_;refine O8.f (aU0 (by(try simp only[aB]);omega)) ?_
  repeat'(first|refine bl ?_|refine bS (λh=>?_) (λh=>?_)|refine aF (BC v.s hss.1) (bw ?_))
  all_goals
   refine dP ?_;unfold E4.S3
   (repeat(first|rw[aT7 oM]|rw[aUF oM]))
   all_goals first|(simp_all[EL];done)|(simp_all[EL];omega)
 termination_by SizeOf.sizeOf v
def aRD(v:E4):Pu 235 [.d (.agg v.aT1)] (.d (cb v.sV)):=by
 refine iC mix Tryz.func235 ?_
 repeat'(first|refine bl ?_|refine bS (λh=>?_) (λh=>?_))
 all_goals(refine dP ?_;simp_all[E4.sV,EL])
def E4.aQM(v:E4):Bool:=decide (v.GI 0<=512)&&(decide (v.GK<=16)&&v.rfl)
def aRC(v:E4)(hv:v.cR<=2^40)(hs:v.ss):Pu 236 [.d (.agg v.aT1)] (.d (cb v.aQM)):=by
 refine iC mix Tryz.func236 ?_
 repeat'(first|refine bl ?_|refine bS (λh=>?_) (λh=>?_)|refine dR (aN9 v hv 0 oM oM) (.cons (.agg v.aT1) (.cons (.same _) .nil)) (bw ?_)|refine fT (cs:=v.aT1) (aON v hv) (bw ?_)|refine fT (cs:=v.aT1) (aHJ v hv hs) (bw ?_))
 all_goals(refine dP ?_;unfold E4.aQM;first|(simp_all;done)|(simp_all;omega))
def E4.hw(v:E4)(how:Int):Bool:=if v.sV=true then decide (how<2)else decide (0<how)&&v.aQM
def aOO(v:E4)(hv:v.cR<=2^40)(hs:v.ss)(how:Int):Pu 224 [.d (.agg v.aT1),.d (ci how)] (.d (cb (v.hw how))):=by
 refine iC mix Tryz.func224 ?_
 repeat'(first|refine bl ?_|refine bS (λh=>?_) (λh=>?_)|refine fT (cs:=v.aT1) (aRD v) (bw ?_)|refine fT (cs:=v.aT1) (aRC v hv hs) (bw ?_))
 all_goals(refine dP ?_;unfold E4.hw;first|(simp_all;done)|(simp_all;omega))
def G4(s:ByteArray)(how:Int):Bool:=if how=0 then decide (s.size=0)else gN s
def aOP(s:ByteArray)(hs:s.size<=2^40)(how:Int):Pu 223 [.d (.v (.string s)),.d (ci how)] (.d (cb (G4 s how))):=by
 refine iC mix Tryz.func223 ?_
 repeat'(first|refine bl ?_|refine bS (λh=>?_) (λh=>?_)|refine aF (BC s hs) (bw ?_))
 all_goals(refine dP ?_;unfold G4;first|(simp_all[EL];done)|(simp_all[EL];omega))
def aPQ(a:Int):Bool:=decide (a=1\/a=2\/a=4\/a=8\/a=16\/a=32)
def aRE:((List.range 256).all λk=>RK (yI Tryz.prog aA0 5 (.fn 225) [.d (.v (.int .u8 k))] .nil 1) (.d (cb (aPQ k))))=true:=kK
def aST(x:Int)(h0:0<=x)(h1:x<256):Pu 225 [.d (.v (.int .u8 x))] (.d (cb (aPQ x))):=by
 have hx:((x.toNat:Nat):Int)=x:=oM;have:=cV.1 aRE x.toNat (jI.2 oM);rw[hx]at this;exact zO mix this rfl
structure F8 where
 name:Int
 second:Int
 a:Int
 b:Int
 FD:Int
 bQ:Bool
 blocks:Bool
 clerks:Bool
def F8.aT1(f:F8):List C:=[ci f.name,ci f.second,ci f.a,ci f.b,ci f.FD,cb f.bQ,cb f.blocks,cb f.clerks]
def S4.UM(v:S4):F8×Bool:=
 if v.bQ=1 then(⟨2,0,1,0,0,true,false,false⟩,true)
 else if v.bQ=2\/v.bQ=3\/v.bQ=4\/v.bQ=8 then(⟨2,0,0,0,0,true,false,false⟩,true)
 else if v.bQ=14 then(⟨2,0,2,0,2,true,false,false⟩,true)
 else if v.bQ=15\/v.bQ=16 then(⟨2,2,2,0,0,true,false,false⟩,true)
 else if v.bQ=5\/v.bQ=10 then(⟨2,2,0,0,0,true,false,false⟩,true)
 else if v.bQ=12 then(⟨2,0,0,0,0,true,false,true⟩,true)
 else(⟨2,0,0,0,0,true,false,false⟩,false)
def S4.fm(v:S4):F8×Bool:=
 if v.op=1 then(⟨2,0,1,0,0,false,false,false⟩,true)
 else if v.op=2 then(if v.FD=1\/v.FD=32 then(⟨2,0,2,0,1,false,false,false⟩,true)else(⟨2,0,2,1,1,false,false,false⟩,true))
 else if v.op=3 then v.UM
 else if v.op=4 then(⟨2,0,2,2,0,false,false,false⟩,true)
 else if v.op=5 then(⟨0,0,1,1,0,false,true,false⟩,true)
 else if v.op=6 then(⟨0,0,2,0,2,false,true,false⟩,true)
 else if v.op=7 then(⟨0,0,1,0,0,false,false,false⟩,true)
 else if v.op=8 then(⟨0,0,0,0,0,false,false,false⟩,true)
 else if v.op=9 then(⟨2,0,2,0,0,false,false,false⟩,true)
 else(⟨0,0,0,0,0,false,false,false⟩,false)
def aRB(v:S4)(ho:0<=v.op/\v.op<256):Pu 222 [.d (.agg v.aT1)] (.eL [.d (.agg v.fm.1.aT1),.d (cb v.fm.2)]):=by
 refine iC mix Tryz.func222 ?_
 repeat'(first|refine bl ?_|refine bS (λh=>?_) (λh=>?_))
 all_goals
  unfold S4.fm S4.UM
  (repeat(first|rw[aT7 oM]|rw[aUF oM]))
 all_goals exact .eL (cs:=[.agg _,_]) (.cons (.agg (by repeat'(first|exact wJ.nil|refine wJ.cons (Rd.d _) ?_))) (.cons (.d _) .nil))
def S4.pV(v:S4)(f:F8)(ok:Bool):Bool:=ok&&(G4 v.name f.name&&(G4 v.second f.second&&(!(decide (0<f.second)&&decide (v.second=v.name))&&(v.a.hw f.a&&v.b.hw f.b))))
def S4.oK(v:S4)(f:F8):Bool:=!(decide (f.FD=0)&&decide (v.FD≠0))&&(!(decide (f.FD=1)&& !aPQ v.FD)&&(!(decide (f.FD=2)&&decide (63<v.FD))&&(!(!f.bQ&&decide (v.bQ≠0))&& !(!f.blocks&&decide (0<v.t.length+v.e.length)))))
def S4.st3(v:S4)(f:F8):Bool:=if f.clerks=true then decide (v.w.length<=64)&&(decide v.w.Nodup&&v.w.all gN)else decide (v.c.length+v.w.length=0)
def S4.st(v:S4)(f:F8)(ok:Bool):Bool:=v.pV f ok&&(v.oK f&&v.st3 f)
def S4.qP(v:S4):Bool:=v.st v.fm.1 v.fm.2
structure S4.GL(v:S4):Prop where
 cR:v.cR<=2^38
 op:0<=v.op/\v.op<256
 FD:0<=v.FD/\v.FD<256
 name:v.name.size<=2^40
 second:v.second.size<=2^40
 a:v.a.ss
 b:v.b.ss
 w:∀s∈v.w,s.size<=2^40
def aRA(v:S4)(hv:v.GL):Pu 201 [.d (.agg v.aT1)] (.d (cb v.qP)):=by
 have AZ:=v.fA;have hc1:=hv.cR;have ht:=S4.eW v.t;have he:=S4.eW v.e;have n0:=S4.eW v.c;have aZN:=aRB v hv.op;have a1C:v.qP=v.st v.fm.1 v.fm.2:=rfl;rw[a1C];clear a1C;generalize v.fm=q at aZN⊢;obtain⟨f,ok⟩:=q;dsimp only at aZN;refine iC mix Tryz.func201 ?_
 repeat'(first|with_reducible (first|refine tG ?_|refine w9 ?_|refine nN.mk ?_)|((with_reducible refine wr ?_);(conv=>whnf))|((refine fT (cs:=v.aT1) aZN ?_);(conv=>whnf)))
 refine BH (λ_:Unit=>v.pV f ok=true) (λ_=>[(1,.lp 1 0),(3,.lp 57 0)]) (λ_=>[(1,.cells false (v.aT1.map A.d)),(57,.cells false (f.aT1.map A.d))]) 1000 ?_ ?_
 ·skip
  repeat'(first|refine bl ?_|refine bS (λh=>?_) (λh=>?_)|refine aF (aOP v.name hv.name f.name) (bw ?_)|refine aF (aOP v.second hv.second f.second) (bw ?_)|refine dR (aOO v.a oM hv.a f.a) (.cons (.agg v.a.aT1) (.cons (.same _) .nil)) (bw ?_)|refine dR (aOO v.b oM hv.b f.b) (.cons (.agg v.b.aT1) (.cons (.same _) .nil)) (bw ?_))
  all_goals first
   |exact⟨(),by unfold S4.pV;simp_all,mZ⟩
   |(refine dP ?_
     have hf:v.pV f ok=false:=by unfold S4.pV;simp_all
     unfold S4.st;rw[hf];rfl)
 rintro _ hs1;have HG:v.st f ok=(v.oK f&&v.st3 f):=by unfold S4.st;rw[hs1,cA]
 rw[HG];refine BH (λ_:Unit=>v.oK f=true) (λ_=>[(1,.lp 1 0),(3,.lp 57 0)]) (λ_=>[(1,.cells false (v.aT1.map A.d)),(57,.cells false (f.aT1.map A.d))]) 2000 ?_ ?_
 ·skip
  repeat'(first|refine bl ?_|refine bS (λh=>?_) (λh=>?_)|refine aF (aST v.FD hv.FD.1 hv.FD.2) (bw ?_)|refine FC.mk (RG (by simp only[aB];omega) (by simp only[aB];omega)) (bw ?_))
  all_goals first
   |exact⟨(),by(unfold S4.oK;simp_all<;>first|omega|exact⟨iL.1 oM,iL.1 oM⟩),mZ⟩
   |(refine dP ?_
     have hf:v.oK f=false:=by(unfold S4.oK;simp_all<;>omega)
     rw[hf];rfl)
 rintro _ hs2;rw[hs2,cA]
 repeat'(first|refine bl ?_|refine bS (λh=>?_) (λh=>?_)|refine aF (aPH v.w oM) (bw ?_)|refine FC.mk (RG (by simp only[aB];omega) (by simp only[aB];omega)) (bw ?_))
 ·refine dP ?_;unfold S4.st3;rw[h,aT7 gO];exact decide_eq_decide.2 (by simp only[aB];omega)
 ·refine dP ?_;unfold S4.st3;rw[‹f.clerks=true›,aUF rfl,aU0 oM];rfl
 ·refine dP ?_;unfold S4.st3;rw[‹f.clerks=true›,aUF rfl,aU0 (p:=v.w.Nodup) aM];simp
 have h3:v.st3 f=v.w.all gN:=by
  unfold S4.st3;rw[‹f.clerks=true›,aUF rfl,aUZ oM,aUZ (p:=v.w.Nodup) aM];rfl
 rw[h3];refine bV mix (λi:Nat=>i<=v.w.length/\(v.w.take i).all gN=true) (I:=λi=>[(1,.lp 1 0),(5,.d (ci i))])
  (J:=λi=>[(1,.cells false (v.aT1.map A.d))]) (μ:=λi=>v.w.length -i) 3000 0 ⟨oM,sM⟩ mZ ?_
 rintro i ⟨hi,h0⟩;by_cases cX:i<v.w.length
 ·have vZ:=hv.w _ (aY cX);refine bl ?_;refine O8.t (aUZ (by(try simp only[aB]);omega)) ?_
  repeat'(first|refine bl ?_|refine bS (λh=>?_) (λh=>?_)|refine cD rfl eD cX (bw ?_)|refine aF (BC v.w[i] vZ) (bw ?_))
  ·have hf:v.w.all gN=false:=by rw[iA];exact⟨_,aY cX,by simp[‹gN _=false›]⟩
   rw[hf];exact dP rfl
  ·exact⟨i+1,oM,⟨oM,ZO _ _ i cX h0 aM⟩,mZ⟩
 ·rw[aI oM]at h0;rw[h0];refine bl ?_;refine O8.f (aU0 (by(try simp only[aB]);omega)) ?_;refine bl ?_;exact dP rfl
structure M9 where
 deep:Int
 inside:Bool
 stmt:S4
def M9.aT1(r:M9):List C:=ci r.deep::cb r.inside::r.stmt.aT1
abbrev OB(L:List M9):List (List C):=L.map M9.aT1
def aME(a:List M9)(b:M9):bE (OB a)++[b.aT1.map A.d]=bE (OB (a++[b])):=by rw[OB,OB,bP,ER];rfl
mutual
def S4.rk:S4->Int->Bool->List M9->List M9
 |.mk op name second FD bQ a b t e c w,d,q,l=>S4.eG c (d+1) true (S4.eG e (d+1) q (S4.eG t (d+1) q (l++[⟨d,q,.mk op name second FD bQ a b t e c w⟩])))
def S4.eG:List S4->Int->Bool->List M9->List M9
 |[],_,_,l=>l
 |v::r,d,q,l=>if l.length<=512 then S4.eG r d q (S4.rk v d q l)else l
end
def S4.WR(v:S4)(d:Int)(q:Bool)(l:List M9):v.rk d q l=S4.eG v.c (d+1) true (S4.eG v.e (d+1) q (S4.eG v.t (d+1) q (l++[⟨d,q,v⟩]))):=by cases v;rw[S4.rk];rfl
def S4.tN(c:List S4)(d:Int)(q:Bool)(l:List M9)(h:512<l.length):S4.eG c d q l=l:=by
 cases c with
 |nil=>rw[S4.eG]
 |cons v r=>rw[S4.eG,aT7 oM]
def S4.aH3(c:List S4)(i:Nat)(h:i<c.length)(d:Int)(q:Bool)(l:List M9)(hl:l.length<=512):S4.eG (c.drop i) d q l=S4.eG (c.drop (i+1)) d q (S4.rk c[i] d q l):=by
 rw[dE h,S4.eG,aUF hl]
mutual
def S4.aOV:∀(v:S4)(d:Int)(q:Bool)(l:List M9),(v.rk d q l).length<=l.length+v.cR
 |.mk op name second FD bQ a b t e c w,d,q,l=>by
  rw[S4.rk,S4.cR];have h1:=S4.pW t (d+1) q (l++[⟨d,q,.mk op name second FD bQ a b t e c w⟩]);have h2:=S4.pW e (d+1) q (S4.eG t (d+1) q (l++[⟨d,q,.mk op name second FD bQ a b t e c w⟩]));have h3:=S4.pW c (d+1) true (S4.eG e (d+1) q (S4.eG t (d+1) q (l++[⟨d,q,.mk op name second FD bQ a b t e c w⟩])));rw[aU,nX]at h1;omega
def S4.pW:∀(c:List S4)(d:Int)(q:Bool)(l:List M9),(S4.eG c d q l).length<=l.length+S4.dB c
 |[],d,q,l=>by rw[S4.eG];omega
 |v::r,d,q,l=>by
  rw[S4.eG,S4.dB];split
  ·have h1:=S4.aOV v d q l;have h2:=S4.pW r d q (v.rk d q l);omega
  ·omega
end
abbrev wR(L:List M9):R:=dU 256 19 (OB L)
def aRL(c:List S4)(d:Int)(q:Bool)(L:List M9)(h:c=[]\/512<L.length)(hL:L.length<=2^38):aJ Tryz.prog 221 [.d (jX c),.d (ci d),.d (cb q),.h 1] (aK [(1,wR L)]) (.ok (.h 1)) (aH (aK [(1,wR L)]) []):=by
 refine wE mix 100 Tryz.func221 (by(repeat'(first|exact aW|exact sn|refine bI ?_ ?_))) (by(repeat'(first|exact aW))) ?_;refine bl ?_;refine bV mix (λi:Nat=>True) (I:=λi=>[(0,.d (jX c)),(1,.d (ci d)),(2,.d (cb q)),(3,.h 1),(9,.d (ci 0))])
  (J:=λi=>[(1,wR L)]) (μ:=λi=>0) 200 0 tV mZ ?_
 intro _ _;rcases h with h|h
 ·subst h;refine bl ?_;exact em
 ·skip
  repeat'(first|refine bl ?_|refine bS (λh=>?_) (λh=>?_))
  all_goals first
   |(exfalso;simp only[bE,aB]at*;omega)
   |exact em
def aTC(d:Int)(q:Bool):Pu 221 [.d (jX []),.d (ci d),.d (cb q),.d (.nl 19)] (.d (.nl 19)):=by
 refine iC mix Tryz.func221 ?_;refine bl ?_;refine bV mix (λi:Nat=>True) (I:=λi=>[(0,.d (jX [])),(1,.d (ci d)),(2,.d (cb q)),(3,.d (.nl 19)),(9,.d (ci 0))])
  (J:=λi=>[]) (μ:=λi=>0) 200 0 tV mZ ?_
 intro _ _;refine bl ?_;exact .one (.d _)
def aDS(g:Nat->Nat)(L:List M9):(wR L).eZ g=wR L:=eT g _ _ _
def mD(c:List S4)(d:Int)(q:Bool)(L:List M9)(h:c=[]\/512<L.length)(hL:L.length<=2^38){ml:List (Nat×R)}(hm:aK ml 2=some (wR L)):aJ Tryz.prog 221 [.d (jX c),.d (ci d),.d (cb q),.h 2] (aK ml) (.ok (.h 2)) (aH (aK ml) []):=
 aJ.aXE (aRL c d q L h hL) (g:=swp 1 2) (gi:=swp 1 2) (fH _ _) (fH _ _) ⟨sn,tV⟩ ⟨by show aK ml 2=some ((wR L).eZ _);rw[hm,aDS],tV⟩ ⟨by show rB _ ((wR L).eZ _).hs;rw[aDS];exact aZ,tV⟩ trivial
def wG(c:List S4):Prop:=c≠[]->∀(d:Int)(q:Bool)(L:List M9),0<=d->d+S4.dB c<=2^40->L.length<=512->aJ Tryz.prog 221 [.d (jX c),.d (ci d),.d (cb q),.h 1] (aK [(1,wR L)]) (.ok (.h 2)) (aH (aK [(1,wR L)]) [(2,wR (S4.eG c d q L)),(1,.dead)])
def wG.at{c:List S4}(h:wG c)(hc:c≠[]){d:Int}{q:Bool}{L:List M9}(h0:0<=d)(h1:d+S4.dB c<=2^40)(h2:L.length<=512){ml:List (Nat×R)}(hm:aK ml 2=some (wR L))(hm2:aK ml 400=none):aJ Tryz.prog 221 [.d (jX c),.d (ci d),.d (cb q),.h 2] (aK ml) (.ok (.h 400)) (aH (aK ml) [(400,wR (S4.eG c d q L)),(2,.dead)]):=by
 have k:=aJ.aXE (ml:=ml) (h hc d q L h0 h1 h2) (g:=g12 400) (gi:=g21 400) (aC9 400 eD) (aDA 400 eD) ⟨sn,tV⟩ ⟨by show aK ml 2=some ((wR L).eZ _);rw[hm,aDS],tV⟩ ⟨by show rB _ ((wR L).eZ _).hs;rw[aDS];exact aZ,tV⟩ ⟨.inr hm2,.inl sn,tV⟩;simp only[lH,aG,bM,aDS]at k;exact k
def aOX:∀(c:List S4),S4.dB c<=2^36->wG c:=by
 intro c hv hc d q L hd0 hd hL;have n0:=S4.eW c;have aZL:0<c.length:=by cases c;exact absurd rfl hc;simp
 have ih:∀k:List S4,S4.dB k<S4.dB c->wG k:=λk hk=>aOX k oM;refine wE mix 100 Tryz.func221 (by(repeat'(first|exact aW|exact sn|refine bI ?_ ?_))) (by(repeat'(first|exact aW|exact aZ|refine bI ?_ ?_))) ?_;refine bl ?_;refine bV mix (λa:Nat×List M9=>a.1<=c.length/\S4.eG (c.drop a.1) d q a.2=S4.eG c d q L/\a.2.length<=512+S4.dB c/\(a.1=0->a.2=L)) (I:=λa=>[(0,.d (jX c)),(1,.d (ci d)),(2,.d (cb q)),(3,if a.1=0 then .h 1 else .h 2),(9,.d (ci a.1))])
  (J:=λa=>if a.1=0 then [(1,wR L)]else [(2,wR a.2),(1,.dead)]) (μ:=λa=>c.length -a.1) 1000 (0,L) ⟨sM,rfl,dM,λ_=>rfl⟩ mZ ?_
 rintro⟨i,Q⟩ ⟨hi,hk,hQl,hQ0⟩;dsimp only at hi hk hQl hQ0⊢;have hlen:=S4.pW;by_cases hi0:i=0
 ·subst hi0;obtain rfl:=hQ0 rfl;have cX:0<c.length:=aZL;show vc _ _ _ _ [(0,.d (jX c)),(1,.d (ci d)),(2,.d (cb q)),(3,.h 1),(9,.d (ci (0:Nat)))] [(1,wR Q)] _ _;have hq:=S4.dG c 0 cX;have AZ:=c[0].fA;have aW3:0<c.length:=cX;refine QH ?_
  repeat'(first|with_reducible (first|refine tG ?_|refine w2 ?_|refine w3 ?_|refine w4 ?_|refine w9 ?_|refine wa ?_|refine we ?_|refine nN.mk ?_|refine O8.t rfl ?_|refine O8.f rfl ?_)|((with_reducible (first|refine wr ?_|refine wi ?_|refine wx ?_|refine wg ?_));(conv=>whnf))|((with_reducible refine nQ (λh=>?_) (λh=>?_))<;>(try rw[h])<;>(conv at h=>{simp})))
  all_goals try first|exact absurd aM hc|(exfalso;(try simp only[bE,aB]at*);omega)
  refine TA ?_
  repeat'(with_reducible refine w5 ?_)
  refine tG ?_
  repeat'(first|with_reducible (first|refine w9 ?_|refine nN.mk ?_)|((with_reducible refine wr ?_);(conv=>whnf))|((refine eE S4.cP rfl eD aW3 ?_);(conv=>whnf)))
  refine BH (λ_:Unit=>True) (λ_=>[(0,.d (jX c)),(1,.d (ci d)),(2,.d (cb q)),(3,.h 2),(9,.d (ci (0:Nat))),(10,.lp 1104 0)]) (λ_=>[(2,wR (Q++[M9.mk d q c[0]])),(1,.dead),(1104,.cells false (c[0].aT1.map A.d))]) 2000 ?_ ?_
  ·skip
   repeat'((with_reducible refine wr ?_);(conv=>whnf))
   refine n8 (by(try simp only[cE,aS,aB,bE]);omega) kK ?_;conv=>whnf
   repeat'(with_reducible (first|refine w9 ?_|refine nN.mk ?_))
   refine⟨(),tV,?_⟩;refine mq 1168 2 ?_
   all_goals exact cO rfl (aME Q (M9.mk d q c[0]))
  rintro _ _;have hl0:(Q++[M9.mk d q c[0]]).length<=513:=by
   rw[aU,nX];omega
  refine BH (λ_:Unit=>True) (λ_=>[(0,.d (jX c)),(1,.d (ci d)),(2,.d (cb q)),(3,.h 2),(9,.d (ci (0:Nat))),(10,.lp 1104 0)]) (λ_=>[(2,wR (S4.eG c[0].t (d+1) q (Q++[M9.mk d q c[0]]))),(1,.dead),(1104,.cells false (c[0].aT1.map A.d))]) 3000 ?_ ?_
  ·skip
   repeat'(first|((with_reducible refine wr ?_);(conv=>whnf))|((with_reducible refine FC.mk (RG (by(try dsimp only);omega) (by(try dsimp only);omega)) ?_);(conv=>whnf)))
   by_cases hx:c[0].t=[]\/512<(Q++[M9.mk d q c[0]]).length
   ·have he:S4.eG c[0].t (d+1) q (Q++[M9.mk d q c[0]])=Q++[M9.mk d q c[0]]:=by
     rcases hx with h|h
     ·rw[h,S4.eG]
     ·rw[S4.tN _ _ _ _ h]
    refine dZ.mk (.h 2) [] (mD c[0].t (d+1) q (Q++[M9.mk d q c[0]]) hx oM rfl) ?_;conv=>whnf
    repeat'(with_reducible (first|refine w9 ?_|refine nN.mk ?_))
    refine⟨(),tV,?_⟩;rw[he];exact mZ
   ·have R2:c[0].t≠[]:=λe=>hx (.inl e);have hx2:(Q++[M9.mk d q c[0]]).length<=512:=by have:¬512<(Q++[M9.mk d q c[0]]).length:=λe=>hx (.inr e);omega
    refine dZ.mk (.h 400) [(400,wR (S4.eG c[0].t (d+1) q (Q++[M9.mk d q c[0]]))),(2,.dead)] (wG.at (ih c[0].t oM) R2 (d:=d+1) (q:=q) oM oM hx2 rfl rfl) ?_;conv=>whnf
    repeat'(with_reducible (first|refine w9 ?_|refine nN.mk ?_))
    refine⟨(),tV,?_⟩;exact mv 400 2
  rintro _ _;have BB:(S4.eG c[0].t (d+1) q (Q++[M9.mk d q c[0]])).length<=513+S4.dB c[0].t:=by
   have:=S4.pW c[0].t (d+1) q (Q++[M9.mk d q c[0]]);omega
  refine BH (λ_:Unit=>True) (λ_=>[(0,.d (jX c)),(1,.d (ci d)),(2,.d (cb q)),(3,.h 2),(9,.d (ci (0:Nat))),(10,.lp 1104 0)]) (λ_=>[(2,wR (S4.eG c[0].e (d+1) q (S4.eG c[0].t (d+1) q (Q++[M9.mk d q c[0]])))),(1,.dead),(1104,.cells false (c[0].aT1.map A.d))]) 4000 ?_ ?_
  ·skip
   repeat'(first|((with_reducible refine wr ?_);(conv=>whnf))|((with_reducible refine FC.mk (RG (by(try dsimp only);omega) (by(try dsimp only);omega)) ?_);(conv=>whnf)))
   by_cases hx:c[0].e=[]\/512<(S4.eG c[0].t (d+1) q (Q++[M9.mk d q c[0]])).length
   ·have he:S4.eG c[0].e (d+1) q (S4.eG c[0].t (d+1) q (Q++[M9.mk d q c[0]]))=S4.eG c[0].t (d+1) q (Q++[M9.mk d q c[0]]):=by
     rcases hx with h|h
     ·rw[h,S4.eG]
     ·rw[S4.tN _ _ _ _ h]
    refine dZ.mk (.h 2) [] (mD c[0].e (d+1) q (S4.eG c[0].t (d+1) q (Q++[M9.mk d q c[0]])) hx oM rfl) ?_;conv=>whnf
    repeat'(with_reducible (first|refine w9 ?_|refine nN.mk ?_))
    refine⟨(),tV,?_⟩;rw[he];exact mZ
   ·have R2:c[0].e≠[]:=λe=>hx (.inl e);have hx2:(S4.eG c[0].t (d+1) q (Q++[M9.mk d q c[0]])).length<=512:=by have:¬512<(S4.eG c[0].t (d+1) q (Q++[M9.mk d q c[0]])).length:=λe=>hx (.inr e);omega
    refine dZ.mk (.h 400) [(400,wR (S4.eG c[0].e (d+1) q (S4.eG c[0].t (d+1) q (Q++[M9.mk d q c[0]])))),(2,.dead)] (wG.at (ih c[0].e oM) R2 (d:=d+1) (q:=q) oM oM hx2 rfl rfl) ?_;conv=>whnf
    repeat'(with_reducible (first|refine w9 ?_|refine nN.mk ?_))
    refine⟨(),tV,?_⟩;exact mv 400 2
  rintro _ _;have hl2:(S4.eG c[0].e (d+1) q (S4.eG c[0].t (d+1) q (Q++[M9.mk d q c[0]]))).length<=513+S4.dB c[0].t+S4.dB c[0].e:=by
   have:=S4.pW c[0].e (d+1) q (S4.eG c[0].t (d+1) q (Q++[M9.mk d q c[0]]));omega
  have hk3:S4.eG (c.drop (0+1)) d q (S4.eG c[0].c (d+1) true (S4.eG c[0].e (d+1) q (S4.eG c[0].t (d+1) q (Q++[M9.mk d q c[0]]))))=S4.eG c d q Q:=by
   rw[<-hk,S4.aH3 c 0 aW3 d q Q oM,S4.WR]
  have hl3:(S4.eG c[0].c (d+1) true (S4.eG c[0].e (d+1) q (S4.eG c[0].t (d+1) q (Q++[M9.mk d q c[0]])))).length<=512+S4.dB c:=by
   have h1:=S4.aOV c[0] d q Q;rw[S4.WR]at h1;omega
  refine bl ?_;by_cases hx:c[0].c=[]\/512<(S4.eG c[0].e (d+1) q (S4.eG c[0].t (d+1) q (Q++[M9.mk d q c[0]]))).length
  ·have he:S4.eG c[0].c (d+1) true (S4.eG c[0].e (d+1) q (S4.eG c[0].t (d+1) q (Q++[M9.mk d q c[0]])))=S4.eG c[0].e (d+1) q (S4.eG c[0].t (d+1) q (Q++[M9.mk d q c[0]])):=by
    rcases hx with h|h
    ·rw[h,S4.eG]
    ·rw[S4.tN _ _ _ _ h]
   refine dZ.mk (.h 2) [] (mD c[0].c (d+1) true (S4.eG c[0].e (d+1) q (S4.eG c[0].t (d+1) q (Q++[M9.mk d q c[0]]))) hx oM rfl) ?_;conv=>whnf
   refine bl ?_;refine⟨(0+1,S4.eG c[0].c (d+1) true (S4.eG c[0].e (d+1) q (S4.eG c[0].t (d+1) q (Q++[M9.mk d q c[0]])))),dM,⟨dM,hk3,hl3,λe=>by cases e⟩,?_⟩;dsimp only;rw[aT7 oM,aT7 oM];rw[he];exact mZ
  ·have R2:c[0].c≠[]:=λe=>hx (.inl e);have hx2:(S4.eG c[0].e (d+1) q (S4.eG c[0].t (d+1) q (Q++[M9.mk d q c[0]]))).length<=512:=by have:¬512<(S4.eG c[0].e (d+1) q (S4.eG c[0].t (d+1) q (Q++[M9.mk d q c[0]]))).length:=λe=>hx (.inr e);omega
   refine dZ.mk (.h 400) [(400,wR (S4.eG c[0].c (d+1) true (S4.eG c[0].e (d+1) q (S4.eG c[0].t (d+1) q (Q++[M9.mk d q c[0]]))))),(2,.dead)] (wG.at (ih c[0].c oM) R2 (d:=d+1) (q:=true) oM oM hx2 rfl rfl) ?_;conv=>whnf
   refine bl ?_;refine⟨(0+1,S4.eG c[0].c (d+1) true (S4.eG c[0].e (d+1) q (S4.eG c[0].t (d+1) q (Q++[M9.mk d q c[0]])))),dM,⟨dM,hk3,hl3,λe=>by cases e⟩,?_⟩;dsimp only;rw[aT7 oM,aT7 oM];exact mv 400 2
 ·rw[aT7 hi0,aT7 hi0];by_cases hgo:i<c.length/\Q.length<=512
  ·obtain⟨cX,hQ5⟩:=hgo;show vc _ _ _ _ [(0,.d (jX c)),(1,.d (ci d)),(2,.d (cb q)),(3,.h 2),(9,.d (ci i))] [(2,wR Q),(1,.dead)] _ _;have hq:=S4.dG c i cX;have AZ:=c[i].fA;have aW3:i<c.length:=cX;refine QH ?_
   repeat'(first|with_reducible (first|refine tG ?_|refine w2 ?_|refine w3 ?_|refine w4 ?_|refine w9 ?_|refine wa ?_|refine we ?_|refine nN.mk ?_|refine O8.t rfl ?_|refine O8.f rfl ?_)|((with_reducible (first|refine wr ?_|refine wi ?_|refine wx ?_|refine wg ?_));(conv=>whnf))|((with_reducible refine nQ (λh=>?_) (λh=>?_))<;>(try rw[h])<;>(conv at h=>{simp})))
   all_goals try first|exact absurd aM hc|(exfalso;(try simp only[bE,aB]at*);omega)
   refine TA ?_
   repeat'(with_reducible refine w5 ?_)
   refine tG ?_
   repeat'(first|with_reducible (first|refine w9 ?_|refine nN.mk ?_)|((with_reducible refine wr ?_);(conv=>whnf))|((refine eE S4.cP rfl eD aW3 ?_);(conv=>whnf)))
   refine BH (λ_:Unit=>True) (λ_=>[(0,.d (jX c)),(1,.d (ci d)),(2,.d (cb q)),(3,.h 2),(9,.d (ci i)),(10,.lp 1104 0)]) (λ_=>[(2,wR (Q++[M9.mk d q c[i]])),(1,.dead),(1104,.cells false (c[i].aT1.map A.d))]) 2000 ?_ ?_
   ·skip
    repeat'((with_reducible refine wr ?_);(conv=>whnf))
    refine n8 (by(try simp only[cE,aS,aB,bE]);omega) kK ?_;conv=>whnf
    repeat'(with_reducible (first|refine w9 ?_|refine nN.mk ?_))
    refine⟨(),tV,?_⟩;refine mq 1168 2 ?_
    all_goals exact cO rfl (aME Q (M9.mk d q c[i]))
   rintro _ _;have hl0:(Q++[M9.mk d q c[i]]).length<=513:=by
    rw[aU,nX];omega
   refine BH (λ_:Unit=>True) (λ_=>[(0,.d (jX c)),(1,.d (ci d)),(2,.d (cb q)),(3,.h 2),(9,.d (ci i)),(10,.lp 1104 0)]) (λ_=>[(2,wR (S4.eG c[i].t (d+1) q (Q++[M9.mk d q c[i]]))),(1,.dead),(1104,.cells false (c[i].aT1.map A.d))]) 3000 ?_ ?_
   ·skip
    repeat'(first|((with_reducible refine wr ?_);(conv=>whnf))|((with_reducible refine FC.mk (RG (by(try dsimp only);omega) (by(try dsimp only);omega)) ?_);(conv=>whnf)))
    by_cases hx:c[i].t=[]\/512<(Q++[M9.mk d q c[i]]).length
    ·have he:S4.eG c[i].t (d+1) q (Q++[M9.mk d q c[i]])=Q++[M9.mk d q c[i]]:=by
      rcases hx with h|h
      ·rw[h,S4.eG]
      ·rw[S4.tN _ _ _ _ h]
     refine dZ.mk (.h 2) [] (mD c[i].t (d+1) q (Q++[M9.mk d q c[i]]) hx oM rfl) ?_;conv=>whnf
     repeat'(with_reducible (first|refine w9 ?_|refine nN.mk ?_))
     refine⟨(),tV,?_⟩;rw[he];exact mZ
    ·have R2:c[i].t≠[]:=λe=>hx (.inl e);have hx2:(Q++[M9.mk d q c[i]]).length<=512:=by have:¬512<(Q++[M9.mk d q c[i]]).length:=λe=>hx (.inr e);omega
     refine dZ.mk (.h 400) [(400,wR (S4.eG c[i].t (d+1) q (Q++[M9.mk d q c[i]]))),(2,.dead)] (wG.at (ih c[i].t oM) R2 (d:=d+1) (q:=q) oM oM hx2 rfl rfl) ?_;conv=>whnf
     repeat'(with_reducible (first|refine w9 ?_|refine nN.mk ?_))
     refine⟨(),tV,?_⟩;exact mv 400 2
   rintro _ _;have BB:(S4.eG c[i].t (d+1) q (Q++[M9.mk d q c[i]])).length<=513+S4.dB c[i].t:=by
    have:=S4.pW c[i].t (d+1) q (Q++[M9.mk d q c[i]]);omega
   refine BH (λ_:Unit=>True) (λ_=>[(0,.d (jX c)),(1,.d (ci d)),(2,.d (cb q)),(3,.h 2),(9,.d (ci i)),(10,.lp 1104 0)]) (λ_=>[(2,wR (S4.eG c[i].e (d+1) q (S4.eG c[i].t (d+1) q (Q++[M9.mk d q c[i]])))),(1,.dead),(1104,.cells false (c[i].aT1.map A.d))]) 4000 ?_ ?_
   ·skip
    repeat'(first|((with_reducible refine wr ?_);(conv=>whnf))|((with_reducible refine FC.mk (RG (by(try dsimp only);omega) (by(try dsimp only);omega)) ?_);(conv=>whnf)))
    by_cases hx:c[i].e=[]\/512<(S4.eG c[i].t (d+1) q (Q++[M9.mk d q c[i]])).length
    ·have he:S4.eG c[i].e (d+1) q (S4.eG c[i].t (d+1) q (Q++[M9.mk d q c[i]]))=S4.eG c[i].t (d+1) q (Q++[M9.mk d q c[i]]):=by
      rcases hx with h|h
      ·rw[h,S4.eG]
      ·rw[S4.tN _ _ _ _ h]
     refine dZ.mk (.h 2) [] (mD c[i].e (d+1) q (S4.eG c[i].t (d+1) q (Q++[M9.mk d q c[i]])) hx oM rfl) ?_;conv=>whnf
     repeat'(with_reducible (first|refine w9 ?_|refine nN.mk ?_))
     refine⟨(),tV,?_⟩;rw[he];exact mZ
    ·have R2:c[i].e≠[]:=λe=>hx (.inl e);have hx2:(S4.eG c[i].t (d+1) q (Q++[M9.mk d q c[i]])).length<=512:=by have:¬512<(S4.eG c[i].t (d+1) q (Q++[M9.mk d q c[i]])).length:=λe=>hx (.inr e);omega
     refine dZ.mk (.h 400) [(400,wR (S4.eG c[i].e (d+1) q (S4.eG c[i].t (d+1) q (Q++[M9.mk d q c[i]])))),(2,.dead)] (wG.at (ih c[i].e oM) R2 (d:=d+1) (q:=q) oM oM hx2 rfl rfl) ?_;conv=>whnf
     repeat'(with_reducible (first|refine w9 ?_|refine nN.mk ?_))
     refine⟨(),tV,?_⟩;exact mv 400 2
   rintro _ _;have hl2:(S4.eG c[i].e (d+1) q (S4.eG c[i].t (d+1) q (Q++[M9.mk d q c[i]]))).length<=513+S4.dB c[i].t+S4.dB c[i].e:=by
    have:=S4.pW c[i].e (d+1) q (S4.eG c[i].t (d+1) q (Q++[M9.mk d q c[i]]));omega
   have hk3:S4.eG (c.drop (i+1)) d q (S4.eG c[i].c (d+1) true (S4.eG c[i].e (d+1) q (S4.eG c[i].t (d+1) q (Q++[M9.mk d q c[i]]))))=S4.eG c d q L:=by
    rw[<-hk,S4.aH3 c i aW3 d q Q oM,S4.WR]
   have hl3:(S4.eG c[i].c (d+1) true (S4.eG c[i].e (d+1) q (S4.eG c[i].t (d+1) q (Q++[M9.mk d q c[i]])))).length<=512+S4.dB c:=by
    have h1:=S4.aOV c[i] d q Q;rw[S4.WR]at h1;omega
   refine bl ?_;by_cases hx:c[i].c=[]\/512<(S4.eG c[i].e (d+1) q (S4.eG c[i].t (d+1) q (Q++[M9.mk d q c[i]]))).length
   ·have he:S4.eG c[i].c (d+1) true (S4.eG c[i].e (d+1) q (S4.eG c[i].t (d+1) q (Q++[M9.mk d q c[i]])))=S4.eG c[i].e (d+1) q (S4.eG c[i].t (d+1) q (Q++[M9.mk d q c[i]])):=by
     rcases hx with h|h
     ·rw[h,S4.eG]
     ·rw[S4.tN _ _ _ _ h]
    refine dZ.mk (.h 2) [] (mD c[i].c (d+1) true (S4.eG c[i].e (d+1) q (S4.eG c[i].t (d+1) q (Q++[M9.mk d q c[i]]))) hx oM rfl) ?_;conv=>whnf
    refine bl ?_;refine⟨(i+1,S4.eG c[i].c (d+1) true (S4.eG c[i].e (d+1) q (S4.eG c[i].t (d+1) q (Q++[M9.mk d q c[i]])))),dM,⟨dM,hk3,hl3,λe=>by cases e⟩,?_⟩;dsimp only;rw[aT7 oM,aT7 oM];rw[he];exact mZ
   ·have R2:c[i].c≠[]:=λe=>hx (.inl e);have hx2:(S4.eG c[i].e (d+1) q (S4.eG c[i].t (d+1) q (Q++[M9.mk d q c[i]]))).length<=512:=by have:¬512<(S4.eG c[i].e (d+1) q (S4.eG c[i].t (d+1) q (Q++[M9.mk d q c[i]]))).length:=λe=>hx (.inr e);omega
    refine dZ.mk (.h 400) [(400,wR (S4.eG c[i].c (d+1) true (S4.eG c[i].e (d+1) q (S4.eG c[i].t (d+1) q (Q++[M9.mk d q c[i]]))))),(2,.dead)] (wG.at (ih c[i].c oM) R2 (d:=d+1) (q:=true) oM oM hx2 rfl rfl) ?_;conv=>whnf
    refine bl ?_;refine⟨(i+1,S4.eG c[i].c (d+1) true (S4.eG c[i].e (d+1) q (S4.eG c[i].t (d+1) q (Q++[M9.mk d q c[i]])))),dM,⟨dM,hk3,hl3,λe=>by cases e⟩,?_⟩;dsimp only;rw[aT7 oM,aT7 oM];exact mv 400 2
  ·have aWW:Q=S4.eG c d q L:=by
    rw[<-hk];by_cases h:i<c.length
    ·rw[S4.tN _ _ _ _ oM]
    ·rw[dT oM,S4.eG]
   repeat'(first|refine bl ?_|refine bS (λh=>?_) (λh=>?_))
   all_goals first
    |exact absurd aM hc
    |(exfalso;(try simp only[bE,aB]at*);omega)
    |skip
   all_goals
    rw[<-aWW];exact em
 termination_by c=>S4.dB c
end Go.Pv
