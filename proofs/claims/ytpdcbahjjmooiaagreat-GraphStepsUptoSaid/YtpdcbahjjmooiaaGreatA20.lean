import Derived.Test.YtpdcbahjjmooiaaGreatA19
/- A program logic over the model, contracts of the functions that the law reaches: part 20. (Names and blanks were shortened by program.) -/
set_option linter.unusedVariables false
set_option linter.unusedSimpArgs false
set_option linter.constructorNameAsVariable false
set_option linter.unusedSectionVars false
set_option linter.deprecated false
set_option maxRecDepth 100000
set_option maxHeartbeats 8000000
open Go Go.Proofs
namespace Go.Pv
open Go.RowKit
variable{P:Program}
structure T4 where
 ref:Int
 bQ:W4
def T4.cells(t:T4):List C:=ci t.ref::t.bQ.cells
structure X4 where
 parents:List Int
 cuts:List Int
 things:List T4
 last:Int
 made:List Int
def X4.cells(x:X4):List C:=[.sl 1 (iR x.parents),.sl 1 (iR x.cuts),.sl 17 (x.things.map T4.cells),ci x.last,.sl 1 (iR x.made)]
structure U4 where
 side:Int
 code:List S4
 names:List N4
 seen:List Int
def U4.cells(u:U4):List C:=[ci u.side,.sl 17 (u.code.map S4.row),.sl 6 (u.names.map N4.cells),.sl 1 (iR u.seen)]
def U4.few(u:U4):Bool:=decide ((u.names.length:Int)<=80)&&decide ((u.seen.length:Int)<=400)
def CI(x:X4)(l:List U4):Bool:=decide ((x.things.length:Int)<=60/\(x.parents.length:Int)<=40/\(x.cuts.length:Int)<=40/\(x.made.length:Int)<=40/\(l.length:Int)<=12)&&x.things.all (λt=>t.bQ.fits)&&l.all U4.few
theorem aAA(x:X4)(l:List U4)(hx:∀t∈x.things,t.bQ.cR<=2^40/\t.bQ.wt)(hl:l.length<=2^40)(ht:x.things.length<=2^40):∀m,aJ Tryz.prog 8 [.d (.agg x.cells),.d (.sl 4 (l.map U4.cells))] m (.ok (.d (cb (CI x l)))) m:=by
 refine iC mix Tryz.func8 ?_
 repeat'(first|refine bl ?_|refine bS (λh=>?_) (λh=>?_))
 any_goals((with_reducible show A1 _ _ _);refine dP ?_;rw[CI];simp_all;try omega)
 have e0:CI x l=(x.things.all (λt=>t.bQ.fits)&&l.all U4.few):=by rw[CI];simp_all;try omega
 rw[e0];refine bV mix (λi:Nat=>i<=x.things.length/\(x.things.take i).all (λt=>t.bQ.fits)=true) (I:=λi=>[(1,.d (.sl 4 (l.map U4.cells))),(2,.lp 1 0),(5,.d (ci i))])
  (J:=λi=>[(1,.cells false (x.cells.map A.d))]) (μ:=λi=>x.things.length -i) 20 0 ⟨by omega,rfl⟩ (cN.swap 5000 5001 trivial ⟨rfl,rfl,rfl,trivial⟩ ⟨rfl,trivial⟩ ⟨trivial,⟨nofun,trivial⟩,trivial,trivial⟩ ⟨trivial,trivial⟩) ?_
 rintro i ⟨hi,hti⟩
 repeat'(first|refine bl ?_|refine bS (λh=>?_) (λh=>?_))
 ·have hil:i<x.things.length:=by omega
  refine cD rfl (by decide) hil ?_;conv=>whnf
  skip
  have hwi:=hx _ (aY hil);refine aF (aF8 x.things[i].bQ hwi.1 hwi.2) ?_;conv=>whnf
  repeat'(first|refine bl ?_|refine bS (λh=>?_) (λh=>?_))
  ·have hf:(x.things.all λt=>t.bQ.fits)=false:=by
    rw[iA];exact⟨x.things[i],aY hil,by simp_all⟩
   rw[hf];exact .one (.d _)
  ·refine⟨i+1,by omega,⟨by omega,?_⟩,cN.swap 5000 5001 trivial ⟨rfl,rfl,rfl,trivial⟩ ⟨rfl,trivial⟩ ⟨trivial,⟨nofun,trivial⟩,trivial,trivial⟩ ⟨trivial,trivial⟩⟩;rw[iT,gQ,hti];simp_all
 ·have e:x.things.take i=x.things:=aI (by omega);rw[e]at hti;rw[hti,cA];refine bV mix (λi:Nat=>i<=l.length/\(l.take i).all U4.few=true) (I:=λi=>[(1,.d (.sl 4 (l.map U4.cells))),(6,.d (ci i))])
   (J:=λi=>[]) (μ:=λi=>l.length -i) 20 0 ⟨by omega,rfl⟩ (cN.swap 5000 5001 trivial ⟨rfl,rfl,trivial⟩ trivial ⟨trivial,trivial,trivial⟩ trivial) ?_
  rintro j ⟨hj,htj⟩
  repeat'(first|refine bl ?_|refine bS (λh=>?_) (λh=>?_))
  ·have hjl:j<l.length:=by omega
   refine cD rfl (by decide) hjl ?_;conv=>whnf
   repeat'(first|refine bl ?_|refine bS (λh=>?_) (λh=>?_))
   any_goals refine cD rfl (by decide) hjl (bw ?_)
   repeat'(first|refine bl ?_|refine bS (λh=>?_) (λh=>?_))
   any_goals((with_reducible show A1 _ _ _)
             rw[show l.all U4.few=false from iA.2 ⟨l[j],aY hjl,by simp_all[U4.few]<;>omega⟩]
             exact .one (.d _))
   refine⟨j+1,by omega,⟨by omega,?_⟩,cN.swap 5000 5001 trivial ⟨rfl,rfl,trivial⟩ trivial ⟨trivial,trivial,trivial⟩ trivial⟩;rw[iT,gQ,htj];simp_all[U4.few]
  ·have e:l.take j=l:=aI (by omega);rw[e]at htj;rw[htj];exact .one (.d _)
structure D4 where
 parents:List Int
 cut:List Bool
 things:List T4
 facets:List ((Int×Int)×Int)
 last:Int
 made:List Int
def D4.cells(w:D4):List C:=[.sl 1 (iR w.parents),.sl 1 (w.cut.map λb=>[cb b]),.im (w.things.map λt=>.one (.int .i64 t.ref)) (w.things.map λt=>.ip t.bQ.cells),.im (w.facets.map λf=>.agg [.int .i64 f.1.1,.int .u8 f.1.2]) (w.facets.map λf=>ci f.2),ci w.last,.sl 1 (iR w.made)]
theorem vQ(w:D4):∀m,aJ Tryz.prog 70 [.d (.ip w.cells)] m (.ok (.d (cb false))) m:=by
 refine iC mix Tryz.func70 ?_;refine bl ?_
 all_goals(refine dP ?_;simp_all)
theorem o4(w:D4):∀m,aJ Tryz.prog 60 [.d (.ip w.cells)] m (.ok (.d (ci w.made.length))) m:=by
 refine iC mix Tryz.func60 ?_;refine bl ?_
 any_goals refine aF (vQ w) (bw ?_)
 refine bl ?_
 all_goals(refine oF ?_;simp)
def D4.HU(w:D4)(s:Int):Bool:=decide (0<=s)&&decide (s<w.made.length)
theorem aIL(w:D4)(s:Int)(h1:-9223372036854775808<=s)(h2:s<=9223372036854775807):∀m,aJ Tryz.prog 119 [.d (.ip w.cells),.d (ci s)] m (.ok (.d (cb (w.HU s)))) m:=by
 refine iC mix Tryz.func119 ?_
 repeat'(first|refine bl ?_|refine bS (λh=>?_) (λh=>?_))
 any_goals refine aF (o4 w) (bw ?_)
 refine bl ?_
 all_goals(refine dP ?_;simp_all[D4.HU];try(intros;omega))
def D4.vF(w:D4)(s:Int):Bool:=decide (0<s)&&decide (s<w.made.length)
theorem XW(w:D4)(s:Int):∀m,aJ Tryz.prog 116 [.d (.ip w.cells),.d (ci s)] m (.ok (.d (cb (w.vF s)))) m:=by
 refine iC mix Tryz.func116 ?_
 repeat'(first|refine bl ?_|refine bS (λh=>?_) (λh=>?_))
 any_goals refine aF (o4 w) (bw ?_)
 refine bl ?_
 all_goals(refine dP ?_;simp_all[D4.vF];try(intros;omega))
theorem M5{α:Type}(p:α->Bool):∀(L:List α)(i:Nat)(h:i<L.length),L.any p=(p L[i]||(L.eraseIdx i).any p)
 |[],i,h=>by simp at h
 |a::r,0,h=>by simp
 |a::r,i+1,h=>by
  simp only[List.any_cons,cJ,gK];rw[M5 p r i (by simpa using h),Bool.or_left_comm]
theorem pR{α:Type}(L:List α)(i:Nat)(h:i<L.length):(L.eraseIdx i).length<L.length:=by rw[List.length_eraseIdx_of_lt h];omega
def T4.kv(t:T4):Ky×C:=(.one (.int .i64 t.ref),.ip t.bQ.cells)
def D4.QN(w:D4)(r k of:Int):Bool:=w.things.any λt=>decide (t.ref≠r)&&(decide (t.bQ.kind=k)&&decide (t.bQ.of=of))
theorem TT(w:D4)(r k of:Int):∀m,aJ Tryz.prog 149 [.d (.ip w.cells),.d (ci r),.d (.v (.int .u8 k)),.d (ci of)] m (.ok (.d (cb (w.QN r k of)))) m:=by
 refine iC mix Tryz.func149 ?_;refine bl ?_;refine xI rfl ?_;conv=>whnf
 refine bl ?_;refine bV mix (λa:Option (Ky×C)×List T4=>w.QN r k of=a.2.any λt=>decide (t.ref≠r)&&(decide (t.bQ.kind=k)&&decide (t.bQ.of=of))) (I:=λa=>[(15,.h 41),(1,.d (ci r)),(2,.d (.v (.int .u8 k))),(3,.d (ci of))])
  (J:=λa=>[(41,.di a.1 (a.2.map T4.kv))]) (μ:=λa=>a.2.length) 100 (none,w.things) rfl (cN.U0 ⟨rfl,rfl,rfl,rfl,trivial⟩ rfl) ?_
 rintro⟨cur,L⟩ hL;dsimp only at hL⊢;refine bl ?_;refine tR (λh0=>?_) (λi hi=>?_)
 ·conv=>whnf
  refine bl ?_;refine dP ?_;rw[hL,h0];rfl
 ·rw[M5 _ L i hi]at hL;conv=>whnf
  repeat'(first|refine bl ?_|refine bS (λh=>?_) (λh=>?_))
  ·refine dP ?_;rw[hL];simp_all
  all_goals
   refine⟨(some (T4.kv L[i]),L.eraseIdx i),pR _ _ hi,?_,?_⟩
   ·rw[hL];simp_all
   ·exact mv 5000 5001
theorem n8{n b:Nat}{X:Prop}(h:n<=2^38)(hb:Nat.ble b 512=true)(hx:X):SzK n b X:=
 ⟨cL (l5 h (bD hb)) (by decide),hx⟩
theorem A1.sl{m:Mem}{i:Nat}{fz:Bool}{t:TypeId}{es:Nat}{L:List (List C)}(h:m i=some (.fW fz t es (L.map λx=>x.map A.d))):A1 m (.h i) (.d (.sl es L)):=.one (.os h (rC.data m L))
theorem G7(L:List (List C))(hL:L.length<=2^38)(hes:∀e∈L,e.length=1):∀m,aJ Tryz.prog 61 [.d (.sl 1 L)] m (.ok (.d (.sl 1 L))) m:=by
 refine iC mix Tryz.func61 ?_;refine bl ?_;refine BN.mk (λh0=>?_) ?_
 ·subst h0;conv=>whnf
  refine bl ?_;exact .one (.nl 1)
 ·conv=>whnf
  refine bl ?_;refine n8 (by simp only[aB,aS];omega) (by kernel_rfl) ?_;conv=>whnf
  refine bl ?_;exact A1.sl (fz:=false) (t:=_) rfl
theorem G6(L:List (List C))(hL:L.length<=2^38)(hes:∀e∈L,e.length=1):∀m,aJ Tryz.prog 69 [.d (.sl 1 L)] m (.ok (.d (.sl 1 L))) m:=by
 refine iC mix Tryz.func69 ?_;refine bl ?_;refine BN.mk (λh0=>?_) ?_
 ·subst h0;conv=>whnf
  refine bl ?_;exact .one (.nl 1)
 ·conv=>whnf
  refine bl ?_;refine n8 (by simp only[aB,aS];omega) (by kernel_rfl) ?_;conv=>whnf
  refine bl ?_;exact A1.sl (fz:=false) (t:=_) rfl
theorem DG(L:List (List C))(hL:L.length<=2^38)(hes:∀e∈L,e.length=1):∀m,aJ Tryz.prog 79 [.d (.sl 1 L)] m (.ok (.d (.sl 1 L))) m:=by
 refine iC mix Tryz.func79 ?_;refine bl ?_;refine BN.mk (λh0=>?_) ?_
 ·subst h0;conv=>whnf
  refine bl ?_;exact .one (.nl 1)
 ·conv=>whnf
  refine bl ?_;refine n8 (by simp only[aB,aS];omega) (by kernel_rfl) ?_;conv=>whnf
  refine bl ?_;exact A1.sl (fz:=false) (t:=_) rfl
theorem BV(L:List (List C))(hL:L.length<=2^38)(hes:∀e∈L,e.length=5):∀m,aJ Tryz.prog 125 [.d (.sl 5 L)] m (.ok (.d (.sl 5 L))) m:=by
 refine iC mix Tryz.func125 ?_;refine bl ?_;refine BN.mk (λh0=>?_) ?_
 ·subst h0;conv=>whnf
  refine bl ?_;exact .one (.nl 5)
 ·conv=>whnf
  refine bl ?_;refine n8 (by simp only[aB,aS];omega) (by kernel_rfl) ?_;conv=>whnf
  refine bl ?_;exact A1.sl (fz:=false) (t:=_) rfl
theorem DF(L:List (List C))(hL:L.length<=2^38)(hes:∀e∈L,e.length=6):∀m,aJ Tryz.prog 126 [.d (.sl 6 L)] m (.ok (.d (.sl 6 L))) m:=by
 refine iC mix Tryz.func126 ?_;refine bl ?_;refine BN.mk (λh0=>?_) ?_
 ·subst h0;conv=>whnf
  refine bl ?_;exact .one (.nl 6)
 ·conv=>whnf
  refine bl ?_;refine n8 (by simp only[aB,aS];omega) (by kernel_rfl) ?_;conv=>whnf
  refine bl ?_;exact A1.sl (fz:=false) (t:=_) rfl
theorem PH(L:List (List C))(hL:L.length<=2^38)(hes:∀e∈L,e.length=17):∀m,aJ Tryz.prog 170 [.d (.sl 17 L)] m (.ok (.d (.sl 17 L))) m:=by
 refine iC mix Tryz.func170 ?_;refine bl ?_;refine BN.mk (λh0=>?_) ?_
 ·subst h0;conv=>whnf
  refine bl ?_;exact .one (.nl 17)
 ·conv=>whnf
  refine bl ?_;refine n8 (by simp only[aB,aS];omega) (by kernel_rfl) ?_;conv=>whnf
  refine bl ?_;exact A1.sl (fz:=false) (t:=_) rfl
theorem JB(L:List (List C))(hL:L.length<=2^38)(hes:∀e∈L,e.length=1):∀m,aJ Tryz.prog 172 [.d (.sl 1 L)] m (.ok (.d (.sl 1 L))) m:=by
 refine iC mix Tryz.func172 ?_;refine bl ?_;refine BN.mk (λh0=>?_) ?_
 ·subst h0;conv=>whnf
  refine bl ?_;exact .one (.nl 1)
 ·conv=>whnf
  refine bl ?_;refine n8 (by simp only[aB,aS];omega) (by kernel_rfl) ?_;conv=>whnf
  refine bl ?_;exact A1.sl (fz:=false) (t:=_) rfl
theorem PF(L:List (List C))(hL:L.length<=2^38)(hes:∀e∈L,e.length=4):∀m,aJ Tryz.prog 207 [.d (.sl 4 L)] m (.ok (.d (.sl 4 L))) m:=by
 refine iC mix Tryz.func207 ?_;refine bl ?_;refine BN.mk (λh0=>?_) ?_
 ·subst h0;conv=>whnf
  refine bl ?_;exact .one (.nl 4)
 ·conv=>whnf
  refine bl ?_;refine n8 (by simp only[aB,aS];omega) (by kernel_rfl) ?_;conv=>whnf
  refine bl ?_;exact A1.sl (fz:=false) (t:=_) rfl
theorem zN(L:List (List C))(hL:L.length<=2^38)(hne:L≠[]):∀(m:Mem)(d:Nat),m d=none->aJ Tryz.prog 125 [.d (.sl 5 L)] m (.ok (.h d)) (aX m d (dU 88 5 L)):=by
 refine iW mix (F:=A.h) (r:=dU 88 5 L) Tryz.func125 rfl (by kernel_rfl) (bD rfl) rfl (oJ _ _ _) (λ_ _=>rfl) (λi j hj=>by simpa [A.hs]using hj) (λg=>eT g _ _ _) ?_;refine bl ?_;refine BN.mk (λh0=>absurd h0 hne) ?_;conv=>whnf
 refine bl ?_;refine n8 (by simp only[aB,aS];omega) (by kernel_rfl) ?_;conv=>whnf
 refine bl ?_;exact⟨_,rfl,rfl⟩
theorem BU(L:List (List C))(hL:L.length<=2^38)(hne:L≠[]):∀(m:Mem)(d:Nat),m d=none->aJ Tryz.prog 126 [.d (.sl 6 L)] m (.ok (.h d)) (aX m d (dU 100 6 L)):=by
 refine iW mix (F:=A.h) (r:=dU 100 6 L) Tryz.func126 rfl (by kernel_rfl) (bD rfl) rfl (oJ _ _ _) (λ_ _=>rfl) (λi j hj=>by simpa [A.hs]using hj) (λg=>eT g _ _ _) ?_;refine bl ?_;refine BN.mk (λh0=>absurd h0 hne) ?_;conv=>whnf
 refine bl ?_;refine n8 (by simp only[aB,aS];omega) (by kernel_rfl) ?_;conv=>whnf
 refine bl ?_;exact⟨_,rfl,rfl⟩
theorem MH(L:List (List C))(hL:L.length<=2^38)(hne:L≠[]):∀(m:Mem)(d:Nat),m d=none->aJ Tryz.prog 170 [.d (.sl 17 L)] m (.ok (.h d)) (aX m d (dU 210 17 L)):=by
 refine iW mix (F:=A.h) (r:=dU 210 17 L) Tryz.func170 rfl (by kernel_rfl) (bD rfl) rfl (oJ _ _ _) (λ_ _=>rfl) (λi j hj=>by simpa [A.hs]using hj) (λg=>eT g _ _ _) ?_;refine bl ?_;refine BN.mk (λh0=>absurd h0 hne) ?_;conv=>whnf
 refine bl ?_;refine n8 (by simp only[aB,aS];omega) (by kernel_rfl) ?_;conv=>whnf
 refine bl ?_;exact⟨_,rfl,rfl⟩
theorem MG(L:List (List C))(hL:L.length<=2^38)(hne:L≠[]):∀(m:Mem)(d:Nat),m d=none->aJ Tryz.prog 207 [.d (.sl 4 L)] m (.ok (.h d)) (aX m d (dU 207 4 L)):=by
 refine iW mix (F:=A.h) (r:=dU 207 4 L) Tryz.func207 rfl (by kernel_rfl) (bD rfl) rfl (oJ _ _ _) (λ_ _=>rfl) (λi j hj=>by simpa [A.hs]using hj) (λg=>eT g _ _ _) ?_;refine bl ?_;refine BN.mk (λh0=>absurd h0 hne) ?_;conv=>whnf
 refine bl ?_;refine n8 (by simp only[aB,aS];omega) (by kernel_rfl) ?_;conv=>whnf
 refine bl ?_;exact⟨_,rfl,rfl⟩
def half{α:Type}(f:α->List C)(z:List C)(L:List α)(i:Nat):List (List C):=(L.take i).map f++List.replicate (L.length -i) z
theorem DZ{α:Type}(f:α->List C)(z:List C)(L:List α)(i:Nat)(h:i<=L.length):(half f z L i).length=L.length:=by
 simp only[half,aU,aB,cW,aS];omega
theorem aAL{α:Type}(f:α->List C)(z:List C)(L:List α):half f z L 0=List.replicate L.length z:=by simp[half]
theorem aDC{α:Type}(f:α->List C)(z:List C)(L:List α):half f z L L.length=L.map f:=by simp[half]
theorem aDE{α:Type}(f:α->List C)(z:List C)(L:List α)(i:Nat)(h:i<L.length):(half f z L i).set i (f L[i])=half f z L (i+1):=by
 apply List.ext_getElem
 ·rw[cE,DZ _ _ _ _ (by omega),DZ _ _ _ _ (by omega)]
 ·intro j h1 h2;rw[cE,DZ _ _ _ _ (by omega)]at h1;simp only[List.getElem_set,half,List.getElem_append,aB,cW,fO,nI,List.getElem_replicate];by_cases e:i=j
  ·subst e;simp only[if_true];rw[dif_pos (by omega)]
  ·simp only[e,if_false];by_cases hj:j<i
   ·rw[dif_pos (by omega),dif_pos (by omega)]
   ·rw[dif_neg (by omega),dif_neg (by omega)]
theorem aDD{α:Type}(f:α->List C)(z:List C)(L:List α)(i:Nat)(h:i<L.length):(half f z L i)[i]?=some z:=by
 rw[half,bO (by simp;omega)];simp only[aB,cW,List.getElem?_replicate];rw[if_pos (by omega)]
theorem gB(L:List (List C))(i:Nat)(r:List C)(h:L[i]?=some r):(bE L)[i]?=some (r.map A.d):=by
 simp[bE,h]
theorem tU(L:List (List C))(i:Nat)(r:List C):(bE L).set i (r.map A.d)=bE (L.set i r):=by
 simp[bE,qS]
theorem aJB{zl ce b n:Nat}{fr:Bool}{X:Prop}(h1:Nat.beq zl ce=true)(h2:Nat.blt 0 ce=true)(hn:n<=2^38)(hb:Nat.ble b 512=true)(hf:fr=true)(hx:X):
 xR (decide (zl=ce/\0<ce/\0<=(n:Int)/\(n:Int)<=(n:Int)/\(b:Int)*(n:Int)<=281474976710656/\(n:Int)<=9223372036854775807)&&fr) X:=by
 have h3:=bD hb;have h4:b*n<=512*2^38:=l5 h3 hn;refine⟨?_,hx⟩;rw[hf,o6,decide_eq_true_eq];have h6:0<ce:=bD h2;refine⟨bB h1,h6,by omega,by omega,?_,by omega⟩;have h5:((b*n:Nat):Int)<=((140737488355328:Nat):Int):=Int.ofNat_le.2 (by omega);rw[Int.natCast_mul]at h5;omega
theorem aGE(n:Nat)(z:List C):List.replicate n (z.map A.d)=bE (List.replicate n z):=by simp[bE]
abbrev zV:List C:=[.v (.int .u8 0),ci 0,.v (.string ByteArray.empty),.nl 5,ci 0]
theorem RB(v:V)(hv:v.cR<=2^38):∀m,aJ Tryz.prog 167 [.d (.agg v.cells)] m (.ok (.d (.agg v.cells))) m:=by
 have hcd:=v.fA;have hl:=V.eW v.l;have ih:∀i(h:i<v.l.length),∀m,aJ Tryz.prog 167 [.d (.agg (V.cells v.l[i]))] m (.ok (.d (.agg (V.cells v.l[i])))) m:=λi h=>
  have:=v.k7 i h
  RB v.l[i] (by have:=V.dG v.l i h;omega)
 refine iC mix Tryz.func167 ?_
 repeat'(first|refine bl ?_|refine bS (λh=>?_) (λh=>?_))
 ·show A1 _ _ (.d (.agg [.v (.int .u8 v.kind),ci v.n,.v (.string v.s),.sl 5 (v.l.map V.row),ci v.r]));rw[h];exact .one (.agg (.cons (.d _) (.cons (.d _) (.cons (.d _) (.cons (.nz 0 5) (.cons (.d _) .nil))))))
 ·refine aJB (by kernel_rfl) (by kernel_rfl) (by simp only[aB];omega) (by kernel_rfl) rfl ?_;conv=>whnf
  refine bl ?_;refine bV mix (λi:Nat=>i<=v.l.length) (I:=λi=>[(1,.lp 1 0),(2,.lp 9 0),(3,.h 73),(17,.d (.sl 5 (v.l.map V.row))),(18,.d (ci v.l.length)),(19,.d (ci i))])
   (J:=λi=>[(73,dU 88 5 (half V.cells zV v.l i)),(9,.cells false (zV.map A.d)),(1,.cells false (v.cells.map A.d))]) (μ:=λi=>v.l.length -i) 100 0 (by omega) ?_ ?_
  ·refine mq 5000 5001 ?_;exact cO rfl (by rw[aAL,<-aGE];simp only[aB];rfl)
  intro i hi
  repeat'(first|refine bl ?_|refine bS (λh=>?_) (λh=>?_))
  ·refine eE V.cP rfl (by decide) h ?_;conv=>whnf
   refine bl ?_;refine aF (ih i h) ?_;conv=>whnf
   skip
   refine lG.mk i rfl (by simp only[bE,aB];rw[DZ _ _ _ _ hi];exact h) ?_;conv=>whnf
   skip
   refine fZ.mk (zV.map A.d) (gB _ _ _ (aDD _ _ _ _ h)) ?_;conv=>whnf
   refine bl ?_;refine⟨i+1,by omega,by omega,?_⟩;refine mq 5000 5001 ?_;exact cO rfl (by rw[<-aDE _ _ _ _ h,<-tU];rfl)
  ·have e:i=v.l.length:=by omega
   subst e;rw[aDC];show A1 _ _ (.d (.agg [.v (.int .u8 v.kind),ci v.n,.v (.string v.s),.sl 5 (v.l.map V.row),ci v.r]));rw[show V.row=V.cells from funext V.cP];exact .one (.agg (.cons (.d _) (.cons (.d _) (.cons (.d _) (.cons (.dU (t:=88) rfl) (.cons (.d _) .nil))))))
 termination_by SizeOf.sizeOf v
theorem aIS(v:V)(hv:v.cR<=2^38)(hm:v.may=true):∀m,aJ Tryz.prog 169 [.d (.agg v.cells)] m (.ok (.eL [.d (.agg v.cells),.d (ci 0)])) m:=by
 refine iC mix Tryz.func169 ?_;refine bl ?_;refine fT (cs:=v.cells) (v:=.d (cb true)) (hm▸rW v (by omega)) ?_;conv=>whnf
 refine bl ?_;refine fT (cs:=v.cells) (RB v hv) ?_;conv=>whnf
 refine bl ?_;exact .eL (cs:=[.agg v.cells,ci 0]) (.cons (.agg (wJ.data _ v.cells)) (.cons (.d _) .nil))
theorem E8(v:V)(hv:v.cR<=2^38)(hm:v.may=true):∀m,aJ Tryz.prog 124 [.d (.agg v.cells)] m (.ok (.d (.agg v.cells))) m:=by
 refine iC mix Tryz.func124 ?_;refine bl ?_;refine fT (cs:=v.cells) (aIS v hv hm) ?_;conv=>whnf
 refine bl ?_;exact .one (.agg (wJ.data _ v.cells))
theorem EB{α:Type}(f:α->List C)(L:List α)(i:Nat)(h:i<L.length):(L.map f).set i (f L[i])=L.map f:=by
 apply List.ext_getElem
 ·simp
 ·intro j h1 h2;simp only[List.getElem_set,fO];split
  ·rename_i e;subst e;rfl
  ·rfl
theorem aJ.G5{f:FuncId}{cs:List C}{v:A}(h:∀m,aJ P f [.d (.agg cs)] m (.ok v) m):∀m,aJ P f [.agg (cs.map A.d)] m (.ok v) m:=
 λm=>(h m).args λw M ρ vs h=>aCK (λy h=>I3 h) h
theorem E4.aJS(v:E4):E4.cR v=1+E4.dB v.l:=by cases v;rfl
theorem PY(v:E4)(hv:v.cR<=2^38):∀m,aJ Tryz.prog 171 [.d (.agg v.cells)] m (.ok (.d (.agg v.cells))) m:=by
 have hcd:=v.aJS;have hl:=E4.eW v.l;have ih:∀i(h:i<v.l.length),∀m,aJ Tryz.prog 171 [.d (.agg (E4.cells v.l[i]))] m (.ok (.d (.agg (E4.cells v.l[i])))) m:=λi h=>
  have:=v.k7 i h
  PY v.l[i] (by have:=E4.dG v.l i h;omega)
 refine iC mix Tryz.func171 ?_;refine bl ?_;by_cases h0:v.l=[]
 ·refine aF (PF _ (by simp only[aB];omega) (by rw[h0];simp)) ?_;conv=>whnf
  refine bl ?_;refine bV mix (λi:Nat=>True) (I:=λi=>[(1,.lp 1 0),(2,.lp 9 0),(11,.d (ci 0)),(12,.d (ci 0))])
   (J:=λi=>[(9,.cells false ([.v (.int .u8 0),ci 0,.v (.string ByteArray.empty),.nl 4].map A.d)),(1,.cells false (v.cells.map A.d))]) (μ:=λi=>0) 100 0 trivial ?_ ?_
  ·refine mq 5000 5001 ?_;rw[h0];rfl
  intro _ _;refine bl ?_;exact .one (.agg (wJ.data _ v.cells))
 ·refine fQ (MG _ (by simp only[aB];omega) (by simpa using h0)) 1000 rfl ?_;conv=>whnf
  refine bl ?_;refine bV mix (λi:Nat=>i<=v.l.length) (I:=λi=>[(1,.lp 1 0),(2,.lp 9 0),(10,.h 1000),(11,.d (ci v.l.length)),(12,.d (ci i))])
   (J:=λi=>[(1000,dU 207 4 (v.l.map E4.cells)),(9,.cells false ([.v (.int .u8 0),ci 0,.v (.string ByteArray.empty),.nl 4].map A.d)),(1,.cells false [.d (.v (.int .u8 v.kind)),.d (ci v.n),.d (.v (.string v.s)),.h 1000])]) (μ:=λi=>v.l.length -i) 100 0 (by omega) ?_ ?_
  ·refine mq 5000 5001 ?_;rw[show E4.row=E4.cells from funext E4.cP];exact cO rfl rfl
  intro i hi
  repeat'(first|refine bl ?_|refine bS (λh=>?_) (λh=>?_))
  ·refine lG.mk i rfl (by simp only[bE,aB];exact h) ?_;conv=>whnf
   refine fZ.mk ((E4.cells v.l[i]).map A.d) (gB _ _ _ (by simp[h])) ?_;conv=>whnf
   refine bl ?_;refine cH (aJ.G5 (ih i h)) ?_;conv=>whnf
   skip
   refine lG.mk i rfl (by simp only[bE,aB];exact h) ?_;conv=>whnf
   refine fZ.mk ((E4.cells v.l[i]).map A.d) (gB _ _ _ (by simp[h])) ?_;conv=>whnf
   refine bl ?_;refine⟨i+1,by omega,by omega,?_⟩;refine mq 5000 5001 ?_;exact cO rfl (by rw[show mM (List.map A.d v.l[i].cells) 0 (List.map A.d v.l[i].cells)=List.map A.d v.l[i].cells from rfl,tU,EB])
  ·show A1 _ _ (.d (.agg [.v (.int .u8 v.kind),ci v.n,.v (.string v.s),.sl 4 (v.l.map E4.row)]));rw[show E4.row=E4.cells from funext E4.cP];exact .one (.agg (.cons (.d _) (.cons (.d _) (.cons (.d _) (.cons (.dU (t:=207) rfl) .nil)))))
 termination_by SizeOf.sizeOf v
variable{α:Type}
theorem xK(f:α->List C)(L:List α)(i:Nat)(h:i<L.length){row:List A}(hr:row=(f L[i]).map A.d):(bE (L.map f)).set i row=bE (L.map f):=by
 rw[hr,tU,EB]
theorem pE(l:List S4)(hv:S4.dB l<=2^38):∀m,aJ Tryz.prog 127 [.d (.sl 17 (l.map S4.row))] m (.ok (.d (.sl 17 (l.map S4.row)))) m:=by
 have hl:=S4.eW l;have hg:∀i(h:i<l.length),S4.dB l[i].t<S4.dB l/\S4.dB l[i].e<S4.dB l/\S4.dB l[i].c<S4.dB l/\l[i].a.cR<=2^38/\l[i].b.cR<=2^38/\l[i].w.length<=2^38:=λi h=>by
  have h1:=S4.dG l i h;have h2:=l[i].fA;refine⟨?_,?_,?_,?_,?_,?_⟩<;>omega
 have iht:∀i(h:i<l.length),∀m,aJ Tryz.prog 127 [.d (.sl 17 (l[i].t.map S4.row))] m (.ok (.d (.sl 17 (l[i].t.map S4.row)))) m:=λi h=>
  have:=hg i h
  pE l[i].t (by omega)
 have ihe:∀i(h:i<l.length),∀m,aJ Tryz.prog 127 [.d (.sl 17 (l[i].e.map S4.row))] m (.ok (.d (.sl 17 (l[i].e.map S4.row)))) m:=λi h=>
  have:=hg i h
  pE l[i].e (by omega)
 have ihc:∀i(h:i<l.length),∀m,aJ Tryz.prog 127 [.d (.sl 17 (l[i].c.map S4.row))] m (.ok (.d (.sl 17 (l[i].c.map S4.row)))) m:=λi h=>
  have:=hg i h
  pE l[i].c (by omega)
 refine iC mix Tryz.func127 ?_;refine bl ?_;by_cases h0:l=[]
 ·subst h0;refine aF (PH _ (by simp) (by simp)) ?_;conv=>whnf
  refine bl ?_;refine bV mix (λi:Nat=>True) (I:=λi=>[(0,.d (.sl 17 [])),(8,.d (ci 0)),(9,.d (ci 0))])
   (J:=λi=>[]) (μ:=λi=>0) 100 0 trivial (by exact mv 5000 5001) ?_
  intro _ _;refine bl ?_;exact .one (.d _)
 ·refine fQ (MH _ (by simp only[aB];omega) (by simpa using h0)) 1000 rfl ?_;conv=>whnf
  refine bl ?_;refine bV mix (λi:Nat=>i<=l.length) (I:=λi=>[(0,.h 1000),(7,.h 1000),(8,.d (ci l.length)),(9,.d (ci i))])
   (J:=λi=>[(1000,dU 210 17 (l.map S4.cells))]) (μ:=λi=>l.length -i) 100 0 (by omega) ?_ ?_
  ·refine mq 5000 5001 ?_;rw[show S4.row=S4.cells from funext S4.cP];exact cO rfl rfl
  intro i hi
  repeat'(first|refine bl ?_|refine bS (λh=>?_) (λh=>?_))
  ·refine lG.mk i rfl (by simp only[bE,aB];exact h) ?_;conv=>whnf
   refine fZ.mk ((S4.cells l[i]).map A.d) (gB _ _ _ (by simp[h])) ?_;conv=>whnf
   refine bl ?_;obtain⟨g1,g2,g3,g4,g5,g6⟩:=hg i h;refine cH (aJ.G5 (PY l[i].a g4)) ?_;conv=>whnf
   skip
   refine cH (aJ.G5 (PY l[i].b g5)) ?_;conv=>whnf
   refine bl ?_;refine cH (iht i h) ?_;conv=>whnf
   skip
   refine cH (ihe i h) ?_;conv=>whnf
   skip
   refine cH (ihc i h) ?_;conv=>whnf
   refine bl ?_;refine aF (JB _ (by simp only[aB];omega) (by intro e he;obtain⟨s,_,rfl⟩:=aM.1 he;rfl)) ?_;conv=>whnf
   refine bl ?_;refine lG.mk i rfl (by simp only[bE,aB];exact h) ?_;conv=>whnf
   refine fZ.mk ((S4.cells l[i]).map A.d) (gB _ _ _ (by simp[h])) ?_;conv=>whnf
   refine bl ?_;refine⟨i+1,by omega,by omega,?_⟩;refine mq 5000 5001 ?_;exact cO rfl (xK S4.cells l i h rfl)
  ·exact .one (show Rd _ (.h 1000) (.sl 17 (l.map S4.row)) by rw[show S4.row=S4.cells from funext S4.cP];exact .dU (t:=210) rfl)
 termination_by S4.dB l
abbrev zW:List C:=[.v (.int .u8 0),ci 0,.v (.int .u8 0),ci 0,cs ByteArray.empty,.nl 5,ci 0,.nl 5,ci 0,ci 0,ci 0,ci 0,.v (.int .u8 0),cb false,.nl 17,.nl 6]
theorem yX(x:W4)(hx:x.cR<=2^38)(hm1:x.value.may=true)(hm2:∀i(h:i<x.values.length),x.values[i].may=true)(hm3:∀i(h:i<x.names.length),x.names[i].value.may=true):∀m,aJ Tryz.prog 66 [.d (.agg x.cells)] m (.ok (.d (.agg x.cells))) m:=by
 have hc:x.cR=x.value.cR+V.dB x.values+S4.dB x.code+x.names.length+V.dB (x.names.map (·.value)):=rfl;have hc2:∀i(h:i<x.values.length),x.values[i].cR<=2^38:=λi h=>by have:=V.dG x.values i h;omega
 have hc3:∀i(h:i<x.names.length),x.names[i].value.cR<=2^38:=λi h=>by
  have:=V.dG (x.names.map (·.value)) i (by simpa using h);simp only[fO]at this;omega
 have hlv:=V.eW x.values;refine iC mix Tryz.func66 ?_;refine bl ?_;refine aF (aJ.G5 (E8 x.value (by omega) hm1)) ?_;conv=>whnf
 refine bl ?_;by_cases hv:x.values=[]<;>by_cases hn:x.names=[]
 ·refine aF (BV _ (by simp only[aB];omega) (by rw[hv];simp)) ?_;conv=>whnf
  refine bl ?_;refine bV mix (λi:Nat=>i<=x.values.length) (I:=λi=>[(1,.lp 1 0),(2,.lp 9 0),(16,.d (.sl 5 (x.values.map V.row))),(17,.d (ci x.values.length)),(18,.d (ci i))])
   (J:=λi=>[(9,.cells false (zW.map A.d)),(1,.cells false [.d (.v (.int .u8 x.kind)),.d (ci x.home),.d (.v (.int .u8 x.value.kind)),.d (ci x.value.n),.d (cs x.value.s),.d (.sl 5 (x.value.l.map V.row)),.d (ci x.value.r),.d (.sl 5 (x.values.map V.row)),.d (ci x.n),.d (ci x.lost),.d (ci x.of),.d (ci x.by_),.d (.v (.int .u8 x.set)),.d (cb x.full),.d (.sl 17 (x.code.map S4.row)),.d (.sl 6 (x.names.map N4.cells))])]) (μ:=λi=>x.values.length -i) 3000 0 (by omega) ?_ ?_
  ·exact mv 5000 5001
  intro i hi
  repeat'(first|refine bl ?_|refine bS (λh=>?_) (λh=>?_))
  ·exact absurd h (by rw[hv];simp)
  clear hi;refine aF (DF _ (by simp only[aB];omega) (by rw[hn];simp)) ?_;conv=>whnf
  refine bl ?_;refine bV mix (λi:Nat=>i<=x.names.length) (I:=λi=>[(1,.lp 1 0),(2,.lp 9 0),(35,.d (.sl 6 (x.names.map N4.cells))),(36,.d (ci x.names.length)),(37,.d (ci i))])
   (J:=λi=>[(9,.cells false (zW.map A.d)),(1,.cells false [.d (.v (.int .u8 x.kind)),.d (ci x.home),.d (.v (.int .u8 x.value.kind)),.d (ci x.value.n),.d (cs x.value.s),.d (.sl 5 (x.value.l.map V.row)),.d (ci x.value.r),.d (.sl 5 (x.values.map V.row)),.d (ci x.n),.d (ci x.lost),.d (ci x.of),.d (ci x.by_),.d (.v (.int .u8 x.set)),.d (cb x.full),.d (.sl 17 (x.code.map S4.row)),.d (.sl 6 (x.names.map N4.cells))])]) (μ:=λi=>x.names.length -i) 3000 0 (by omega) ?_ ?_
  ·exact mv 5000 5001
  intro i hi
  repeat'(first|refine bl ?_|refine bS (λh=>?_) (λh=>?_))
  ·exact absurd h (by rw[hn];simp)
  refine aF (pE x.code (by omega)) ?_;conv=>whnf
  refine bl ?_;show A1 _ _ (.d (.agg [.v (.int .u8 x.kind),ci x.home,.v (.int .u8 x.value.kind),ci x.value.n,cs x.value.s,.sl 5 (x.value.l.map V.row),ci x.value.r,.sl 5 (x.values.map V.row),ci x.n,ci x.lost,ci x.of,ci x.by_,.v (.int .u8 x.set),cb x.full,.sl 17 (x.code.map S4.row),.sl 6 (x.names.map N4.cells)]));exact .one (.agg (.cons (.d _) (.cons (.d _) (.cons (.d _) (.cons (.d _) (.cons (.d _) (.cons (.d _) (.cons (.d _) (.cons (.d _) (.cons (.d _) (.cons (.d _) (.cons (.d _) (.cons (.d _) (.cons (.d _) (.cons (.d _) (.cons (.d _) (.cons (.d _) .nil)))))))))))))))))
 ·refine aF (BV _ (by simp only[aB];omega) (by rw[hv];simp)) ?_;conv=>whnf
  refine bl ?_;refine bV mix (λi:Nat=>i<=x.values.length) (I:=λi=>[(1,.lp 1 0),(2,.lp 9 0),(16,.d (.sl 5 (x.values.map V.row))),(17,.d (ci x.values.length)),(18,.d (ci i))])
   (J:=λi=>[(9,.cells false (zW.map A.d)),(1,.cells false [.d (.v (.int .u8 x.kind)),.d (ci x.home),.d (.v (.int .u8 x.value.kind)),.d (ci x.value.n),.d (cs x.value.s),.d (.sl 5 (x.value.l.map V.row)),.d (ci x.value.r),.d (.sl 5 (x.values.map V.row)),.d (ci x.n),.d (ci x.lost),.d (ci x.of),.d (ci x.by_),.d (.v (.int .u8 x.set)),.d (cb x.full),.d (.sl 17 (x.code.map S4.row)),.d (.sl 6 (x.names.map N4.cells))])]) (μ:=λi=>x.values.length -i) 3000 0 (by omega) ?_ ?_
  ·exact mv 5000 5001
  intro i hi
  repeat'(first|refine bl ?_|refine bS (λh=>?_) (λh=>?_))
  ·exact absurd h (by rw[hv];simp)
  clear hi;refine fQ (BU _ (by simp only[aB];omega) (by simpa using hn)) 2000 rfl ?_;conv=>whnf
  refine bl ?_;refine bV mix (λi:Nat=>i<=x.names.length) (I:=λi=>[(1,.lp 1 0),(2,.lp 9 0),(35,.h 2000),(36,.d (ci x.names.length)),(37,.d (ci i))])
   (J:=λi=>[(2000,dU 100 6 (x.names.map N4.cells)),(9,.cells false (zW.map A.d)),(1,.cells false [.d (.v (.int .u8 x.kind)),.d (ci x.home),.d (.v (.int .u8 x.value.kind)),.d (ci x.value.n),.d (cs x.value.s),.d (.sl 5 (x.value.l.map V.row)),.d (ci x.value.r),.d (.sl 5 (x.values.map V.row)),.d (ci x.n),.d (ci x.lost),.d (ci x.of),.d (ci x.by_),.d (.v (.int .u8 x.set)),.d (cb x.full),.d (.sl 17 (x.code.map S4.row)),.h 2000])]) (μ:=λi=>x.names.length -i) 3000 0 (by omega) ?_ ?_
  ·exact mv 5000 5001
  intro i hi
  repeat'(first|refine bl ?_|refine bS (λh=>?_) (λh=>?_))
  ·refine lG.mk i rfl (by simp only[bE,aB];exact h) ?_;conv=>whnf
   refine fZ.mk ((N4.cells x.names[i]).map A.d) (gB _ _ _ (by simp[h])) ?_;conv=>whnf
   refine bl ?_;refine cH (aJ.G5 (E8 x.names[i].value (hc3 i h) (hm3 i h))) ?_;conv=>whnf
   skip
   refine lG.mk i rfl (by simp only[bE,aB];exact h) ?_;conv=>whnf
   refine fZ.mk ((N4.cells x.names[i]).map A.d) (gB _ _ _ (by simp[h])) ?_;conv=>whnf
   refine bl ?_;refine⟨i+1,by omega,by omega,?_⟩;refine mq 5000 5001 ?_;exact cO rfl (xK N4.cells x.names i h rfl)
  refine aF (pE x.code (by omega)) ?_;conv=>whnf
  refine bl ?_;show A1 _ _ (.d (.agg [.v (.int .u8 x.kind),ci x.home,.v (.int .u8 x.value.kind),ci x.value.n,cs x.value.s,.sl 5 (x.value.l.map V.row),ci x.value.r,.sl 5 (x.values.map V.row),ci x.n,ci x.lost,ci x.of,ci x.by_,.v (.int .u8 x.set),cb x.full,.sl 17 (x.code.map S4.row),.sl 6 (x.names.map N4.cells)]));exact .one (.agg (.cons (.d _) (.cons (.d _) (.cons (.d _) (.cons (.d _) (.cons (.d _) (.cons (.d _) (.cons (.d _) (.cons (.d _) (.cons (.d _) (.cons (.d _) (.cons (.d _) (.cons (.d _) (.cons (.d _) (.cons (.d _) (.cons (.d _) (.cons (.dU (t:=100) rfl) .nil)))))))))))))))))
 ·refine fQ (zN _ (by simp only[aB];omega) (by simpa using hv)) 1000 rfl ?_;conv=>whnf
  refine bl ?_;refine bV mix (λi:Nat=>i<=x.values.length) (I:=λi=>[(1,.lp 1 0),(2,.lp 9 0),(16,.h 1000),(17,.d (ci x.values.length)),(18,.d (ci i))])
   (J:=λi=>[(1000,dU 88 5 (x.values.map V.cells)),(9,.cells false (zW.map A.d)),(1,.cells false [.d (.v (.int .u8 x.kind)),.d (ci x.home),.d (.v (.int .u8 x.value.kind)),.d (ci x.value.n),.d (cs x.value.s),.d (.sl 5 (x.value.l.map V.row)),.d (ci x.value.r),.h 1000,.d (ci x.n),.d (ci x.lost),.d (ci x.of),.d (ci x.by_),.d (.v (.int .u8 x.set)),.d (cb x.full),.d (.sl 17 (x.code.map S4.row)),.d (.sl 6 (x.names.map N4.cells))])]) (μ:=λi=>x.values.length -i) 3000 0 (by omega) ?_ ?_
  ·refine mq 5000 5001 ?_;rw[show V.row=V.cells from funext V.cP];exact cO rfl rfl
  intro i hi
  repeat'(first|refine bl ?_|refine bS (λh=>?_) (λh=>?_))
  ·refine lG.mk i rfl (by simp only[bE,aB];exact h) ?_;conv=>whnf
   refine fZ.mk ((V.cells x.values[i]).map A.d) (gB _ _ _ (by simp[h])) ?_;conv=>whnf
   refine bl ?_;refine cH (aJ.G5 (E8 x.values[i] (hc2 i h) (hm2 i h))) ?_;conv=>whnf
   skip
   refine lG.mk i rfl (by simp only[bE,aB];exact h) ?_;conv=>whnf
   refine fZ.mk ((V.cells x.values[i]).map A.d) (gB _ _ _ (by simp[h])) ?_;conv=>whnf
   refine bl ?_;refine⟨i+1,by omega,by omega,?_⟩;refine mq 5000 5001 ?_;exact cO rfl (xK V.cells x.values i h rfl)
  clear hi;refine aF (DF _ (by simp only[aB];omega) (by rw[hn];simp)) ?_;conv=>whnf
  refine bl ?_;refine bV mix (λi:Nat=>i<=x.names.length) (I:=λi=>[(1,.lp 1 0),(2,.lp 9 0),(35,.d (.sl 6 (x.names.map N4.cells))),(36,.d (ci x.names.length)),(37,.d (ci i))])
   (J:=λi=>[(1000,dU 88 5 (x.values.map V.cells)),(9,.cells false (zW.map A.d)),(1,.cells false [.d (.v (.int .u8 x.kind)),.d (ci x.home),.d (.v (.int .u8 x.value.kind)),.d (ci x.value.n),.d (cs x.value.s),.d (.sl 5 (x.value.l.map V.row)),.d (ci x.value.r),.h 1000,.d (ci x.n),.d (ci x.lost),.d (ci x.of),.d (ci x.by_),.d (.v (.int .u8 x.set)),.d (cb x.full),.d (.sl 17 (x.code.map S4.row)),.d (.sl 6 (x.names.map N4.cells))])]) (μ:=λi=>x.names.length -i) 3000 0 (by omega) ?_ ?_
  ·exact mv 5000 5001
  intro i hi
  repeat'(first|refine bl ?_|refine bS (λh=>?_) (λh=>?_))
  ·exact absurd h (by rw[hn];simp)
  refine aF (pE x.code (by omega)) ?_;conv=>whnf
  refine bl ?_;show A1 _ _ (.d (.agg [.v (.int .u8 x.kind),ci x.home,.v (.int .u8 x.value.kind),ci x.value.n,cs x.value.s,.sl 5 (x.value.l.map V.row),ci x.value.r,.sl 5 (x.values.map V.row),ci x.n,ci x.lost,ci x.of,ci x.by_,.v (.int .u8 x.set),cb x.full,.sl 17 (x.code.map S4.row),.sl 6 (x.names.map N4.cells)]));exact .one (.agg (.cons (.d _) (.cons (.d _) (.cons (.d _) (.cons (.d _) (.cons (.d _) (.cons (.d _) (.cons (.d _) (.cons (by rw[show V.row=V.cells from funext V.cP];exact .dU (t:=88) rfl) (.cons (.d _) (.cons (.d _) (.cons (.d _) (.cons (.d _) (.cons (.d _) (.cons (.d _) (.cons (.d _) (.cons (.d _) .nil)))))))))))))))))
 ·refine fQ (zN _ (by simp only[aB];omega) (by simpa using hv)) 1000 rfl ?_;conv=>whnf
  refine bl ?_;refine bV mix (λi:Nat=>i<=x.values.length) (I:=λi=>[(1,.lp 1 0),(2,.lp 9 0),(16,.h 1000),(17,.d (ci x.values.length)),(18,.d (ci i))])
   (J:=λi=>[(1000,dU 88 5 (x.values.map V.cells)),(9,.cells false (zW.map A.d)),(1,.cells false [.d (.v (.int .u8 x.kind)),.d (ci x.home),.d (.v (.int .u8 x.value.kind)),.d (ci x.value.n),.d (cs x.value.s),.d (.sl 5 (x.value.l.map V.row)),.d (ci x.value.r),.h 1000,.d (ci x.n),.d (ci x.lost),.d (ci x.of),.d (ci x.by_),.d (.v (.int .u8 x.set)),.d (cb x.full),.d (.sl 17 (x.code.map S4.row)),.d (.sl 6 (x.names.map N4.cells))])]) (μ:=λi=>x.values.length -i) 3000 0 (by omega) ?_ ?_
  ·refine mq 5000 5001 ?_;rw[show V.row=V.cells from funext V.cP];exact cO rfl rfl
  intro i hi
  repeat'(first|refine bl ?_|refine bS (λh=>?_) (λh=>?_))
  ·refine lG.mk i rfl (by simp only[bE,aB];exact h) ?_;conv=>whnf
   refine fZ.mk ((V.cells x.values[i]).map A.d) (gB _ _ _ (by simp[h])) ?_;conv=>whnf
   refine bl ?_;refine cH (aJ.G5 (E8 x.values[i] (hc2 i h) (hm2 i h))) ?_;conv=>whnf
   skip
   refine lG.mk i rfl (by simp only[bE,aB];exact h) ?_;conv=>whnf
   refine fZ.mk ((V.cells x.values[i]).map A.d) (gB _ _ _ (by simp[h])) ?_;conv=>whnf
   refine bl ?_;refine⟨i+1,by omega,by omega,?_⟩;refine mq 5000 5001 ?_;exact cO rfl (xK V.cells x.values i h rfl)
  clear hi;refine fQ (BU _ (by simp only[aB];omega) (by simpa using hn)) 2000 rfl ?_;conv=>whnf
  refine bl ?_;refine bV mix (λi:Nat=>i<=x.names.length) (I:=λi=>[(1,.lp 1 0),(2,.lp 9 0),(35,.h 2000),(36,.d (ci x.names.length)),(37,.d (ci i))])
   (J:=λi=>[(2000,dU 100 6 (x.names.map N4.cells)),(1000,dU 88 5 (x.values.map V.cells)),(9,.cells false (zW.map A.d)),(1,.cells false [.d (.v (.int .u8 x.kind)),.d (ci x.home),.d (.v (.int .u8 x.value.kind)),.d (ci x.value.n),.d (cs x.value.s),.d (.sl 5 (x.value.l.map V.row)),.d (ci x.value.r),.h 1000,.d (ci x.n),.d (ci x.lost),.d (ci x.of),.d (ci x.by_),.d (.v (.int .u8 x.set)),.d (cb x.full),.d (.sl 17 (x.code.map S4.row)),.h 2000])]) (μ:=λi=>x.names.length -i) 3000 0 (by omega) ?_ ?_
  ·exact mv 5000 5001
  intro i hi
  repeat'(first|refine bl ?_|refine bS (λh=>?_) (λh=>?_))
  ·refine lG.mk i rfl (by simp only[bE,aB];exact h) ?_;conv=>whnf
   refine fZ.mk ((N4.cells x.names[i]).map A.d) (gB _ _ _ (by simp[h])) ?_;conv=>whnf
   refine bl ?_;refine cH (aJ.G5 (E8 x.names[i].value (hc3 i h) (hm3 i h))) ?_;conv=>whnf
   skip
   refine lG.mk i rfl (by simp only[bE,aB];exact h) ?_;conv=>whnf
   refine fZ.mk ((N4.cells x.names[i]).map A.d) (gB _ _ _ (by simp[h])) ?_;conv=>whnf
   refine bl ?_;refine⟨i+1,by omega,by omega,?_⟩;refine mq 5000 5001 ?_;exact cO rfl (xK N4.cells x.names i h rfl)
  refine aF (pE x.code (by omega)) ?_;conv=>whnf
  refine bl ?_;show A1 _ _ (.d (.agg [.v (.int .u8 x.kind),ci x.home,.v (.int .u8 x.value.kind),ci x.value.n,cs x.value.s,.sl 5 (x.value.l.map V.row),ci x.value.r,.sl 5 (x.values.map V.row),ci x.n,ci x.lost,ci x.of,ci x.by_,.v (.int .u8 x.set),cb x.full,.sl 17 (x.code.map S4.row),.sl 6 (x.names.map N4.cells)]));exact .one (.agg (.cons (.d _) (.cons (.d _) (.cons (.d _) (.cons (.d _) (.cons (.d _) (.cons (.d _) (.cons (.d _) (.cons (by rw[show V.row=V.cells from funext V.cP];exact .dU (t:=88) rfl) (.cons (.d _) (.cons (.d _) (.cons (.d _) (.cons (.d _) (.cons (.d _) (.cons (.d _) (.cons (.d _) (.cons (.dU (t:=100) rfl) .nil)))))))))))))))))
abbrev kI(n:Int):Ky:=.one (.int .i64 n)
theorem wZ{α:Type}(key:α->Int)(val:α->A)(r:Int):∀L:List α,fL (kI r) (L.map λt=>(kI (key t),val t))=(L.find? λt=>decide (key t=r)).map val
 |[]=>rfl
 |t::L=>by
  simp only[aG,fL,eN];by_cases h:key t=r
  ·simp[h]
  ·have:¬kI r=kI (key t):=by simp[kI];exact λe=>h e.symm
   simp only[this,if_false,h,decide_false];exact wZ key val r L
theorem aGD{α:Type}(f:α->Ky)(g:α->C)(L:List α):(L.map f).zip ((L.map g).map A.d)=L.map λt=>(f t,A.d (g t)):=by
 induction L with
 |nil=>rfl
 |cons a r ih=>simp only[aG,List.zip_cons_cons,ih]
theorem aJ1{kt:TypeId}{α:Type}(key:α->Int)(val:α->A)(r:Int)(L:List α)(hk:KC.fits P kt (.int .i64 0)=true):kH P kt (kI r) (L.map λt=>(kI (key t),val t))=true:=by
 have h1:(kI r).fits P kt=true:=hk;unfold kH;rw[h1,cA,cV];intro p hp;obtain⟨t,_,rfl⟩:=aM.1 hp;rfl
theorem lkI{α:Type}{key:α->Int}{val:α->A}{L:List α}{kt:TypeId}{r:Int}{k1:A->Prop}{k0:Prop}(hk:KC.fits P kt (.int .i64 0)=true)(h1:∀t,(L.find? λt=>decide (key t=r))=some t->k1 (val t))(h0:(L.find? λt=>decide (key t=r))=none->k0):
 LkK (kH P kt (kI r) (L.map λt=>(kI (key t),val t))) (fL (kI r) (L.map λt=>(kI (key t),val t))) k1 k0:=by
 have hf:=aJ1 (P:=P) key val r L hk;cases h:L.find? λt=>decide (key t=r)with
 |none=>exact .BP hf (by rw[wZ,h];rfl) (h0 h)
 |some t=>exact .CL (val t) hf (by rw[wZ,h];rfl) (h1 t h)
theorem EA{α:Type}{key:α->Int}{g:α->C}{L:List α}{kt:TypeId}{r:Int}{k1:A->Prop}{k0:Prop}(hk:KC.fits P kt (.int .i64 0)=true)(h1:∀t,(L.find? λt=>decide (key t=r))=some t->k1 (.d (g t)))(h0:(L.find? λt=>decide (key t=r))=none->k0):
 LkK (kH P kt (kI r) ((L.map λt=>kI (key t)).zip ((L.map g).map A.d))) (fL (kI r) ((L.map λt=>kI (key t)).zip ((L.map g).map A.d))) k1 k0:=by
 rw[aGD];exact lkI hk h1 h0
theorem CW{m:Mem}{a b:Int}(h:a=b):A1 m (.d (.v (.int .u8 a))) (.d (.v (.int .u8 b))):=by rw[h];exact .one (.d _)
def D4.find(w:D4)(r:Int):Option T4:=w.things.find? λt=>decide (t.ref=r)
def D4.mI(w:D4)(r:Int):Bool:=(w.find r).isSome
theorem sB(w:D4)(r:Int):∀m,aJ Tryz.prog 27 [.d (.ip w.cells),.d (ci r)] m (.ok (.d (cb (w.mI r)))) m:=by
 refine iC mix Tryz.func27 ?_
 repeat'(first|refine bl ?_|fail)
 refine aF (vQ w) ?_;conv=>whnf
 repeat'(first|refine bl ?_|fail)
 refine EA (by decide) (λt ht=>?_) (λht=>?_)
 ·conv=>whnf
  repeat'(first|refine bl ?_|fail)
  refine dP ?_;unfold D4.mI D4.find;rw[ht];rfl
 ·conv=>whnf
  repeat'(first|refine bl ?_|fail)
  refine dP ?_;unfold D4.mI D4.find;rw[ht];rfl
def D4.zB(w:D4)(r:Int):Int:=((w.find r).map λt=>t.bQ.kind).getD 0
theorem P9(w:D4)(r:Int):∀m,aJ Tryz.prog 94 [.d (.ip w.cells),.d (ci r)] m (.ok (.d (.v (.int .u8 (w.zB r))))) m:=by
 refine iC mix Tryz.func94 ?_
 repeat'(first|refine bl ?_|fail)
 refine aF (sB w r) ?_;conv=>whnf
 repeat'(first|refine bl ?_|refine bS (λh=>?_) (λh=>?_))
 ·refine CW ?_;have:w.find r=none:=by simpa [D4.mI]using h
  unfold D4.zB;rw[this];rfl
 ·refine EA (by decide) (λt ht=>?_) (λht=>?_)
  ·conv=>whnf
   repeat'(first|refine bl ?_|fail)
   refine CW ?_;unfold D4.zB D4.find;rw[ht];rfl
  ·exfalso;unfold D4.mI D4.find at h;rw[ht]at h;cases h
abbrev aB8(a b:Int):Int:=pO .and .u8 a b
abbrev orI(a b:Int):Int:=pO .or .u8 a b
def HN(L:List Int):Int:=L.foldl aB8 63
def HK(L:List Int):Int:=L.foldl (λo a=>orI o (aB8 a 63)) 0
abbrev u8R(L:List Int):List (List C):=L.map λx=>[.v (.int .u8 x)]
theorem JY{α β:Type}(f:β->α->β)(z:β)(L:List α)(i:Nat)(h:i<L.length):(L.take (i+1)).foldl f z=f ((L.take i).foldl f z) L[i]:=by
 rw[iT,iB];simp[aC h]
theorem YP(L:List Int)(hL:L.length<=2^38):∀m,aJ Tryz.prog 150 [.d (.sl 1 (u8R L))] m (.ok (.d (.v (.int .u8 (HN L))))) m:=by
 refine iC mix Tryz.func150 ?_
 repeat'(first|refine bl ?_|fail)
 refine bV mix (λi:Nat=>i<=L.length) (I:=λi=>[(3,.d (.v (.int .u8 (HN (L.take i))))),(6,.d (.sl 1 (u8R L))),(7,.d (ci L.length)),(8,.d (ci i))])
  (J:=λi=>[]) (μ:=λi=>L.length -i) 100 0 (by omega) (by exact mv 5000 5001) ?_
 intro i hi
 repeat'(first|refine bl ?_|refine bS (λh=>?_) (λh=>?_))
 ·refine cD rfl (by decide) h ?_;conv=>whnf
  repeat'(first|refine bl ?_|fail)
  refine⟨i+1,by omega,by omega,?_⟩;refine mq 5000 5001 ?_;unfold HN;rw[JY _ _ _ _ h];rfl
 ·refine CW ?_;rw[aI h]
theorem D5(L:List Int)(hL:L.length<=2^38):∀m,aJ Tryz.prog 184 [.d (.sl 1 (u8R L))] m (.ok (.d (.v (.int .u8 (HK L))))) m:=by
 refine iC mix Tryz.func184 ?_
 repeat'(first|refine bl ?_|fail)
 refine bV mix (λi:Nat=>i<=L.length) (I:=λi=>[(3,.d (.v (.int .u8 (HK (L.take i))))),(6,.d (.sl 1 (u8R L))),(7,.d (ci L.length)),(8,.d (ci i))])
  (J:=λi=>[]) (μ:=λi=>L.length -i) 100 0 (by omega) (by exact mv 5000 5001) ?_
 intro i hi
 repeat'(first|refine bl ?_|refine bS (λh=>?_) (λh=>?_))
 ·refine cD rfl (by decide) h ?_;conv=>whnf
  repeat'(first|refine bl ?_|fail)
  refine⟨i+1,by omega,by omega,?_⟩;refine mq 5000 5001 ?_;unfold HK;rw[JY _ _ _ _ h];rfl
 ·refine CW ?_;rw[aI h]
theorem C2{f:FuncId}{i:Nat}{fz:Bool}{ty:TypeId}{ml:List (Nat×R)}{k:A->List (Nat×R)->Prop}{v:Value}(L:List Int)(h:∀m,aJ P f [.d (.sl 1 (u8R L))] m (.ok (.d (.v v))) m)(hm:aK ml i=some (.fW fz ty 1 ((u8R L).map λx=>x.map A.d)))(hk:k (.d (.v v)) []):dZ P f [.h i] ml k:=
 fU (cs:=[.sl 1 (u8R L)]) h (.v _) (.cons (.os hm (rC.data _ _)) .nil) hk
def aGR(k:Int):Int:=if k=1 then HK [1,2]else if k=2\/k=3 then HK [1,8]else if k=4 then HK [8,4]else if k=5\/k=6\/k=8\/k=12 then 16 else if k=9 then HK [1,4,8]else if k=10 then 1 else if k=11 then 8 else if k=13 then HK [1,32]else 0
theorem aJQ(k:Int):∀m,aJ Tryz.prog 151 [.d (.v (.int .u8 k))] m (.ok (.d (.v (.int .u8 (aGR k))))) m:=by
 refine iC mix Tryz.func151 ?_
 repeat'(first|refine bl ?_|refine bS (λh=>?_) (λh=>?_))
 all_goals(try(first|refine C2 [1,2] (D5 _ (by decide)) rfl ?_|refine C2 [1,8] (D5 _ (by decide)) rfl ?_|refine C2 [8,4] (D5 _ (by decide)) rfl ?_|refine C2 [1,4,8] (D5 _ (by decide)) rfl ?_|refine C2 [1,32] (D5 _ (by decide)) rfl ?_)<;>(conv=>whnf))
 repeat'(first|refine bl ?_|fail)
 all_goals(refine CW ?_;simp only[aGR, *];simp)
def D4.MD(w:D4):Nat->Int->Int->Option Int
 |0,_,_=>none
 |n+1,set,r=>match w.find r with
  |none=>some 0
  |some t=>if t.bQ.kind=14 then D4.MD w n (HN [set,t.bQ.set]) t.bQ.of
   else if t.bQ.kind=15\/t.bQ.kind=16 then D4.MD w n set t.bQ.of
   else some (HN [set,aGR t.bQ.kind])
theorem XF(w:D4)(r:Int)(n:Nat)(v:Int)(h:w.MD n 63 r=some v):∀m,aJ Tryz.prog 93 [.d (.ip w.cells),.d (ci r)] m (.ok (.d (.v (.int .u8 v)))) m:=by
 refine iC mix Tryz.func93 ?_
 repeat'(first|refine bl ?_|fail)
 refine bV mix (λa:Nat×Int×Int=>w.MD a.1 a.2.1 a.2.2=some v) (I:=λa=>[(0,.d (.ip w.cells)),(1,.d (ci a.2.2)),(5,.d (.v (.int .u8 a.2.1)))])
  (J:=λa=>[]) (μ:=λa=>a.1) 100 (n,63,r) h (by exact mv 5000 5001) ?_
 rintro⟨n,set,r⟩ h;dsimp only at h;cases n with
 |zero=>cases h
 |succ n=>
 rw[D4.MD]at h
 repeat'(first|refine bl ?_|fail)
 refine aF (sB w r) ?_;conv=>whnf
 have hi:w.mI r=(w.find r).isSome:=rfl;cases hf:w.find r with
 |none=>
  rw[hf]at h hi;rw[hi];simp only[aA]at h
  repeat'(first|refine bl ?_|fail)
  ·exact CW h
  all_goals simp at h
 |some t=>
  rw[hf]at h hi;rw[hi,Option.isSome_some];dsimp only at h⊢
  repeat'(first|refine bl ?_|fail)
  refine EA (by decide) (λt' ht=>?_) (λht=>by rw[show(List.find? (λt=>decide (t.ref=r)) w.things)=w.find r from rfl,hf]at ht;cases ht);have e:t'=t:=by rw[show(List.find? (λt=>decide (t.ref=r)) w.things)=w.find r from rfl,hf]at ht;exact(eY ht).symm
  subst e;conv=>whnf
  repeat'(first|refine bl ?_|refine bS (λh=>?_) (λh=>?_))
  ·refine C2 [set,t'.bQ.set] (YP _ (by simp)) rfl ?_;conv=>whnf
   repeat'(first|refine bl ?_|fail)
   refine⟨(n,HN [set,t'.bQ.set],t'.bQ.of),by simp,?_,?_⟩
   ·simp_all
   ·exact mv 5000 5001
  ·refine⟨(n,set,t'.bQ.of),by simp,?_,?_⟩
   ·simp_all
   ·exact mv 5000 5001
  ·refine⟨(n,set,t'.bQ.of),by simp,?_,?_⟩
   ·simp_all
   ·exact mv 5000 5001
  ·refine aF (aJQ _) ?_;conv=>whnf
   skip
   refine C2 [set,aGR t'.bQ.kind] (YP _ (by simp)) rfl ?_;conv=>whnf
   repeat'(first|refine bl ?_|fail)
   refine CW ?_;simp_all
end Go.Pv
