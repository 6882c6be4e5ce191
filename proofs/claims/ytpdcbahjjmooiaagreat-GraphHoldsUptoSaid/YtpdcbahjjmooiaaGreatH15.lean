import Derived.Test.YtpdcbahjjmooiaaGreatH14
/- A program logic over the model, contracts of the functions that the law reaches: part 15. (Names and blanks were shortened by program.) -/
set_option linter.unusedVariables false
set_option linter.unusedSimpArgs false
set_option linter.constructorNameAsVariable false
set_option linter.unusedSectionVars false
set_option linter.deprecated false
set_option maxRecDepth 100000
set_option maxHeartbeats 8000000
open Go Go.Proofs
namespace Go.Pv
open Go.RowKit
variable{P:Program}{f:FuncId}{v:A}{m:Mem}{ml:List (Nat×R)}{xs xs':List A}
def half{α:Type}(f:α->List C)(z:List C)(L:List α)(i:Nat):List (List C):=(L.take i).map f++List.replicate (L.length -i) z
theorem DZ{α:Type}(f:α->List C)(z:List C)(L:List α)(i:Nat)(h:i<=L.length):(half f z L i).length=L.length:=by
 simp only[half,aU,aB,cW,aS];omega
theorem aAL{α:Type}(f:α->List C)(z:List C)(L:List α):half f z L 0=List.replicate L.length z:=by simp[half]
theorem aDC{α:Type}(f:α->List C)(z:List C)(L:List α):half f z L L.length=L.map f:=by simp[half]
theorem aDE{α:Type}(f:α->List C)(z:List C)(L:List α)(i:Nat)(h:i<L.length):(half f z L i).set i (f L[i])=half f z L (i+1):=by
 apply List.ext_getElem
 ·rw[cE,DZ _ _ _ _ oM,DZ _ _ _ _ oM]
 ·intro j h1 h2;rw[cE,DZ _ _ _ _ oM]at h1;simp only[List.getElem_set,half,List.getElem_append,aB,cW,fO,List.getElem_take,List.getElem_replicate];by_cases e:i=j
  ·subst e;simp only[if_true];rw[dif_pos oM]
  ·simp only[e,if_false];by_cases hj:j<i
   ·rw[dif_pos oM,dif_pos oM]
   ·rw[dif_neg oM,dif_neg oM]
theorem aDD{α:Type}(f:α->List C)(z:List C)(L:List α)(i:Nat)(h:i<L.length):(half f z L i)[i]?=some z:=by
 rw[half,bO zM];simp only[aB,cW,List.getElem?_replicate];rw[aUF oM]
theorem gB(L:List (List C))(i:Nat)(r:List C)(h:L[i]?=some r):(bE L)[i]?=some (r.map A.d):=by
 simp[bE,h]
theorem tU(L:List (List C))(i:Nat)(r:List C):(bE L).set i (r.map A.d)=bE (L.set i r):=by
 simp[bE,qS]
theorem aJB{zl ce b n:Nat}{fr:Bool}{X:Prop}(h1:Nat.beq zl ce=true)(h2:Nat.blt 0 ce=true)(hn:n<=2^38)(hb:Nat.ble b 512=true)(hf:fr=true)(hx:X):
 xR (decide (zl=ce/\0<ce/\0<=(n:Int)/\(n:Int)<=(n:Int)/\(b:Int)*(n:Int)<=281474976710656/\(n:Int)<=9223372036854775807)&&fr) X:=by
 have h3:=bD hb;have h4:b*n<=512*2^38:=l5 h3 hn;refine⟨?_,hx⟩;rw[hf,o6,aUA];have h6:0<ce:=bD h2;refine⟨bB h1,h6,oM,oM,?_,oM⟩;have h5:((b*n:Nat):Int)<=((140737488355328:Nat):Int):=Int.ofNat_le.2 oM;rw[Int.natCast_mul]at h5;omega
theorem aGE(n:Nat)(z:List C):List.replicate n (z.map A.d)=bE (List.replicate n z):=by simp[bE]
abbrev zV:List C:=[.v (.int .u8 0),ci 0,.v (.string ByteArray.empty),.nl 5,ci 0]
theorem RB(v:V)(hv:v.cR<=2^38):Pu 167 [.d (.agg v.aT1)] (.d (.agg v.aT1)):=by
 have AZ:=v.fA;have hl:=V.eW v.l;have ih:∀i(h:i<v.l.length),Pu 167 [.d (.agg (V.aT1 v.l[i]))] (.d (.agg (V.aT1 v.l[i]))):=λi h=>
  have:=v.gM i h
  RB v.l[i] (by have:=V.dG v.l i h;omega)
 refine iC mix Tryz.func167 ?_
 repeat'(first|refine bl ?_|refine bS (λh=>?_) (λh=>?_))
 ·show A1 _ _ (.d (.agg [.v (.int .u8 v.kind),ci v.n,.v (.string v.s),.sl 5 (v.l.map V.row),ci v.r]));rw[h];exact .one (.agg (.cons (.d _) (.cons (.d _) (.cons (.d _) (.cons (.nz 0 5) (.cons (.d _) .nil))))))
 ·refine aJB kK kK (by simp only[aB];omega) kK rfl ?_;conv=>whnf
  refine bl ?_;refine bV mix (λi:Nat=>i<=v.l.length) (I:=λi=>[(1,.lp 1 0),(2,.lp 9 0),(3,.h 73),(17,.d (.sl 5 (v.l.map V.row))),(18,.d (ci v.l.length)),(19,.d (ci i))])
   (J:=λi=>[(73,dU 88 5 (half V.aT1 zV v.l i)),(9,.cells false (zV.map A.d)),(1,.cells false (v.aT1.map A.d))]) (μ:=λi=>v.l.length -i) 100 0 oM ?_ ?_
  ·refine mq 5000 5001 ?_;exact cO rfl (by rw[aAL,<-aGE];simp only[aB];rfl)
  intro i hi
  repeat'(first|refine bl ?_|refine bS (λh=>?_) (λh=>?_))
  ·refine eE V.cP rfl eD h ?_;conv=>whnf
   refine bl ?_;refine aF (ih i h) ?_;conv=>whnf
   skip
   refine lG.mk i rfl (by simp only[bE,aB];rw[DZ _ _ _ _ hi];exact h) ?_;conv=>whnf
   skip
   refine fZ.mk (zV.map A.d) (gB _ _ _ (aDD _ _ _ _ h)) ?_;conv=>whnf
   refine bl ?_;refine⟨i+1,oM,oM,?_⟩;refine mq 5000 5001 ?_;exact cO rfl (by rw[<-aDE _ _ _ _ h,<-tU];rfl)
  ·have e:i=v.l.length:=oM;subst e;rw[aDC];show A1 _ _ (.d (.agg [.v (.int .u8 v.kind),ci v.n,.v (.string v.s),.sl 5 (v.l.map V.row),ci v.r]));rw[show V.row=V.aT1 from funext V.cP];exact .one (.agg (.cons (.d _) (.cons (.d _) (.cons (.d _) (.cons (.dU (t:=88) rfl) (.cons (.d _) .nil))))))
 termination_by SizeOf.sizeOf v
theorem aIS(v:V)(hv:v.cR<=2^38)(hm:v.may=true):Pu 169 [.d (.agg v.aT1)] (.eL [.d (.agg v.aT1),.d (ci 0)]):=by
 refine iC mix Tryz.func169 ?_;refine bl ?_;refine fT (cs:=v.aT1) (v:=.d (cb true)) (hm▸AL v oM) ?_;conv=>whnf
 refine bl ?_;refine fT (cs:=v.aT1) (RB v hv) ?_;conv=>whnf
 refine bl ?_;exact .eL (cs:=[.agg v.aT1,ci 0]) (.cons (.agg (wJ.data _ v.aT1)) (.cons (.d _) .nil))
theorem E8(v:V)(hv:v.cR<=2^38)(hm:v.may=true):Pu 124 [.d (.agg v.aT1)] (.d (.agg v.aT1)):=by
 refine iC mix Tryz.func124 ?_;refine bl ?_;refine fT (cs:=v.aT1) (aIS v hv hm) ?_;conv=>whnf
 refine bl ?_;exact .one (.agg (wJ.data _ v.aT1))
theorem EB{α:Type}(f:α->List C)(L:List α)(i:Nat)(h:i<L.length):(L.map f).set i (f L[i])=L.map f:=by
 apply List.ext_getElem
 ·simp
 ·intro j h1 h2;simp only[List.getElem_set,fO];split
  ·rename_i e;subst e;rfl
  ·rfl
theorem aJ.G5{cs:List C}(h:∀m,aJ P f [.d (.agg cs)] m (.ok v) m):∀m,aJ P f [.agg (cs.map A.d)] m (.ok v) m:=
 λm=>(h m).args λw M ρ vs h=>aCK (λy h=>I3 h) h
theorem E4.aJS(v:E4):E4.cR v=1+E4.dB v.l:=by cases v;rfl
theorem PY(v:E4)(hv:v.cR<=2^38):Pu 171 [.d (.agg v.aT1)] (.d (.agg v.aT1)):=by
 have AZ:=v.aJS;have hl:=E4.eW v.l;have ih:∀i(h:i<v.l.length),Pu 171 [.d (.agg (E4.aT1 v.l[i]))] (.d (.agg (E4.aT1 v.l[i]))):=λi h=>
  have:=v.gM i h
  PY v.l[i] (by have:=E4.dG v.l i h;omega)
 refine iC mix Tryz.func171 ?_;refine bl ?_;by_cases h0:v.l=[]
 ·refine aF (PF _ (by simp only[aB];omega) (by rw[h0];simp)) ?_;conv=>whnf
  refine bl ?_;refine bV mix (λi:Nat=>True) (I:=λi=>[(1,.lp 1 0),(2,.lp 9 0),(11,.d (ci 0)),(12,.d (ci 0))])
   (J:=λi=>[(9,.cells false ([.v (.int .u8 0),ci 0,.v (.string ByteArray.empty),.nl 4].map A.d)),(1,.cells false (v.aT1.map A.d))]) (μ:=λi=>0) 100 0 tV ?_ ?_
  ·refine mq 5000 5001 ?_;rw[h0];rfl
  intro _ _;refine bl ?_;exact .one (.agg (wJ.data _ v.aT1))
 ·refine fQ (MG _ (by simp only[aB];omega) (by simpa using h0)) 1000 rfl ?_;conv=>whnf
  refine bl ?_;refine bV mix (λi:Nat=>i<=v.l.length) (I:=λi=>[(1,.lp 1 0),(2,.lp 9 0),(10,.h 1000),(11,.d (ci v.l.length)),(12,.d (ci i))])
   (J:=λi=>[(1000,dU 207 4 (v.l.map E4.aT1)),(9,.cells false ([.v (.int .u8 0),ci 0,.v (.string ByteArray.empty),.nl 4].map A.d)),(1,.cells false [.d (.v (.int .u8 v.kind)),.d (ci v.n),.d (.v (.string v.s)),.h 1000])]) (μ:=λi=>v.l.length -i) 100 0 oM ?_ ?_
  ·refine mq 5000 5001 ?_;rw[show E4.row=E4.aT1 from funext E4.cP];exact cO rfl rfl
  intro i hi
  repeat'(first|refine bl ?_|refine bS (λh=>?_) (λh=>?_))
  ·refine lG.mk i rfl (by simp only[bE,aB];exact h) ?_;conv=>whnf
   refine fZ.mk ((E4.aT1 v.l[i]).map A.d) (gB _ _ _ (by simp[h])) ?_;conv=>whnf
   refine bl ?_;refine cH (aJ.G5 (ih i h)) ?_;conv=>whnf
   skip
   refine lG.mk i rfl (by simp only[bE,aB];exact h) ?_;conv=>whnf
   refine fZ.mk ((E4.aT1 v.l[i]).map A.d) (gB _ _ _ (by simp[h])) ?_;conv=>whnf
   refine bl ?_;refine⟨i+1,oM,oM,?_⟩;refine mq 5000 5001 ?_;exact cO rfl (by rw[show mM (List.map A.d v.l[i].aT1) 0 (List.map A.d v.l[i].aT1)=List.map A.d v.l[i].aT1 from rfl,tU,EB])
  ·show A1 _ _ (.d (.agg [.v (.int .u8 v.kind),ci v.n,.v (.string v.s),.sl 4 (v.l.map E4.row)]));rw[show E4.row=E4.aT1 from funext E4.cP];exact .one (.agg (.cons (.d _) (.cons (.d _) (.cons (.d _) (.cons (.dU (t:=207) rfl) .nil)))))
 termination_by SizeOf.sizeOf v
variable{α:Type}
theorem xK(f:α->List C)(L:List α)(i:Nat)(h:i<L.length){row:List A}(hr:row=(f L[i]).map A.d):(bE (L.map f)).set i row=bE (L.map f):=by
 rw[hr,tU,EB]
theorem pE(l:List S4)(hv:S4.dB l<=2^38):Pu 127 [.d (.sl 17 (l.map S4.row))] (.d (.sl 17 (l.map S4.row))):=by
 have hl:=S4.eW l;have hg:∀i(h:i<l.length),S4.dB l[i].t<S4.dB l/\S4.dB l[i].e<S4.dB l/\S4.dB l[i].c<S4.dB l/\l[i].a.cR<=2^38/\l[i].b.cR<=2^38/\l[i].w.length<=2^38:=λi h=>by
  have h1:=S4.dG l i h;have h2:=l[i].fA;refine⟨?_,?_,?_,?_,?_,?_⟩<;>omega
 have iht:∀i(h:i<l.length),Pu 127 [.d (.sl 17 (l[i].t.map S4.row))] (.d (.sl 17 (l[i].t.map S4.row))):=λi h=>
  have:=hg i h
  pE l[i].t oM
 have ihe:∀i(h:i<l.length),Pu 127 [.d (.sl 17 (l[i].e.map S4.row))] (.d (.sl 17 (l[i].e.map S4.row))):=λi h=>
  have:=hg i h
  pE l[i].e oM
 have ihc:∀i(h:i<l.length),Pu 127 [.d (.sl 17 (l[i].c.map S4.row))] (.d (.sl 17 (l[i].c.map S4.row))):=λi h=>
  have:=hg i h
  pE l[i].c oM
 refine iC mix Tryz.func127 ?_;refine bl ?_;by_cases h0:l=[]
 ·subst h0;refine aF (PH _ sM sM) ?_;conv=>whnf
  refine bl ?_;refine bV mix (λi:Nat=>True) (I:=λi=>[(0,.d (.sl 17 [])),(8,.d (ci 0)),(9,.d (ci 0))])
   (J:=λi=>[]) (μ:=λi=>0) 100 0 tV mZ ?_
  intro _ _;refine bl ?_;exact .one (.d _)
 ·refine fQ (MH _ (by simp only[aB];omega) (by simpa using h0)) 1000 rfl ?_;conv=>whnf
  refine bl ?_;refine bV mix (λi:Nat=>i<=l.length) (I:=λi=>[(0,.h 1000),(7,.h 1000),(8,.d (ci l.length)),(9,.d (ci i))])
   (J:=λi=>[(1000,dU 210 17 (l.map S4.aT1))]) (μ:=λi=>l.length -i) 100 0 oM ?_ ?_
  ·refine mq 5000 5001 ?_;rw[show S4.row=S4.aT1 from funext S4.cP];exact cO rfl rfl
  intro i hi
  repeat'(first|refine bl ?_|refine bS (λh=>?_) (λh=>?_))
  ·refine lG.mk i rfl (by simp only[bE,aB];exact h) ?_;conv=>whnf
   refine fZ.mk ((S4.aT1 l[i]).map A.d) (gB _ _ _ (by simp[h])) ?_;conv=>whnf
   refine bl ?_;obtain⟨g1,g2,g3,g4,g5,g6⟩:=hg i h;refine cH (aJ.G5 (PY l[i].a g4)) ?_;conv=>whnf
   skip
   refine cH (aJ.G5 (PY l[i].b g5)) ?_;conv=>whnf
   refine bl ?_;refine cH (iht i h) ?_;conv=>whnf
   skip
   refine cH (ihe i h) ?_;conv=>whnf
   skip
   refine cH (ihc i h) ?_;conv=>whnf
   refine bl ?_;refine aF (JB _ (by simp only[aB];omega) (by intro e he;obtain⟨s,_,rfl⟩:=aA4.1 he;rfl)) ?_;conv=>whnf
   refine bl ?_;refine lG.mk i rfl (by simp only[bE,aB];exact h) ?_;conv=>whnf
   refine fZ.mk ((S4.aT1 l[i]).map A.d) (gB _ _ _ (by simp[h])) ?_;conv=>whnf
   refine bl ?_;refine⟨i+1,oM,oM,?_⟩;refine mq 5000 5001 ?_;exact cO rfl (xK S4.aT1 l i h rfl)
  ·exact .one (show Rd _ (.h 1000) (.sl 17 (l.map S4.row)) by rw[show S4.row=S4.aT1 from funext S4.cP];exact .dU (t:=210) rfl)
 termination_by S4.dB l
abbrev zW:List C:=[.v (.int .u8 0),ci 0,.v (.int .u8 0),ci 0,cs ByteArray.empty,.nl 5,ci 0,.nl 5,ci 0,ci 0,ci 0,ci 0,.v (.int .u8 0),cb false,.nl 17,.nl 6]
theorem yX(x:W4)(hx:x.cR<=2^38)(hm1:x.value.may=true)(hm2:∀i(h:i<x.values.length),x.values[i].may=true)(hm3:∀i(h:i<x.names.length),x.names[i].value.may=true):Pu 66 [.d (.agg x.aT1)] (.d (.agg x.aT1)):=by
 have hc:x.cR=x.value.cR+V.dB x.values+S4.dB x.code+x.names.length+V.dB (x.names.map (·.value)):=rfl;have wF:∀i(h:i<x.values.length),x.values[i].cR<=2^38:=λi h=>by have:=V.dG x.values i h;omega
 have SU:∀i(h:i<x.names.length),x.names[i].value.cR<=2^38:=λi h=>by
  have:=V.dG (x.names.map (·.value)) i (by simpa using h);simp only[fO]at this;omega
 have hlv:=V.eW x.values;refine iC mix Tryz.func66 ?_;refine bl ?_;refine aF (aJ.G5 (E8 x.value oM hm1)) ?_;conv=>whnf
 refine bl ?_;by_cases hv:x.values=[]<;>by_cases hn:x.names=[]
 ·refine aF (BV _ (by simp only[aB];omega) (by rw[hv];simp)) ?_;conv=>whnf
  refine bl ?_;refine bV mix (λi:Nat=>i<=x.values.length) (I:=λi=>[(1,.lp 1 0),(2,.lp 9 0),(16,.d (.sl 5 (x.values.map V.row))),(17,.d (ci x.values.length)),(18,.d (ci i))])
   (J:=λi=>[(9,.cells false (zW.map A.d)),(1,.cells false [.d (.v (.int .u8 x.kind)),.d (ci x.home),.d (.v (.int .u8 x.value.kind)),.d (ci x.value.n),.d (cs x.value.s),.d (.sl 5 (x.value.l.map V.row)),.d (ci x.value.r),.d (.sl 5 (x.values.map V.row)),.d (ci x.n),.d (ci x.lost),.d (ci x.of),.d (ci x.by_),.d (.v (.int .u8 x.set)),.d (cb x.full),.d (.sl 17 (x.code.map S4.row)),.d (.sl 6 (x.names.map N4.aT1))])]) (μ:=λi=>x.values.length -i) 3000 0 oM ?_ ?_
  ·exact mZ
  intro i hi
  repeat'(first|refine bl ?_|refine bS (λh=>?_) (λh=>?_))
  ·exact absurd h (by rw[hv];simp)
  clear hi;refine aF (DF _ (by simp only[aB];omega) (by rw[hn];simp)) ?_;conv=>whnf
  refine bl ?_;refine bV mix (λi:Nat=>i<=x.names.length) (I:=λi=>[(1,.lp 1 0),(2,.lp 9 0),(35,.d (.sl 6 (x.names.map N4.aT1))),(36,.d (ci x.names.length)),(37,.d (ci i))])
   (J:=λi=>[(9,.cells false (zW.map A.d)),(1,.cells false [.d (.v (.int .u8 x.kind)),.d (ci x.home),.d (.v (.int .u8 x.value.kind)),.d (ci x.value.n),.d (cs x.value.s),.d (.sl 5 (x.value.l.map V.row)),.d (ci x.value.r),.d (.sl 5 (x.values.map V.row)),.d (ci x.n),.d (ci x.lost),.d (ci x.of),.d (ci x.by_),.d (.v (.int .u8 x.set)),.d (cb x.full),.d (.sl 17 (x.code.map S4.row)),.d (.sl 6 (x.names.map N4.aT1))])]) (μ:=λi=>x.names.length -i) 3000 0 oM ?_ ?_
  ·exact mZ
  intro i hi
  repeat'(first|refine bl ?_|refine bS (λh=>?_) (λh=>?_))
  ·exact absurd h (by rw[hn];simp)
  refine aF (pE x.code oM) ?_;conv=>whnf
  refine bl ?_;show A1 _ _ (.d (.agg [.v (.int .u8 x.kind),ci x.home,.v (.int .u8 x.value.kind),ci x.value.n,cs x.value.s,.sl 5 (x.value.l.map V.row),ci x.value.r,.sl 5 (x.values.map V.row),ci x.n,ci x.lost,ci x.of,ci x.by_,.v (.int .u8 x.set),cb x.full,.sl 17 (x.code.map S4.row),.sl 6 (x.names.map N4.aT1)]));exact .one (.agg (.cons (.d _) (.cons (.d _) (.cons (.d _) (.cons (.d _) (.cons (.d _) (.cons (.d _) (.cons (.d _) (.cons (.d _) (.cons (.d _) (.cons (.d _) (.cons (.d _) (.cons (.d _) (.cons (.d _) (.cons (.d _) (.cons (.d _) (.cons (.d _) .nil)))))))))))))))))
 ·refine aF (BV _ (by simp only[aB];omega) (by rw[hv];simp)) ?_;conv=>whnf
  refine bl ?_;refine bV mix (λi:Nat=>i<=x.values.length) (I:=λi=>[(1,.lp 1 0),(2,.lp 9 0),(16,.d (.sl 5 (x.values.map V.row))),(17,.d (ci x.values.length)),(18,.d (ci i))])
   (J:=λi=>[(9,.cells false (zW.map A.d)),(1,.cells false [.d (.v (.int .u8 x.kind)),.d (ci x.home),.d (.v (.int .u8 x.value.kind)),.d (ci x.value.n),.d (cs x.value.s),.d (.sl 5 (x.value.l.map V.row)),.d (ci x.value.r),.d (.sl 5 (x.values.map V.row)),.d (ci x.n),.d (ci x.lost),.d (ci x.of),.d (ci x.by_),.d (.v (.int .u8 x.set)),.d (cb x.full),.d (.sl 17 (x.code.map S4.row)),.d (.sl 6 (x.names.map N4.aT1))])]) (μ:=λi=>x.values.length -i) 3000 0 oM ?_ ?_
  ·exact mZ
  intro i hi
  repeat'(first|refine bl ?_|refine bS (λh=>?_) (λh=>?_))
  ·exact absurd h (by rw[hv];simp)
  clear hi;refine fQ (BU _ (by simp only[aB];omega) (by simpa using hn)) 2000 rfl ?_;conv=>whnf
  refine bl ?_;refine bV mix (λi:Nat=>i<=x.names.length) (I:=λi=>[(1,.lp 1 0),(2,.lp 9 0),(35,.h 2000),(36,.d (ci x.names.length)),(37,.d (ci i))])
   (J:=λi=>[(2000,dU 100 6 (x.names.map N4.aT1)),(9,.cells false (zW.map A.d)),(1,.cells false [.d (.v (.int .u8 x.kind)),.d (ci x.home),.d (.v (.int .u8 x.value.kind)),.d (ci x.value.n),.d (cs x.value.s),.d (.sl 5 (x.value.l.map V.row)),.d (ci x.value.r),.d (.sl 5 (x.values.map V.row)),.d (ci x.n),.d (ci x.lost),.d (ci x.of),.d (ci x.by_),.d (.v (.int .u8 x.set)),.d (cb x.full),.d (.sl 17 (x.code.map S4.row)),.h 2000])]) (μ:=λi=>x.names.length -i) 3000 0 oM ?_ ?_
  ·exact mZ
  intro i hi
  repeat'(first|refine bl ?_|refine bS (λh=>?_) (λh=>?_))
  ·refine lG.mk i rfl (by simp only[bE,aB];exact h) ?_;conv=>whnf
   refine fZ.mk ((N4.aT1 x.names[i]).map A.d) (gB _ _ _ (by simp[h])) ?_;conv=>whnf
   refine bl ?_;refine cH (aJ.G5 (E8 x.names[i].value (SU i h) (hm3 i h))) ?_;conv=>whnf
   skip
   refine lG.mk i rfl (by simp only[bE,aB];exact h) ?_;conv=>whnf
   refine fZ.mk ((N4.aT1 x.names[i]).map A.d) (gB _ _ _ (by simp[h])) ?_;conv=>whnf
   refine bl ?_;refine⟨i+1,oM,oM,?_⟩;refine mq 5000 5001 ?_;exact cO rfl (xK N4.aT1 x.names i h rfl)
  refine aF (pE x.code oM) ?_;conv=>whnf
  refine bl ?_;show A1 _ _ (.d (.agg [.v (.int .u8 x.kind),ci x.home,.v (.int .u8 x.value.kind),ci x.value.n,cs x.value.s,.sl 5 (x.value.l.map V.row),ci x.value.r,.sl 5 (x.values.map V.row),ci x.n,ci x.lost,ci x.of,ci x.by_,.v (.int .u8 x.set),cb x.full,.sl 17 (x.code.map S4.row),.sl 6 (x.names.map N4.aT1)]));exact .one (.agg (.cons (.d _) (.cons (.d _) (.cons (.d _) (.cons (.d _) (.cons (.d _) (.cons (.d _) (.cons (.d _) (.cons (.d _) (.cons (.d _) (.cons (.d _) (.cons (.d _) (.cons (.d _) (.cons (.d _) (.cons (.d _) (.cons (.d _) (.cons (.dU (t:=100) rfl) .nil)))))))))))))))))
 ·refine fQ (zN _ (by simp only[aB];omega) (by simpa using hv)) 1000 rfl ?_;conv=>whnf
  refine bl ?_;refine bV mix (λi:Nat=>i<=x.values.length) (I:=λi=>[(1,.lp 1 0),(2,.lp 9 0),(16,.h 1000),(17,.d (ci x.values.length)),(18,.d (ci i))])
   (J:=λi=>[(1000,dU 88 5 (x.values.map V.aT1)),(9,.cells false (zW.map A.d)),(1,.cells false [.d (.v (.int .u8 x.kind)),.d (ci x.home),.d (.v (.int .u8 x.value.kind)),.d (ci x.value.n),.d (cs x.value.s),.d (.sl 5 (x.value.l.map V.row)),.d (ci x.value.r),.h 1000,.d (ci x.n),.d (ci x.lost),.d (ci x.of),.d (ci x.by_),.d (.v (.int .u8 x.set)),.d (cb x.full),.d (.sl 17 (x.code.map S4.row)),.d (.sl 6 (x.names.map N4.aT1))])]) (μ:=λi=>x.values.length -i) 3000 0 oM ?_ ?_
  ·refine mq 5000 5001 ?_;rw[show V.row=V.aT1 from funext V.cP];exact cO rfl rfl
  intro i hi
  repeat'(first|refine bl ?_|refine bS (λh=>?_) (λh=>?_))
  ·refine lG.mk i rfl (by simp only[bE,aB];exact h) ?_;conv=>whnf
   refine fZ.mk ((V.aT1 x.values[i]).map A.d) (gB _ _ _ (by simp[h])) ?_;conv=>whnf
   refine bl ?_;refine cH (aJ.G5 (E8 x.values[i] (wF i h) (hm2 i h))) ?_;conv=>whnf
   skip
   refine lG.mk i rfl (by simp only[bE,aB];exact h) ?_;conv=>whnf
   refine fZ.mk ((V.aT1 x.values[i]).map A.d) (gB _ _ _ (by simp[h])) ?_;conv=>whnf
   refine bl ?_;refine⟨i+1,oM,oM,?_⟩;refine mq 5000 5001 ?_;exact cO rfl (xK V.aT1 x.values i h rfl)
  clear hi;refine aF (DF _ (by simp only[aB];omega) (by rw[hn];simp)) ?_;conv=>whnf
  refine bl ?_;refine bV mix (λi:Nat=>i<=x.names.length) (I:=λi=>[(1,.lp 1 0),(2,.lp 9 0),(35,.d (.sl 6 (x.names.map N4.aT1))),(36,.d (ci x.names.length)),(37,.d (ci i))])
   (J:=λi=>[(1000,dU 88 5 (x.values.map V.aT1)),(9,.cells false (zW.map A.d)),(1,.cells false [.d (.v (.int .u8 x.kind)),.d (ci x.home),.d (.v (.int .u8 x.value.kind)),.d (ci x.value.n),.d (cs x.value.s),.d (.sl 5 (x.value.l.map V.row)),.d (ci x.value.r),.h 1000,.d (ci x.n),.d (ci x.lost),.d (ci x.of),.d (ci x.by_),.d (.v (.int .u8 x.set)),.d (cb x.full),.d (.sl 17 (x.code.map S4.row)),.d (.sl 6 (x.names.map N4.aT1))])]) (μ:=λi=>x.names.length -i) 3000 0 oM ?_ ?_
  ·exact mZ
  intro i hi
  repeat'(first|refine bl ?_|refine bS (λh=>?_) (λh=>?_))
  ·exact absurd h (by rw[hn];simp)
  refine aF (pE x.code oM) ?_;conv=>whnf
  refine bl ?_;show A1 _ _ (.d (.agg [.v (.int .u8 x.kind),ci x.home,.v (.int .u8 x.value.kind),ci x.value.n,cs x.value.s,.sl 5 (x.value.l.map V.row),ci x.value.r,.sl 5 (x.values.map V.row),ci x.n,ci x.lost,ci x.of,ci x.by_,.v (.int .u8 x.set),cb x.full,.sl 17 (x.code.map S4.row),.sl 6 (x.names.map N4.aT1)]));exact .one (.agg (.cons (.d _) (.cons (.d _) (.cons (.d _) (.cons (.d _) (.cons (.d _) (.cons (.d _) (.cons (.d _) (.cons (by rw[show V.row=V.aT1 from funext V.cP];exact .dU (t:=88) rfl) (.cons (.d _) (.cons (.d _) (.cons (.d _) (.cons (.d _) (.cons (.d _) (.cons (.d _) (.cons (.d _) (.cons (.d _) .nil)))))))))))))))))
 ·refine fQ (zN _ (by simp only[aB];omega) (by simpa using hv)) 1000 rfl ?_;conv=>whnf
  refine bl ?_;refine bV mix (λi:Nat=>i<=x.values.length) (I:=λi=>[(1,.lp 1 0),(2,.lp 9 0),(16,.h 1000),(17,.d (ci x.values.length)),(18,.d (ci i))])
   (J:=λi=>[(1000,dU 88 5 (x.values.map V.aT1)),(9,.cells false (zW.map A.d)),(1,.cells false [.d (.v (.int .u8 x.kind)),.d (ci x.home),.d (.v (.int .u8 x.value.kind)),.d (ci x.value.n),.d (cs x.value.s),.d (.sl 5 (x.value.l.map V.row)),.d (ci x.value.r),.h 1000,.d (ci x.n),.d (ci x.lost),.d (ci x.of),.d (ci x.by_),.d (.v (.int .u8 x.set)),.d (cb x.full),.d (.sl 17 (x.code.map S4.row)),.d (.sl 6 (x.names.map N4.aT1))])]) (μ:=λi=>x.values.length -i) 3000 0 oM ?_ ?_
  ·refine mq 5000 5001 ?_;rw[show V.row=V.aT1 from funext V.cP];exact cO rfl rfl
  intro i hi
  repeat'(first|refine bl ?_|refine bS (λh=>?_) (λh=>?_))
  ·refine lG.mk i rfl (by simp only[bE,aB];exact h) ?_;conv=>whnf
   refine fZ.mk ((V.aT1 x.values[i]).map A.d) (gB _ _ _ (by simp[h])) ?_;conv=>whnf
   refine bl ?_;refine cH (aJ.G5 (E8 x.values[i] (wF i h) (hm2 i h))) ?_;conv=>whnf
   skip
   refine lG.mk i rfl (by simp only[bE,aB];exact h) ?_;conv=>whnf
   refine fZ.mk ((V.aT1 x.values[i]).map A.d) (gB _ _ _ (by simp[h])) ?_;conv=>whnf
   refine bl ?_;refine⟨i+1,oM,oM,?_⟩;refine mq 5000 5001 ?_;exact cO rfl (xK V.aT1 x.values i h rfl)
  clear hi;refine fQ (BU _ (by simp only[aB];omega) (by simpa using hn)) 2000 rfl ?_;conv=>whnf
  refine bl ?_;refine bV mix (λi:Nat=>i<=x.names.length) (I:=λi=>[(1,.lp 1 0),(2,.lp 9 0),(35,.h 2000),(36,.d (ci x.names.length)),(37,.d (ci i))])
   (J:=λi=>[(2000,dU 100 6 (x.names.map N4.aT1)),(1000,dU 88 5 (x.values.map V.aT1)),(9,.cells false (zW.map A.d)),(1,.cells false [.d (.v (.int .u8 x.kind)),.d (ci x.home),.d (.v (.int .u8 x.value.kind)),.d (ci x.value.n),.d (cs x.value.s),.d (.sl 5 (x.value.l.map V.row)),.d (ci x.value.r),.h 1000,.d (ci x.n),.d (ci x.lost),.d (ci x.of),.d (ci x.by_),.d (.v (.int .u8 x.set)),.d (cb x.full),.d (.sl 17 (x.code.map S4.row)),.h 2000])]) (μ:=λi=>x.names.length -i) 3000 0 oM ?_ ?_
  ·exact mZ
  intro i hi
  repeat'(first|refine bl ?_|refine bS (λh=>?_) (λh=>?_))
  ·refine lG.mk i rfl (by simp only[bE,aB];exact h) ?_;conv=>whnf
   refine fZ.mk ((N4.aT1 x.names[i]).map A.d) (gB _ _ _ (by simp[h])) ?_;conv=>whnf
   refine bl ?_;refine cH (aJ.G5 (E8 x.names[i].value (SU i h) (hm3 i h))) ?_;conv=>whnf
   skip
   refine lG.mk i rfl (by simp only[bE,aB];exact h) ?_;conv=>whnf
   refine fZ.mk ((N4.aT1 x.names[i]).map A.d) (gB _ _ _ (by simp[h])) ?_;conv=>whnf
   refine bl ?_;refine⟨i+1,oM,oM,?_⟩;refine mq 5000 5001 ?_;exact cO rfl (xK N4.aT1 x.names i h rfl)
  refine aF (pE x.code oM) ?_;conv=>whnf
  refine bl ?_;show A1 _ _ (.d (.agg [.v (.int .u8 x.kind),ci x.home,.v (.int .u8 x.value.kind),ci x.value.n,cs x.value.s,.sl 5 (x.value.l.map V.row),ci x.value.r,.sl 5 (x.values.map V.row),ci x.n,ci x.lost,ci x.of,ci x.by_,.v (.int .u8 x.set),cb x.full,.sl 17 (x.code.map S4.row),.sl 6 (x.names.map N4.aT1)]));exact .one (.agg (.cons (.d _) (.cons (.d _) (.cons (.d _) (.cons (.d _) (.cons (.d _) (.cons (.d _) (.cons (.d _) (.cons (by rw[show V.row=V.aT1 from funext V.cP];exact .dU (t:=88) rfl) (.cons (.d _) (.cons (.d _) (.cons (.d _) (.cons (.d _) (.cons (.d _) (.cons (.d _) (.cons (.d _) (.cons (.dU (t:=100) rfl) .nil)))))))))))))))))
abbrev kI(n:Int):Ky:=.one (.int .i64 n)
theorem wZ{α:Type}(key:α->Int)(val:α->A)(r:Int):∀L:List α,fL (kI r) (L.map λt=>(kI (key t),val t))=(L.find? λt=>decide (key t=r)).map val
 |[]=>rfl
 |t::L=>by
  simp only[aG,fL,eN];by_cases h:key t=r
  ·simp[h]
  ·have:¬kI r=kI (key t):=by simp[kI];exact λe=>h e.symm
   simp only[this,if_false,h,decide_false];exact wZ key val r L
theorem aGD{α:Type}(f:α->Ky)(g:α->C)(L:List α):(L.map f).zip ((L.map g).map A.d)=L.map λt=>(f t,A.d (g t)):=by
 induction L with
 |nil=>rfl
 |cons a r ih=>simp only[aG,List.zip_cons_cons,ih]
theorem aJ1{kt:TypeId}{α:Type}(key:α->Int)(val:α->A)(r:Int)(L:List α)(hk:KC.fits P kt (.int .i64 0)=true):kH P kt (kI r) (L.map λt=>(kI (key t),val t))=true:=by
 have h1:(kI r).fits P kt=true:=hk;unfold kH;rw[h1,cA,cV];intro p hp;obtain⟨t,_,rfl⟩:=aA4.1 hp;rfl
theorem lkI{α:Type}{key:α->Int}{val:α->A}{L:List α}{kt:TypeId}{r:Int}{k1:A->Prop}{k0:Prop}(hk:KC.fits P kt (.int .i64 0)=true)(h1:∀t,(L.find? λt=>decide (key t=r))=some t->k1 (val t))(h0:(L.find? λt=>decide (key t=r))=none->k0):
 n5 (kH P kt (kI r) (L.map λt=>(kI (key t),val t))) (fL (kI r) (L.map λt=>(kI (key t),val t))) k1 k0:=by
 have hf:=aJ1 (P:=P) key val r L hk;cases h:L.find? λt=>decide (key t=r)with
 |none=>exact .BP hf (by rw[wZ,h];rfl) (h0 h)
 |some t=>exact .CL (val t) hf (by rw[wZ,h];rfl) (h1 t h)
theorem EA{α:Type}{key:α->Int}{g:α->C}{L:List α}{kt:TypeId}{r:Int}{k1:A->Prop}{k0:Prop}(hk:KC.fits P kt (.int .i64 0)=true)(h1:∀t,(L.find? λt=>decide (key t=r))=some t->k1 (.d (g t)))(h0:(L.find? λt=>decide (key t=r))=none->k0):
 n5 (kH P kt (kI r) ((L.map λt=>kI (key t)).zip ((L.map g).map A.d))) (fL (kI r) ((L.map λt=>kI (key t)).zip ((L.map g).map A.d))) k1 k0:=by
 rw[aGD];exact lkI hk h1 h0
theorem CW{a b:Int}(h:a=b):A1 m (.d (.v (.int .u8 a))) (.d (.v (.int .u8 b))):=by rw[h];exact .one (.d _)
def D4.find(w:D4)(r:Int):Option T4:=w.aT4.find? λt=>decide (t.ref=r)
def D4.mI(w:D4)(r:Int):Bool:=(w.find r).isSome
theorem sB(w:D4)(r:Int):Pu 27 [.d (.ip w.aT1),.d (ci r)] (.d (cb (w.mI r))):=by
 refine iC mix Tryz.func27 ?_
 repeat'(first|refine bl ?_|fail)
 refine aF (vQ w) ?_;conv=>whnf
 repeat'(first|refine bl ?_|fail)
 refine EA eD (λt ht=>?_) (λht=>?_)
 ·conv=>whnf
  repeat'(first|refine bl ?_|fail)
  refine dP ?_;unfold D4.mI D4.find;rw[ht];rfl
 ·conv=>whnf
  repeat'(first|refine bl ?_|fail)
  refine dP ?_;unfold D4.mI D4.find;rw[ht];rfl
def D4.zB(w:D4)(r:Int):Int:=((w.find r).map λt=>t.bQ.kind).getD 0
theorem P9(w:D4)(r:Int):Pu 94 [.d (.ip w.aT1),.d (ci r)] (.d (.v (.int .u8 (w.zB r)))):=by
 refine iC mix Tryz.func94 ?_
 repeat'(first|refine bl ?_|fail)
 refine aF (sB w r) ?_;conv=>whnf
 repeat'(first|refine bl ?_|refine bS (λh=>?_) (λh=>?_))
 ·refine CW ?_;have:w.find r=none:=by simpa [D4.mI]using h
  unfold D4.zB;rw[this];rfl
 ·refine EA eD (λt ht=>?_) (λht=>?_)
  ·conv=>whnf
   repeat'(first|refine bl ?_|fail)
   refine CW ?_;unfold D4.zB D4.find;rw[ht];rfl
  ·exfalso;unfold D4.mI D4.find at h;rw[ht]at h;cases h
abbrev aB8(a b:Int):Int:=pO .and .u8 a b
abbrev orI(a b:Int):Int:=pO .or .u8 a b
def HN(L:List Int):Int:=L.foldl aB8 63
def HK(L:List Int):Int:=L.foldl (λo a=>orI o (aB8 a 63)) 0
abbrev PD(L:List Int):List (List C):=L.map λx=>[.v (.int .u8 x)]
theorem JY{α β:Type}(f:β->α->β)(z:β)(L:List α)(i:Nat)(h:i<L.length):(L.take (i+1)).foldl f z=f ((L.take i).foldl f z) L[i]:=by
 rw[iT,iB];simp[aC h]
theorem YP(L:List Int)(hL:L.length<=2^38):Pu 150 [.d (.sl 1 (PD L))] (.d (.v (.int .u8 (HN L)))):=by
 refine iC mix Tryz.func150 ?_
 repeat'(first|refine bl ?_|fail)
 refine bV mix (λi:Nat=>i<=L.length) (I:=λi=>[(3,.d (.v (.int .u8 (HN (L.take i))))),(6,.d (.sl 1 (PD L))),(7,.d (ci L.length)),(8,.d (ci i))])
  (J:=λi=>[]) (μ:=λi=>L.length -i) 100 0 oM mZ ?_
 intro i hi
 repeat'(first|refine bl ?_|refine bS (λh=>?_) (λh=>?_))
 ·refine cD rfl eD h ?_;conv=>whnf
  repeat'(first|refine bl ?_|fail)
  refine⟨i+1,oM,oM,?_⟩;refine mq 5000 5001 ?_;unfold HN;rw[JY _ _ _ _ h];rfl
 ·refine CW ?_;rw[aI h]
theorem D5(L:List Int)(hL:L.length<=2^38):Pu 184 [.d (.sl 1 (PD L))] (.d (.v (.int .u8 (HK L)))):=by
 refine iC mix Tryz.func184 ?_
 repeat'(first|refine bl ?_|fail)
 refine bV mix (λi:Nat=>i<=L.length) (I:=λi=>[(3,.d (.v (.int .u8 (HK (L.take i))))),(6,.d (.sl 1 (PD L))),(7,.d (ci L.length)),(8,.d (ci i))])
  (J:=λi=>[]) (μ:=λi=>L.length -i) 100 0 oM mZ ?_
 intro i hi
 repeat'(first|refine bl ?_|refine bS (λh=>?_) (λh=>?_))
 ·refine cD rfl eD h ?_;conv=>whnf
  repeat'(first|refine bl ?_|fail)
  refine⟨i+1,oM,oM,?_⟩;refine mq 5000 5001 ?_;unfold HK;rw[JY _ _ _ _ h];rfl
 ·refine CW ?_;rw[aI h]
theorem C2{i:Nat}{fz:Bool}{ty:TypeId}{k:A->List (Nat×R)->Prop}{v:Value}(L:List Int)(h:∀m,aJ P f [.d (.sl 1 (PD L))] m (.ok (.d (.v v))) m)(hm:aK ml i=some (.fW fz ty 1 ((PD L).map λx=>x.map A.d)))(hk:k (.d (.v v)) []):dZ P f [.h i] ml k:=
 fU (cs:=[.sl 1 (PD L)]) h (.v _) (.cons (.os hm (D6.data _ _)) .nil) hk
def aGR(k:Int):Int:=if k=1 then HK [1,2]else if k=2\/k=3 then HK [1,8]else if k=4 then HK [8,4]else if k=5\/k=6\/k=8\/k=12 then 16 else if k=9 then HK [1,4,8]else if k=10 then 1 else if k=11 then 8 else if k=13 then HK [1,32]else 0
theorem aJQ(k:Int):Pu 151 [.d (.v (.int .u8 k))] (.d (.v (.int .u8 (aGR k)))):=by
 refine iC mix Tryz.func151 ?_
 repeat'(first|refine bl ?_|refine bS (λh=>?_) (λh=>?_))
 all_goals(try(first|refine C2 [1,2] (D5 _ eD) rfl ?_|refine C2 [1,8] (D5 _ eD) rfl ?_|refine C2 [8,4] (D5 _ eD) rfl ?_|refine C2 [1,4,8] (D5 _ eD) rfl ?_|refine C2 [1,32] (D5 _ eD) rfl ?_)<;>(conv=>whnf))
 repeat'(first|refine bl ?_|fail)
 all_goals(refine CW ?_;simp only[aGR, *];simp)
def D4.MD(w:D4):Nat->Int->Int->Option Int
 |0,_,_=>none
 |n+1,set,r=>match w.find r with
  |none=>some 0
  |some t=>if t.bQ.kind=14 then D4.MD w n (HN [set,t.bQ.set]) t.bQ.of
   else if t.bQ.kind=15\/t.bQ.kind=16 then D4.MD w n set t.bQ.of
   else some (HN [set,aGR t.bQ.kind])
theorem XF(w:D4)(r:Int)(n:Nat)(v:Int)(h:w.MD n 63 r=some v):Pu 93 [.d (.ip w.aT1),.d (ci r)] (.d (.v (.int .u8 v))):=by
 refine iC mix Tryz.func93 ?_
 repeat'(first|refine bl ?_|fail)
 refine bV mix (λa:Nat×Int×Int=>w.MD a.1 a.2.1 a.2.2=some v) (I:=λa=>[(0,.d (.ip w.aT1)),(1,.d (ci a.2.2)),(5,.d (.v (.int .u8 a.2.1)))])
  (J:=λa=>[]) (μ:=λa=>a.1) 100 (n,63,r) h mZ ?_
 rintro⟨n,set,r⟩ h;dsimp only at h;cases n with
 |zero=>cases h
 |succ n=>
 rw[D4.MD]at h
 repeat'(first|refine bl ?_|fail)
 refine aF (sB w r) ?_;conv=>whnf
 have hi:w.mI r=(w.find r).isSome:=rfl;cases hf:w.find r with
 |none=>
  rw[hf]at h hi;rw[hi];simp only[aA]at h
  repeat'(first|refine bl ?_|fail)
  ·exact CW h
  all_goals simp at h
 |some t=>
  rw[hf]at h hi;rw[hi,Option.isSome_some];dsimp only at h⊢
  repeat'(first|refine bl ?_|fail)
  refine EA eD (λt' ht=>?_) (λht=>by rw[show(List.find? (λt=>decide (t.ref=r)) w.aT4)=w.find r from rfl,hf]at ht;cases ht);have e:t'=t:=by rw[show(List.find? (λt=>decide (t.ref=r)) w.aT4)=w.find r from rfl,hf]at ht;exact(eY ht).symm
  subst e;conv=>whnf
  repeat'(first|refine bl ?_|refine bS (λh=>?_) (λh=>?_))
  ·refine C2 [set,t'.bQ.set] (YP _ sM) rfl ?_;conv=>whnf
   repeat'(first|refine bl ?_|fail)
   refine⟨(n,HN [set,t'.bQ.set],t'.bQ.of),sM,?_,?_⟩
   ·simp_all
   ·exact mZ
  ·refine⟨(n,set,t'.bQ.of),sM,?_,?_⟩
   ·simp_all
   ·exact mZ
  ·refine⟨(n,set,t'.bQ.of),sM,?_,?_⟩
   ·simp_all
   ·exact mZ
  ·refine aF (aJQ _) ?_;conv=>whnf
   skip
   refine C2 [set,aGR t'.bQ.kind] (YP _ sM) rfl ?_;conv=>whnf
   repeat'(first|refine bl ?_|fail)
   refine CW ?_;simp_all
mutual
inductive Wa:A->A->Prop
 |x (a:A):Wa a .x
 |same (a:A):Wa a a
 |agg (cs:List C):Wa (.agg (cs.map A.d)) (.d (.agg cs))
 |nl (e e':Nat):Wa (.d (.nl e)) (.d (.sl e' []))
 |fn {f:Fn} {u v u' v':List A}:IN u u'->IN v v'->Wa (.fn f u v) (.fn f u' v')
inductive IN:List A->List A->Prop
 |nil:IN [] []
 |cons {a b:A} {l r:List A}:Wa a b->IN l r->IN (a::l) (b::r)
end
mutual
theorem Wa.den{w:World}{M:Nat->Prop}{m:Mem}{ρ:Nat->Value}:∀{a b:A}{y:Value},Wa a b->a.Den w M m ρ y->b.Den w M m ρ y
 |_,_,y,.x a,h=>by simp only[A.Den]
 |_,_,y,.same a,h=>h
 |_,_,y,.agg cs,h=>I3 h
 |_,_,y,.nl e e',h=>by
  simp only[A.Den,C.Den]at h⊢;exact⟨none,0,by rw[h];rfl,bT _,.inl tV⟩
 |_,_,y,.fn h1 h2,h=>by
  simp only[A.Den]at h⊢;obtain⟨us,vs,e,k1,k2⟩:=h;exact⟨us,vs,e,h1.den k1,h2.den k2⟩
theorem IN.den{w:World}{M:Nat->Prop}{m:Mem}{ρ:Nat->Value}:∀{l r:List A}{ys:List Value},IN l r->A.bR w M m ρ l ys->A.bR w M m ρ r ys
 |_,_,ys,.nil,h=>h
 |_,_,ys,.cons h1 h2,h=>by
  simp only[A.bR]at h⊢;obtain⟨y,yr,e,k1,k2⟩:=h;exact⟨y,yr,e,h1.den k1,h2.den k2⟩
end
theorem aJ.mR{m':Mem}{r:Rt}(h:aJ P f xs m r m')(hw:IN xs' xs):aJ P f xs' m r m':=h.args λw M ρ vs hv=>hw.den hv
theorem dR{k:A->List (Nat×R)->Prop}(h:∀m,aJ P f xs m (.ok v) m)(hw:IN xs' xs)(hk:k v []):dZ P f xs' ml k:=aF (λm=>(h m).mR hw) hk
theorem jV{nx:Nat}{k:A->List (Nat×R)->Bool->Prop}(h:∀m,aJ P f xs m (.ok v) m)(hw:IN xs' xs)(hk:k v [] false):xQ P f xs' ml nx k:=cH (λm=>(h m).mR hw) hk
theorem aJ.UZ{xs1 xs2:List A}{V:List Nat}(h:∀m,aJ P f xs2 m (.ok v) m)(hv:Flat v)(hw:IN xs1 xs2)(hc:IX (EC V ml) xs xs1)(hh:A.lQ xs1=[]):aJ P f xs (aK ml) (.ok v) (aK ml):=by
 have k:aJ P f xs1 (λ_=>none) (.ok v) (aH (λ_=>none) []):=(h _).mR hw
 exact aJ.aC7 (mF:=EC V ml) (ups:=[]) k hv (λi r hi=>by
  unfold EC at hi;cases hq:s9 i V with
  |false=>rw[hq]at hi;cases hi
  |true=>rw[hq]at hi;exact⟨hi,rfl⟩) hc (by rw[hh];simp) (λi r e=>by cases e) (λi r e=>by cases e) sM (λi r e=>by cases e)
def V0(es:Nat)(L:List (List C)):R:=.cu (.d (.sl es L)) es (bE L)
theorem aJT(es:Nat)(L:List (List C)):(V0 es L).hs=[]:=by simp only[V0,R.hs,A.hs,yT,wX,dS]
theorem aGV(g:Nat->Nat)(es:Nat)(L:List (List C)):(V0 es L).eZ g=V0 es L:=by simp only[V0,R.eZ,A.eZ,GQ]
theorem aEK(L:List (List C))(hL:L.length<=2^38):∀(m:Mem)(d:Nat),m d=none->aJ Tryz.prog 173 [.d (.sl 1 L)] m (.ok (.h d)) (aX m d (V0 1 L)):=by
 refine iW mix (F:=A.h) (r:=V0 1 L) Tryz.func173 rfl kK (bD rfl) rfl (aJT _ _) (λ_ _=>rfl) (λi j hj=>by simpa [A.hs]using hj) (λg=>aGV g _ _) ?_;refine bl ?_;refine aIW.mk sM sM rfl ?_;conv=>whnf
 refine bl ?_;exact⟨_,rfl,rfl⟩
theorem CX(v:V)(hk:v.kind≠4):Pu 131 [.x,.d (.agg v.aT1),.x] (.d (cb true)):=by
 refine iC mix Tryz.func131 ?_
 repeat'(first|refine bl ?_|refine bS (λh=>?_) (λh=>?_))
 ·exact absurd h hk
 ·exact dP rfl
theorem aBA(v:V)(hk:v.kind=4)(es:Nat):aJ Tryz.prog 131 [.x,.d (.agg v.aT1),.lp 0 0] (aK [(0,.cells false [.d (.nl es)])]) (.ok (.d (cb true))) (aH (aK [(0,.cells false [.d (.nl es)])]) [(0,.cells false [.h 82]),(82,dU 25 1 [[ci v.r]])]):=by
 refine wE mix 10 Tryz.func131 (by(repeat'(first|exact aW))) (by(repeat'(first|exact aW|exact sn|refine bI ?_ ?_))) ?_
 repeat'(first|refine bl ?_|refine bS (λh=>?_) (λh=>?_))
 ·refine n8 (show(1:Nat)<=2^38 by decide) kK ?_;conv=>whnf
  refine E9.mk (λh=>by cases h) (λ_=>?_);conv=>whnf
  refine bl ?_;exact em
 ·exact absurd hk h
theorem WL(v:V)(hk:v.kind=4)(L:List (List C))(hL:L.length<=2^37):aJ Tryz.prog 131 [.x,.d (.agg v.aT1),.lp 0 0] (aK [(0,.cells false [.h 1]),(1,dU 25 1 L)]) (.ok (.d (cb true))) (aH (aK [(0,.cells false [.h 1]),(1,dU 25 1 L)]) [(0,.cells false [.h 82]),(82,dU 25 1 (L++[[ci v.r]])),(1,.dead)]):=by
 refine wE mix 10 Tryz.func131 (by(repeat'(first|exact aW))) (by(repeat'(first|exact aW|exact sn|exact aZ|refine bI ?_ ?_))) ?_
 repeat'(first|refine bl ?_|refine bS (λh=>?_) (λh=>?_))
 ·refine n8 (show(bE L).length+1<=2^38 by simp only[bE,aB];omega) kK ?_;conv=>whnf
  refine bl ?_
  (refine dA rfl ?_<;>repeat'(first|exact aW|exact rS rfl|exact eV rfl|refine bI ?_ ?_))
  exact .inr (YQ rfl (ER L [[ci v.r]]).symm)
 ·exact absurd hk h
theorem TY{t1 t2 e zl b n:Nat}{x y:Bool}{Z:Prop}(h1:Nat.beq t1 t2=true)(h2:Nat.beq 1 e=true)(h3:Nat.beq zl 1=true)(h4:Nat.ble 1 b=true)(hb:Nat.ble b 512=true)(hn:n<=2^38)(hx:x=true)(hy:y=true)(hz:Z):
 xR (decide (t1=t2/\1=e/\zl=1/\0<1/\0<b/\n*b<=140737488355328)&&(x&&y)) Z:=by
 have h5:=bD hb;have h6:n*b<=2^38*512:=l5 hn h5;refine⟨?_,hz⟩;rw[hx,hy,o6,o6,aUA];exact⟨bB h1,bB h2,bB h3,oM,bD h4,oM⟩
theorem aEQ{m':Mem}{L:List (List C)}{M:List (List C)}(h:D6 m ((L.map λx=>x.map A.d)++(M.map λx=>x.map A.d)) (L++M)):D6 m' ((L.map λx=>x.map A.d)++(M.map λx=>x.map A.d)) (L++M):=by
 rw[<-List.map_append];exact D6.data _ _
theorem V.OK:∀(a b:List V),V.aP (a++b)=V.aP a++V.aP b
 |[],b=>by simp[V.aP]
 |v::a,b=>by simp only[bW,V.aP,V.OK a b,bG]
theorem V.aET(l:List V)(i:Nat)(h:i<l.length)(h0:V.aP l=[]):V.refs l[i]=[]:=by
 have h1:=V.uQ l i h;have h2:V.aP (l.take (i+1))=[]:=by
  have:=V.OK (l.take (i+1)) (l.drop (i+1));rw[gJ,h0]at this;exact(List.append_eq_nil_iff.1 this.symm).1
 rw[h2]at h1;exact(List.append_eq_nil_iff.1 h1.symm).2
theorem rL(v:V)(hv:v.cR<=2^37)(hr:v.refs=[])(Lp:List (List C))(hp:Lp.length+v.cR<=2^37):Pu 130 [.d (.agg v.aT1),.d (.sl 1 Lp),.fn (.func 131) [] [.x]] (.d (cb true)):=by
 have AZ:=v.fA;have hl:=V.eW v.l;have hk:v.kind≠4:=by
  intro h;rw[V.sF,aUF h]at hr;cases hr
 have hrl:V.aP v.l=[]:=by rw[V.sF,aT7 hk]at hr;exact hr
 have ih:∀i(h:i<v.l.length)(Lp:List (List C)),Lp.length+v.l[i].cR<=2^37->Pu 130 [.d (.agg (V.aT1 v.l[i])),.d (.sl 1 Lp),.fn (.func 131) [] [.x]] (.d (cb true)):=λi h Lp hp=>
  have:=v.gM i h
  rL v.l[i] (by have:=V.dG v.l i h;omega) (V.aET _ i h hrl) Lp hp
 refine iC mix Tryz.func130 ?_;refine bl ?_;refine dR (CX v hk) (.cons (.x _) (.cons (.agg v.aT1) (.cons (.same _) .nil))) ?_;conv=>whnf
 refine bl ?_;refine bV mix (λi:Nat=>i<=v.l.length) (I:=λi=>[(1,.d (.sl 1 Lp)),(2,.fn (.func 131) [] [.x]),(15,.d (.sl 5 (v.l.map V.row))),(16,.d (ci v.l.length)),(17,.d (ci i))])
  (J:=λi=>[]) (μ:=λi=>v.l.length -i) 100 0 oM mZ ?_
 intro i hi
 repeat'(first|refine bl ?_|refine bS (λh=>?_) (λh=>?_))
 ·refine eE V.cP rfl eD h ?_;have hcg:=V.dG v.l i h;conv=>whnf
  refine bl ?_;refine .fresh A.h (V0 1 Lp) (aEK Lp oM) rfl ?_;conv=>whnf
  skip
  refine TY rfl kK kK kK kK (show(bE Lp).length+1<=2^38 by simp only[bE,aB];omega) rfl rfl ?_;conv=>whnf
  skip
  refine .BL _ [] (aJ.UZ (V:=[196]) (ih i h (Lp++[[ci i]]) (by simp only[aU,aQ,cS];omega)) (.v _) (.cons (.agg (V.aT1 v.l[i])) (.cons (.same _) (.cons (.fn .nil (.cons (.x _) .nil)) .nil))) (.cons (.same _) (.cons (.rd (.os (eX rfl rfl) ?_)) (.same _))) rfl) ?_
  ·have:=D6.data (EC [196] [(196,R.fW false 3 1 (bE Lp++[[.d (ci i)]]))]) (Lp++[[ci i]]);rw[bP]at this;exact aEQ this
  conv=>whnf
  refine bl ?_;refine⟨i+1,oM,oM,?_⟩;exact mZ
 ·exact dP rfl
 termination_by SizeOf.sizeOf v
theorem aJ.UU{mb u mb' u':List (Nat×R)}(h:aJ P f xs (aK mb) (.ok v) (aH (aK mb) u))(hv:Flat v){g gi:Nat->Nat}(h1:∀i,gi (g i)=i)(h2:∀i,g (gi i)=i)(e1:lH g mb=mb')(e2:lH g u=u')(V:List Nat)
 (hc:IX (EC V ml) xs' (A.iV g xs))(hhs:rB mb' (A.lQ (A.iV g xs)))(hm:RN ml mb')(hV:T8 mb' V)(n0:H9 mb' mb')(hfr:HH ml mb' u')(hf1:sT mb')(hf2:sT u'):
 aJ P f xs' (aK ml) (.ok v) (aH (aK ml) u'):=by
 subst e1;subst e2;exact aJ.use h hv h1 h2 V hc hhs hm hV n0 hfr hf1 hf2
def g12(n i:Nat):Nat:=if i=1 then 2 else if i=2 then n else if i=n then 1 else i
def g21(n i:Nat):Nat:=if i=2 then 1 else if i=n then 2 else if i=1 then n else i
theorem aC9(n:Nat)(hn:2<n)(i:Nat):g21 n (g12 n i)=i:=by
 unfold g12 g21;split
 ·simp;omega
 ·split
  ·have:n≠2:=oM;simp[this];omega
  ·split
   ·have:¬(1:Nat)=n:=oM;simp[this];omega
   ·rename_i a b c;simp[a,b,c]
theorem aDA(n:Nat)(hn:2<n)(i:Nat):g12 n (g21 n i)=i:=by
 unfold g12 g21;split
 ·simp;omega
 ·split
  ·simp;omega
  ·split
   ·have a:¬n=1:=oM;have b:¬n=2:=oM;simp[a,b];omega
   ·rename_i a b c;simp[a,b,c]
mutual
def V.NX:V->Prop
 |.mk k _ _ l _=>(k=4->l=[])/\V.aEB l
def V.aEB:List V->Prop
 |[]=>True
 |v::r=>V.NX v/\V.aEB r
end
theorem V.Y0(v:V)(h:v.NX):(v.kind=4->v.l=[])/\V.aEB v.l:=by cases v;exact h
theorem V.EG:∀(l:List V)(h:V.aEB l)(i:Nat)(hi:i<l.length),V.NX l[i]
 |[],_,i,hi=>by simp at hi
 |v::r,h,0,hi=>h.1
 |v::r,h,i+1,hi=>V.EG r h.2 i (by simpa using hi)
theorem aDL(L:List Int):∀c∈(iR L).flatten,A.AQ (.d c)=true:=by
 intro c hc;obtain⟨e,he,hc⟩:=List.mem_flatten.1 hc;obtain⟨x,_,rfl⟩:=aA4.1 he;simp only[aR]at hc;subst hc;rfl
theorem vL(t:TypeId)(L:List Int):(dU t 1 (iR L)).IZ:=sT.dU (i:=0) (aDL L)
theorem aDK(a b:List Int):iR a++iR b=iR (a++b):=by simp[iR]
theorem IK{a b:Nat}(h:Nat.beq a b=false):a≠b:=λe=>by subst e;simp at h
theorem nY{l:List A}(h:l.all A.AQ=true):(R.cells false l).IZ:=⟨rfl,λa ha=>cV.1 h a ha⟩
theorem pY(L:List (List C))(r:List C):D6 m (bE L++[r.map A.d]) (L++[r]):=by
 have:=D6.data m (L++[r])
 rwa [bP]at this
theorem V.CC:∀(l:List V)(i:Nat)(h:i<l.length),V.dB (l.take (i+1))=V.dB (l.take i)+V.cR l[i]
 |[],i,h=>by simp at h
 |v::r,0,h=>by simp[V.dB]
 |v::r,i+1,h=>by
  have:=V.CC r i (by simpa using h);simp only[cC,V.dB,cJ]at this⊢;omega
def Jc(L:List Int):List Int->List (Nat×R)
 |[]=>[(0,.cells false [.h 1]),(1,dU 25 1 (iR L))]
 |r::R=>[(0,.cells false [.h 2]),(2,dU 25 1 (iR (L++(r::R)))),(1,.dead)]
theorem aF7(v:V)(hv:v.cR<=2^36)(mS:v.NX)(hr:v.refs≠[])(Lp:List (List C))(hp:Lp.length+v.cR<=2^36)(L:List Int)(hL:L.length+v.cR<=2^36):
 aJ Tryz.prog 130 [.d (.agg v.aT1),.d (.sl 1 Lp),.fn (.func 131) [] [.lp 0 0]] (aK [(0,.cells false [.h 1]),(1,dU 25 1 (iR L))]) (.ok (.d (cb true))) (aH (aK [(0,.cells false [.h 1]),(1,dU 25 1 (iR L))]) [(0,.cells false [.h 2]),(2,dU 25 1 (iR (L++v.refs))),(1,.dead)]):=by
 have AZ:=v.fA;have hl:=V.eW v.l;have QS:=v.Y0 mS;have hrd:=v.sF;have hrc:=V.EO v;have ih:∀i(h:i<v.l.length),v.l[i].refs≠[]->∀(Lp:List (List C)),Lp.length+v.l[i].cR<=2^36->∀(L:List Int),L.length+v.l[i].cR<=2^36->aJ Tryz.prog 130 [.d (.agg (V.aT1 v.l[i])),.d (.sl 1 Lp),.fn (.func 131) [] [.lp 0 0]] (aK [(0,.cells false [.h 1]),(1,dU 25 1 (iR L))]) (.ok (.d (cb true))) (aH (aK [(0,.cells false [.h 1]),(1,dU 25 1 (iR L))]) [(0,.cells false [.h 2]),(2,dU 25 1 (iR (L++v.l[i].refs))),(1,.dead)]):=λi h hr Lp hp L hL=>
  have:=v.gM i h
  aF7 v.l[i] (by have:=V.dG v.l i h;omega) (V.EG _ QS.2 i h) hr Lp hp L hL
 refine wE mix 100 Tryz.func130 (by(repeat'(first|exact aW))) (by(repeat'(first|exact aW|exact sn|exact aZ|refine bI ?_ ?_))) ?_;refine bl ?_;by_cases hk:v.kind=4
 ·have hl0:=QS.1 hk;have hrf:v.refs=[v.r]:=by rw[V.sF,aUF hk]
  refine dZ.mk (.d (cb true)) [(0,.cells false [.h 2]),(2,dU 25 1 (iR (L++v.refs))),(1,.dead)] ?_ ?_
  ·refine(aJ.UU (WL v hk (iR L) (by simp only[aB];omega)) (.v _) (g:=swp 82 2) (gi:=swp 82 2) (fH _ _) (fH _ _) (mb':=[(0,.cells false [.h 1]),(1,dU 25 1 (iR L))]) ?_ ?_ [] (xs':=[.x,.d (.agg v.aT1),.lp 0 0]) (.same _) ?_ ?_ ?_ ?_ ?_ ?_ ?_).mR (.cons (.x _) (.cons (.agg v.aT1) (.cons (.same _) .nil)))
   ·simp only[lH,aG,bM,eT];rfl
   ·rw[hrf];simp only[lH,aG,bM,eT,<-aDK];rfl
   all_goals(repeat'(first|exact aW|exact rfl|exact sn|exact aZ|exact rS sn|exact eV rfl|exact vL _ _|exact nY rfl|refine bI ?_ ?_))
  ·conv=>whnf
   refine bl ?_;refine bV mix (λi:Nat=>True) (I:=λi=>[(1,.d (.sl 1 Lp)),(2,.fn (.func 131) [] [.lp 0 0]),(15,.d (.sl 5 (v.l.map V.row))),(16,.d (ci v.l.length)),(17,.d (ci 0))])
    (J:=λi=>[(0,.cells false [.h 2]),(2,dU 25 1 (iR (L++v.refs))),(1,.dead)]) (μ:=λi=>0) 200 0 tV mZ ?_
   intro _ _
   repeat'(first|refine bl ?_|refine bS (λh=>?_) (λh=>?_))
   ·exact absurd h (by rw[hl0];simp)
   ·exact em
 ·have hrf:v.refs=V.aP v.l:=by rw[V.sF,aT7 hk]
  refine dR (CX v hk) (.cons (.x _) (.cons (.agg v.aT1) (.cons (.x _) .nil))) ?_;conv=>whnf
  refine bl ?_;refine bV mix (λa:Nat×List Int=>a.1<=v.l.length/\a.2=V.aP (v.l.take a.1)) (I:=λa=>[(1,.d (.sl 1 Lp)),(2,.fn (.func 131) [] [.lp 0 0]),(15,.d (.sl 5 (v.l.map V.row))),(16,.d (ci v.l.length)),(17,.d (ci a.1))])
   (J:=λa=>Jc L a.2) (μ:=λa=>v.l.length -a.1) 200 (0,[]) ⟨sM,rfl⟩ mZ ?_
  rintro⟨i,R⟩ ⟨hi,hR⟩;dsimp only at hi hR⊢;have hRl:R.length<=V.dB v.l:=by rw[hR];exact cL (V.tT _) (V.kA _ _)
  cases R with
  |nil=>
   show vc _ _ _ _ _ [(0,.cells false [.h 1]),(1,dU 25 1 (iR L))] _ _
   repeat'(first|refine bl ?_|refine bS (λh=>?_) (λh=>?_))
   ·refine eE V.cP rfl eD h ?_;have hcg:=V.dG v.l i h;have eB:=V.uQ v.l i h;rw[<-hR,bZ]at eB;conv=>whnf
    refine bl ?_;refine .fresh A.h (V0 1 Lp) (aEK Lp oM) rfl ?_;conv=>whnf
    skip
    refine TY rfl kK kK kK kK (show(bE Lp).length+1<=2^38 by simp only[bE,aB];omega) rfl rfl ?_;conv=>whnf
    skip
    by_cases hri:v.l[i].refs=[]
    ·refine .BL _ [] ((aJ.UZ (V:=[296]) (xs:=[.d (.agg v.l[i].aT1),.h 296,.fn (.func 131) [] [.x]]) (rL v.l[i] oM hri (Lp++[[ci i]]) (by simp only[aU,aQ,cS];omega)) (.v _) (.cons (.same _) (.cons (.same _) (.cons (.same _) .nil))) (.cons (.same _) (.cons (.rd (.os (eX rfl rfl) (pY Lp [ci i]))) (.same _))) rfl).mR (.cons (.agg (V.aT1 v.l[i])) (.cons (.same _) (.cons (.fn .nil (.cons (.x _) .nil)) .nil)))) ?_;conv=>whnf
     refine bl ?_;refine⟨(i+1,[]),dM,⟨dM,by dsimp only;rw[eB,hri]⟩,?_⟩;exact mZ
    ·refine .BL (.d (cb true)) [(0,.cells false [.h 2]),(2,dU 25 1 (iR (L++v.l[i].refs))),(1,.dead)] ?_ ?_
     ·refine(aJ.UU (ih i h hri (Lp++[[ci i]]) (by simp only[aU,aQ,cS];omega) L oM) (.v _) (g:=id) (gi:=id) YF YF (mb':=[(0,.cells false [.h 1]),(1,dU 25 1 (iR L))]) ?_ ?_ [296] (xs':=[.d (.agg v.l[i].aT1),.h 296,.fn (.func 131) [] [.lp 0 0]]) (.cons (.same _) (.cons (.rd (.os (eX rfl rfl) (pY Lp [ci i]))) (.same _))) ?_ ?_ ?_ ?_ ?_ ?_ ?_).mR (.cons (.agg (V.aT1 v.l[i])) (.cons (.same _) (.cons (.same _) .nil)))
      ·simp only[lH,aG,bM,eT];rfl
      ·simp only[lH,aG,bM,eT];rfl
      all_goals(repeat'(first|exact aW|exact rfl|exact sn|exact aZ|exact rS sn|exact eV rfl|exact vL _ _|exact nY rfl|refine bI ?_ ?_))
     ·conv=>whnf
      refine bl ?_;refine⟨(i+1,v.l[i].refs),dM,⟨dM,by dsimp only;rw[eB]⟩,?_⟩;cases wV:v.l[i].refs with
      |nil=>exact absurd wV hri
      |cons r R=>exact mZ
   ·have e:v.l.take i=v.l:=aI oM;rw[e,<-hrf]at hR;exact absurd hR.symm hr
  |cons r R=>
   show vc _ _ _ _ _ [(0,.cells false [.h 2]),(2,dU 25 1 (iR (L++(r::R)))),(1,.dead)] _ _
   repeat'(first|refine bl ?_|refine bS (λh=>?_) (λh=>?_))
   ·refine eE V.cP rfl eD h ?_;have hcg:=V.dG v.l i h;have eB:=V.uQ v.l i h;rw[<-hR]at eB;have hci:(r::R).length+v.l[i].cR<=V.dB v.l:=by
     have h1:=V.tT (v.l.take i);rw[<-hR]at h1;have h2:=V.CC v.l i h;have h3:=V.kA v.l (i+1);omega
    conv=>whnf
    refine bl ?_;refine .fresh A.h (V0 1 Lp) (aEK Lp oM) rfl ?_;conv=>whnf
    skip
    refine TY rfl kK kK kK kK (show(bE Lp).length+1<=2^38 by simp only[bE,aB];omega) rfl rfl ?_;conv=>whnf
    skip
    by_cases hri:v.l[i].refs=[]
    ·refine .BL _ [] ((aJ.UZ (V:=[296]) (xs:=[.d (.agg v.l[i].aT1),.h 296,.fn (.func 131) [] [.x]]) (rL v.l[i] oM hri (Lp++[[ci i]]) (by simp only[aU,aQ,cS];omega)) (.v _) (.cons (.same _) (.cons (.same _) (.cons (.same _) .nil))) (.cons (.same _) (.cons (.rd (.os (eX rfl rfl) (pY Lp [ci i]))) (.same _))) rfl).mR (.cons (.agg (V.aT1 v.l[i])) (.cons (.same _) (.cons (.fn .nil (.cons (.x _) .nil)) .nil)))) ?_;conv=>whnf
     refine bl ?_;refine⟨(i+1,r::R),dM,⟨dM,by dsimp only;rw[eB,hri,dS]⟩,?_⟩;exact mZ
    ·refine .BL (.d (cb true)) [(0,.cells false [.h 400]),(400,dU 25 1 (iR (L++(r::R)++v.l[i].refs))),(2,.dead)] ?_ ?_
     ·refine(aJ.UU (ih i h hri (Lp++[[ci i]]) (by simp only[aU,aQ,cS];omega) (L++(r::R)) (by(try simp only[aU]);omega)) (.v _) (g:=g12 400) (gi:=g21 400) (aC9 400 eD) (aDA 400 eD) (mb':=[(0,.cells false [.h 2]),(2,dU 25 1 (iR (L++(r::R))))]) ?_ ?_ [296] (xs':=[.d (.agg v.l[i].aT1),.h 296,.fn (.func 131) [] [.lp 0 0]]) (.cons (.same _) (.cons (.rd (.os (eX rfl rfl) (pY Lp [ci i]))) (.same _))) ?_ ?_ ?_ ?_ ?_ ?_ ?_).mR (.cons (.agg (V.aT1 v.l[i])) (.cons (.same _) (.cons (.same _) .nil)))
      ·simp only[lH,aG,bM,eT];rfl
      ·simp only[lH,aG,bM,eT];rfl
      all_goals(repeat'(first|exact aW|exact rfl|exact sn|exact aZ|exact rS sn|exact eV rfl|exact vL _ _|exact nY rfl|refine bI ?_ ?_))
     ·conv=>whnf
      refine bl ?_;refine⟨(i+1,r::(R++v.l[i].refs)),dM,⟨dM,by dsimp only;rw[eB];rfl⟩,?_⟩;refine mq 400 2 ?_;exact cO rfl (by simp only[bG,bW])
   ·have e:v.l.take i=v.l:=aI oM;rw[e,<-hrf]at hR;rw[<-hR];exact em
 termination_by SizeOf.sizeOf v
def Jn:List Int->List (Nat×R)
 |[]=>[(0,.cells false [.d (.nl 1)])]
 |r::R=>[(0,.cells false [.h 2]),(2,dU 25 1 (iR (r::R)))]
theorem W6(v:V)(hv:v.cR<=2^36)(mS:v.NX)(hr:v.refs≠[])(Lp:List (List C))(hp:Lp.length+v.cR<=2^36):
 aJ Tryz.prog 130 [.d (.agg v.aT1),.d (.sl 1 Lp),.fn (.func 131) [] [.lp 0 0]] (aK [(0,.cells false [.d (.nl 1)])]) (.ok (.d (cb true))) (aH (aK [(0,.cells false [.d (.nl 1)])]) [(0,.cells false [.h 2]),(2,dU 25 1 (iR v.refs))]):=by
 have AZ:=v.fA;have hl:=V.eW v.l;have QS:=v.Y0 mS;have hrd:=v.sF;have hrc:=V.EO v;have ih:∀i(h:i<v.l.length),v.l[i].refs≠[]->∀(Lp:List (List C)),Lp.length+v.l[i].cR<=2^36->aJ Tryz.prog 130 [.d (.agg (V.aT1 v.l[i])),.d (.sl 1 Lp),.fn (.func 131) [] [.lp 0 0]] (aK [(0,.cells false [.d (.nl 1)])]) (.ok (.d (cb true))) (aH (aK [(0,.cells false [.d (.nl 1)])]) [(0,.cells false [.h 2]),(2,dU 25 1 (iR v.l[i].refs))]):=λi h hr Lp hp=>
  have:=v.gM i h
  W6 v.l[i] (by have:=V.dG v.l i h;omega) (V.EG _ QS.2 i h) hr Lp hp
 refine wE mix 100 Tryz.func130 (by(repeat'(first|exact aW))) (by(repeat'(first|exact aW|exact sn|exact aZ|refine bI ?_ ?_))) ?_;refine bl ?_;by_cases hk:v.kind=4
 ·have hl0:=QS.1 hk;have hrf:v.refs=[v.r]:=by rw[V.sF,aUF hk]
  refine dZ.mk (.d (cb true)) [(0,.cells false [.h 2]),(2,dU 25 1 (iR v.refs))] ?_ ?_
  ·refine(aJ.UU (aBA v hk 1) (.v _) (g:=swp 82 2) (gi:=swp 82 2) (fH _ _) (fH _ _) (mb':=[(0,.cells false [.d (.nl 1)])]) ?_ ?_ [] (xs':=[.x,.d (.agg v.aT1),.lp 0 0]) (.same _) ?_ ?_ ?_ ?_ ?_ ?_ ?_).mR (.cons (.x _) (.cons (.agg v.aT1) (.cons (.same _) .nil)))
   ·rfl
   ·rw[hrf];simp only[lH,aG,bM,eT];rfl
   all_goals(repeat'(first|exact aW|exact rfl|exact sn|exact rS sn|exact eV rfl|exact vL _ _|exact nY rfl|refine bI ?_ ?_))
  ·conv=>whnf
   refine bl ?_;refine bV mix (λi:Nat=>True) (I:=λi=>[(1,.d (.sl 1 Lp)),(2,.fn (.func 131) [] [.lp 0 0]),(15,.d (.sl 5 (v.l.map V.row))),(16,.d (ci v.l.length)),(17,.d (ci 0))])
    (J:=λi=>[(0,.cells false [.h 2]),(2,dU 25 1 (iR v.refs))]) (μ:=λi=>0) 200 0 tV mZ ?_
   intro _ _
   repeat'(first|refine bl ?_|refine bS (λh=>?_) (λh=>?_))
   ·exact absurd h (by rw[hl0];simp)
   ·exact em
 ·have hrf:v.refs=V.aP v.l:=by rw[V.sF,aT7 hk]
  refine dR (CX v hk) (.cons (.x _) (.cons (.agg v.aT1) (.cons (.x _) .nil))) ?_;conv=>whnf
  refine bl ?_;refine bV mix (λa:Nat×List Int=>a.1<=v.l.length/\a.2=V.aP (v.l.take a.1)) (I:=λa=>[(1,.d (.sl 1 Lp)),(2,.fn (.func 131) [] [.lp 0 0]),(15,.d (.sl 5 (v.l.map V.row))),(16,.d (ci v.l.length)),(17,.d (ci a.1))])
   (J:=λa=>Jn a.2) (μ:=λa=>v.l.length -a.1) 200 (0,[]) ⟨sM,rfl⟩ mZ ?_
  rintro⟨i,R⟩ ⟨hi,hR⟩;dsimp only at hi hR⊢;have hRl:R.length<=V.dB v.l:=by rw[hR];exact cL (V.tT _) (V.kA _ _)
  cases R with
  |nil=>
   show vc _ _ _ _ _ [(0,.cells false [.d (.nl 1)])] _ _
   repeat'(first|refine bl ?_|refine bS (λh=>?_) (λh=>?_))
   ·refine eE V.cP rfl eD h ?_;have hcg:=V.dG v.l i h;have eB:=V.uQ v.l i h;rw[<-hR,bZ]at eB;conv=>whnf
    refine bl ?_;refine .fresh A.h (V0 1 Lp) (aEK Lp oM) rfl ?_;conv=>whnf
    skip
    refine TY rfl kK kK kK kK (show(bE Lp).length+1<=2^38 by simp only[bE,aB];omega) rfl rfl ?_;conv=>whnf
    skip
    by_cases hri:v.l[i].refs=[]
    ·refine .BL _ [] ((aJ.UZ (V:=[296]) (xs:=[.d (.agg v.l[i].aT1),.h 296,.fn (.func 131) [] [.x]]) (rL v.l[i] oM hri (Lp++[[ci i]]) (by simp only[aU,aQ,cS];omega)) (.v _) (.cons (.same _) (.cons (.same _) (.cons (.same _) .nil))) (.cons (.same _) (.cons (.rd (.os (eX rfl rfl) (pY Lp [ci i]))) (.same _))) rfl).mR (.cons (.agg (V.aT1 v.l[i])) (.cons (.same _) (.cons (.fn .nil (.cons (.x _) .nil)) .nil)))) ?_;conv=>whnf
     refine bl ?_;refine⟨(i+1,[]),dM,⟨dM,by dsimp only;rw[eB,hri]⟩,?_⟩;exact mZ
    ·refine .BL (.d (cb true)) [(0,.cells false [.h 2]),(2,dU 25 1 (iR v.l[i].refs))] ?_ ?_
     ·refine(aJ.UU (ih i h hri (Lp++[[ci i]]) (by simp only[aU,aQ,cS];omega)) (.v _) (g:=id) (gi:=id) YF YF (mb':=[(0,.cells false [.d (.nl 1)])]) ?_ ?_ [296] (xs':=[.d (.agg v.l[i].aT1),.h 296,.fn (.func 131) [] [.lp 0 0]]) (.cons (.same _) (.cons (.rd (.os (eX rfl rfl) (pY Lp [ci i]))) (.same _))) ?_ ?_ ?_ ?_ ?_ ?_ ?_).mR (.cons (.agg (V.aT1 v.l[i])) (.cons (.same _) (.cons (.same _) .nil)))
      ·simp only[lH,aG,bM,eT];rfl
      ·simp only[lH,aG,bM,eT];rfl
      all_goals(repeat'(first|exact aW|exact rfl|exact sn|exact rS sn|exact eV rfl|exact vL _ _|exact nY rfl|refine bI ?_ ?_))
     ·conv=>whnf
      refine bl ?_;refine⟨(i+1,v.l[i].refs),dM,⟨dM,by dsimp only;rw[eB]⟩,?_⟩;cases wV:v.l[i].refs with
      |nil=>exact absurd wV hri
      |cons r R=>exact mZ
   ·have e:v.l.take i=v.l:=aI oM;rw[e,<-hrf]at hR;exact absurd hR.symm hr
  |cons r R=>
   show vc _ _ _ _ _ [(0,.cells false [.h 2]),(2,dU 25 1 (iR (r::R)))] _ _
   repeat'(first|refine bl ?_|refine bS (λh=>?_) (λh=>?_))
   ·refine eE V.cP rfl eD h ?_;have hcg:=V.dG v.l i h;have eB:=V.uQ v.l i h;rw[<-hR]at eB;have hci:(r::R).length+v.l[i].cR<=V.dB v.l:=by
     have h1:=V.tT (v.l.take i);rw[<-hR]at h1;have h2:=V.CC v.l i h;have h3:=V.kA v.l (i+1);omega
    conv=>whnf
    refine bl ?_;refine .fresh A.h (V0 1 Lp) (aEK Lp oM) rfl ?_;conv=>whnf
    skip
    refine TY rfl kK kK kK kK (show(bE Lp).length+1<=2^38 by simp only[bE,aB];omega) rfl rfl ?_;conv=>whnf
    skip
    by_cases hri:v.l[i].refs=[]
    ·refine .BL _ [] ((aJ.UZ (V:=[296]) (xs:=[.d (.agg v.l[i].aT1),.h 296,.fn (.func 131) [] [.x]]) (rL v.l[i] oM hri (Lp++[[ci i]]) (by simp only[aU,aQ,cS];omega)) (.v _) (.cons (.same _) (.cons (.same _) (.cons (.same _) .nil))) (.cons (.same _) (.cons (.rd (.os (eX rfl rfl) (pY Lp [ci i]))) (.same _))) rfl).mR (.cons (.agg (V.aT1 v.l[i])) (.cons (.same _) (.cons (.fn .nil (.cons (.x _) .nil)) .nil)))) ?_;conv=>whnf
     refine bl ?_;refine⟨(i+1,r::R),dM,⟨dM,by dsimp only;rw[eB,hri,dS]⟩,?_⟩;exact mZ
    ·refine .BL (.d (cb true)) [(0,.cells false [.h 400]),(400,dU 25 1 (iR ((r::R)++v.l[i].refs))),(2,.dead)] ?_ ?_
     ·refine(aJ.UU (aF7 v.l[i] oM (V.EG _ QS.2 i h) hri (Lp++[[ci i]]) (by simp only[aU,aQ,cS];omega) ((r::R)) (by(try simp only[aU]);omega)) (.v _) (g:=g12 400) (gi:=g21 400) (aC9 400 eD) (aDA 400 eD) (mb':=[(0,.cells false [.h 2]),(2,dU 25 1 (iR ((r::R))))]) ?_ ?_ [296] (xs':=[.d (.agg v.l[i].aT1),.h 296,.fn (.func 131) [] [.lp 0 0]]) (.cons (.same _) (.cons (.rd (.os (eX rfl rfl) (pY Lp [ci i]))) (.same _))) ?_ ?_ ?_ ?_ ?_ ?_ ?_).mR (.cons (.agg (V.aT1 v.l[i])) (.cons (.same _) (.cons (.same _) .nil)))
      ·simp only[lH,aG,bM,eT];rfl
      ·simp only[lH,aG,bM,eT];rfl
      all_goals(repeat'(first|exact aW|exact rfl|exact sn|exact aZ|exact rS sn|exact eV rfl|exact vL _ _|exact nY rfl|refine bI ?_ ?_))
     ·conv=>whnf
      refine bl ?_;refine⟨(i+1,r::(R++v.l[i].refs)),dM,⟨dM,by dsimp only;rw[eB];rfl⟩,?_⟩;exact mv 400 2
   ·have e:v.l.take i=v.l:=aI oM;rw[e,<-hrf]at hR;rw[<-hR];exact em
 termination_by SizeOf.sizeOf v
end Go.Pv
