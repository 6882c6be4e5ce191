import Derived.Test.YtpdcbahjjmooiaaGreatA18
/- A program logic over the model, contracts of the functions that the law reaches: part 19. (Names and blanks were shortened by program.) -/
set_option linter.unusedVariables false
set_option linter.unusedSimpArgs false
set_option linter.constructorNameAsVariable false
set_option linter.unusedSectionVars false
set_option linter.deprecated false
set_option maxRecDepth 100000
set_option maxHeartbeats 8000000
open Go Go.Proofs
namespace Go.Pv
open Go.RowKit
theorem aA1:((List.range 64).all λk=>RK (yI Tryz.prog aA0 5 (.fn 254) [.d (.v (.int .u8 k))] .nil 1) (.d (ci (H6 k))))=true:=kK
theorem aED(x:Int)(h0:0<=x)(h1:x<=63):Pu 254 [.d (.v (.int .u8 x))] (.d (ci (H6 x))):=by
 obtain⟨k,rfl⟩:=lX h0;have:=cV.1 aA1 k (jI.2 oM);exact zO mix this rfl
theorem aD3:((List.range 256).all λk=> !TK k||decide (k<=63))=true:=kK
theorem aHS(x:Int)(h0:0<=x)(h1:x<256)(h:TK x=true):x<=63:=by
 obtain⟨k,rfl⟩:=lX h0;have:=cV.1 aD3 k (jI.2 oM);rw[h]at this;simp at this;omega
def aKT(x:Int):Bool:=TK x&&decide (H6 x=1)
theorem aGL(x:Int)(h0:0<=x)(h1:x<256):Pu 245 [.d (ck x)] (.d (cb (aKT x))):=by
 refine iC mix Tryz.func245 ?_;unfold aKT;have ham:=IB x;cases hm:TK x with
 |false=>
  rw[hm]at ham
  repeat'(first|refine bl ?_|refine aF ham (bw ?_))
  exact dP sM
 |true=>
  rw[hm]at ham
  repeat'(first|refine bl ?_|refine aF ham (bw ?_)|refine aF (aED x h0 (aHS x h0 h1 hm)) (bw ?_))
  all_goals exact dP (by simp_all)
def E4.MR(v:E4):Bool:=(v.me 512 16).1
theorem yD(v:E4)(hv:v.cR<=2^40):Pu 246 [.d (.agg v.cells)] (.d (cb v.MR)):=by
 refine iC mix Tryz.func246 ?_;have hc1:=KL v hv 512 16 oM oM oM oM;unfold E4.MR;generalize v.me 512 16=z1 at hc1⊢;obtain⟨b1,m1⟩:=z1
 repeat'(first|refine bl ?_|(refine lN 17 (fV m1) ((hc1.AK rfl (λg=>rfl) (λg=>rfl) rfl (by simp[A.lQ,A.hs]) (aK _) 17 rfl).mR (.cons (.agg v.cells) (.cons (.same _) (.cons (.same _) .nil)))) ?_;(conv=>whnf)))
 exact dP rfl
def E4.sW(v:E4):Bool:=v.sV||v.MR
theorem FR(v:E4)(hv:v.cR<=2^40):Pu 243 [.d (.agg v.cells)] (.d (cb v.sW)):=by
 refine iC mix Tryz.func243 ?_
 repeat'(first|refine bl ?_|refine bS (λh=>?_) (λh=>?_)|refine dR (wS v) (.cons (.agg v.cells) .nil) (bw ?_)|refine dR (yD v hv) (.cons (.agg v.cells) .nil) (bw ?_))
 all_goals(refine dP ?_;simp_all[E4.sW])
theorem uP{m:Mem}{L:List A}{cs:List C}{x y:Bool}(h:wJ m L cs)(e:x=y):A1 m (.eL [.agg L,.d (cb x)]) (.eL [.d (.agg cs),.d (cb y)]):=by
 subst e;exact .eL (cs:=[.agg cs,cb x]) (.cons (.agg h) (.cons (.d _) .nil))
abbrev E4.zero:E4:=.mk 0 0 ByteArray.empty []
def S4.aIX(v:S4):S4:=.mk 0 v.name .empty 0 0 (v.a) .zero [] [] [] []
def S4.aKL(v:S4):Bool:=hZ v.name&&v.a.sW
theorem aCZ(v:S4)(hv:v.cR<=2^40)(h0:0<=v.jR)(h1:v.jR<256):Pu 242 [.d (.agg v.cells)] (.eL [.d (.agg v.aIX.cells),.d (cb v.aKL)]):=by
 have hcd:=v.fA;have hca:v.a.cR<=2^40:=oM;have hcb:v.b.cR<=2^40:=oM;refine iC mix Tryz.func242 ?_
 repeat'(first|refine bl ?_|refine bS (λh=>?_) (λh=>?_)|refine cH (lF _) (bw ?_)|refine jV (FR v.a hca) (.cons (.agg v.a.cells) .nil) (bw ?_))
 all_goals(refine uP (by repeat'(first|exact .nil|refine .cons (.d _) ?_|refine .cons (.nz _ _) ?_)) ?_;simp_all[S4.aKL])
def S4.aIY(v:S4):S4:=.mk 0 v.name .empty v.jR 0 (v.a) (v.b) [] [] [] []
def S4.aKM(v:S4):Bool:=hZ v.name&&(aKT v.jR&&(v.a.MR&&(v.b.sW&&(v.b.sV||(decide (v.jR≠1)&&decide (v.jR≠32))))))
theorem aC0(v:S4)(hv:v.cR<=2^40)(h0:0<=v.jR)(h1:v.jR<256):Pu 244 [.d (.agg v.cells)] (.eL [.d (.agg v.aIY.cells),.d (cb v.aKM)]):=by
 have hcd:=v.fA;have hca:v.a.cR<=2^40:=oM;have hcb:v.b.cR<=2^40:=oM;refine iC mix Tryz.func244 ?_
 repeat'(first|refine bl ?_|refine bS (λh=>?_) (λh=>?_)|refine aF (lF _) (bw ?_)|refine aF (aGL v.jR h0 h1) (bw ?_)|refine dR (FR v.b hcb) (.cons (.agg v.b.cells) .nil) (bw ?_)|refine dR (yD v.a hca) (.cons (.agg v.a.cells) .nil) (bw ?_)|refine jV (wS v.b) (.cons (.agg v.b.cells) .nil) (bw ?_))
 all_goals(refine uP (by repeat'(first|exact .nil|refine .cons (.d _) ?_|refine .cons (.nz _ _) ?_)) ?_;simp_all[S4.aKM])
def S4.aIZ(v:S4):S4:=.mk 0 v.name .empty 0 0 (v.a) (v.b) [] [] [] []
def S4.aKN(v:S4):Bool:=hZ v.name&&(v.a.MR&&v.b.MR)
theorem aC1(v:S4)(hv:v.cR<=2^40)(h0:0<=v.jR)(h1:v.jR<256):Pu 248 [.d (.agg v.cells)] (.eL [.d (.agg v.aIZ.cells),.d (cb v.aKN)]):=by
 have hcd:=v.fA;have hca:v.a.cR<=2^40:=oM;have hcb:v.b.cR<=2^40:=oM;refine iC mix Tryz.func248 ?_
 repeat'(first|refine bl ?_|refine bS (λh=>?_) (λh=>?_)|refine cH (lF _) (bw ?_)|refine jV (yD v.a hca) (.cons (.agg v.a.cells) .nil) (bw ?_)|refine jV (yD v.b hcb) (.cons (.agg v.b.cells) .nil) (bw ?_))
 all_goals(refine uP (by repeat'(first|exact .nil|refine .cons (.d _) ?_|refine .cons (.nz _ _) ?_)) ?_;simp_all[S4.aKN])
def S4.aI0(v:S4):S4:=.mk 0 .empty .empty 0 0 (v.a) (v.b) v.t v.e [] []
def S4.aKO(v:S4):Bool:=v.a.sW&&v.b.sW
theorem aC2(v:S4)(hv:v.cR<=2^40)(h0:0<=v.jR)(h1:v.jR<256):Pu 249 [.d (.agg v.cells)] (.eL [.d (.agg v.aI0.cells),.d (cb v.aKO)]):=by
 have hcd:=v.fA;have hca:v.a.cR<=2^40:=oM;have hcb:v.b.cR<=2^40:=oM;refine iC mix Tryz.func249 ?_
 repeat'(first|refine bl ?_|refine bS (λh=>?_) (λh=>?_)|refine jV (FR v.a hca) (.cons (.agg v.a.cells) .nil) (bw ?_)|refine jV (FR v.b hcb) (.cons (.agg v.b.cells) .nil) (bw ?_))
 all_goals(refine uP (by repeat'(first|exact .nil|refine .cons (.d _) ?_|refine .cons (.nz _ _) ?_)) ?_;simp_all[S4.aKO])
def S4.aI1(v:S4):S4:=.mk 0 .empty .empty v.jR 0 (v.a) .zero v.t v.e [] []
def S4.aKP(v:S4):Bool:=v.a.MR&&TK v.jR
theorem aC3(v:S4)(hv:v.cR<=2^40)(h0:0<=v.jR)(h1:v.jR<256):Pu 250 [.d (.agg v.cells)] (.eL [.d (.agg v.aI1.cells),.d (cb v.aKP)]):=by
 have hcd:=v.fA;have hca:v.a.cR<=2^40:=oM;have hcb:v.b.cR<=2^40:=oM;refine iC mix Tryz.func250 ?_
 repeat'(first|refine bl ?_|refine bS (λh=>?_) (λh=>?_)|refine cH (IB v.jR) (bw ?_)|refine jV (yD v.a hca) (.cons (.agg v.a.cells) .nil) (bw ?_))
 all_goals(refine uP (by repeat'(first|exact .nil|refine .cons (.d _) ?_|refine .cons (.nz _ _) ?_)) ?_;simp_all[S4.aKP])
def S4.aI2(v:S4):S4:=.mk 0 .empty .empty 0 0 (v.a) .zero [] [] [] []
def S4.aKQ(v:S4):Bool:=v.a.sW
theorem aC4(v:S4)(hv:v.cR<=2^40)(h0:0<=v.jR)(h1:v.jR<256):Pu 251 [.d (.agg v.cells)] (.eL [.d (.agg v.aI2.cells),.d (cb v.aKQ)]):=by
 have hcd:=v.fA;have hca:v.a.cR<=2^40:=oM;have hcb:v.b.cR<=2^40:=oM;refine iC mix Tryz.func251 ?_
 repeat'(first|refine bl ?_|refine jV (FR v.a hca) (.cons (.agg v.a.cells) .nil) (bw ?_))
 all_goals(refine uP (by repeat'(first|exact .nil|refine .cons (.d _) ?_|refine .cons (.nz _ _) ?_)) ?_;simp_all[S4.aKQ])
def S4.aI3(v:S4):S4:=.mk 0 .empty .empty 0 0 .zero .zero [] [] [] []
def S4.aKR(v:S4):Bool:=true
theorem aC5(v:S4)(hv:v.cR<=2^40)(h0:0<=v.jR)(h1:v.jR<256):Pu 252 [.d (.agg v.cells)] (.eL [.d (.agg v.aI3.cells),.d (cb v.aKR)]):=by
 have hcd:=v.fA;have hca:v.a.cR<=2^40:=oM;have hcb:v.b.cR<=2^40:=oM;refine iC mix Tryz.func252 ?_;refine bl ?_
 all_goals(refine uP (by repeat'(first|exact .nil|refine .cons (.d _) ?_|refine .cons (.nz _ _) ?_)) ?_;simp_all[S4.aKR])
def S4.aI4(v:S4):S4:=.mk 0 v.name .empty 0 0 (v.a) .zero [] [] [] []
def S4.aKS(v:S4):Bool:=hZ v.name&&v.a.MR
theorem aC6(v:S4)(hv:v.cR<=2^40)(h0:0<=v.jR)(h1:v.jR<256):Pu 253 [.d (.agg v.cells)] (.eL [.d (.agg v.aI4.cells),.d (cb v.aKS)]):=by
 have hcd:=v.fA;have hca:v.a.cR<=2^40:=oM;have hcb:v.b.cR<=2^40:=oM;refine iC mix Tryz.func253 ?_
 repeat'(first|refine bl ?_|refine bS (λh=>?_) (λh=>?_)|refine cH (lF _) (bw ?_)|refine jV (yD v.a hca) (.cons (.agg v.a.cells) .nil) (bw ?_))
 all_goals(refine uP (by repeat'(first|exact .nil|refine .cons (.d _) ?_|refine .cons (.nz _ _) ?_)) ?_;simp_all[S4.aKS])
theorem S6(k:FuncId)(caps:List C)(p:ByteArray->Bool)(L:List ByteArray)(hf:∀i(h:i<L.length),∀m,aJ Tryz.prog k ([.d (.v (.string L[i]))]++caps.map A.d) m (.ok (.d (cb (p L[i])))) m)(hL:L.length<=2^40):Pu 259 [.d (.sl 1 (sR L)),.d (.fn (.func k) [] caps)] (.d (ci (idxOf p L))):=by
 refine iC mix Tryz.func259 ?_;refine bl ?_;refine bV mix (λi:Nat=>i<=L.length/\(L.take i).any p=false) (I:=λi=>[(0,.d (.sl 1 (sR L))),(1,.d (.fn (.func k) [] caps)),(7,.d (ci L.length)),(8,.d (ci i))])
  (J:=λi=>[]) (μ:=λi=>L.length -i) 100 0 ⟨oM,rfl⟩ (by exact mZ) ?_
 rintro i ⟨hi,h0⟩
 repeat'(first|refine bl ?_|refine bS (λh=>?_) (λh=>?_))
 ·refine cD rfl eD h ?_;conv=>whnf
  skip
  refine aF (hf i h) ?_;conv=>whnf
  repeat'(first|refine bl ?_|refine bS (λh=>?_) (λh=>?_))
  ·exact oF (CN p L i aM h0 aM).symm
  ·refine⟨i+1,oM,⟨oM,A2 p L i aM h0 aM⟩,?_⟩;exact mZ
 ·rw[aI oM]at h0;exact oF (CM p L h0).symm
theorem JD(k:FuncId)(caps:List C)(p:ByteArray->Bool)(L:List ByteArray)(hf:∀i(h:i<L.length),∀m,aJ Tryz.prog k ([.d (.v (.string L[i]))]++caps.map A.d) m (.ok (.d (cb (p L[i])))) m)(hL:L.length<=2^40):Pu 256 [.d (.sl 1 (sR L)),.d (.fn (.func k) [] caps)] (.d (cb (L.any p))):=by
 refine iC mix Tryz.func256 ?_;refine bl ?_;refine aF (S6 k caps p L hf hL) ?_;conv=>whnf
 refine bl ?_;exact dP (yH p L)
theorem aAV(s:ByteArray):Pu 257 [.d (.v (.string s))] (.d (cb (!hZ s))):=by
 refine iC mix Tryz.func257 ?_
 repeat'(first|refine bl ?_|refine aF (lF _) (bw ?_))
 exact dP rfl
def S4.sU(v:S4):S4:=
 if v.bQ=1 then .mk 0 v.name .empty 0 v.bQ v.a .zero [] [] [] []
 else if v.bQ=2\/v.bQ=3\/v.bQ=4\/v.bQ=8 then .mk 0 v.name .empty 0 v.bQ .zero .zero [] [] [] []
 else if v.bQ=14 then .mk 0 v.name .empty v.jR v.bQ v.a .zero [] [] [] []
 else if v.bQ=15\/v.bQ=16 then .mk 0 v.name v.second 0 v.bQ v.a .zero [] [] [] []
 else if v.bQ=5\/v.bQ=10 then .mk 0 v.name v.second 0 v.bQ .zero .zero [] [] [] []
 else if v.bQ=12 then .mk 0 v.name .empty 0 v.bQ .zero .zero [] [] v.c v.w
 else .mk 0 v.name .empty 0 v.bQ .zero .zero [] [] [] []
def S4.pL(v:S4):Bool:=
 if v.bQ=1 then hZ v.name&&v.a.sW
 else if v.bQ=2\/v.bQ=3\/v.bQ=4\/v.bQ=8 then hZ v.name
 else if v.bQ=14 then hZ v.name&&(v.a.MR&&TK v.jR)
 else if v.bQ=15\/v.bQ=16 then hZ v.name&&(v.a.MR&&(hZ v.second&&decide (v.second≠v.name)))
 else if v.bQ=5\/v.bQ=10 then hZ v.name&&(hZ v.second&&decide (v.second≠v.name))
 else if v.bQ=12 then hZ v.name&&(decide (v.w.length<=64)&&(!(v.w.any λs=> !hZ s)&&decide v.w.Nodup))
 else false
theorem aD2(v:S4)(hv:v.cR<=2^38):Pu 247 [.d (.agg v.cells)] (.eL [.d (.agg v.sU.cells),.d (cb v.pL)]):=by
 have hcd:=v.fA;have hca:v.a.cR<=2^40:=oM;have hcw:v.w.length<=2^38:=oM;refine iC mix Tryz.func247 ?_
 repeat'(first|refine bl ?_|refine bS (λh=>?_) (λh=>?_)|refine aF (lF _) (bw ?_)|refine cH (lF _) (bw ?_)|refine cH (IB v.jR) (bw ?_)|refine jV (FR v.a hca) (.cons (.agg v.a.cells) .nil) (bw ?_)|refine jV (yD v.a hca) (.cons (.agg v.a.cells) .nil) (bw ?_)|refine cH (UT v.w hcw) (bw ?_)|refine cH (JD 257 [] (λs=> !hZ s) v.w (λi h=>aAV v.w[i]) oM) (bw ?_))
 all_goals first
  |(have e:v.sU=.mk 0 v.name .empty 0 v.bQ v.a .zero [] [] [] []:=by unfold S4.sU;rw[if_pos oM]
    rw[e];refine uP (by repeat'(first|exact .nil|refine .cons (.d _) ?_|refine .cons (.nz _ _) ?_)) ?_
    unfold S4.pL;rw[if_pos oM];(try(first|(simp_all;done)|(rw[decide_eq_false (by omega:¬v.w.length<=64)];simp;done)|(rw[decide_eq_true (by omega:v.w.length<=64)];simp_all;done)|(obtain⟨x,hx,hxe⟩:=h;rw[show(v.w.any λs=> !hZ s)=true from dQ.2 ⟨x,hx,by simp[hxe]⟩];simp;done)|(rename_i hxx _;obtain⟨x,hx,hxe⟩:=hxx;rw[show(v.w.any λs=> !hZ s)=true from dQ.2 ⟨x,hx,by simp[hxe]⟩];simp;done)));done)
  |(have e:v.sU=.mk 0 v.name .empty 0 v.bQ .zero .zero [] [] [] []:=by unfold S4.sU;rw[if_neg oM,if_pos oM]
    rw[e];refine uP (by repeat'(first|exact .nil|refine .cons (.d _) ?_|refine .cons (.nz _ _) ?_)) ?_
    unfold S4.pL;rw[if_neg oM,if_pos oM];(try(first|(simp_all;done)|(rw[decide_eq_false (by omega:¬v.w.length<=64)];simp;done)|(rw[decide_eq_true (by omega:v.w.length<=64)];simp_all;done)|(obtain⟨x,hx,hxe⟩:=h;rw[show(v.w.any λs=> !hZ s)=true from dQ.2 ⟨x,hx,by simp[hxe]⟩];simp;done)|(rename_i hxx _;obtain⟨x,hx,hxe⟩:=hxx;rw[show(v.w.any λs=> !hZ s)=true from dQ.2 ⟨x,hx,by simp[hxe]⟩];simp;done)));done)
  |(have e:v.sU=.mk 0 v.name .empty v.jR v.bQ v.a .zero [] [] [] []:=by unfold S4.sU;rw[if_neg oM,if_neg oM,if_pos oM]
    rw[e];refine uP (by repeat'(first|exact .nil|refine .cons (.d _) ?_|refine .cons (.nz _ _) ?_)) ?_
    unfold S4.pL;rw[if_neg oM,if_neg oM,if_pos oM];(try(first|(simp_all;done)|(rw[decide_eq_false (by omega:¬v.w.length<=64)];simp;done)|(rw[decide_eq_true (by omega:v.w.length<=64)];simp_all;done)|(obtain⟨x,hx,hxe⟩:=h;rw[show(v.w.any λs=> !hZ s)=true from dQ.2 ⟨x,hx,by simp[hxe]⟩];simp;done)|(rename_i hxx _;obtain⟨x,hx,hxe⟩:=hxx;rw[show(v.w.any λs=> !hZ s)=true from dQ.2 ⟨x,hx,by simp[hxe]⟩];simp;done)));done)
  |(have e:v.sU=.mk 0 v.name v.second 0 v.bQ v.a .zero [] [] [] []:=by unfold S4.sU;rw[if_neg oM,if_neg oM,if_neg oM,if_pos oM]
    rw[e];refine uP (by repeat'(first|exact .nil|refine .cons (.d _) ?_|refine .cons (.nz _ _) ?_)) ?_
    unfold S4.pL;rw[if_neg oM,if_neg oM,if_neg oM,if_pos oM];(try(first|(simp_all;done)|(rw[decide_eq_false (by omega:¬v.w.length<=64)];simp;done)|(rw[decide_eq_true (by omega:v.w.length<=64)];simp_all;done)|(obtain⟨x,hx,hxe⟩:=h;rw[show(v.w.any λs=> !hZ s)=true from dQ.2 ⟨x,hx,by simp[hxe]⟩];simp;done)|(rename_i hxx _;obtain⟨x,hx,hxe⟩:=hxx;rw[show(v.w.any λs=> !hZ s)=true from dQ.2 ⟨x,hx,by simp[hxe]⟩];simp;done)));done)
  |(have e:v.sU=.mk 0 v.name v.second 0 v.bQ .zero .zero [] [] [] []:=by unfold S4.sU;rw[if_neg oM,if_neg oM,if_neg oM,if_neg oM,if_pos oM]
    rw[e];refine uP (by repeat'(first|exact .nil|refine .cons (.d _) ?_|refine .cons (.nz _ _) ?_)) ?_
    unfold S4.pL;rw[if_neg oM,if_neg oM,if_neg oM,if_neg oM,if_pos oM];(try(first|(simp_all;done)|(rw[decide_eq_false (by omega:¬v.w.length<=64)];simp;done)|(rw[decide_eq_true (by omega:v.w.length<=64)];simp_all;done)|(obtain⟨x,hx,hxe⟩:=h;rw[show(v.w.any λs=> !hZ s)=true from dQ.2 ⟨x,hx,by simp[hxe]⟩];simp;done)|(rename_i hxx _;obtain⟨x,hx,hxe⟩:=hxx;rw[show(v.w.any λs=> !hZ s)=true from dQ.2 ⟨x,hx,by simp[hxe]⟩];simp;done)));done)
  |(have e:v.sU=.mk 0 v.name .empty 0 v.bQ .zero .zero [] [] v.c v.w:=by unfold S4.sU;rw[if_neg oM,if_neg oM,if_neg oM,if_neg oM,if_neg oM,if_pos oM]
    rw[e];refine uP (by repeat'(first|exact .nil|refine .cons (.d _) ?_|refine .cons (.nz _ _) ?_)) ?_
    unfold S4.pL;rw[if_neg oM,if_neg oM,if_neg oM,if_neg oM,if_neg oM,if_pos oM];(try(first|(simp_all;done)|(rw[decide_eq_false (by omega:¬v.w.length<=64)];simp;done)|(rw[decide_eq_true (by omega:v.w.length<=64)];simp_all;done)|(obtain⟨x,hx,hxe⟩:=h;rw[show(v.w.any λs=> !hZ s)=true from dQ.2 ⟨x,hx,by simp[hxe]⟩];simp;done)|(rename_i hxx _;obtain⟨x,hx,hxe⟩:=hxx;rw[show(v.w.any λs=> !hZ s)=true from dQ.2 ⟨x,hx,by simp[hxe]⟩];simp;done)));done)
  |(have e:v.sU=.mk 0 v.name .empty 0 v.bQ .zero .zero [] [] [] []:=by unfold S4.sU;rw[if_neg oM,if_neg oM,if_neg oM,if_neg oM,if_neg oM,if_neg oM]
    rw[e];refine uP (by repeat'(first|exact .nil|refine .cons (.d _) ?_|refine .cons (.nz _ _) ?_)) ?_
    unfold S4.pL;rw[if_neg oM,if_neg oM,if_neg oM,if_neg oM,if_neg oM,if_neg oM];(try(first|(simp_all;done)|(rw[decide_eq_false (by omega:¬v.w.length<=64)];simp;done)|(rw[decide_eq_true (by omega:v.w.length<=64)];simp_all;done)|(obtain⟨x,hx,hxe⟩:=h;rw[show(v.w.any λs=> !hZ s)=true from dQ.2 ⟨x,hx,by simp[hxe]⟩];simp;done)|(rename_i hxx _;obtain⟨x,hx,hxe⟩:=hxx;rw[show(v.w.any λs=> !hZ s)=true from dQ.2 ⟨x,hx,by simp[hxe]⟩];simp;done)));done)
abbrev kB(n:Int):Ky:=.one (.int .u8 n)
def CJ:List (Ky×A):=[(kB 1,.fn (.func 242) [] []),(kB 2,.fn (.func 244) [] []),(kB 3,.fn (.func 247) [] []),(kB 4,.fn (.func 248) [] []),(kB 5,.fn (.func 249) [] []),(kB 6,.fn (.func 250) [] []),(kB 7,.fn (.func 251) [] []),(kB 8,.fn (.func 252) [] []),(kB 9,.fn (.func 253) [] [])]
def P4:R:=.mp false CJ []
theorem NT:∀(m:Mem)(d:Nat),m d=none->aJ Tryz.prog 237 [] m (.ok (.h d)) (aX m d P4):=by
 refine iW mix (F:=A.h) (r:=P4) Tryz.func237 rfl kK (bD rfl) rfl rfl (λ_ _=>rfl) (λi j hj=>by simpa [A.hs]using hj) (λg=>rfl) ?_
 repeat'(first|refine bl ?_|refine aB4.BP kK kK (bw ?_))
 exact⟨_,rfl,rfl⟩
def S4.KM(v b:S4)(ok:Bool):Bool:=ok&&(decide (v.name=b.name)&&(decide (v.second=b.second)&&(decide (v.jR=b.jR)&&(decide (v.bQ=b.bQ)&&(decide (b.a.sV=v.a.sV)&&(decide (b.b.sV=v.b.sV)&&(decide (b.t.length=v.t.length)&&(decide (b.e.length=v.e.length)&&(decide (b.c.length=v.c.length)&&decide (b.w.length=v.w.length))))))))))
theorem aKC(v:S4)(hk:fL (kB v.op) CJ=none)(hf:kH Tryz.prog 203 (kB v.op) CJ=true):Pu 233 [.d (.agg v.cells)] (.d (cb false)):=by
 refine iC mix Tryz.func233 ?_
 repeat'(first|refine bl ?_|refine xQ.fresh A.h P4 NT rfl (bw ?_))
 refine .BP hf hk ?_;conv=>whnf
 refine bl ?_;exact dP rfl
theorem aNF{v b:S4}{ok:Bool}(h1:ok=true)(h2:v.name=b.name)(h3:v.second=b.second)(h4:v.jR=b.jR)(h5:v.bQ=b.bQ)(h6:b.a.sV=v.a.sV)(h7:b.b.sV=v.b.sV)(h8:(b.t.length:Int)=v.t.length)(h9:(b.e.length:Int)=v.e.length)(h10:(b.c.length:Int)=v.c.length):
 decide ((b.w.length:Int)=v.w.length)=(ok&&(decide (v.name=b.name)&&(decide (v.second=b.second)&&(decide (v.jR=b.jR)&&(decide (v.bQ=b.bQ)&&(decide (b.a.sV=v.a.sV)&&(decide (b.b.sV=v.b.sV)&&(decide (b.t.length=v.t.length)&&(decide (b.e.length=v.e.length)&&(decide (b.c.length=v.c.length)&&decide (b.w.length=v.w.length))))))))))):=by
 rw[h1,decide_eq_true h2,decide_eq_true h3,decide_eq_true h4,decide_eq_true h5,decide_eq_true h6,decide_eq_true h7,decide_eq_true (by omega:b.t.length=v.t.length),decide_eq_true (by omega:b.e.length=v.e.length),decide_eq_true (by omega:b.c.length=v.c.length),show decide ((b.w.length:Int)=v.w.length)=decide (b.w.length=v.w.length)from decide_eq_decide.2 oM];simp
theorem yN(v b:S4)(ok:Bool)(k:FuncId)(hk:fL (kB v.op) CJ=some (.fn (.func k) [] []))(hf:kH Tryz.prog 203 (kB v.op) CJ=true)(hc:Pu k [.d (.agg v.cells)] (.eL [.d (.agg b.cells),.d (cb ok)])):Pu 233 [.d (.agg v.cells)] (.d (cb (v.KM b ok))):=by
 refine iC mix Tryz.func233 ?_
 repeat'(first|refine bl ?_|refine xQ.fresh A.h P4 NT rfl (bw ?_))
 refine .CL _ hf hk ?_;conv=>whnf
 repeat'(first|refine bl ?_|refine bS (λh=>?_) (λh=>?_)|refine dR hc (.cons (.agg v.cells) .nil) (bw ?_)|refine jV (wS b.a) (.cons (.agg b.a.cells) .nil) (bw ?_)|refine jV (wS b.b) (.cons (.agg b.b.cells) .nil) (bw ?_)|refine jV (wS v.a) (.cons (.agg v.a.cells) .nil) (bw ?_)|refine jV (wS v.b) (.cons (.agg v.b.cells) .nil) (bw ?_))
 all_goals(refine dP ?_;unfold S4.KM;first|(simp_all;done)|(simp_all;omega;done)|(simp only[aB];exact aNF aM aM aM aM aM aM aM aM aM aM))
def S4.aKB(v:S4):Bool:=
 if v.op=1 then v.KM v.aIX v.aKL else if v.op=2 then v.KM v.aIY v.aKM else if v.op=3 then v.KM v.sU v.pL else if v.op=4 then v.KM v.aIZ v.aKN else if v.op=5 then v.KM v.aI0 v.aKO
 else if v.op=6 then v.KM v.aI1 v.aKP else if v.op=7 then v.KM v.aI2 v.aKQ else if v.op=8 then v.KM v.aI3 v.aKR else if v.op=9 then v.KM v.aI4 v.aKS else false
theorem Z9(x:Int):kH Tryz.prog 203 (kB x) CJ=true:=kK
theorem aFV(v:S4)(hv:v.cR<=2^38)(ha:0<=v.jR/\v.jR<256):Pu 233 [.d (.agg v.cells)] (.d (cb v.aKB)):=by
 have hf:=Z9 v.op;have hv2:v.cR<=2^40:=oM;unfold S4.aKB;by_cases h1:v.op=1
 ·rw[if_pos h1];exact yN v _ _ _ (by rw[h1];rfl) hf (aCZ v hv2 ha.1 ha.2)
 rw[if_neg h1];by_cases h2:v.op=2
 ·rw[if_pos h2];exact yN v _ _ _ (by rw[h2];rfl) hf (aC0 v hv2 ha.1 ha.2)
 rw[if_neg h2];by_cases h3:v.op=3
 ·rw[if_pos h3];exact yN v _ _ _ (by rw[h3];rfl) hf (aD2 v hv)
 rw[if_neg h3];by_cases h4:v.op=4
 ·rw[if_pos h4];exact yN v _ _ _ (by rw[h4];rfl) hf (aC1 v hv2 ha.1 ha.2)
 rw[if_neg h4];by_cases h5:v.op=5
 ·rw[if_pos h5];exact yN v _ _ _ (by rw[h5];rfl) hf (aC2 v hv2 ha.1 ha.2)
 rw[if_neg h5];by_cases h6:v.op=6
 ·rw[if_pos h6];exact yN v _ _ _ (by rw[h6];rfl) hf (aC3 v hv2 ha.1 ha.2)
 rw[if_neg h6];by_cases h7:v.op=7
 ·rw[if_pos h7];exact yN v _ _ _ (by rw[h7];rfl) hf (aC4 v hv2 ha.1 ha.2)
 rw[if_neg h7];by_cases h8:v.op=8
 ·rw[if_pos h8];exact yN v _ _ _ (by rw[h8];rfl) hf (aC5 v hv2 ha.1 ha.2)
 rw[if_neg h8];by_cases h9:v.op=9
 ·rw[if_pos h9];exact yN v _ _ _ (by rw[h9];rfl) hf (aC6 v hv2 ha.1 ha.2)
 rw[if_neg h9];refine aKC v ?_ hf;unfold CJ;simp only[fL,kB,Ky.one.injEq,KC.int.injEq,true_and,h1,h2,h3,h4,h5,h6,h7,h8,h9,if_false]
def S4.tl(v:S4)(n:Int):Bool×Int×Int:=if n=512 then(false,512,4)else if v.aKB=true then(true,0,0)else(false,n,160)
mutual
def S4.wk:S4->Int->Bool×Int×Int×Int
 |.mk op n1 n2 ab wh a b t e c w,n=>match S4.tl (.mk op n1 n2 ab wh a b t e c w) n with
  |(false,q)=>(false,n+1,q)
  |(true,_)=>match S4.vS t (n+1)with
   |(false,q)=>(false,q)
   |(true,m,_)=>match S4.vS e m with
    |(false,q)=>(false,q)
    |(true,m,_)=>S4.vS c m
def S4.vS:List S4->Int->Bool×Int×Int×Int
 |[],n=>(true,n,0,0)
 |v::r,n=>match S4.wk v n with
  |(false,q)=>(false,q)
  |(true,m,_)=>S4.vS r m
end
theorem S4.aLC(v:S4)(n:Int):v.wk n=match v.tl n with
 |(false,q)=>(false,n+1,q)
 |(true,_)=>match S4.vS v.t (n+1)with
  |(false,q)=>(false,q)
  |(true,m,_)=>match S4.vS v.e m with
   |(false,q)=>(false,q)
   |(true,m,_)=>S4.vS v.c m:=by cases v;rw[S4.wk];rfl
abbrev WE(q:Bool×Int×Int×Int):Prop:=0<=q.2.1/\q.2.1<=513/\(q.1=true->q.2.1<=512/\q.2.2=(0,0))
theorem S4.aF3(v:S4)(n:Int):(v.tl n).1=true->n≠512/\(v.tl n).2=(0,0):=by
 unfold S4.tl;split
 ·simp
 ·split
  ·intro;exact⟨aM,rfl⟩
  ·simp
mutual
theorem S4.aMY:∀(v:S4)(n:Int),0<=n->n<=512->WE (v.wk n)
 |.mk op n1 n2 ab wh a b t e c w,n,h0,h1=>by
  rw[S4.wk];have h2:=S4.aF3 (.mk op n1 n2 ab wh a b t e c w) n;generalize S4.tl (.mk op n1 n2 ab wh a b t e c w) n=q at h2⊢;obtain⟨x,y⟩:=q;cases x with
  |false=>simp[WE];omega
  |true=>
   have i1:=S4.wI t (n+1) oM (by have:=(h2 rfl).1;omega);dsimp only;generalize S4.vS t (n+1)=q at i1⊢;obtain⟨x,m,z⟩:=q;cases x with
   |false=>exact i1
   |true=>
    have i2:=S4.wI e m i1.1 (i1.2.2 rfl).1;dsimp only;generalize S4.vS e m=q2 at i2⊢;obtain⟨y,k,z2⟩:=q2;cases y with
    |false=>exact i2
    |true=>exact S4.wI c k i2.1 (i2.2.2 rfl).1
theorem S4.wI:∀(l:List S4)(n:Int),0<=n->n<=512->WE (S4.vS l n)
 |[],n,h0,h1=>by rw[S4.vS];simp[WE];omega
 |v::r,n,h0,h1=>by
  rw[S4.vS];have i1:=S4.aMY v n h0 h1;generalize S4.wk v n=q at i1⊢;obtain⟨x,m,z⟩:=q;cases x with
  |false=>exact i1
  |true=>exact S4.wI r m i1.1 (i1.2.2 rfl).1
end
theorem S4.aF9(l:List S4)(i:Nat)(h:i<l.length)(n:Int):S4.vS (l.drop i) n=match S4.wk l[i] n with
 |(false,q)=>(false,q)
 |(true,m,_)=>S4.vS (l.drop (i+1)) m:=by
 rw[dE h,S4.vS]
def AW(n a e:Int):List (Nat×R):=[(0,fV n),(1,fV a),(2,fV e)]
theorem ZT(v:S4)(hv:v.cR<=2^38)(ha:0<=v.jR/\v.jR<256)(q n d:Int):aJ Tryz.prog 232 [.d (ci n),.d (ci d),.d (.agg v.cells),.lp 1 0,.lp 2 0] (aK (AW q 0 0)) (.ok (.d (cb (v.tl n).1))) (aH (aK (AW q 0 0)) [(1,fV (v.tl n).2.1),(2,fV (v.tl n).2.2)]):=by
 refine wE mix 100 Tryz.func232 trivial ⟨trivial,trivial,trivial⟩ ?_
 repeat'(first|refine bl ?_|refine bS (λh=>?_) (λh=>?_)|refine dR (aFV v hv ha) (.cons (.agg v.cells) .nil) (bw ?_))
 all_goals(first
  |(have e:v.tl n=(false,512,4):=by unfold S4.tl;simp_all
    rw[e]
    subst_vars
    exact em;done)
  |(have e:v.tl n=(true,0,0):=by unfold S4.tl;simp_all
    rw[e]
    exact em;done)
  |(have e:v.tl n=(false,n,160):=by unfold S4.tl;simp_all
    rw[e]
    exact em;done)
  |skip)
mutual
def S4.ab:S4->Prop
 |.mk _ _ _ x _ _ _ t e c _=>(0<=x/\x<256)/\S4.RF t/\S4.RF e/\S4.RF c
def S4.RF:List S4->Prop
 |[]=>True
 |v::r=>S4.ab v/\S4.RF r
end
theorem S4.aJM(v:S4)(h:v.ab):(0<=v.jR/\v.jR<256)/\S4.RF v.t/\S4.RF v.e/\S4.RF v.c:=by cases v;exact h
theorem S4.XE:∀(l:List S4)(i:Nat)(h:i<l.length),S4.RF l->l[i].ab
 |v::r,0,h,hl=>hl.1
 |v::r,i+1,h,hl=>S4.XE r i (by simpa using h) hl.2
def mS:List (List S4)->Int->Bool×Int×Int×Int
 |[],n=>(true,n,0,0)
 |b::r,n=>match S4.vS b n with
  |(false,q)=>(false,q)
  |(true,m,_)=>mS r m
theorem S4.aB1(v:S4)(n:Int)(h0:0<=n)(h1:n<=512):v.wk n=match v.tl n with
 |(false,q)=>(false,n+1,q)
 |(true,_)=>mS [v.t,v.e,v.c] (n+1):=by
 rw[S4.aLC];have h2:=S4.aF3 v n;generalize v.tl n=q at h2⊢;obtain⟨x,y⟩:=q;cases x with
 |false=>rfl
 |true=>
  have hb1:=S4.wI v.t (n+1) oM (by have:=(h2 rfl).1;omega);dsimp only;rw[mS];generalize S4.vS v.t (n+1)=q1 at hb1⊢;obtain⟨x1,m1,z1⟩:=q1;cases x1 with
  |false=>rfl
  |true=>
   have hb2:=S4.wI v.e m1 hb1.1 (hb1.2.2 rfl).1;dsimp only;rw[mS];generalize S4.vS v.e m1=q2 at hb2⊢;obtain⟨x2,m2,z2⟩:=q2;cases x2 with
   |false=>rfl
   |true=>
    have hb3:=S4.wI v.c m2 hb2.1 (hb2.2.2 rfl).1;dsimp only;rw[mS];generalize S4.vS v.c m2=q3 at hb3⊢;obtain⟨x3,m3,z3⟩:=q3;cases x3 with
    |false=>rfl
    |true=>
     have:=(hb3.2.2 rfl).2;simp only at this;subst this;rfl
abbrev aM3(v:S4):List (List C):=[[jX v.t],[jX v.e],[jX v.c]]
abbrev UK:A:=.fn (.func 232) [] [.lp 1 0,.lp 2 0]
theorem R0(l:List S4)(hv:S4.dB l<=2^38)(ha:S4.RF l)(d n:Int)(hd:0<=d)(hd2:d+S4.dB l<=2^40)(h0:0<=n)(h1:n<=512):aJ Tryz.prog 231 [.d (jX l),.d (ci d),.lp 0 0,UK] (aK (AW n 0 0)) (.ok (.d (cb (S4.vS l n).1))) (aH (aK (AW n 0 0)) [(0,fV (S4.vS l n).2.1),(1,fV (S4.vS l n).2.2.1),(2,fV (S4.vS l n).2.2.2)]):=by
 have hl:=S4.eW l;refine wE mix 100 Tryz.func231 trivial ⟨trivial,trivial,trivial,trivial⟩ ?_;refine bl ?_;refine bV mix (λa:Nat×Int=>a.1<=l.length/\(0<=a.2/\a.2<=512)/\S4.vS (l.drop a.1) a.2=S4.vS l n) (I:=λa=>[(1,.d (ci d)),(2,.lp 0 0),(3,UK),(14,.d (jX l)),(15,.d (ci l.length)),(16,.d (ci a.1))])
  (J:=λa=>AW a.2 0 0) (μ:=λa=>l.length -a.1) 100 (0,n) ⟨dM,⟨h0,h1⟩,rfl⟩ (by exact mZ) ?_
 rintro⟨i,q⟩ ⟨hi,hqb,hq⟩;dsimp only at hi hq hqb⊢
 repeat'(first|refine bl ?_|refine bS (λh=>?_) (λh=>?_)|refine eE S4.cP rfl eD aM (bw ?_))
 ·exfalso;omega
 ·have hlt:i<l.length:=aM;have hcg:=S4.dG l i hlt;have hcd:=l[i].fA;have hab:=S4.XE l i hlt ha;have hab2:=S4.aJM _ hab;have hdr:=S4.aF9 l i hlt q;rw[S4.aB1 _ _ hqb.1 hqb.2]at hdr;have hc1:=ZT l[i] oM hab2.1 (q+1) q d;have htb:=S4.aF3 l[i] q;generalize S4.tl l[i] q=z at hc1 htb hdr;obtain⟨b,a1,e1⟩:=z;refine dZ.mk (.d (cb b)) [(1,fV a1),(2,fV e1)] ((aJ.l8 hc1 ⟨sn,sn,trivial⟩ ⟨rfl,rfl,rfl,trivial⟩ ⟨trivial,trivial,trivial,trivial⟩ ⟨.inl sn,.inl sn,trivial⟩).mR (.cons (.same _) (.cons (.same _) (.cons (.agg l[i].cells) (.cons (.same _) (.cons (.same _) .nil)))))) ?_;conv=>whnf
  cases b with
  |false=>
   refine bl ?_;have e:S4.vS l n=(false,q+1,a1,e1):=by rw[<-hq,hdr]
   rw[e];exact em
  |true=>
   obtain⟨hq5,h00⟩:=htb rfl;simp only[aD]at h00;obtain⟨rfl,rfl⟩:=h00;dsimp only at hdr;refine bl ?_;refine cY mix (λa:Nat×Int=>a.1<=3/\(0<=a.2/\a.2<=512)/\mS ([l[i].t,l[i].e,l[i].c].drop a.1) a.2=mS [l[i].t,l[i].e,l[i].c] (q+1)) (I:=λa=>[(1,.d (ci d)),(2,.lp 0 0),(3,UK),(14,.d (jX l)),(15,.d (ci l.length)),(16,.d (ci i)),(44,.h 900),(45,.d (ci 3)),(46,.d (ci a.1))])
    (J:=λa=>(900,dU 29 1 (aM3 l[i]))::AW a.2 0 0) (μ:=λa=>3 -a.1) 2000 (0,q+1) 2
    (λm:Int=>(0<=m/\m<=512)/\mS [l[i].t,l[i].e,l[i].c] (q+1)=(true,m,0,0)) (λm=>[(1,.d (ci d)),(2,.lp 0 0),(3,UK),(14,.d (jX l)),(15,.d (ci l.length)),(16,.d (ci i))]) (λm=>AW m 0 0) 4000 ⟨dM,dM,rfl⟩ (by exact mv 348 900) ?_ ?_
   ·rintro⟨j,m⟩ ⟨hj,hm,hw⟩;dsimp only at hj hm hw⊢;have step:∀b:List S4,S4.dB b<S4.dB l->S4.RF b->aJ Tryz.prog 231 [.d (jX b),.d (ci (d+1)),.lp 0 0,UK] (aK (AW m 0 0)) (.ok (.d (cb (S4.vS b m).1))) (aH (aK (AW m 0 0)) [(0,fV (S4.vS b m).2.1),(1,fV (S4.vS b m).2.2.1),(2,fV (S4.vS b m).2.2.2)]):=λb hb hb2=>R0 b oM hb2 (d+1) m oM oM hm.1 hm.2;obtain rfl|rfl|rfl|rfl:j=0\/j=1\/j=2\/j=3:=oM
    ·skip
     repeat'(first|refine bl ?_|refine lG.mk 0 rfl (by simp[bE]) (bw ?_))
     have hc2:=step l[i].t oM hab2.2.1;have hb2:=S4.wI l[i].t m hm.1 hm.2;simp only[vZ,n6]at hw;rw[mS]at hw;generalize S4.vS l[i].t m=z at hc2 hb2 hw;obtain⟨b,m2,a2,e2⟩:=z;refine dZ.mk (.d (cb b)) [(0,fV m2),(1,fV a2),(2,fV e2)] (aJ.l8 hc2 ⟨sn,sn,sn,trivial⟩ ⟨rfl,rfl,rfl,trivial⟩ ⟨trivial,trivial,trivial,trivial⟩ ⟨.inl sn,.inl sn,.inl sn,trivial⟩) ?_;conv=>whnf
     cases b with
     |false=>
      refine bl ?_;have e:S4.vS l n=(false,m2,a2,e2):=by rw[<-hq,hdr,<-hw]
      rw[e];exact em
     |true=>
      obtain⟨g1,g2,g3⟩:=hb2;obtain⟨g4,g5⟩:=g3 rfl;simp only[aD]at g5;obtain⟨rfl,rfl⟩:=g5;dsimp only at hw g1 g4;refine bl ?_;refine⟨(1,m2),dM,⟨dM,⟨g1,g4⟩,?_⟩,?_⟩
      ·dsimp only;exact hw
      ·exact mZ
    ·skip
     repeat'(first|refine bl ?_|refine lG.mk 1 rfl (by simp[bE]) (bw ?_))
     have hc2:=step l[i].e oM hab2.2.2.1;have hb2:=S4.wI l[i].e m hm.1 hm.2;simp only[vZ,n6]at hw;rw[mS]at hw;generalize S4.vS l[i].e m=z at hc2 hb2 hw;obtain⟨b,m2,a2,e2⟩:=z;refine dZ.mk (.d (cb b)) [(0,fV m2),(1,fV a2),(2,fV e2)] (aJ.l8 hc2 ⟨sn,sn,sn,trivial⟩ ⟨rfl,rfl,rfl,trivial⟩ ⟨trivial,trivial,trivial,trivial⟩ ⟨.inl sn,.inl sn,.inl sn,trivial⟩) ?_;conv=>whnf
     cases b with
     |false=>
      refine bl ?_;have e:S4.vS l n=(false,m2,a2,e2):=by rw[<-hq,hdr,<-hw]
      rw[e];exact em
     |true=>
      obtain⟨g1,g2,g3⟩:=hb2;obtain⟨g4,g5⟩:=g3 rfl;simp only[aD]at g5;obtain⟨rfl,rfl⟩:=g5;dsimp only at hw g1 g4;refine bl ?_;refine⟨(2,m2),dM,⟨dM,⟨g1,g4⟩,?_⟩,?_⟩
      ·dsimp only;exact hw
      ·exact mZ
    ·skip
     repeat'(first|refine bl ?_|refine lG.mk 2 rfl (by simp[bE]) (bw ?_))
     have hc2:=step l[i].c oM hab2.2.2.2;have hb2:=S4.wI l[i].c m hm.1 hm.2;simp only[vZ,n6]at hw;rw[mS]at hw;generalize S4.vS l[i].c m=z at hc2 hb2 hw;obtain⟨b,m2,a2,e2⟩:=z;refine dZ.mk (.d (cb b)) [(0,fV m2),(1,fV a2),(2,fV e2)] (aJ.l8 hc2 ⟨sn,sn,sn,trivial⟩ ⟨rfl,rfl,rfl,trivial⟩ ⟨trivial,trivial,trivial,trivial⟩ ⟨.inl sn,.inl sn,.inl sn,trivial⟩) ?_;conv=>whnf
     cases b with
     |false=>
      refine bl ?_;have e:S4.vS l n=(false,m2,a2,e2):=by rw[<-hq,hdr,<-hw]
      rw[e];exact em
     |true=>
      obtain⟨g1,g2,g3⟩:=hb2;obtain⟨g4,g5⟩:=g3 rfl;simp only[aD]at g5;obtain⟨rfl,rfl⟩:=g5;dsimp only at hw g1 g4;refine bl ?_;refine⟨(3,m2),dM,⟨dM,⟨g1,g4⟩,?_⟩,?_⟩
      ·dsimp only;exact hw
      ·exact mZ
    ·skip
     refine bl ?_;rw[dT sM,mS]at hw;refine⟨m,⟨hm,hw.symm⟩,?_⟩;exact mZ
   rintro m ⟨hm,hw⟩;refine bl ?_;refine⟨(i+1,m),dM,⟨dM,hm,?_⟩,?_⟩
   ·dsimp only;rw[hw]at hdr;rw[<-hq,hdr]
   ·exact mZ
 ·rw[dT oM]at hq;rw[<-hq,S4.vS];exact em
 termination_by S4.dB l
def gE(i:Nat):Nat:=swp 0 17 (swp 2 9 i)
def gF(i:Nat):Nat:=swp 2 9 (swp 0 17 i)
theorem gEF(i:Nat):gF (gE i)=i:=by unfold gE gF;rw[fH,fH]
theorem gFE(i:Nat):gE (gF i)=i:=by unfold gE gF;rw[fH,fH]
theorem aLB(l:List S4)(hv:S4.dB l<=2^38)(ha:S4.RF l):aJ Tryz.prog 231 [.d (jX l),.d (ci 0),.lp 17 0,.fn (.func 232) [] [.lp 1 0,.lp 9 0]] (aK [(17,fV 0),(1,fV 0),(9,fV 0)]) (.ok (.d (cb (S4.vS l 0).1))) (aH (aK [(17,fV 0),(1,fV 0),(9,fV 0)]) [(17,fV (S4.vS l 0).2.1),(1,fV (S4.vS l 0).2.2.1),(9,fV (S4.vS l 0).2.2.2)]):=by
 have k:=(R0 l hv ha 0 0 oM oM oM oM).eZ gEF gFE;rw[rJ gEF gFE,tZ gEF gFE]at k;exact k
def I9(l:List S4):Int:=(S4.vS l 0).2.2.2
def ckA(l:List S4):Int:=(S4.vS l 0).2.2.1
theorem ZS(l:List S4)(hv:S4.dB l<=2^38)(ha:S4.RF l):Pu 214 [.d (jX l)] (.eL [.d (ci (ckA l)),.d (ci (I9 l))]):=by
 refine iC mix Tryz.func214 ?_;have k:=aLB l hv ha;unfold ckA I9;generalize S4.vS l 0=z at k⊢;obtain⟨b,m1,a1,e1⟩:=z
 repeat'(first|refine bl ?_|refine dZ.mk (.d (cb b)) [(17,fV m1),(1,fV a1),(9,fV e1)] (aJ.l8 k ⟨sn,sn,sn,trivial⟩ ⟨rfl,rfl,rfl,trivial⟩ ⟨trivial,trivial,trivial,trivial⟩ ⟨.inl sn,.inl sn,.inl sn,trivial⟩) (bw ?_))
 exact .eL (cs:=[ci a1,ci e1]) (.cons (.d _) (.cons (.d _) .nil))
theorem VB(l:List S4)(hv:S4.dB l<=2^38)(ha:S4.RF l):Pu 186 [.d (jX l)] (.d (ci (I9 l))):=by
 refine iC mix Tryz.func186 ?_
 repeat'(first|refine bl ?_|refine aF (ZS l hv ha) (bw ?_))
 exact oF rfl
def aI6(l:List S4):Bool:=decide (I9 l=0)
theorem aGU(l:List S4)(hv:S4.dB l<=2^38)(ha:S4.RF l):Pu 158 [.d (jX l)] (.d (cb (aI6 l))):=by
 refine iC mix Tryz.func158 ?_
 repeat'(first|refine bl ?_|refine aF (VB l hv ha) (bw ?_))
 exact dP rfl
def D4.aP(w:D4):List Int:=w.things.map (·.ref)
def D4.qK(w:D4)(L:List Int):Nat:=L.length+BO w.cX w.aP []+1
def D4.uJ(w:D4)(L:List Int):List Int:=xL w.cX (w.qK L) L []
theorem E0(w:D4)(r:Int)(h:r∉w.aP):w.cX r=[]:=by
 have hf:w.find r=none:=by
  unfold D4.find;rw[mN];intro t ht e;exact h (aA4.2 ⟨t,ht,by simpa using e⟩)
 have hw:w.aDH r=5:=by
  unfold D4.aDH D4.mI;rw[hf];rfl
 unfold D4.cX;rw[D8 (by rw[hw];decide)];unfold D4.nW;rw[if_pos (by rw[hw];decide)];rfl
theorem T9(T:List Int)(k:Nat)(h:k<T.length):(bE (iR T))[k]?=some [.d (ci T[k])]:=by
 refine gB _ _ [ci T[k]] ?_;rw[cK,aC h];rfl
theorem aRS(w:D4)(hg:w.gA)(L:List Int)(hL0:L≠[])(hall:L.all w.mI=true)(hN:w.qK L<=2^37)(Q:A->List (Nat×R)->Prop)(q1:w.uJ L=[]->∀ml,Q (.eL [.d (.nl 1),.d (ci 0)]) ml)(q2:w.uJ L≠[]->∀i ml,aK ml i=some (dU 25 1 (iR (oZ (w.uJ L))))->Q (.eL [.h i,.d (ci 0)]) ml):∀c,Tryz.f19.body=some c->vc Tryz.prog [] Tryz.f19.ntmps c (C9 0 [.d (.ip w.cells),.d (.sl 1 (iR L))]) [] 1 (JS Tryz.prog Tryz.f19 Q):=by
 have hLl:L.length<=2^37:=by unfold D4.qK at hN;omega
 have hsd:=hg.sides;intro c hc;cases hc
 repeat'(first|refine bl ?_|refine bS (λh=>?_) (λh=>?_)|refine aF (o4 w) (bw ?_))
 ·exfalso;simp_all
 refine cY mix (λi:Nat=>i<=L.length) (I:=λi=>[(0,.d (.ip w.cells)),(1,.d (.sl 1 (iR L))),(6,.h 73),(21,.d (.sl 1 (iR L))),(22,.d (ci L.length)),(23,.d (ci i))])
  (J:=λi=>[(73,.mp false (iZ []) [])]) (μ:=λi=>L.length -i) 1000 0 0
  (λ_:Unit=>True) (λ_=>[(0,.d (.ip w.cells)),(1,.d (.sl 1 (iR L))),(6,.h 73)]) (λ_=>[(73,.mp false (iZ []) [])]) 2000 oM (by exact mZ) ?_ ?_
 ·intro i hi
  repeat'(first|refine bl ?_|refine bS (λh=>?_) (λh=>?_)|refine cD rfl eD aM (bw ?_)|refine aF (sB w _) (bw ?_))
  ·have hlt:i<L.length:=aM;have:=cV.1 hall L[i] (aY hlt);rw[this]at h;cases h
  ·exact⟨i+1,oM,oM,by exact mZ⟩
  ·exact⟨(),trivial,by exact mZ⟩
 rintro _ _
 repeat'(first|refine bl ?_|refine fQ (xW L oM hL0) 901 rfl (bw ?_))
 have hn0:w.aP.Nodup:=hg.nodup;generalize hnn:w.qK L=n0 at hN;have GY:L.length+BO w.cX w.aP []<n0:=by rw[<-hnn];unfold D4.qK;omega
 refine cY mix (λs:(Nat×Nat)×List Int×List (Int×Int)=>s.1.1<=s.2.1.length/\s.1.1+s.1.2=n0/\xL w.cX s.1.2 (s.2.1.drop s.1.1) (s.2.2.map (·.1))=w.uJ L/\(s.2.1.drop s.1.1).length+BO w.cX w.aP (s.2.2.map (·.1))<s.1.2/\(∀f∈s.2.2,1<=f.2/\f.2<=s.1.1)/\s.2.2.length<=s.1.1)
  (I:=λs=>[(0,.d (.ip w.cells)),(6,.h 73),(9,.h 901),(10,lv 1 900 (iR (s.2.2.map (·.1)))),(11,.d (ci s.1.1))]) (J:=λs=>(901,dU 25 1 (iR s.2.1))::(73,.mp false (iZ s.2.2) [])::lm 900 25 1 (iR (s.2.2.map (·.1))) []) (μ:=λs=>s.1.2) 3000 ((0,n0),L,[]) 2
  (λO:List Int=>O=w.uJ L/\O.length<=2^38) (λO=>[(10,dl O)]) (λO=>[]) 4000 ⟨sM,sM,by dsimp only;unfold D4.uJ;rw[hnn];rfl,by dsimp only;simpa using GY,sM,sM⟩ (by exact mZ) ?_ ?_
 ·rintro⟨⟨k,n⟩,T,F⟩ ⟨a1,a2,a3,a4,a5,a6⟩;dsimp only at a1 a2 a3 a4 a5 a6⊢;have hTl:T.length<=n0:=by rw[l4]at a4;omega
  have hcb:∀r,0<=cR F r/\cR F r<=k:=λr=>by
   cases hh:kJ F r with
   |true=>obtain⟨f,h1,h2,h3⟩:=rT F r hh;have:=a5 f h1;omega
   |false=>rw[uC F r hh];omega
  refine w1 (w1 ?_)
  repeat'(first|with_reducible (first|refine w2 ?_|refine w3 ?_|refine w9 ?_|refine wa ?_|refine wk ?_|refine nN.mk ?_)|((with_reducible (first|refine wr ?_|refine wi ?_));(conv=>whnf))|((with_reducible refine nQ (λh=>?_) (λh=>?_))<;>(try rw[h])<;>(conv at h=>{simp})))
  ·have hlt:k<T.length:=by simp only[aB,bE]at h;omega
   refine w1 ?_
   repeat'(with_reducible refine w5 ?_)
   refine w1 ?_
   repeat'(first|with_reducible (first|refine w9 ?_|refine nN.mk ?_)|((with_reducible refine wr ?_);(conv=>whnf))|((refine lG.mk k rfl (by simp only[aB,bE];exact hlt) ?_);(conv=>whnf))|((refine fZ.mk _ (T9 T k hlt) ?_);(conv=>whnf)))
   have hcr:=hcb T[k];rw[dE hlt]at a3 a4;obtain⟨n',rfl⟩:∃n',n=n'+1:=⟨n -1,oM⟩;rw[xL]at a3;generalize T[k]=r at a3 a4 hcr⊢;refine w1 (w1 ?_)
   repeat'(first|((with_reducible refine wr ?_);(conv=>whnf))|((with_reducible refine FC.mk (RG (by(try dsimp only);omega) (by(try dsimp only);omega)) ?_);(conv=>whnf))|((refine lkC eD (λh=>h) ?_);(conv=>whnf)))
   refine aBP eD (λhh=>?_) (λhh=>?_)
   ·conv=>whnf
    repeat'(with_reducible (first|refine w9 ?_|refine nN.mk ?_))
    refine w1 ?_
    repeat'(first|with_reducible (first|refine w2 ?_|refine w3 ?_|refine w9 ?_|refine wa ?_|refine we ?_|refine wj ?_|refine nN.mk ?_)|((with_reducible (first|refine wr ?_|refine wi ?_));(conv=>whnf))|((with_reducible refine FC.mk (RG (by(try dsimp only);omega) (by(try dsimp only);omega)) ?_);(conv=>whnf))|((with_reducible refine nQ (λh=>?_) (λh=>?_))<;>(try rw[h])<;>(conv at h=>{simp}))|((refine lkE (EE F r (cR F r+1)) eD (λh=>h) ?_);(conv=>whnf)))
    ·have hr:r∈F.map (·.1):=mP.1 hh;rw[if_pos hr]at a3;refine⟨((k+1,n'),T,xG F r (cR F r+1)),dM,⟨dM,dM,by dsimp only;rw[EN];exact a3,by dsimp only;rw[EN];simp only[aQ]at a4;omega,?_,by dsimp only;unfold xG;rw[aB];omega⟩,?_⟩
     ·dsimp only;intro f hf;unfold xG at hf;obtain⟨f0,hf0,rfl⟩:=aA4.1 hf;have:=a5 f0 hf0;split
      ·dsimp only;omega
      ·omega
     ·dsimp only;rw[EN];have hput:=EE F r (cR F r+1);cases F with
      |nil=>simp at hr
      |cons f F=>
       refine mq 5000 5001 ?_
       all_goals exact KS rfl hput
    ·exfalso;rw[PQ F r _ r hh,if_pos rfl]at h;obtain⟨f,hf,_,h3⟩:=rT F r hh;have:=a5 f hf;omega
   ·conv=>whnf
    repeat'(with_reducible (first|refine w9 ?_|refine nN.mk ?_))
    refine w1 ?_
    repeat'(first|with_reducible (first|refine w2 ?_|refine w3 ?_|refine w9 ?_|refine wa ?_|refine we ?_|refine wj ?_|refine nN.mk ?_)|((with_reducible (first|refine wr ?_|refine wi ?_));(conv=>whnf))|((with_reducible refine FC.mk (RG (by(try dsimp only);omega) (by(try dsimp only);omega)) ?_);(conv=>whnf))|((with_reducible refine nQ (λh=>?_) (λh=>?_))<;>(try rw[h])<;>(conv at h=>{simp}))|((refine lkE (vP F r (cR F r+1)) eD (λh=>h) ?_);(conv=>whnf)))
    ·exfalso;rw[PN F r _ r hh,if_pos rfl,uC F r hh]at h;omega
    have hr:r∉F.map (·.1):=λe=>by rw[mP.2 e]at hh;cases hh
    rw[if_neg hr]at a3;have hw:=M9 w.cX w.aP hn0 (E0 w) r (T.drop (k+1)) (F.map (·.1)) hr;have hadd:=vP F r (cR F r+1);refine BH (λ_:Unit=>True) (λ_=>[(0,.d (.ip w.cells)),(6,.h 73),(9,.h 901),(10,.h 900),(11,.d (ci k)),(12,.d (ci r))]) (λ_=>[(901,dU 25 1 (iR T)),(73,.mp false (iZ (F++[(r,cR F r+1)])) []),(900,dU 25 1 (iR (F.map (·.1)++[r])))]) 5000 ?_ ?_
    ·cases F with
     |nil=>
      skip
      repeat'((with_reducible refine wr ?_);(conv=>whnf))
      refine n8 sM kK ?_;conv=>whnf
      refine E9.mk (λh=>by cases h) (λh=>?_);conv=>whnf
      repeat'(with_reducible (first|refine w9 ?_|refine nN.mk ?_))
      refine⟨(),trivial,?_⟩;exact mv 3168 900
      all_goals first|exact cO rfl rfl|exact KS rfl hadd
     |cons f F=>
      skip
      repeat'((with_reducible refine wr ?_);(conv=>whnf))
      simp only[aQ]at a6;refine n8 (by simp only[aB,bE,aQ,cE,aS];omega) kK ?_;conv=>whnf
      repeat'(with_reducible (first|refine w9 ?_|refine nN.mk ?_))
      refine⟨(),trivial,?_⟩
      (refine cN.swap 3168 900 ?_ ?_ ?_ ?_ ?_<;>repeat'(first|exact aW|exact rfl|exact sn|exact aZ|exact cO rfl rfl|exact aEP|refine bI ?_ ?_))
      all_goals first|exact cO rfl (gG ((f::F).map λx:Int×Int=>x.1) [r])|exact KS rfl hadd
    rintro _ _
    repeat'(first|((with_reducible refine wr ?_);(conv=>whnf))|((refine aF (AZ w hg r) ?_);(conv=>whnf)))
    have hsl:(w.cX r).length<=n0:=by rw[aU]at hw;simp only[aQ]at a4;omega
    refine n8 (by simp only[aB,bE];omega) kK ?_;conv=>whnf
    repeat'(first|with_reducible (first|refine w9 ?_|refine wc ?_|refine wj ?_|refine nN.mk ?_)|((with_reducible refine wr ?_);(conv=>whnf))|((with_reducible refine FC.mk (RG (by(try dsimp only);omega) (by(try dsimp only);omega)) ?_);(conv=>whnf)))
    refine⟨((k+1,n'),T++w.cX r,F++[(r,cR F r+1)]),dM,⟨?_,dM,?_,?_,?_,?_⟩,?_⟩
    all_goals dsimp only
    ·simp only[aU];omega
    ·rw[mD oM,bP];exact a3
    ·rw[mD oM,bP,aG,bM,hw];simp only[aQ]at a4;omega
    ·intro f hf;rcases bN.1 hf with hf|hf
     ·have:=a5 f hf;omega
     ·rw[aR.1 hf];dsimp only;omega
    ·simp only[aU,aQ,cS];omega
    ·rw[bP,aG,bM];cases hc:F.map (·.1)++[r]with
     |nil=>simp at hc
     |cons x X=>
      refine mq 5032 901 ?_
      all_goals first|exact cO rfl (gG T (w.cX r))|exact KS rfl rfl
  ·simp only[aB,bE]at h;have hk:T.drop k=[]:=dT oM;rw[hk,XO]at a3;refine⟨F.map (·.1),⟨a3,by rw[aB];omega⟩,?_⟩;cases F with
   |nil=>exact cN.freeze [901,73] trivial ⟨.same _,trivial⟩ trivial ⟨trivial,trivial⟩ trivial
   |cons f F=>exact cN.freeze [900,901,73] trivial ⟨.rd (.dU (eX rfl rfl)),trivial⟩ trivial ⟨trivial,trivial⟩ trivial
 rintro O ⟨hO,hOl⟩;subst hO;cases hL:w.uJ L with
 |nil=>
  repeat'(first|refine bl ?_|refine aF CY (bw ?_))
  exact q1 hL _
 |cons r0 Q0=>
  rw[hL]at hOl q2
  repeat'(first|refine bl ?_|refine fQ (WQ (r0::Q0) hOl sM) 5000 rfl (bw ?_))
  exact q2 sM 5000 _ rfl
theorem aAF(w:D4)(hg:w.gA)(L:List Int)(hL0:L≠[])(hall:L.all w.mI=true)(hN:w.qK L<=2^37):Pu 19 [.d (.ip w.cells),.d (.sl 1 (iR L))] (.eL [.d (.sl 1 (iR (oZ (w.uJ L)))),.d (ci 0)]):=by
 refine CV mix Tryz.func19 rfl kK (bD rfl) rfl (aRS w hg L hL0 hall hN _ (λh ml=>?_) (λh i ml hi=>?_) _ rfl)
 ·rw[h,AT];exact .eL (cs:=[.sl 1 [],ci 0]) (.cons (.nz _ _) (.cons (.d _) .nil))
 ·exact .eL (cs:=[.sl 1 (iR (oZ (w.uJ L))),ci 0]) (.cons (.dU hi) (.cons (.d _) .nil))
def D4.v8(w:D4)(L:List Int):List Int:=if L.all w.mI=true then oZ (w.uJ L)else []
def D4.v7(w:D4)(L:List Int):Int:=if L.all w.mI=true then 0 else 5
theorem aAH(w:D4)(hg:w.gA)(L:List Int)(hall:¬L.all w.mI=true)(hN:L.length<=2^37):Pu 19 [.d (.ip w.cells),.d (.sl 1 (iR L))] (.eL [.d (.sl 1 []),.d (ci 5)]):=by
 have hsd:=hg.sides;refine iC mix Tryz.func19 ?_
 repeat'(first|refine bl ?_|refine bS (λh=>?_) (λh=>?_)|refine aF (o4 w) (bw ?_))
 ·exfalso;simp_all
 refine bV mix (λi:Nat=>i<=L.length/\(L.take i).all w.mI=true) (I:=λi=>[(0,.d (.ip w.cells)),(1,.d (.sl 1 (iR L))),(6,.h 73),(21,.d (.sl 1 (iR L))),(22,.d (ci L.length)),(23,.d (ci i))])
  (J:=λi=>[(73,.mp false (iZ []) [])]) (μ:=λi=>L.length -i) 1000 0 ⟨oM,sM⟩ (by exact mZ) ?_
 rintro i ⟨hi,h0⟩
 repeat'(first|refine bl ?_|refine bS (λh=>?_) (λh=>?_)|refine cD rfl eD aM (bw ?_)|refine aF (sB w _) (bw ?_))
 ·exact .eL (cs:=[.sl 1 [],ci 5]) (.cons (.nz _ _) (.cons (.d _) .nil))
 ·have hlt:i<L.length:=aM;refine⟨i+1,oM,⟨oM,?_⟩,by exact mZ⟩;rw[aT hlt,gQ,h0];simpa using h
 ·rw[aI oM]at h0;exact absurd h0 hall
theorem aAG(w:D4)(hg:w.gA):Pu 19 [.d (.ip w.cells),.d (.sl 1 [])] (.eL [.d (.sl 1 []),.d (ci 0)]):=by
 have hsd:=hg.sides;refine iC mix Tryz.func19 ?_
 repeat'(first|refine bl ?_|refine bS (λh=>?_) (λh=>?_)|refine aF (o4 w) (bw ?_))
 ·exfalso;simp_all
 refine cY mix (λi:Unit=>True) (I:=λi=>[(0,.d (.ip w.cells)),(1,.d (.sl 1 [])),(6,.h 73),(21,.d (.sl 1 [])),(22,.d (ci 0)),(23,.d (ci 0))])
  (J:=λi=>[(73,.mp false (iZ []) [])]) (μ:=λi=>0) 1000 () 0
  (λ_:Unit=>True) (λ_=>[(0,.d (.ip w.cells)),(1,.d (.sl 1 [])),(6,.h 73)]) (λ_=>[(73,.mp false (iZ []) [])]) 2000 trivial (by exact mZ) ?_ ?_
 ·intro i hi;refine bl ?_;exact⟨(),trivial,by exact mZ⟩
 rintro _ _
 repeat'(first|refine bl ?_|refine aF (G7 [] sM sM) (bw ?_))
 refine cY mix (λi:Unit=>True) (I:=λi=>[(0,.d (.ip w.cells)),(6,.h 73),(9,.d (.sl 1 [])),(10,.d (.nl 1)),(11,.d (ci 0))])
  (J:=λi=>[(73,.mp false (iZ []) [])]) (μ:=λi=>0) 3000 () 2
  (λ_:Unit=>True) (λ_=>[(10,.d (.nl 1))]) (λ_=>[]) 4000 trivial (by exact mZ) ?_ ?_
 ·intro i hi;refine bl ?_;exact⟨(),trivial,by exact mZ⟩
 rintro _ _
 repeat'(first|refine bl ?_|refine aF CY (bw ?_))
 exact .eL (cs:=[.sl 1 [],ci 0]) (.cons (.nz _ _) (.cons (.d _) .nil))
theorem aAD(w:D4):w.uJ []=[]:=by unfold D4.uJ;rw[XO]
theorem J3(w:D4)(hg:w.gA)(L:List Int)(hN:w.qK L<=2^37):Pu 19 [.d (.ip w.cells),.d (.sl 1 (iR L))] (.eL [.d (.sl 1 (iR (w.v8 L))),.d (ci (w.v7 L))]):=by
 unfold D4.v8 D4.v7;by_cases hall:L.all w.mI=true
 ·rw[if_pos hall,if_pos hall];by_cases h0:L=[]
  ·subst h0;rw[aAD,AT];exact aAG w hg
  ·exact aAF w hg L h0 hall hN
 ·rw[if_neg hall,if_neg hall];exact aAH w hg L hall (by unfold D4.qK at hN;omega)
theorem PL(d:Array Int):∀(m:Nat)(x:Int),x∈Go.Lib.compactUpTo d m↔∃j,j<m/\d[j]! =x
 |0,x=>by simp[Go.Lib.compactUpTo]
 |m+1,x=>by
  rw[Go.Lib.compactUpTo_succ,bN,PL d m x];constructor
  ·rintro(⟨j,hj,e⟩|h)
   ·exact⟨j,oM,e⟩
   ·split at h
    ·exact⟨m,oM,(aR.1 h).symm⟩
    ·simp at h
  ·rintro⟨j,hj,e⟩;by_cases hk:Go.Lib.keeps d m=true
   ·rw[if_pos hk];by_cases hjm:j<m
    ·exact .inl ⟨j,hjm,e⟩
    ·have:j=m:=oM;subst this;exact .inr (by simp[e])
   ·rw[if_neg hk];refine .inl ?_;by_cases hjm:j<m
    ·exact⟨j,hjm,e⟩
    ·have:j=m:=oM;subst this;unfold Go.Lib.keeps at hk;simp only[decide_eq_true_eq,not_or,Decidable.not_not]at hk;exact⟨j -1,oM,by rw[<-hk.2];exact e⟩
theorem XR(d:Array Int):∀(m:Nat),(∀i j,i<j->j<m->d[i]! <=d[j]!)->(Go.Lib.compactUpTo d m).Pairwise (· <·)
 |0,_=>by simp[Go.Lib.compactUpTo]
 |m+1,h=>by
  rw[Go.Lib.compactUpTo_succ];have ih:=XR d m λi j h1 h2=>h i j h1 oM;by_cases hk:Go.Lib.keeps d m=true
  ·rw[if_pos hk];refine List.pairwise_append.2 ⟨ih,sM,λx hx y hy=>?_⟩;rw[aR.1 hy];obtain⟨j,hj,e⟩:=(PL d m x).1 hx;unfold Go.Lib.keeps at hk;simp only[decide_eq_true_eq]at hk;have h1:d[m -1]! <=d[m]! :=h (m -1) m oM oM;have h2:d[j]! <=d[m -1]! :=by
    by_cases e2:j=m -1
    ·subst e2;exact Int.le_refl _
    ·exact h j (m -1) oM oM
   have h3:d[m]! ≠d[m -1]! :=by
    rcases hk with hk|hk
    ·omega
    ·exact hk
   omega
  ·rw[if_neg hk,dS];exact ih
theorem GS(L:List Int):(Go.Sort.sort eF L.toArray).toList=L.mergeSort (λx y=>decide (x<=y)):=Go.Sort.sortInt L
theorem ID(d:Array Int)(j:Nat)(h:j<d.size):d[j]! =d.toList[j]'(by simpa using h):=by
 rw[getElem!_pos d j h];simp
theorem o3(L:List Int)(x:Int):x∈oZ L↔x∈L:=by
 unfold oZ DH;rw[jY,PL];have h1:x∈(Go.Sort.sort eF L.toArray).toList↔x∈L:=by rw[GS];simp
 rw[<-h1,dH];constructor
 ·rintro⟨j,hj,e⟩;exact⟨j,by simpa using hj,by rw[<-ID _ _ hj];exact e⟩
 ·rintro⟨j,hj,e⟩;have hj':j<(Go.Sort.sort eF L.toArray).size:=by simpa using hj
  exact⟨j,hj',by rw[ID _ _ hj'];exact e⟩
theorem K9(L:List Int):(oZ L).Pairwise (· <·):=by
 unfold oZ DH;rw[jY];refine XR _ _ λi j h1 h2=>?_;rw[ID _ _ oM,ID _ _ h2];have h3:(L.mergeSort λx y=>decide (x<=y)).Pairwise λa b=>decide (a<=b)=true:=List.pairwise_mergeSort (λa b c h1 h2=>by simp only[decide_eq_true_eq]at*;omega) (λa b=>by simp only[gP,decide_eq_true_eq];omega) L;have h4:=List.pairwise_iff_getElem.1 h3;simp only[<-GS]at h4;simpa using h4 i j zM (by simpa using h2) h1
theorem Y5:∀{A B:List Int},A.Pairwise (· <·)->B.Pairwise (· <·)->(∀x,x∈A↔x∈B)->A=B
 |[],[],_,_,_=>rfl
 |[],b::B,_,_,h=>by have:=(h b).2 sM;simp at this
 |a::A,[],_,_,h=>by have:=(h a).1 sM;simp at this
 |a::A,b::B,h1,h2,h=>by
  rw[wP]at h1 h2;have e:a=b:=by
   have h3:=(h a).1 sM;have h4:=(h b).2 sM;rcases aO.1 h3 with e|h3
   ·exact e
   rcases aO.1 h4 with e|h4
   ·exact e.symm
   have:=h1.1 _ h4;have:=h2.1 _ h3;omega
  subst e;congr 1;refine Y5 h1.2 h2.2 λx=>?_;constructor
  ·intro hx;rcases aO.1 ((h x).1 (by simp[hx]))with e|h5
   ·subst e;have:=h1.1 _ hx;omega
   ·exact h5
  ·intro hx;rcases aO.1 ((h x).2 (by simp[hx]))with e|h5
   ·subst e;have:=h2.1 _ hx;omega
   ·exact h5
theorem wV(w:D4)(hg:w.gA)(L:List Int)(x:Int):x∈w.uJ L↔FD w.cX L x:=by
 unfold D4.uJ;refine PE w.cX w.aP hg.nodup (E0 w) L (w.qK L) L [] (by unfold D4.qK;omega) (λx hx=>.base hx) sM (λx hx=>.inr hx) sM x
theorem GD:∀{A B:List Int},A.Nodup->(∀x∈A,x∈B)->A.length<=B.length
 |[],B,_,_=>sM
 |a::A,B,h,hs=>by
  have h1:=gR.1 h;have ha:a∈B:=hs a sM;have h2:∀x∈A,x∈B.erase a:=λx hx=>by
   have hne:x≠a:=λe=>h1.1 (e▸hx);exact(List.mem_erase_of_ne hne).2 (hs x (by simp[hx]))
  have h3:=GD h1.2 h2;have h4:=List.length_erase_of_mem ha;have:0<B.length:=y4 ha;simp only[aQ];omega
def D4.EP(w:D4):Prop:=(w.things.map (·.ref)).Pairwise (· <·)
theorem aIM{L M:List Int}(hM:M.Pairwise (· <·))(hp:L.Perm M):(Go.Sort.sort eF L.toArray)=M.toArray:=by
 have h:(Go.Sort.sort eF L.toArray).toList=M:=by
  rw[GS];have h1:(L.mergeSort λx y=>decide (x<=y)).Perm M:=(List.mergeSort_perm _ _).trans hp;have h2:(L.mergeSort λx y=>decide (x<=y)).Pairwise λa b=>decide (a<=b)=true:=List.pairwise_mergeSort (λa b c h1 h2=>by simp only[decide_eq_true_eq]at*;omega) (λa b=>by simp only[gP,decide_eq_true_eq];omega) L;have h3:M.Pairwise λa b=>decide (a<=b)=true:=hM.imp λh=>by simp only[decide_eq_true_eq];omega
  exact h1.eq_of_pairwise (λa b _ _ h1 h2=>by simp only[decide_eq_true_eq]at*;omega) h2 h3
 exact Array.ext' (by rw[h])
theorem K6(w:D4)(hl:w.things.length<=2^30)(hr:w.EP):∀(m:Mem)(d:Nat),m d=none->aJ Tryz.prog 83 [.d (.ip w.cells)] m (.ok (.h d)) (aX m d (dU 25 1 (iR w.aP))):=by
 refine iW mix (F:=A.h) (r:=dU 25 1 (iR w.aP)) Tryz.func83 rfl kK (bD rfl) rfl (oJ _ _ _) (λ_ _=>rfl) (λi j hj=>by simpa [A.hs]using hj) (λg=>eT g _ _ _) ?_;refine bl ?_;have hb:Tryz.prog.bytesOf 25=8:=kK;have hz:(zc Tryz.prog 8 25).length=Tryz.prog.cellsOf 25:=kK;have hz2:0<Tryz.prog.cellsOf 25:=bD kK;refine xR.mk ?_ ?_
 ·rw[aE];refine⟨decide_eq_true ⟨hz,hz2,oM,oM,?_,?_⟩,rfl⟩
  ·rw[hb,aB];omega
  ·rw[aB];omega
 conv=>whnf
 refine bl ?_;refine xI rfl ?_;conv=>whnf
 refine bl ?_;refine cY mix (λa:Option (Ky×C)×List T4×List Int=>(a.2.2++a.2.1.map (·.ref)).Perm w.aP) (I:=λa=>[(3,.h 900),(15,.h 97)])
  (J:=λa=>[(900,dU 25 1 (iR a.2.2)),(97,.di a.1 (a.2.1.map T4.kv))]) (μ:=λa=>a.2.1.length) 1000 (none,w.things,[]) 0
  (λQ:List Int=>Q.Perm w.aP) (λQ=>[(3,.h 900)]) (λQ=>[(900,dU 25 1 (iR Q))]) 2000 (.refl _) (by exact mv 49 900) ?_ ?_
 ·rintro⟨cur,L,Q⟩ hp;dsimp only at hp⊢;have hlen:=hp.length_eq;unfold D4.aP at hlen;simp only[aU,aB]at hlen;refine bl ?_;refine EI (λh0=>?_) (λi hi=>?_)
  ·conv=>whnf
   refine bl ?_;subst h0;refine⟨Q,by simpa using hp,?_⟩;exact mZ
  ·conv=>whnf
   refine bl ?_;refine n8 (by simp only[aB,bE,cE,aS];omega) kK ?_;conv=>whnf
   refine bl ?_;refine⟨(some (T4.kv L[i]),L.eraseIdx i,Q++[L[i].ref]),pR _ _ hi,?_,?_⟩
   ·dsimp only;refine List.Perm.trans ?_ hp;rw[bG];refine qX _ ?_;have:=(CU L i hi).map (λt:T4=>t.ref);exact this.symm
   ·skip
    refine mq 1064 900 ?_
    all_goals exact cO rfl (gG Q [L[i].ref])
 rintro Q hQ;have hlen:=hQ.length_eq;unfold D4.aP at hlen;rw[aB]at hlen;have hs:=aIM hr hQ
 repeat'(first|refine bl ?_|refine lN 900 (iG (Go.Sort.sort eF Q.toArray)) ((rK Q.toArray (by simp only[nJ];omega)).AK (oJ _ _ _) (λg=>eT g _ _ _) (λg=>eT g _ _ _) rfl (by simp[A.lQ,A.hs]) (aK _) 900 rfl) (bw ?_))
 rw[hs];exact⟨_,rfl,rfl⟩
def xP:List Bool->Int->List Int
 |[],_=>[]
 |b::r,k=>if b=true then k::xP r (k+1)else xP r (k+1)
theorem aBH(L M:List T4):bE (L.map T4.cells)++bE (M.map T4.cells)=bE ((L++M).map T4.cells):=by simp[bE]
def D4.tell(w:D4):X4:=⟨w.parents,xP w.cut 0,w.things,w.last,w.made⟩
theorem ZC(w:D4)(hg:w.gA)(hr:w.EP)(h1:w.parents.length<=2^38)(h2:w.made.length<=2^38)(h3:w.cut.length<=2^36):Pu 38 [.d (.ip w.cells)] (.d (.agg w.tell.cells)):=by
 refine iC mix Tryz.func38 ?_
 repeat'(first|refine bl ?_|refine aF (vQ w) (bw ?_)|refine cH (G6 (iR w.made) (by simp only[aB];omega) sM) (bw ?_)|refine cH (DG (iR w.parents) (by simp only[aB];omega) sM) (bw ?_))
 have hyl:∀(L:List Bool)(k:Int),(xP L k).length<=L.length:=λL=>by
  induction L with
  |nil=>intro k;simp[xP]
  |cons b r ih=>intro k;rw[xP];have:=ih (k+1);split<;>simp only[aQ]<;>omega
 refine cY mix (λa:Nat×List Int=>a.1<=w.cut.length/\a.2++xP (w.cut.drop a.1) a.1=xP w.cut 0) (I:=λa=>[(0,.d (.ip w.cells)),(2,.lp 1 0),(3,.lp 145 0),(29,.d (.sl 1 (w.cut.map λb=>[cb b]))),(30,.d (ci w.cut.length)),(31,.d (ci a.1))])
  (J:=λa=>(1,.cells false (List.map A.d (zc Tryz.prog 8 27)))::(145,.cells false [.d (.sl 1 (iR w.parents)),lv 1 900 (iR a.2),.d (.nl 17),.d (ci w.last),.d (.sl 1 (iR w.made))])::lm 900 3 1 (iR a.2) []) (μ:=λa=>w.cut.length -a.1) 1000 (0,[]) 0
  (λ_:Unit=>True) (λ_=>[(0,.d (.ip w.cells)),(2,.lp 1 0),(3,.lp 145 0)]) (λ_=>[(1,.cells false (List.map A.d (zc Tryz.prog 8 27))),(145,.cells false [.d (.sl 1 (iR w.parents)),.d (.sl 1 (iR (xP w.cut 0))),.d (.nl 17),.d (ci w.last),.d (.sl 1 (iR w.made))])]) 2000 ⟨sM,sM⟩ (by exact mZ) ?_ ?_
 ·rintro⟨i,Q⟩ ⟨hi,hQ⟩;dsimp only at hi hQ⊢;have hql:Q.length<=w.cut.length:=by
   have h5:=congrArg List.length hQ;have h6:=hyl w.cut 0;simp only[aU]at h5;omega
  have hst:∀(h:i<w.cut.length),(w.cut[i]=true->(Q++[(i:Int)])++xP (w.cut.drop (i+1)) ((i+1:Nat):Int)=xP w.cut 0)/\(w.cut[i]=false->Q++xP (w.cut.drop (i+1)) ((i+1:Nat):Int)=xP w.cut 0):=λh=>by
   rw[dE h,xP]at hQ;rw[show(i:Int)+1=((i+1:Nat):Int) by omega]at hQ;constructor<;>intro e<;>rw[e]at hQ
   ·rw[if_pos rfl]at hQ;rw[bG];exact hQ
   ·rw[if_neg gO]at hQ;exact hQ
  cases Q with
  |nil=>
   show vc _ _ _ _ _ [(1,.cells false (List.map A.d (zc Tryz.prog 8 27))),(145,.cells false [.d (.sl 1 (iR w.parents)),.d (.nl 1),.d (.nl 17),.d (ci w.last),.d (.sl 1 (iR w.made))])] _ _
   repeat'(first|refine bl ?_|refine bS (λh=>?_) (λh=>?_)|refine cD rfl eD aM (bw ?_))
   ·refine n8 (by simp only[aB,bE,cE,aS];omega) kK ?_;conv=>whnf
    refine E9.mk (λh=>by cases h) (λh=>?_);conv=>whnf
    refine bl ?_;refine⟨(i+1,[(i:Int)]),dM,⟨dM,(hst aM).1 aM⟩,?_⟩;dsimp only[iR,List.map_cons,List.map_nil,lv,lm];exact mv 1088 900
    all_goals exact cO rfl rfl
   ·refine⟨(i+1,[]),dM,⟨dM,(hst aM).2 aM⟩,?_⟩;dsimp only[iR,List.map_cons,List.map_nil,lv,lm];exact mZ
   ·rw[dT oM,xP,dS]at hQ;refine⟨(),trivial,?_⟩;rw[<-hQ];exact cN.freeze [] trivial ⟨.same _,.same _,.same _,trivial⟩ ⟨⟨rfl,_,rfl,.cells (.same _)⟩,⟨rfl,_,rfl,.cells (.cons (.same _) (.cons (.rd (.nz _ _)) (.same _)))⟩,trivial⟩ ⟨trivial,⟨sn,trivial⟩,⟨sn,trivial⟩,trivial⟩ ⟨trivial,trivial,trivial⟩
  |cons q0 Q=>
   show vc _ _ _ _ _ [(1,.cells false (List.map A.d (zc Tryz.prog 8 27))),(145,.cells false [.d (.sl 1 (iR w.parents)),.h 900,.d (.nl 17),.d (ci w.last),.d (.sl 1 (iR w.made))]),(900,dU 3 1 (iR (q0::Q)))] _ _
   repeat'(first|refine bl ?_|refine bS (λh=>?_) (λh=>?_)|refine cD rfl eD aM (bw ?_))
   ·refine n8 (by simp only[aB,bE,cE,aS];omega) kK ?_;conv=>whnf
    refine bl ?_;refine⟨(i+1,q0::(Q++[(i:Int)])),dM,⟨dM,(hst aM).1 aM⟩,?_⟩;dsimp only[iR,List.map_cons,List.map_nil,lv,lm];refine mq 1088 900 ?_
    all_goals exact cO rfl (gG (q0::Q) [(i:Int)])
   ·refine⟨(i+1,q0::Q),dM,⟨dM,(hst aM).2 aM⟩,?_⟩;dsimp only[iR,List.map_cons,List.map_nil,lv,lm];exact mZ
    all_goals exact cO rfl rfl
   ·rw[dT oM,xP,dS]at hQ;refine⟨(),trivial,?_⟩;rw[<-hQ];exact cN.freeze [900] trivial ⟨.same _,.same _,.same _,trivial⟩ ⟨⟨rfl,_,rfl,.cells (.same _)⟩,⟨rfl,_,rfl,.cells (.cons (.same _) (.cons (.rd (.dU (eX rfl rfl))) (.same _)))⟩,trivial⟩ ⟨trivial,⟨sn,trivial⟩,⟨sn,trivial⟩,trivial⟩ ⟨trivial,trivial,trivial⟩
 rintro _ _
 repeat'(first|refine bl ?_|refine fQ (K6 w hg.len hr) 3000 rfl (bw ?_))
 have hnl:w.aP.length=w.things.length:=by unfold D4.aP;rw[aB]
 refine cY mix (λi:Nat=>i<=w.things.length) (I:=λi=>[(0,.d (.ip w.cells)),(2,.lp 1 0),(3,.lp 145 0),(45,.d (.sl 1 (iR w.aP))),(46,.d (ci w.aP.length)),(47,.d (ci i))])
  (J:=λi=>(1,.cells false (List.map A.d (zc Tryz.prog 8 27)))::(145,.cells false [.d (.sl 1 (iR w.parents)),.d (.sl 1 (iR (xP w.cut 0))),lv 17 900 ((w.things.take i).map T4.cells),.d (ci w.last),.d (.sl 1 (iR w.made))])::lm 900 93 17 ((w.things.take i).map T4.cells) []) (μ:=λi=>w.things.length -i) 5000 0 2
  (λ_:Unit=>True) (λ_=>[(2,.lp 1 0),(3,.lp 145 0)]) (λ_=>[(1,.cells false (List.map A.d (zc Tryz.prog 8 27))),(145,.cells false [.d (.sl 1 (iR w.parents)),.d (.sl 1 (iR (xP w.cut 0))),.d (.sl 17 (w.things.map T4.cells)),.d (ci w.last),.d (.sl 1 (iR w.made))])]) 7000 oM ?_ ?_ ?_
 ·refine cN.freeze [3000] trivial ⟨.same _,.same _,.same _,.rd (.dU (eX rfl rfl)),GR (qD (by simp only[aB,bE])),.same _,trivial⟩ ⟨⟨rfl,_,rfl,.cells (.same _)⟩,⟨rfl,_,rfl,.cells (.same _)⟩,trivial⟩ ⟨trivial,⟨sn,trivial⟩,⟨sn,trivial⟩,trivial,trivial,trivial,trivial⟩ ?_;rw[fD];exact⟨trivial,trivial,trivial⟩
 ·intro i hi;have hst:∀(h:i<w.things.length),w.aP[i]' oM =w.things[i].ref/\w.find w.things[i].ref=some w.things[i]/\w.things.take (i+1)=w.things.take i++[w.things[i]]:=λh=>by
   refine⟨by simp[D4.aP],?_,aT h⟩;unfold D4.find;cases hf:w.things.find? λt=>decide (t.ref=w.things[i].ref)with
   |none=>
    have:=mN.1 hf w.things[i] (aY h);simp at this
   |some t=>
    have e1:=iD hf;simp only[decide_eq_true_eq]at e1;obtain⟨j,hj,e2⟩:=dH.1 (cT hf);subst e2;have hn:=hg.nodup;have:j=i:=by
     refine(jB (h₀:=by simpa using hj) (h₁:=by simpa using h) hn).1 ?_;simpa using e1
    subst this;rfl
  have hlt0:(w.things.take i).length<=w.things.length:=zM;have hgl:=hg.len;generalize hQ:w.things.take i=Q at hst hlt0⊢;cases Q with
  |nil=>
   show vc _ _ _ _ _ [(1,.cells false (List.map A.d (zc Tryz.prog 8 27))),(145,.cells false [.d (.sl 1 (iR w.parents)),.d (.sl 1 (iR (xP w.cut 0))),.d (.nl 17),.d (ci w.last),.d (.sl 1 (iR w.made))])] _ _
   repeat'(first|refine bl ?_|refine bS (λh=>?_) (λh=>?_)|refine cD rfl eD aM (bw ?_))
   ·have hlt:i<w.aP.length:=aM;obtain⟨s1,s2,s3⟩:=hst oM;refine EA eD (λt ht=>?_) (λht=>?_)
    ·have e:t=w.things[i]' oM :=eY ((show w.find w.aP[i]=some t from ht).symm.trans (by rw[s1];exact s2));subst e;have hm:=aY (show i<w.things.length by omega);obtain⟨m1,m2,m3⟩:=hg.may _ hm;have hcn:=hg.cR _ hm;conv=>whnf
     repeat' refine cH (yX _ oM m1 m2 m3) (bw ?_)
     rw[s1];refine n8 (by simp only[aB,bE,cE,aS,aQ]at*;omega) kK ?_;conv=>whnf
     refine E9.mk (λh=>by cases h) (λh=>?_);conv=>whnf
     refine bl ?_;refine⟨i+1,oM,oM,?_⟩;rw[s3];dsimp only[List.nil_append,List.map_cons,List.map_nil,lv,lm];exact mv 5144 900
     all_goals exact cO rfl rfl
    ·exfalso;have:w.find w.aP[i]=none:=ht;rw[s1,s2]at this;cases this
   ·rw[aI oM]at hQ;refine⟨(),trivial,?_⟩;rw[hQ];exact cN.freeze [] trivial ⟨.same _,.same _,trivial⟩ ⟨⟨rfl,_,rfl,.cells (.same _)⟩,⟨rfl,_,rfl,.cells (.cons (.same _) (.cons (.same _) (.cons (.rd (.nz _ _)) (.same _))))⟩,trivial⟩ ⟨⟨sn,trivial⟩,⟨sn,trivial⟩,trivial⟩ ⟨trivial,trivial,trivial⟩
  |cons q0 Q=>
   show vc _ _ _ _ _ [(1,.cells false (List.map A.d (zc Tryz.prog 8 27))),(145,.cells false [.d (.sl 1 (iR w.parents)),.d (.sl 1 (iR (xP w.cut 0))),.h 900,.d (ci w.last),.d (.sl 1 (iR w.made))]),(900,dU 93 17 ((q0::Q).map T4.cells))] _ _
   repeat'(first|refine bl ?_|refine bS (λh=>?_) (λh=>?_)|refine cD rfl eD aM (bw ?_))
   ·have hlt:i<w.aP.length:=aM;obtain⟨s1,s2,s3⟩:=hst oM;refine EA eD (λt ht=>?_) (λht=>?_)
    ·have e:t=w.things[i]' oM :=eY ((show w.find w.aP[i]=some t from ht).symm.trans (by rw[s1];exact s2));subst e;have hm:=aY (show i<w.things.length by omega);obtain⟨m1,m2,m3⟩:=hg.may _ hm;have hcn:=hg.cR _ hm;conv=>whnf
     repeat' refine cH (yX _ oM m1 m2 m3) (bw ?_)
     rw[s1];refine n8 (by simp only[aB,bE,cE,aS,aQ]at*;omega) kK ?_;conv=>whnf
     refine bl ?_;refine⟨i+1,oM,oM,?_⟩;rw[s3];dsimp only[List.cons_append,List.map_cons,List.map_nil,lv,lm];refine mq 5144 900 ?_
     all_goals exact cO rfl (aBH (q0::Q) [w.things[i]])
    ·exfalso;have:w.find w.aP[i]=none:=ht;rw[s1,s2]at this;cases this
   ·rw[aI oM]at hQ;refine⟨(),trivial,?_⟩;rw[hQ];exact cN.freeze [900] trivial ⟨.same _,.same _,trivial⟩ ⟨⟨rfl,_,rfl,.cells (.same _)⟩,⟨rfl,_,rfl,.cells (.cons (.same _) (.cons (.same _) (.cons (.rd (.dU (eX rfl rfl))) (.same _))))⟩,trivial⟩ ⟨⟨sn,trivial⟩,⟨sn,trivial⟩,trivial⟩ ⟨trivial,trivial,trivial⟩
 rintro _ _;refine bl ?_;exact .one (.agg (wJ.data _ w.tell.cells))
end Go.Pv
