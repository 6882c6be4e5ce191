import Derived.Test.YtpdcbahjjmooiaaGreatA20
/- A program logic over the model, contracts of the functions that the law reaches: part 21. (Names and blanks were shortened by program.) -/
set_option linter.unusedVariables false
set_option linter.unusedSimpArgs false
set_option linter.constructorNameAsVariable false
set_option linter.unusedSectionVars false
set_option linter.deprecated false
set_option maxRecDepth 100000
set_option maxHeartbeats 8000000
open Go Go.Proofs
namespace Go.Pv
open Go.RowKit
variable{m:Mem}{P:Program}{f:FuncId}{xs xs':List A}{ml:List (Nat×R)}{v:A}
mutual
inductive Wa:A->A->Prop
 |x (a:A):Wa a .x
 |same (a:A):Wa a a
 |agg (cs:List C):Wa (.agg (cs.map A.d)) (.d (.agg cs))
 |nl (e e':Nat):Wa (.d (.nl e)) (.d (.sl e' []))
 |fn {f:Fn} {u v u' v':List A}:WaL u u'->WaL v v'->Wa (.fn f u v) (.fn f u' v')
inductive WaL:List A->List A->Prop
 |nil:WaL [] []
 |cons {a b:A} {l r:List A}:Wa a b->WaL l r->WaL (a::l) (b::r)
end
mutual
theorem Wa.den{w:World}{M:Nat->Prop}{m:Mem}{ρ:Nat->Value}:∀{a b:A}{y:Value},Wa a b->a.Den w M m ρ y->b.Den w M m ρ y
 |_,_,y,.x a,h=>by simp only[A.Den]
 |_,_,y,.same a,h=>h
 |_,_,y,.agg cs,h=>I3 h
 |_,_,y,.nl e e',h=>by
  simp only[A.Den,C.Den]at h⊢;exact⟨none,0,by rw[h];rfl,bT _,.inl trivial⟩
 |_,_,y,.fn h1 h2,h=>by
  simp only[A.Den]at h⊢;obtain⟨us,vs,e,k1,k2⟩:=h;exact⟨us,vs,e,h1.den k1,h2.den k2⟩
theorem WaL.den{w:World}{M:Nat->Prop}{m:Mem}{ρ:Nat->Value}:∀{l r:List A}{ys:List Value},WaL l r->A.bR w M m ρ l ys->A.bR w M m ρ r ys
 |_,_,ys,.nil,h=>h
 |_,_,ys,.cons h1 h2,h=>by
  simp only[A.bR]at h⊢;obtain⟨y,yr,e,k1,k2⟩:=h;exact⟨y,yr,e,h1.den k1,h2.den k2⟩
end
theorem aJ.mR{m':Mem}{r:Rt}(h:aJ P f xs m r m')(hw:WaL xs' xs):aJ P f xs' m r m':=h.args λw M ρ vs hv=>hw.den hv
theorem dR{k:A->List (Nat×R)->Prop}(h:∀m,aJ P f xs m (.ok v) m)(hw:WaL xs' xs)(hk:k v []):dZ P f xs' ml k:=aF (λm=>(h m).mR hw) hk
theorem jV{nx:Nat}{k:A->List (Nat×R)->Bool->Prop}(h:∀m,aJ P f xs m (.ok v) m)(hw:WaL xs' xs)(hk:k v [] false):xQ P f xs' ml nx k:=cH (λm=>(h m).mR hw) hk
theorem aJ.UZ{xs1 xs2:List A}{V:List Nat}(h:∀m,aJ P f xs2 m (.ok v) m)(hv:Flat v)(hw:WaL xs1 xs2)(hc:IX (EC V ml) xs xs1)(hh:A.lQ xs1=[]):aJ P f xs (aK ml) (.ok v) (aK ml):=by
 have k:aJ P f xs1 (λ_=>none) (.ok v) (aH (λ_=>none) []):=(h _).mR hw
 exact aJ.aC7 (mF:=EC V ml) (ups:=[]) k hv (λi r hi=>by
  unfold EC at hi;cases hq:s9 i V with
  |false=>rw[hq]at hi;cases hi
  |true=>rw[hq]at hi;exact⟨hi,rfl⟩) hc (by rw[hh];simp) (λi r e=>by cases e) (λi r e=>by cases e) (by simp) (λi r e=>by cases e)
def cuD(es:Nat)(L:List (List C)):R:=.cu (.d (.sl es L)) es (bE L)
theorem aJT(es:Nat)(L:List (List C)):(cuD es L).hs=[]:=by simp only[cuD,R.hs,A.hs,yT,wX,dS]
theorem aGV(g:Nat->Nat)(es:Nat)(L:List (List C)):(cuD es L).eZ g=cuD es L:=by simp only[cuD,R.eZ,A.eZ,GQ]
theorem zM(L:List (List C))(hL:L.length<=2^38):∀(m:Mem)(d:Nat),m d=none->aJ Tryz.prog 173 [.d (.sl 1 L)] m (.ok (.h d)) (aX m d (cuD 1 L)):=by
 refine iW mix (F:=A.h) (r:=cuD 1 L) Tryz.func173 rfl (by kernel_rfl) (bD rfl) rfl (aJT _ _) (λ_ _=>rfl) (λi j hj=>by simpa [A.hs]using hj) (λg=>aGV g _ _) ?_;refine bl ?_;refine aIW.mk (by simp) (by simp) rfl ?_;conv=>whnf
 refine bl ?_;exact⟨_,rfl,rfl⟩
theorem CX(v:V)(hk:v.kind≠4):∀m,aJ Tryz.prog 131 [.x,.d (.agg v.cells),.x] m (.ok (.d (cb true))) m:=by
 refine iC mix Tryz.func131 ?_
 repeat'(first|refine bl ?_|refine bS (λh=>?_) (λh=>?_))
 ·exact absurd h hk
 ·exact dP rfl
theorem aBA(v:V)(hk:v.kind=4)(es:Nat):aJ Tryz.prog 131 [.x,.d (.agg v.cells),.lp 0 0] (aK [(0,.cells false [.d (.nl es)])]) (.ok (.d (cb true))) (aH (aK [(0,.cells false [.d (.nl es)])]) [(0,.cells false [.h 82]),(82,dU 25 1 [[ci v.r]])]):=by
 refine wE mix 10 Tryz.func131 (by(repeat'(first|exact aW))) (by(repeat'(first|exact aW|exact sn|refine bI ?_ ?_))) ?_
 repeat'(first|refine bl ?_|refine bS (λh=>?_) (λh=>?_))
 ·refine n8 (show(1:Nat)<=2^38 by decide) (by kernel_rfl) ?_;conv=>whnf
  refine E9.mk (λh=>by cases h) (λ_=>?_);conv=>whnf
  refine bl ?_;exact em
 ·exact absurd hk h
theorem WL(v:V)(hk:v.kind=4)(L:List (List C))(hL:L.length<=2^37):aJ Tryz.prog 131 [.x,.d (.agg v.cells),.lp 0 0] (aK [(0,.cells false [.h 1]),(1,dU 25 1 L)]) (.ok (.d (cb true))) (aH (aK [(0,.cells false [.h 1]),(1,dU 25 1 L)]) [(0,.cells false [.h 82]),(82,dU 25 1 (L++[[ci v.r]])),(1,.dead)]):=by
 refine wE mix 10 Tryz.func131 (by(repeat'(first|exact aW))) (by(repeat'(first|exact aW|exact sn|exact aZ|refine bI ?_ ?_))) ?_
 repeat'(first|refine bl ?_|refine bS (λh=>?_) (λh=>?_))
 ·refine n8 (show(bE L).length+1<=2^38 by simp only[bE,aB];omega) (by kernel_rfl) ?_;conv=>whnf
  refine bl ?_
  (refine dA rfl ?_<;>repeat'(first|exact aW|exact rS rfl|exact eV rfl|refine bI ?_ ?_))
  exact .inr (YQ rfl (ER L [[ci v.r]]).symm)
 ·exact absurd hk h
theorem TY{t1 t2 e zl b n:Nat}{x y:Bool}{Z:Prop}(h1:Nat.beq t1 t2=true)(h2:Nat.beq 1 e=true)(h3:Nat.beq zl 1=true)(h4:Nat.ble 1 b=true)(hb:Nat.ble b 512=true)(hn:n<=2^38)(hx:x=true)(hy:y=true)(hz:Z):
 xR (decide (t1=t2/\1=e/\zl=1/\0<1/\0<b/\n*b<=140737488355328)&&(x&&y)) Z:=by
 have h5:=bD hb;have h6:n*b<=2^38*512:=l5 hn h5;refine⟨?_,hz⟩;rw[hx,hy,o6,o6,decide_eq_true_eq];exact⟨bB h1,bB h2,bB h3,by omega,bD h4,by omega⟩
theorem aEQ{m':Mem}{L:List (List C)}{M:List (List C)}(h:rC m ((L.map λx=>x.map A.d)++(M.map λx=>x.map A.d)) (L++M)):rC m' ((L.map λx=>x.map A.d)++(M.map λx=>x.map A.d)) (L++M):=by
 rw[<-bP];exact rC.data _ _
theorem V.OK:∀(a b:List V),V.aP (a++b)=V.aP a++V.aP b
 |[],b=>by simp[V.aP]
 |v::a,b=>by simp only[bW,V.aP,V.OK a b,bG]
theorem V.aET(l:List V)(i:Nat)(h:i<l.length)(h0:V.aP l=[]):V.refs l[i]=[]:=by
 have h1:=V.uQ l i h;have h2:V.aP (l.take (i+1))=[]:=by
  have:=V.OK (l.take (i+1)) (l.drop (i+1));rw[gJ,h0]at this;exact(List.append_eq_nil_iff.1 this.symm).1
 rw[h2]at h1;exact(List.append_eq_nil_iff.1 h1.symm).2
theorem rL(v:V)(hv:v.cR<=2^37)(hr:v.refs=[])(Lp:List (List C))(hp:Lp.length+v.cR<=2^37):∀m,aJ Tryz.prog 130 [.d (.agg v.cells),.d (.sl 1 Lp),.fn (.func 131) [] [.x]] m (.ok (.d (cb true))) m:=by
 have hcd:=v.fA;have hl:=V.eW v.l;have hk:v.kind≠4:=by
  intro h;rw[V.sF,if_pos h]at hr;cases hr
 have hrl:V.aP v.l=[]:=by rw[V.sF,if_neg hk]at hr;exact hr
 have ih:∀i(h:i<v.l.length)(Lp:List (List C)),Lp.length+v.l[i].cR<=2^37->∀m,aJ Tryz.prog 130 [.d (.agg (V.cells v.l[i])),.d (.sl 1 Lp),.fn (.func 131) [] [.x]] m (.ok (.d (cb true))) m:=λi h Lp hp=>
  have:=v.k7 i h
  rL v.l[i] (by have:=V.dG v.l i h;omega) (V.aET _ i h hrl) Lp hp
 refine iC mix Tryz.func130 ?_;refine bl ?_;refine dR (CX v hk) (.cons (.x _) (.cons (.agg v.cells) (.cons (.same _) .nil))) ?_;conv=>whnf
 refine bl ?_;refine bV mix (λi:Nat=>i<=v.l.length) (I:=λi=>[(1,.d (.sl 1 Lp)),(2,.fn (.func 131) [] [.x]),(15,.d (.sl 5 (v.l.map V.row))),(16,.d (ci v.l.length)),(17,.d (ci i))])
  (J:=λi=>[]) (μ:=λi=>v.l.length -i) 100 0 (by omega) (by exact mv 5000 5001) ?_
 intro i hi
 repeat'(first|refine bl ?_|refine bS (λh=>?_) (λh=>?_))
 ·refine eE V.cP rfl (by decide) h ?_;have hcg:=V.dG v.l i h;conv=>whnf
  refine bl ?_;refine .fresh A.h (cuD 1 Lp) (zM Lp (by omega)) rfl ?_;conv=>whnf
  skip
  refine TY rfl (by kernel_rfl) (by kernel_rfl) (by kernel_rfl) (by kernel_rfl) (show(bE Lp).length+1<=2^38 by simp only[bE,aB];omega) rfl rfl ?_;conv=>whnf
  skip
  refine .BL _ [] (aJ.UZ (V:=[196]) (ih i h (Lp++[[ci i]]) (by simp only[aU,aQ,cS];omega)) (.v _) (.cons (.agg (V.cells v.l[i])) (.cons (.same _) (.cons (.fn .nil (.cons (.x _) .nil)) .nil))) (.cons (.same _) (.cons (.rd (.os (eX rfl rfl) ?_)) (.same _))) rfl) ?_
  ·have:=rC.data (EC [196] [(196,R.fW false 3 1 (bE Lp++[[.d (ci i)]]))]) (Lp++[[ci i]]);rw[bP]at this;exact aEQ this
  conv=>whnf
  refine bl ?_;refine⟨i+1,by omega,by omega,?_⟩;exact mv 5000 5001
 ·exact dP rfl
 termination_by SizeOf.sizeOf v
theorem aJ.UU{mb u mb' u':List (Nat×R)}(h:aJ P f xs (aK mb) (.ok v) (aH (aK mb) u))(hv:Flat v){g gi:Nat->Nat}(h1:∀i,gi (g i)=i)(h2:∀i,g (gi i)=i)(e1:lH g mb=mb')(e2:lH g u=u')(V:List Nat)
 (hc:IX (EC V ml) xs' (A.iV g xs))(hhs:rB mb' (A.lQ (A.iV g xs)))(hm:RN ml mb')(hV:VOk mb' V)(hcl:H9 mb' mb')(hfr:FrU ml mb' u')(hf1:sT mb')(hf2:sT u'):
 aJ P f xs' (aK ml) (.ok v) (aH (aK ml) u'):=by
 subst e1;subst e2;exact aJ.use h hv h1 h2 V hc hhs hm hV hcl hfr hf1 hf2
def g12(n i:Nat):Nat:=if i=1 then 2 else if i=2 then n else if i=n then 1 else i
def g21(n i:Nat):Nat:=if i=2 then 1 else if i=n then 2 else if i=1 then n else i
theorem aC9(n:Nat)(hn:2<n)(i:Nat):g21 n (g12 n i)=i:=by
 unfold g12 g21;split
 ·simp;omega
 ·split
  ·have:n≠2:=by omega
   simp[this];omega
  ·split
   ·have:¬(1:Nat)=n:=by omega
    simp[this];omega
   ·rename_i a b c;simp[a,b,c]
theorem aDA(n:Nat)(hn:2<n)(i:Nat):g12 n (g21 n i)=i:=by
 unfold g12 g21;split
 ·simp;omega
 ·split
  ·simp;omega
  ·split
   ·have a:¬n=1:=by omega
    have b:¬n=2:=by omega
    simp[a,b];omega
   ·rename_i a b c;simp[a,b,c]
mutual
def V.okR:V->Prop
 |.mk k _ _ l _=>(k=4->l=[])/\V.aEB l
def V.aEB:List V->Prop
 |[]=>True
 |v::r=>V.okR v/\V.aEB r
end
theorem V.Y0(v:V)(h:v.okR):(v.kind=4->v.l=[])/\V.aEB v.l:=by cases v;exact h
theorem V.EG:∀(l:List V)(h:V.aEB l)(i:Nat)(hi:i<l.length),V.okR l[i]
 |[],_,i,hi=>by simp at hi
 |v::r,h,0,hi=>h.1
 |v::r,h,i+1,hi=>V.EG r h.2 i (by simpa using hi)
theorem aDL(L:List Int):∀c∈(iR L).flatten,A.AQ (.d c)=true:=by
 intro c hc;obtain⟨e,he,hc⟩:=rQ.1 hc;obtain⟨x,_,rfl⟩:=aM.1 he;simp only[aR]at hc;subst hc;rfl
theorem vL(t:TypeId)(L:List Int):(dU t 1 (iR L)).IZ:=sT.dU (i:=0) (aDL L)
theorem aDK(a b:List Int):iR a++iR b=iR (a++b):=by simp[iR]
theorem IK{a b:Nat}(h:Nat.beq a b=false):a≠b:=λe=>by subst e;simp at h
theorem nY{l:List A}(h:l.all A.AQ=true):(R.cells false l).IZ:=⟨rfl,λa ha=>cV.1 h a ha⟩
theorem pY(L:List (List C))(r:List C):rC m (bE L++[r.map A.d]) (L++[r]):=by
 have:=rC.data m (L++[r])
 rwa [bP]at this
theorem V.CC:∀(l:List V)(i:Nat)(h:i<l.length),V.dB (l.take (i+1))=V.dB (l.take i)+V.cR l[i]
 |[],i,h=>by simp at h
 |v::r,0,h=>by simp[V.dB]
 |v::r,i+1,h=>by
  have:=V.CC r i (by simpa using h);simp only[cC,V.dB,cJ]at this⊢;omega
def Jc(L:List Int):List Int->List (Nat×R)
 |[]=>[(0,.cells false [.h 1]),(1,dU 25 1 (iR L))]
 |r::R=>[(0,.cells false [.h 2]),(2,dU 25 1 (iR (L++(r::R)))),(1,.dead)]
theorem aF7(v:V)(hv:v.cR<=2^36)(hok:v.okR)(hr:v.refs≠[])(Lp:List (List C))(hp:Lp.length+v.cR<=2^36)(L:List Int)(hL:L.length+v.cR<=2^36):
 aJ Tryz.prog 130 [.d (.agg v.cells),.d (.sl 1 Lp),.fn (.func 131) [] [.lp 0 0]] (aK [(0,.cells false [.h 1]),(1,dU 25 1 (iR L))]) (.ok (.d (cb true))) (aH (aK [(0,.cells false [.h 1]),(1,dU 25 1 (iR L))]) [(0,.cells false [.h 2]),(2,dU 25 1 (iR (L++v.refs))),(1,.dead)]):=by
 have hcd:=v.fA;have hl:=V.eW v.l;have hko:=v.Y0 hok;have hrd:=v.sF;have hrc:=V.EO v;have ih:∀i(h:i<v.l.length),v.l[i].refs≠[]->∀(Lp:List (List C)),Lp.length+v.l[i].cR<=2^36->∀(L:List Int),L.length+v.l[i].cR<=2^36->aJ Tryz.prog 130 [.d (.agg (V.cells v.l[i])),.d (.sl 1 Lp),.fn (.func 131) [] [.lp 0 0]] (aK [(0,.cells false [.h 1]),(1,dU 25 1 (iR L))]) (.ok (.d (cb true))) (aH (aK [(0,.cells false [.h 1]),(1,dU 25 1 (iR L))]) [(0,.cells false [.h 2]),(2,dU 25 1 (iR (L++v.l[i].refs))),(1,.dead)]):=λi h hr Lp hp L hL=>
  have:=v.k7 i h
  aF7 v.l[i] (by have:=V.dG v.l i h;omega) (V.EG _ hko.2 i h) hr Lp hp L hL
 refine wE mix 100 Tryz.func130 (by(repeat'(first|exact aW))) (by(repeat'(first|exact aW|exact sn|exact aZ|refine bI ?_ ?_))) ?_;refine bl ?_;by_cases hk:v.kind=4
 ·have hl0:=hko.1 hk;have hrf:v.refs=[v.r]:=by rw[V.sF,if_pos hk]
  refine dZ.mk (.d (cb true)) [(0,.cells false [.h 2]),(2,dU 25 1 (iR (L++v.refs))),(1,.dead)] ?_ ?_
  ·refine(aJ.UU (WL v hk (iR L) (by simp only[aB];omega)) (.v _) (g:=swp 82 2) (gi:=swp 82 2) (fH _ _) (fH _ _) (mb':=[(0,.cells false [.h 1]),(1,dU 25 1 (iR L))]) ?_ ?_ [] (xs':=[.x,.d (.agg v.cells),.lp 0 0]) (.same _) ?_ ?_ ?_ ?_ ?_ ?_ ?_).mR (.cons (.x _) (.cons (.agg v.cells) (.cons (.same _) .nil)))
   ·simp only[lH,aG,bM,eT];rfl
   ·rw[hrf];simp only[lH,aG,bM,eT,<-aDK];rfl
   all_goals(repeat'(first|exact aW|exact rfl|exact sn|exact aZ|exact rS sn|exact eV rfl|exact vL _ _|exact nY rfl|refine bI ?_ ?_))
  ·conv=>whnf
   refine bl ?_;refine bV mix (λi:Nat=>True) (I:=λi=>[(1,.d (.sl 1 Lp)),(2,.fn (.func 131) [] [.lp 0 0]),(15,.d (.sl 5 (v.l.map V.row))),(16,.d (ci v.l.length)),(17,.d (ci 0))])
    (J:=λi=>[(0,.cells false [.h 2]),(2,dU 25 1 (iR (L++v.refs))),(1,.dead)]) (μ:=λi=>0) 200 0 trivial (by exact mv 5000 5001) ?_
   intro _ _
   repeat'(first|refine bl ?_|refine bS (λh=>?_) (λh=>?_))
   ·exact absurd h (by rw[hl0];simp)
   ·exact em
 ·have hrf:v.refs=V.aP v.l:=by rw[V.sF,if_neg hk]
  refine dR (CX v hk) (.cons (.x _) (.cons (.agg v.cells) (.cons (.x _) .nil))) ?_;conv=>whnf
  refine bl ?_;refine bV mix (λa:Nat×List Int=>a.1<=v.l.length/\a.2=V.aP (v.l.take a.1)) (I:=λa=>[(1,.d (.sl 1 Lp)),(2,.fn (.func 131) [] [.lp 0 0]),(15,.d (.sl 5 (v.l.map V.row))),(16,.d (ci v.l.length)),(17,.d (ci a.1))])
   (J:=λa=>Jc L a.2) (μ:=λa=>v.l.length -a.1) 200 (0,[]) ⟨by simp,rfl⟩ (by exact mv 5000 5001) ?_
  rintro⟨i,R⟩ ⟨hi,hR⟩;dsimp only at hi hR⊢;have hRl:R.length<=V.dB v.l:=by rw[hR];exact cL (V.tT _) (V.kA _ _)
  cases R with
  |nil=>
   show vc _ _ _ _ _ [(0,.cells false [.h 1]),(1,dU 25 1 (iR L))] _ _
   repeat'(first|refine bl ?_|refine bS (λh=>?_) (λh=>?_))
   ·refine eE V.cP rfl (by decide) h ?_;have hcg:=V.dG v.l i h;have hst:=V.uQ v.l i h;rw[<-hR,bZ]at hst;conv=>whnf
    refine bl ?_;refine .fresh A.h (cuD 1 Lp) (zM Lp (by omega)) rfl ?_;conv=>whnf
    skip
    refine TY rfl (by kernel_rfl) (by kernel_rfl) (by kernel_rfl) (by kernel_rfl) (show(bE Lp).length+1<=2^38 by simp only[bE,aB];omega) rfl rfl ?_;conv=>whnf
    skip
    by_cases hri:v.l[i].refs=[]
    ·refine .BL _ [] ((aJ.UZ (V:=[296]) (xs:=[.d (.agg v.l[i].cells),.h 296,.fn (.func 131) [] [.x]]) (rL v.l[i] (by omega) hri (Lp++[[ci i]]) (by simp only[aU,aQ,cS];omega)) (.v _) (.cons (.same _) (.cons (.same _) (.cons (.same _) .nil))) (.cons (.same _) (.cons (.rd (.os (eX rfl rfl) (pY Lp [ci i]))) (.same _))) rfl).mR (.cons (.agg (V.cells v.l[i])) (.cons (.same _) (.cons (.fn .nil (.cons (.x _) .nil)) .nil)))) ?_;conv=>whnf
     refine bl ?_;refine⟨(i+1,[]),by dsimp only;omega,⟨by dsimp only;omega,by dsimp only;rw[hst,hri]⟩,?_⟩;exact mv 5000 5001
    ·refine .BL (.d (cb true)) [(0,.cells false [.h 2]),(2,dU 25 1 (iR (L++v.l[i].refs))),(1,.dead)] ?_ ?_
     ·refine(aJ.UU (ih i h hri (Lp++[[ci i]]) (by simp only[aU,aQ,cS];omega) L (by omega)) (.v _) (g:=id) (gi:=id) YF YF (mb':=[(0,.cells false [.h 1]),(1,dU 25 1 (iR L))]) ?_ ?_ [296] (xs':=[.d (.agg v.l[i].cells),.h 296,.fn (.func 131) [] [.lp 0 0]]) (.cons (.same _) (.cons (.rd (.os (eX rfl rfl) (pY Lp [ci i]))) (.same _))) ?_ ?_ ?_ ?_ ?_ ?_ ?_).mR (.cons (.agg (V.cells v.l[i])) (.cons (.same _) (.cons (.same _) .nil)))
      ·simp only[lH,aG,bM,eT];rfl
      ·simp only[lH,aG,bM,eT];rfl
      all_goals(repeat'(first|exact aW|exact rfl|exact sn|exact aZ|exact rS sn|exact eV rfl|exact vL _ _|exact nY rfl|refine bI ?_ ?_))
     ·conv=>whnf
      refine bl ?_;refine⟨(i+1,v.l[i].refs),by dsimp only;omega,⟨by dsimp only;omega,by dsimp only;rw[hst]⟩,?_⟩;cases hrr:v.l[i].refs with
      |nil=>exact absurd hrr hri
      |cons r R=>exact mv 5000 5001
   ·have e:v.l.take i=v.l:=aI (by omega);rw[e,<-hrf]at hR;exact absurd hR.symm hr
  |cons r R=>
   show vc _ _ _ _ _ [(0,.cells false [.h 2]),(2,dU 25 1 (iR (L++(r::R)))),(1,.dead)] _ _
   repeat'(first|refine bl ?_|refine bS (λh=>?_) (λh=>?_))
   ·refine eE V.cP rfl (by decide) h ?_;have hcg:=V.dG v.l i h;have hst:=V.uQ v.l i h;rw[<-hR]at hst;have hci:(r::R).length+v.l[i].cR<=V.dB v.l:=by
     have h1:=V.tT (v.l.take i);rw[<-hR]at h1;have h2:=V.CC v.l i h;have h3:=V.kA v.l (i+1);omega
    conv=>whnf
    refine bl ?_;refine .fresh A.h (cuD 1 Lp) (zM Lp (by omega)) rfl ?_;conv=>whnf
    skip
    refine TY rfl (by kernel_rfl) (by kernel_rfl) (by kernel_rfl) (by kernel_rfl) (show(bE Lp).length+1<=2^38 by simp only[bE,aB];omega) rfl rfl ?_;conv=>whnf
    skip
    by_cases hri:v.l[i].refs=[]
    ·refine .BL _ [] ((aJ.UZ (V:=[296]) (xs:=[.d (.agg v.l[i].cells),.h 296,.fn (.func 131) [] [.x]]) (rL v.l[i] (by omega) hri (Lp++[[ci i]]) (by simp only[aU,aQ,cS];omega)) (.v _) (.cons (.same _) (.cons (.same _) (.cons (.same _) .nil))) (.cons (.same _) (.cons (.rd (.os (eX rfl rfl) (pY Lp [ci i]))) (.same _))) rfl).mR (.cons (.agg (V.cells v.l[i])) (.cons (.same _) (.cons (.fn .nil (.cons (.x _) .nil)) .nil)))) ?_;conv=>whnf
     refine bl ?_;refine⟨(i+1,r::R),by dsimp only;omega,⟨by dsimp only;omega,by dsimp only;rw[hst,hri,dS]⟩,?_⟩;exact mv 5000 5001
    ·refine .BL (.d (cb true)) [(0,.cells false [.h 400]),(400,dU 25 1 (iR (L++(r::R)++v.l[i].refs))),(2,.dead)] ?_ ?_
     ·refine(aJ.UU (ih i h hri (Lp++[[ci i]]) (by simp only[aU,aQ,cS];omega) (L++(r::R)) (by(try simp only[aU]);omega)) (.v _) (g:=g12 400) (gi:=g21 400) (aC9 400 (by decide)) (aDA 400 (by decide)) (mb':=[(0,.cells false [.h 2]),(2,dU 25 1 (iR (L++(r::R))))]) ?_ ?_ [296] (xs':=[.d (.agg v.l[i].cells),.h 296,.fn (.func 131) [] [.lp 0 0]]) (.cons (.same _) (.cons (.rd (.os (eX rfl rfl) (pY Lp [ci i]))) (.same _))) ?_ ?_ ?_ ?_ ?_ ?_ ?_).mR (.cons (.agg (V.cells v.l[i])) (.cons (.same _) (.cons (.same _) .nil)))
      ·simp only[lH,aG,bM,eT];rfl
      ·simp only[lH,aG,bM,eT];rfl
      all_goals(repeat'(first|exact aW|exact rfl|exact sn|exact aZ|exact rS sn|exact eV rfl|exact vL _ _|exact nY rfl|refine bI ?_ ?_))
     ·conv=>whnf
      refine bl ?_;refine⟨(i+1,r::(R++v.l[i].refs)),by dsimp only;omega,⟨by dsimp only;omega,by dsimp only;rw[hst];rfl⟩,?_⟩;refine mq 400 2 ?_;exact cO rfl (by simp only[bG,bW])
   ·have e:v.l.take i=v.l:=aI (by omega);rw[e,<-hrf]at hR;rw[<-hR];exact em
 termination_by SizeOf.sizeOf v
def Jn:List Int->List (Nat×R)
 |[]=>[(0,.cells false [.d (.nl 1)])]
 |r::R=>[(0,.cells false [.h 2]),(2,dU 25 1 (iR (r::R)))]
theorem W6(v:V)(hv:v.cR<=2^36)(hok:v.okR)(hr:v.refs≠[])(Lp:List (List C))(hp:Lp.length+v.cR<=2^36):
 aJ Tryz.prog 130 [.d (.agg v.cells),.d (.sl 1 Lp),.fn (.func 131) [] [.lp 0 0]] (aK [(0,.cells false [.d (.nl 1)])]) (.ok (.d (cb true))) (aH (aK [(0,.cells false [.d (.nl 1)])]) [(0,.cells false [.h 2]),(2,dU 25 1 (iR v.refs))]):=by
 have hcd:=v.fA;have hl:=V.eW v.l;have hko:=v.Y0 hok;have hrd:=v.sF;have hrc:=V.EO v;have ih:∀i(h:i<v.l.length),v.l[i].refs≠[]->∀(Lp:List (List C)),Lp.length+v.l[i].cR<=2^36->aJ Tryz.prog 130 [.d (.agg (V.cells v.l[i])),.d (.sl 1 Lp),.fn (.func 131) [] [.lp 0 0]] (aK [(0,.cells false [.d (.nl 1)])]) (.ok (.d (cb true))) (aH (aK [(0,.cells false [.d (.nl 1)])]) [(0,.cells false [.h 2]),(2,dU 25 1 (iR v.l[i].refs))]):=λi h hr Lp hp=>
  have:=v.k7 i h
  W6 v.l[i] (by have:=V.dG v.l i h;omega) (V.EG _ hko.2 i h) hr Lp hp
 refine wE mix 100 Tryz.func130 (by(repeat'(first|exact aW))) (by(repeat'(first|exact aW|exact sn|exact aZ|refine bI ?_ ?_))) ?_;refine bl ?_;by_cases hk:v.kind=4
 ·have hl0:=hko.1 hk;have hrf:v.refs=[v.r]:=by rw[V.sF,if_pos hk]
  refine dZ.mk (.d (cb true)) [(0,.cells false [.h 2]),(2,dU 25 1 (iR v.refs))] ?_ ?_
  ·refine(aJ.UU (aBA v hk 1) (.v _) (g:=swp 82 2) (gi:=swp 82 2) (fH _ _) (fH _ _) (mb':=[(0,.cells false [.d (.nl 1)])]) ?_ ?_ [] (xs':=[.x,.d (.agg v.cells),.lp 0 0]) (.same _) ?_ ?_ ?_ ?_ ?_ ?_ ?_).mR (.cons (.x _) (.cons (.agg v.cells) (.cons (.same _) .nil)))
   ·rfl
   ·rw[hrf];simp only[lH,aG,bM,eT];rfl
   all_goals(repeat'(first|exact aW|exact rfl|exact sn|exact rS sn|exact eV rfl|exact vL _ _|exact nY rfl|refine bI ?_ ?_))
  ·conv=>whnf
   refine bl ?_;refine bV mix (λi:Nat=>True) (I:=λi=>[(1,.d (.sl 1 Lp)),(2,.fn (.func 131) [] [.lp 0 0]),(15,.d (.sl 5 (v.l.map V.row))),(16,.d (ci v.l.length)),(17,.d (ci 0))])
    (J:=λi=>[(0,.cells false [.h 2]),(2,dU 25 1 (iR v.refs))]) (μ:=λi=>0) 200 0 trivial (by exact mv 5000 5001) ?_
   intro _ _
   repeat'(first|refine bl ?_|refine bS (λh=>?_) (λh=>?_))
   ·exact absurd h (by rw[hl0];simp)
   ·exact em
 ·have hrf:v.refs=V.aP v.l:=by rw[V.sF,if_neg hk]
  refine dR (CX v hk) (.cons (.x _) (.cons (.agg v.cells) (.cons (.x _) .nil))) ?_;conv=>whnf
  refine bl ?_;refine bV mix (λa:Nat×List Int=>a.1<=v.l.length/\a.2=V.aP (v.l.take a.1)) (I:=λa=>[(1,.d (.sl 1 Lp)),(2,.fn (.func 131) [] [.lp 0 0]),(15,.d (.sl 5 (v.l.map V.row))),(16,.d (ci v.l.length)),(17,.d (ci a.1))])
   (J:=λa=>Jn a.2) (μ:=λa=>v.l.length -a.1) 200 (0,[]) ⟨by simp,rfl⟩ (by exact mv 5000 5001) ?_
  rintro⟨i,R⟩ ⟨hi,hR⟩;dsimp only at hi hR⊢;have hRl:R.length<=V.dB v.l:=by rw[hR];exact cL (V.tT _) (V.kA _ _)
  cases R with
  |nil=>
   show vc _ _ _ _ _ [(0,.cells false [.d (.nl 1)])] _ _
   repeat'(first|refine bl ?_|refine bS (λh=>?_) (λh=>?_))
   ·refine eE V.cP rfl (by decide) h ?_;have hcg:=V.dG v.l i h;have hst:=V.uQ v.l i h;rw[<-hR,bZ]at hst;conv=>whnf
    refine bl ?_;refine .fresh A.h (cuD 1 Lp) (zM Lp (by omega)) rfl ?_;conv=>whnf
    skip
    refine TY rfl (by kernel_rfl) (by kernel_rfl) (by kernel_rfl) (by kernel_rfl) (show(bE Lp).length+1<=2^38 by simp only[bE,aB];omega) rfl rfl ?_;conv=>whnf
    skip
    by_cases hri:v.l[i].refs=[]
    ·refine .BL _ [] ((aJ.UZ (V:=[296]) (xs:=[.d (.agg v.l[i].cells),.h 296,.fn (.func 131) [] [.x]]) (rL v.l[i] (by omega) hri (Lp++[[ci i]]) (by simp only[aU,aQ,cS];omega)) (.v _) (.cons (.same _) (.cons (.same _) (.cons (.same _) .nil))) (.cons (.same _) (.cons (.rd (.os (eX rfl rfl) (pY Lp [ci i]))) (.same _))) rfl).mR (.cons (.agg (V.cells v.l[i])) (.cons (.same _) (.cons (.fn .nil (.cons (.x _) .nil)) .nil)))) ?_;conv=>whnf
     refine bl ?_;refine⟨(i+1,[]),by dsimp only;omega,⟨by dsimp only;omega,by dsimp only;rw[hst,hri]⟩,?_⟩;exact mv 5000 5001
    ·refine .BL (.d (cb true)) [(0,.cells false [.h 2]),(2,dU 25 1 (iR v.l[i].refs))] ?_ ?_
     ·refine(aJ.UU (ih i h hri (Lp++[[ci i]]) (by simp only[aU,aQ,cS];omega)) (.v _) (g:=id) (gi:=id) YF YF (mb':=[(0,.cells false [.d (.nl 1)])]) ?_ ?_ [296] (xs':=[.d (.agg v.l[i].cells),.h 296,.fn (.func 131) [] [.lp 0 0]]) (.cons (.same _) (.cons (.rd (.os (eX rfl rfl) (pY Lp [ci i]))) (.same _))) ?_ ?_ ?_ ?_ ?_ ?_ ?_).mR (.cons (.agg (V.cells v.l[i])) (.cons (.same _) (.cons (.same _) .nil)))
      ·simp only[lH,aG,bM,eT];rfl
      ·simp only[lH,aG,bM,eT];rfl
      all_goals(repeat'(first|exact aW|exact rfl|exact sn|exact rS sn|exact eV rfl|exact vL _ _|exact nY rfl|refine bI ?_ ?_))
     ·conv=>whnf
      refine bl ?_;refine⟨(i+1,v.l[i].refs),by dsimp only;omega,⟨by dsimp only;omega,by dsimp only;rw[hst]⟩,?_⟩;cases hrr:v.l[i].refs with
      |nil=>exact absurd hrr hri
      |cons r R=>exact mv 5000 5001
   ·have e:v.l.take i=v.l:=aI (by omega);rw[e,<-hrf]at hR;exact absurd hR.symm hr
  |cons r R=>
   show vc _ _ _ _ _ [(0,.cells false [.h 2]),(2,dU 25 1 (iR (r::R)))] _ _
   repeat'(first|refine bl ?_|refine bS (λh=>?_) (λh=>?_))
   ·refine eE V.cP rfl (by decide) h ?_;have hcg:=V.dG v.l i h;have hst:=V.uQ v.l i h;rw[<-hR]at hst;have hci:(r::R).length+v.l[i].cR<=V.dB v.l:=by
     have h1:=V.tT (v.l.take i);rw[<-hR]at h1;have h2:=V.CC v.l i h;have h3:=V.kA v.l (i+1);omega
    conv=>whnf
    refine bl ?_;refine .fresh A.h (cuD 1 Lp) (zM Lp (by omega)) rfl ?_;conv=>whnf
    skip
    refine TY rfl (by kernel_rfl) (by kernel_rfl) (by kernel_rfl) (by kernel_rfl) (show(bE Lp).length+1<=2^38 by simp only[bE,aB];omega) rfl rfl ?_;conv=>whnf
    skip
    by_cases hri:v.l[i].refs=[]
    ·refine .BL _ [] ((aJ.UZ (V:=[296]) (xs:=[.d (.agg v.l[i].cells),.h 296,.fn (.func 131) [] [.x]]) (rL v.l[i] (by omega) hri (Lp++[[ci i]]) (by simp only[aU,aQ,cS];omega)) (.v _) (.cons (.same _) (.cons (.same _) (.cons (.same _) .nil))) (.cons (.same _) (.cons (.rd (.os (eX rfl rfl) (pY Lp [ci i]))) (.same _))) rfl).mR (.cons (.agg (V.cells v.l[i])) (.cons (.same _) (.cons (.fn .nil (.cons (.x _) .nil)) .nil)))) ?_;conv=>whnf
     refine bl ?_;refine⟨(i+1,r::R),by dsimp only;omega,⟨by dsimp only;omega,by dsimp only;rw[hst,hri,dS]⟩,?_⟩;exact mv 5000 5001
    ·refine .BL (.d (cb true)) [(0,.cells false [.h 400]),(400,dU 25 1 (iR ((r::R)++v.l[i].refs))),(2,.dead)] ?_ ?_
     ·refine(aJ.UU (aF7 v.l[i] (by omega) (V.EG _ hko.2 i h) hri (Lp++[[ci i]]) (by simp only[aU,aQ,cS];omega) ((r::R)) (by(try simp only[aU]);omega)) (.v _) (g:=g12 400) (gi:=g21 400) (aC9 400 (by decide)) (aDA 400 (by decide)) (mb':=[(0,.cells false [.h 2]),(2,dU 25 1 (iR ((r::R))))]) ?_ ?_ [296] (xs':=[.d (.agg v.l[i].cells),.h 296,.fn (.func 131) [] [.lp 0 0]]) (.cons (.same _) (.cons (.rd (.os (eX rfl rfl) (pY Lp [ci i]))) (.same _))) ?_ ?_ ?_ ?_ ?_ ?_ ?_).mR (.cons (.agg (V.cells v.l[i])) (.cons (.same _) (.cons (.same _) .nil)))
      ·simp only[lH,aG,bM,eT];rfl
      ·simp only[lH,aG,bM,eT];rfl
      all_goals(repeat'(first|exact aW|exact rfl|exact sn|exact aZ|exact rS sn|exact eV rfl|exact vL _ _|exact nY rfl|refine bI ?_ ?_))
     ·conv=>whnf
      refine bl ?_;refine⟨(i+1,r::(R++v.l[i].refs)),by dsimp only;omega,⟨by dsimp only;omega,by dsimp only;rw[hst];rfl⟩,?_⟩;exact mv 400 2
   ·have e:v.l.take i=v.l:=aI (by omega);rw[e,<-hrf]at hR;rw[<-hR];exact em
 termination_by SizeOf.sizeOf v
end Go.Pv
