import Derived.Test.YtpdcbahjjmooiaaGreatQ9
/- Contracts of functions that the law reaches, and their logic. No conditions. -/
set_option linter.all false
set_option maxRecDepth 100000
set_option maxHeartbeats 8000000
open Go Go.Proofs
namespace Go.Pv
open Go.RowKit
variable{m:Mem}{P:Program}{f:FuncId}{xs xs':List A}{ml:List (Nat×R)}{v:A}{kt:TypeId}{r:Int}{w:D4}{F:List ((Int×Int)×Int)}{t:T4}
mutual
inductive Wa:A->A->Prop
 |x (a:A):Wa a .x
 |same (a:A):Wa a a
 |agg (cs:List C):Wa (.agg (cs.map A.d)) (.d (.agg cs))
 |nl (e e':Nat):Wa (.d (.nl e)) (.d (.sl e' []))
 |fn {f:Fn} {u v u' v':List A}:IN u u'->IN v v'->Wa (.fn f u v) (.fn f u' v')
inductive IN:List A->List A->Prop
 |nil:IN [] []
 |cons {a b:A} {l r:List A}:Wa a b->IN l r->IN (a::l) (b::r)
end
mutual
def Wa.den{w:World}{M:Nat->Prop}{m:Mem}{ρ:Nat->Value}:∀{a b:A}{y:Value},Wa a b->a.Den w M m ρ y->b.Den w M m ρ y
 |_,_,y,.x a,h=>by simp only[A.Den]
 |_,_,y,.same a,h=>h
 |_,_,y,.agg cs,h=>I3 h
 |_,_,y,.nl e e',h=>by
  simp only[A.Den,C.Den]at h⊢;exact⟨none,0,by rw[h];rfl,bT _,.inl tV⟩
 |_,_,y,.fn h1 h2,h=>by
  simp only[A.Den]at h⊢;obtain⟨us,vs,e,k1,k2⟩:=h;exact⟨us,vs,e,h1.den k1,h2.den k2⟩
def IN.den{w:World}{M:Nat->Prop}{m:Mem}{ρ:Nat->Value}:∀{l r:List A}{ys:List Value},IN l r->A.bR w M m ρ l ys->A.bR w M m ρ r ys
 |_,_,ys,.nil,h=>h
 |_,_,ys,.cons h1 h2,h=>by
  simp only[A.bR]at h⊢;obtain⟨y,yr,e,k1,k2⟩:=h;exact⟨y,yr,e,h1.den k1,h2.den k2⟩
end
def aJ.mR{m':Mem}{r:Rt}(h:aJ P f xs m r m')(hw:IN xs' xs):aJ P f xs' m r m':=h.args λw M ρ vs hv=>hw.den hv
def dR{k:A->List (Nat×R)->Prop}(h:∀m,aJ P f xs m (.ok v) m)(hw:IN xs' xs)(hk:k v []):dZ P f xs' ml k:=aF (λm=>(h m).mR hw) hk
def jV{nx:Nat}{k:A->List (Nat×R)->Bool->Prop}(h:∀m,aJ P f xs m (.ok v) m)(hw:IN xs' xs)(hk:k v [] false):xQ P f xs' ml nx k:=cH (λm=>(h m).mR hw) hk
def aJ.UZ{xs1 xs2:List A}{V:List Nat}(h:∀m,aJ P f xs2 m (.ok v) m)(hv:Flat v)(hw:IN xs1 xs2)(hc:IX (EC V ml) xs xs1)(hh:A.lQ xs1=[]):aJ P f xs (aK ml) (.ok v) (aK ml):=by
 have k:aJ P f xs1 (λ_=>none) (.ok v) (aH (λ_=>none) []):=(h _).mR hw
 exact aJ.aC7 (mF:=EC V ml) (ups:=[]) k hv (λi r hi=>by
  unfold EC at hi;cases hq:s9 i V with
  |false=>rw[hq]at hi;cases hi
  |true=>rw[hq]at hi;exact⟨hi,rfl⟩) hc (by rw[hh];simp) (λi r e=>by cases e) (λi r e=>by cases e) sM (λi r e=>by cases e)
def V0(es:Nat)(L:List (List C)):R:=.cu (.d (.sl es L)) es (bE L)
def aJT(es:Nat)(L:List (List C)):(V0 es L).hs=[]:=by simp only[V0,R.hs,A.hs,yT,wX,dS]
def aGV(g:Nat->Nat)(es:Nat)(L:List (List C)):(V0 es L).eZ g=V0 es L:=by simp only[V0,R.eZ,A.eZ,GQ]
def aEK(L:List (List C))(hL:L.length<=2^38):∀(m:Mem)(d:Nat),m d=none->aJ Tryz.prog 173 [.d (.sl 1 L)] m (.ok (.h d)) (aX m d (V0 1 L)):=by
 refine iW mix (F:=A.h) (r:=V0 1 L) Tryz.func173 rfl kK (bD rfl) rfl (aJT _ _) (λ_ _=>rfl) (λi j hj=>by simpa [A.hs]using hj) (λg=>aGV g _ _) ?_;refine bl ?_;refine aIW.mk sM sM rfl ?_;conv=>whnf
 refine bl ?_;exact⟨_,rfl,rfl⟩
def CX(v:V)(hk:v.kind≠4):Pu 131 [.x,.d (.agg v.aT1),.x] (.d (cb true)):=by
 refine iC mix Tryz.func131 ?_
 repeat'(first|refine bl ?_|refine bS (λh=>?_) (λh=>?_))
 ·exact absurd h hk
 ·exact dP rfl
def aBA(v:V)(hk:v.kind=4)(es:Nat):aJ Tryz.prog 131 [.x,.d (.agg v.aT1),.lp 0 0] (aK [(0,.cells false [.d (.nl es)])]) (.ok (.d (cb true))) (aH (aK [(0,.cells false [.d (.nl es)])]) [(0,.cells false [.h 82]),(82,dU 25 1 [[ci v.r]])]):=by
 refine wE mix 10 Tryz.func131 (by(repeat'(first|exact aW))) (by(repeat'(first|exact aW|exact sn|refine bI ?_ ?_))) ?_
 repeat'(first|refine bl ?_|refine bS (λh=>?_) (λh=>?_))
 ·refine n8 (show(1:Nat)<=2^38 by decide) kK ?_;conv=>whnf
  refine E9.mk (λh=>by cases h) (λ_=>?_);conv=>whnf
  refine bl ?_;exact em
 ·exact absurd hk h
def WL(v:V)(hk:v.kind=4)(L:List (List C))(hL:L.length<=2^37):aJ Tryz.prog 131 [.x,.d (.agg v.aT1),.lp 0 0] (aK [(0,.cells false [.h 1]),(1,dU 25 1 L)]) (.ok (.d (cb true))) (aH (aK [(0,.cells false [.h 1]),(1,dU 25 1 L)]) [(0,.cells false [.h 82]),(82,dU 25 1 (L++[[ci v.r]])),(1,.dead)]):=by
 refine wE mix 10 Tryz.func131 (by(repeat'(first|exact aW))) (by(repeat'(first|exact aW|exact sn|exact aZ|refine bI ?_ ?_))) ?_
 repeat'(first|refine bl ?_|refine bS (λh=>?_) (λh=>?_))
 ·refine n8 (show(bE L).length+1<=2^38 by simp only[bE,aB];omega) kK ?_;conv=>whnf
  refine bl ?_
  (refine dA rfl ?_<;>repeat'(first|exact aW|exact rS rfl|exact eV rfl|refine bI ?_ ?_))
  exact .inr (YQ rfl (ER L [[ci v.r]]).symm)
 ·exact absurd hk h
def TY{t1 t2 e zl b n:Nat}{x y:Bool}{Z:Prop}(h1:Nat.beq t1 t2=true)(h2:Nat.beq 1 e=true)(h3:Nat.beq zl 1=true)(h4:Nat.ble 1 b=true)(hb:Nat.ble b 512=true)(hn:n<=2^38)(hx:x=true)(hy:y=true)(hz:Z):
 xR (decide (t1=t2/\1=e/\zl=1/\0<1/\0<b/\n*b<=140737488355328)&&(x&&y)) Z:=by
 have h5:=bD hb;have h6:n*b<=2^38*512:=Nat.mul_le_mul hn h5;refine⟨?_,hz⟩;rw[hx,hy,o6,o6,aUA];exact⟨bB h1,bB h2,bB h3,oM,bD h4,oM⟩
def aEQ{m':Mem}{L:List (List C)}{M:List (List C)}(h:D6 m ((L.map λx=>x.map A.d)++(M.map λx=>x.map A.d)) (L++M)):D6 m' ((L.map λx=>x.map A.d)++(M.map λx=>x.map A.d)) (L++M):=by
 rw[<-List.map_append];exact D6.data _ _
def V.OK:∀(a b:List V),V.aP (a++b)=V.aP a++V.aP b
 |[],b=>by simp[V.aP]
 |v::a,b=>by simp only[bW,V.aP,V.OK a b,bG]
def V.aET(l:List V)(i:Nat)(h:i<l.length)(h0:V.aP l=[]):V.refs l[i]=[]:=by
 have h1:=V.uQ l i h;have h2:V.aP (l.take (i+1))=[]:=by
  have:=V.OK (l.take (i+1)) (l.drop (i+1));rw[gJ,h0]at this;exact(List.append_eq_nil_iff.1 this.symm).1
 rw[h2]at h1;exact(List.append_eq_nil_iff.1 h1.symm).2
def rL(v:V)(hv:v.cR<=2^37)(hr:v.refs=[])(Lp:List (List C))(hp:Lp.length+v.cR<=2^37):Pu 130 [.d (.agg v.aT1),.d (.sl 1 Lp),.fn (.func 131) [] [.x]] (.d (cb true)):=by
 have AZ:=v.fA;have hl:=V.eW v.l;have hk:v.kind≠4:=by
  intro h;rw[V.sF,aUF h]at hr;cases hr
 have hrl:V.aP v.l=[]:=by rw[V.sF,aT7 hk]at hr;exact hr
 have ih:∀i(h:i<v.l.length)(Lp:List (List C)),Lp.length+v.l[i].cR<=2^37->Pu 130 [.d (.agg (V.aT1 v.l[i])),.d (.sl 1 Lp),.fn (.func 131) [] [.x]] (.d (cb true)):=λi h Lp hp=>
  have:=v.gM i h
  rL v.l[i] (by have:=V.dG v.l i h;omega) (V.aET _ i h hrl) Lp hp
 refine iC mix Tryz.func130 ?_;refine bl ?_;refine dR (CX v hk) (.cons (.x _) (.cons (.agg v.aT1) (.cons (.same _) .nil))) ?_;conv=>whnf
 refine bl ?_;refine bV mix (λi:Nat=>i<=v.l.length) (I:=λi=>[(1,.d (.sl 1 Lp)),(2,.fn (.func 131) [] [.x]),(15,.d (.sl 5 (v.l.map V.row))),(16,.d (ci v.l.length)),(17,.d (ci i))])
  (J:=λi=>[]) (μ:=λi=>v.l.length -i) 100 0 oM mZ ?_
 intro i hi
 repeat'(first|refine bl ?_|refine bS (λh=>?_) (λh=>?_))
 ·refine eE V.cP rfl eD h ?_;have hcg:=V.dG v.l i h;conv=>whnf
  refine bl ?_;refine .fresh A.h (V0 1 Lp) (aEK Lp oM) rfl ?_;conv=>whnf
  skip
  refine TY rfl kK kK kK kK (show(bE Lp).length+1<=2^38 by simp only[bE,aB];omega) rfl rfl ?_;conv=>whnf
  skip
  refine .BL _ [] (aJ.UZ (V:=[196]) (ih i h (Lp++[[ci i]]) (by simp only[aU,aQ,cS];omega)) (.v _) (.cons (.agg (V.aT1 v.l[i])) (.cons (.same _) (.cons (.fn .nil (.cons (.x _) .nil)) .nil))) (.cons (.same _) (.cons (.rd (.os (eX rfl rfl) ?_)) (.same _))) rfl) ?_
  ·have:=D6.data (EC [196] [(196,R.fW false 3 1 (bE Lp++[[.d (ci i)]]))]) (Lp++[[ci i]]);rw[bP]at this;exact aEQ this
  conv=>whnf
  refine bl ?_;refine⟨i+1,oM,oM,?_⟩;exact mZ
 ·exact dP rfl
 termination_by SizeOf.sizeOf v
def aJ.UU{mb u mb' u':List (Nat×R)}(h:aJ P f xs (aK mb) (.ok v) (aH (aK mb) u))(hv:Flat v){g gi:Nat->Nat}(h1:∀i,gi (g i)=i)(h2:∀i,g (gi i)=i)(e1:lH g mb=mb')(e2:lH g u=u')(V:List Nat)
 (hc:IX (EC V ml) xs' (A.iV g xs))(hhs:rB mb' (A.lQ (A.iV g xs)))(hm:RN ml mb')(hV:T8 mb' V)(n0:H9 mb' mb')(hfr:HH ml mb' u')(hf1:sT mb')(hf2:sT u'):
 aJ P f xs' (aK ml) (.ok v) (aH (aK ml) u'):=by
 subst e1;subst e2;exact aJ.use h hv h1 h2 V hc hhs hm hV n0 hfr hf1 hf2
def g12(n i:Nat):Nat:=if i=1 then 2 else if i=2 then n else if i=n then 1 else i
def g21(n i:Nat):Nat:=if i=2 then 1 else if i=n then 2 else if i=1 then n else i
def aC9(n:Nat)(hn:2<n)(i:Nat):g21 n (g12 n i)=i:=by
 unfold g12 g21;split
 ·simp;omega
 ·split
  ·have:n≠2:=oM;simp[this];omega
  ·split
   ·have:¬(1:Nat)=n:=oM;simp[this];omega
   ·rename_i a b c;simp[a,b,c]
def aDA(n:Nat)(hn:2<n)(i:Nat):g12 n (g21 n i)=i:=by
 unfold g12 g21;split
 ·simp;omega
 ·split
  ·simp;omega
  ·split
   ·have a:¬n=1:=oM;have b:¬n=2:=oM;simp[a,b];omega
   ·rename_i a b c;simp[a,b,c]
mutual
def V.NX:V->Prop
 |.mk k _ _ l _=>(k=4->l=[])/\V.aEB l
def V.aEB:List V->Prop
 |[]=>True
 |v::r=>V.NX v/\V.aEB r
end
def V.Y0(v:V)(h:v.NX):(v.kind=4->v.l=[])/\V.aEB v.l:=by cases v;exact h
def V.EG:∀(l:List V)(h:V.aEB l)(i:Nat)(hi:i<l.length),V.NX l[i]
 |[],_,i,hi=>by simp at hi
 |v::r,h,0,hi=>h.1
 |v::r,h,i+1,hi=>V.EG r h.2 i (by simpa using hi)
def aDL(L:List Int):∀c∈(iR L).flatten,A.AQ (.d c)=true:=by
 intro c hc;obtain⟨e,he,hc⟩:=List.mem_flatten.1 hc;obtain⟨x,_,rfl⟩:=aA4.1 he;simp only[aR]at hc;subst hc;rfl
def vL(t:TypeId)(L:List Int):(dU t 1 (iR L)).IZ:=sT.dU (i:=0) (aDL L)
def aDK(a b:List Int):iR a++iR b=iR (a++b):=by simp[iR]
def IK{a b:Nat}(h:Nat.beq a b=false):a≠b:=λe=>by subst e;simp at h
def nY{l:List A}(h:l.all A.AQ=true):(R.cells false l).IZ:=⟨rfl,λa ha=>cV.1 h a ha⟩
def pY(L:List (List C))(r:List C):D6 m (bE L++[r.map A.d]) (L++[r]):=by
 have:=D6.data m (L++[r])
 rwa [bP]at this
def V.CC:∀(l:List V)(i:Nat)(h:i<l.length),V.dB (l.take (i+1))=V.dB (l.take i)+V.cR l[i]
 |[],i,h=>by simp at h
 |v::r,0,h=>by simp[V.dB]
 |v::r,i+1,h=>by
  have:=V.CC r i (by simpa using h);simp only[cC,V.dB,cJ]at this⊢;omega
def Jc(L:List Int):List Int->List (Nat×R)
 |[]=>[(0,.cells false [.h 1]),(1,dU 25 1 (iR L))]
 |r::R=>[(0,.cells false [.h 2]),(2,dU 25 1 (iR (L++(r::R)))),(1,.dead)]
def aF7(v:V)(hv:v.cR<=2^36)(hok:v.NX)(hr:v.refs≠[])(Lp:List (List C))(hp:Lp.length+v.cR<=2^36)(L:List Int)(hL:L.length+v.cR<=2^36):
 aJ Tryz.prog 130 [.d (.agg v.aT1),.d (.sl 1 Lp),.fn (.func 131) [] [.lp 0 0]] (aK [(0,.cells false [.h 1]),(1,dU 25 1 (iR L))]) (.ok (.d (cb true))) (aH (aK [(0,.cells false [.h 1]),(1,dU 25 1 (iR L))]) [(0,.cells false [.h 2]),(2,dU 25 1 (iR (L++v.refs))),(1,.dead)]):=by
 have AZ:=v.fA;have hl:=V.eW v.l;have QS:=v.Y0 hok;have hrd:=v.sF;have hrc:=V.EO v;have ih:∀i(h:i<v.l.length),v.l[i].refs≠[]->∀(Lp:List (List C)),Lp.length+v.l[i].cR<=2^36->∀(L:List Int),L.length+v.l[i].cR<=2^36->aJ Tryz.prog 130 [.d (.agg (V.aT1 v.l[i])),.d (.sl 1 Lp),.fn (.func 131) [] [.lp 0 0]] (aK [(0,.cells false [.h 1]),(1,dU 25 1 (iR L))]) (.ok (.d (cb true))) (aH (aK [(0,.cells false [.h 1]),(1,dU 25 1 (iR L))]) [(0,.cells false [.h 2]),(2,dU 25 1 (iR (L++v.l[i].refs))),(1,.dead)]):=λi h hr Lp hp L hL=>
  have:=v.gM i h
  aF7 v.l[i] (by have:=V.dG v.l i h;omega) (V.EG _ QS.2 i h) hr Lp hp L hL
 refine wE mix 100 Tryz.func130 (by(repeat'(first|exact aW))) (by(repeat'(first|exact aW|exact sn|exact aZ|refine bI ?_ ?_))) ?_;refine bl ?_;by_cases hk:v.kind=4
 ·have hl0:=QS.1 hk;have hrf:v.refs=[v.r]:=by rw[V.sF,aUF hk]
  refine dZ.mk (.d (cb true)) [(0,.cells false [.h 2]),(2,dU 25 1 (iR (L++v.refs))),(1,.dead)] ?_ ?_
  ·refine(aJ.UU (WL v hk (iR L) (by simp only[aB];omega)) (.v _) (g:=swp 82 2) (gi:=swp 82 2) (fH _ _) (fH _ _) (mb':=[(0,.cells false [.h 1]),(1,dU 25 1 (iR L))]) ?_ ?_ [] (xs':=[.x,.d (.agg v.aT1),.lp 0 0]) (.same _) ?_ ?_ ?_ ?_ ?_ ?_ ?_).mR (.cons (.x _) (.cons (.agg v.aT1) (.cons (.same _) .nil)))
   ·simp only[lH,aG,bM,eT];rfl
   ·rw[hrf];simp only[lH,aG,bM,eT,<-aDK];rfl
   all_goals(repeat'(first|exact aW|exact rfl|exact sn|exact aZ|exact rS sn|exact eV rfl|exact vL _ _|exact nY rfl|refine bI ?_ ?_))
  ·conv=>whnf
   refine bl ?_;refine bV mix (λi:Nat=>True) (I:=λi=>[(1,.d (.sl 1 Lp)),(2,.fn (.func 131) [] [.lp 0 0]),(15,.d (.sl 5 (v.l.map V.row))),(16,.d (ci v.l.length)),(17,.d (ci 0))])
    (J:=λi=>[(0,.cells false [.h 2]),(2,dU 25 1 (iR (L++v.refs))),(1,.dead)]) (μ:=λi=>0) 200 0 tV mZ ?_
   intro _ _
   repeat'(first|refine bl ?_|refine bS (λh=>?_) (λh=>?_))
   ·exact absurd h (by rw[hl0];simp)
   ·exact em
 ·have hrf:v.refs=V.aP v.l:=by rw[V.sF,aT7 hk]
  refine dR (CX v hk) (.cons (.x _) (.cons (.agg v.aT1) (.cons (.x _) .nil))) ?_;conv=>whnf
  refine bl ?_;refine bV mix (λa:Nat×List Int=>a.1<=v.l.length/\a.2=V.aP (v.l.take a.1)) (I:=λa=>[(1,.d (.sl 1 Lp)),(2,.fn (.func 131) [] [.lp 0 0]),(15,.d (.sl 5 (v.l.map V.row))),(16,.d (ci v.l.length)),(17,.d (ci a.1))])
   (J:=λa=>Jc L a.2) (μ:=λa=>v.l.length -a.1) 200 (0,[]) ⟨sM,rfl⟩ mZ ?_
  rintro⟨i,R⟩ ⟨hi,hR⟩;dsimp only at hi hR⊢;have hRl:R.length<=V.dB v.l:=by rw[hR];exact cL (V.tT _) (V.kA _ _)
  cases R with
  |nil=>
   show vc _ _ _ _ _ [(0,.cells false [.h 1]),(1,dU 25 1 (iR L))] _ _
   repeat'(first|refine bl ?_|refine bS (λh=>?_) (λh=>?_))
   ·refine eE V.cP rfl eD h ?_;have hcg:=V.dG v.l i h;have HG:=V.uQ v.l i h;rw[<-hR,bZ]at HG;conv=>whnf
    refine bl ?_;refine .fresh A.h (V0 1 Lp) (aEK Lp oM) rfl ?_;conv=>whnf
    skip
    refine TY rfl kK kK kK kK (show(bE Lp).length+1<=2^38 by simp only[bE,aB];omega) rfl rfl ?_;conv=>whnf
    skip
    by_cases hri:v.l[i].refs=[]
    ·refine .BL _ [] ((aJ.UZ (V:=[296]) (xs:=[.d (.agg v.l[i].aT1),.h 296,.fn (.func 131) [] [.x]]) (rL v.l[i] oM hri (Lp++[[ci i]]) (by simp only[aU,aQ,cS];omega)) (.v _) (.cons (.same _) (.cons (.same _) (.cons (.same _) .nil))) (.cons (.same _) (.cons (.rd (.os (eX rfl rfl) (pY Lp [ci i]))) (.same _))) rfl).mR (.cons (.agg (V.aT1 v.l[i])) (.cons (.same _) (.cons (.fn .nil (.cons (.x _) .nil)) .nil)))) ?_;conv=>whnf
     refine bl ?_;refine⟨(i+1,[]),dM,⟨dM,by dsimp only;rw[HG,hri]⟩,?_⟩;exact mZ
    ·refine .BL (.d (cb true)) [(0,.cells false [.h 2]),(2,dU 25 1 (iR (L++v.l[i].refs))),(1,.dead)] ?_ ?_
     ·refine(aJ.UU (ih i h hri (Lp++[[ci i]]) (by simp only[aU,aQ,cS];omega) L oM) (.v _) (g:=id) (gi:=id) YF YF (mb':=[(0,.cells false [.h 1]),(1,dU 25 1 (iR L))]) ?_ ?_ [296] (xs':=[.d (.agg v.l[i].aT1),.h 296,.fn (.func 131) [] [.lp 0 0]]) (.cons (.same _) (.cons (.rd (.os (eX rfl rfl) (pY Lp [ci i]))) (.same _))) ?_ ?_ ?_ ?_ ?_ ?_ ?_).mR (.cons (.agg (V.aT1 v.l[i])) (.cons (.same _) (.cons (.same _) .nil)))
      ·simp only[lH,aG,bM,eT];rfl
      ·simp only[lH,aG,bM,eT];rfl
      all_goals(repeat'(first|exact aW|exact rfl|exact sn|exact aZ|exact rS sn|exact eV rfl|exact vL _ _|exact nY rfl|refine bI ?_ ?_))
     ·conv=>whnf
      refine bl ?_;refine⟨(i+1,v.l[i].refs),dM,⟨dM,by dsimp only;rw[HG]⟩,?_⟩;cases wV:v.l[i].refs with
      |nil=>exact absurd wV hri
      |cons r R=>exact mZ
   ·have e:v.l.take i=v.l:=aI oM;rw[e,<-hrf]at hR;exact absurd hR.symm hr
  |cons r R=>
   show vc _ _ _ _ _ [(0,.cells false [.h 2]),(2,dU 25 1 (iR (L++(r::R)))),(1,.dead)] _ _
   repeat'(first|refine bl ?_|refine bS (λh=>?_) (λh=>?_))
   ·refine eE V.cP rfl eD h ?_;have hcg:=V.dG v.l i h;have HG:=V.uQ v.l i h;rw[<-hR]at HG;have hci:(r::R).length+v.l[i].cR<=V.dB v.l:=by
     have h1:=V.tT (v.l.take i);rw[<-hR]at h1;have h2:=V.CC v.l i h;have h3:=V.kA v.l (i+1);omega
    conv=>whnf
    refine bl ?_;refine .fresh A.h (V0 1 Lp) (aEK Lp oM) rfl ?_;conv=>whnf
    skip
    refine TY rfl kK kK kK kK (show(bE Lp).length+1<=2^38 by simp only[bE,aB];omega) rfl rfl ?_;conv=>whnf
    skip
    by_cases hri:v.l[i].refs=[]
    ·refine .BL _ [] ((aJ.UZ (V:=[296]) (xs:=[.d (.agg v.l[i].aT1),.h 296,.fn (.func 131) [] [.x]]) (rL v.l[i] oM hri (Lp++[[ci i]]) (by simp only[aU,aQ,cS];omega)) (.v _) (.cons (.same _) (.cons (.same _) (.cons (.same _) .nil))) (.cons (.same _) (.cons (.rd (.os (eX rfl rfl) (pY Lp [ci i]))) (.same _))) rfl).mR (.cons (.agg (V.aT1 v.l[i])) (.cons (.same _) (.cons (.fn .nil (.cons (.x _) .nil)) .nil)))) ?_;conv=>whnf
     refine bl ?_;refine⟨(i+1,r::R),dM,⟨dM,by dsimp only;rw[HG,hri,dS]⟩,?_⟩;exact mZ
    ·refine .BL (.d (cb true)) [(0,.cells false [.h 400]),(400,dU 25 1 (iR (L++(r::R)++v.l[i].refs))),(2,.dead)] ?_ ?_
     ·refine(aJ.UU (ih i h hri (Lp++[[ci i]]) (by simp only[aU,aQ,cS];omega) (L++(r::R)) (by(try simp only[aU]);omega)) (.v _) (g:=g12 400) (gi:=g21 400) (aC9 400 eD) (aDA 400 eD) (mb':=[(0,.cells false [.h 2]),(2,dU 25 1 (iR (L++(r::R))))]) ?_ ?_ [296] (xs':=[.d (.agg v.l[i].aT1),.h 296,.fn (.func 131) [] [.lp 0 0]]) (.cons (.same _) (.cons (.rd (.os (eX rfl rfl) (pY Lp [ci i]))) (.same _))) ?_ ?_ ?_ ?_ ?_ ?_ ?_).mR (.cons (.agg (V.aT1 v.l[i])) (.cons (.same _) (.cons (.same _) .nil)))
      ·simp only[lH,aG,bM,eT];rfl
      ·simp only[lH,aG,bM,eT];rfl
      all_goals(repeat'(first|exact aW|exact rfl|exact sn|exact aZ|exact rS sn|exact eV rfl|exact vL _ _|exact nY rfl|refine bI ?_ ?_))
     ·conv=>whnf
      refine bl ?_;refine⟨(i+1,r::(R++v.l[i].refs)),dM,⟨dM,by dsimp only;rw[HG];rfl⟩,?_⟩;refine mq 400 2 ?_;exact cO rfl (by simp only[bG,bW])
   ·have e:v.l.take i=v.l:=aI oM;rw[e,<-hrf]at hR;rw[<-hR];exact em
 termination_by SizeOf.sizeOf v
def Jn:List Int->List (Nat×R)
 |[]=>[(0,.cells false [.d (.nl 1)])]
 |r::R=>[(0,.cells false [.h 2]),(2,dU 25 1 (iR (r::R)))]
def W6(v:V)(hv:v.cR<=2^36)(hok:v.NX)(hr:v.refs≠[])(Lp:List (List C))(hp:Lp.length+v.cR<=2^36):
 aJ Tryz.prog 130 [.d (.agg v.aT1),.d (.sl 1 Lp),.fn (.func 131) [] [.lp 0 0]] (aK [(0,.cells false [.d (.nl 1)])]) (.ok (.d (cb true))) (aH (aK [(0,.cells false [.d (.nl 1)])]) [(0,.cells false [.h 2]),(2,dU 25 1 (iR v.refs))]):=by
 have AZ:=v.fA;have hl:=V.eW v.l;have QS:=v.Y0 hok;have hrd:=v.sF;have hrc:=V.EO v;have ih:∀i(h:i<v.l.length),v.l[i].refs≠[]->∀(Lp:List (List C)),Lp.length+v.l[i].cR<=2^36->aJ Tryz.prog 130 [.d (.agg (V.aT1 v.l[i])),.d (.sl 1 Lp),.fn (.func 131) [] [.lp 0 0]] (aK [(0,.cells false [.d (.nl 1)])]) (.ok (.d (cb true))) (aH (aK [(0,.cells false [.d (.nl 1)])]) [(0,.cells false [.h 2]),(2,dU 25 1 (iR v.l[i].refs))]):=λi h hr Lp hp=>
  have:=v.gM i h
  W6 v.l[i] (by have:=V.dG v.l i h;omega) (V.EG _ QS.2 i h) hr Lp hp
 refine wE mix 100 Tryz.func130 (by(repeat'(first|exact aW))) (by(repeat'(first|exact aW|exact sn|exact aZ|refine bI ?_ ?_))) ?_;refine bl ?_;by_cases hk:v.kind=4
 ·have hl0:=QS.1 hk;have hrf:v.refs=[v.r]:=by rw[V.sF,aUF hk]
  refine dZ.mk (.d (cb true)) [(0,.cells false [.h 2]),(2,dU 25 1 (iR v.refs))] ?_ ?_
  ·refine(aJ.UU (aBA v hk 1) (.v _) (g:=swp 82 2) (gi:=swp 82 2) (fH _ _) (fH _ _) (mb':=[(0,.cells false [.d (.nl 1)])]) ?_ ?_ [] (xs':=[.x,.d (.agg v.aT1),.lp 0 0]) (.same _) ?_ ?_ ?_ ?_ ?_ ?_ ?_).mR (.cons (.x _) (.cons (.agg v.aT1) (.cons (.same _) .nil)))
   ·rfl
   ·rw[hrf];simp only[lH,aG,bM,eT];rfl
   all_goals(repeat'(first|exact aW|exact rfl|exact sn|exact rS sn|exact eV rfl|exact vL _ _|exact nY rfl|refine bI ?_ ?_))
  ·conv=>whnf
   refine bl ?_;refine bV mix (λi:Nat=>True) (I:=λi=>[(1,.d (.sl 1 Lp)),(2,.fn (.func 131) [] [.lp 0 0]),(15,.d (.sl 5 (v.l.map V.row))),(16,.d (ci v.l.length)),(17,.d (ci 0))])
    (J:=λi=>[(0,.cells false [.h 2]),(2,dU 25 1 (iR v.refs))]) (μ:=λi=>0) 200 0 tV mZ ?_
   intro _ _
   repeat'(first|refine bl ?_|refine bS (λh=>?_) (λh=>?_))
   ·exact absurd h (by rw[hl0];simp)
   ·exact em
 ·have hrf:v.refs=V.aP v.l:=by rw[V.sF,aT7 hk]
  refine dR (CX v hk) (.cons (.x _) (.cons (.agg v.aT1) (.cons (.x _) .nil))) ?_;conv=>whnf
  refine bl ?_;refine bV mix (λa:Nat×List Int=>a.1<=v.l.length/\a.2=V.aP (v.l.take a.1)) (I:=λa=>[(1,.d (.sl 1 Lp)),(2,.fn (.func 131) [] [.lp 0 0]),(15,.d (.sl 5 (v.l.map V.row))),(16,.d (ci v.l.length)),(17,.d (ci a.1))])
   (J:=λa=>Jn a.2) (μ:=λa=>v.l.length -a.1) 200 (0,[]) ⟨sM,rfl⟩ mZ ?_
  rintro⟨i,R⟩ ⟨hi,hR⟩;dsimp only at hi hR⊢;have hRl:R.length<=V.dB v.l:=by rw[hR];exact cL (V.tT _) (V.kA _ _)
  cases R with
  |nil=>
   show vc _ _ _ _ _ [(0,.cells false [.d (.nl 1)])] _ _
   repeat'(first|refine bl ?_|refine bS (λh=>?_) (λh=>?_))
   ·refine eE V.cP rfl eD h ?_;have hcg:=V.dG v.l i h;have HG:=V.uQ v.l i h;rw[<-hR,bZ]at HG;conv=>whnf
    refine bl ?_;refine .fresh A.h (V0 1 Lp) (aEK Lp oM) rfl ?_;conv=>whnf
    skip
    refine TY rfl kK kK kK kK (show(bE Lp).length+1<=2^38 by simp only[bE,aB];omega) rfl rfl ?_;conv=>whnf
    skip
    by_cases hri:v.l[i].refs=[]
    ·refine .BL _ [] ((aJ.UZ (V:=[296]) (xs:=[.d (.agg v.l[i].aT1),.h 296,.fn (.func 131) [] [.x]]) (rL v.l[i] oM hri (Lp++[[ci i]]) (by simp only[aU,aQ,cS];omega)) (.v _) (.cons (.same _) (.cons (.same _) (.cons (.same _) .nil))) (.cons (.same _) (.cons (.rd (.os (eX rfl rfl) (pY Lp [ci i]))) (.same _))) rfl).mR (.cons (.agg (V.aT1 v.l[i])) (.cons (.same _) (.cons (.fn .nil (.cons (.x _) .nil)) .nil)))) ?_;conv=>whnf
     refine bl ?_;refine⟨(i+1,[]),dM,⟨dM,by dsimp only;rw[HG,hri]⟩,?_⟩;exact mZ
    ·refine .BL (.d (cb true)) [(0,.cells false [.h 2]),(2,dU 25 1 (iR v.l[i].refs))] ?_ ?_
     ·refine(aJ.UU (ih i h hri (Lp++[[ci i]]) (by simp only[aU,aQ,cS];omega)) (.v _) (g:=id) (gi:=id) YF YF (mb':=[(0,.cells false [.d (.nl 1)])]) ?_ ?_ [296] (xs':=[.d (.agg v.l[i].aT1),.h 296,.fn (.func 131) [] [.lp 0 0]]) (.cons (.same _) (.cons (.rd (.os (eX rfl rfl) (pY Lp [ci i]))) (.same _))) ?_ ?_ ?_ ?_ ?_ ?_ ?_).mR (.cons (.agg (V.aT1 v.l[i])) (.cons (.same _) (.cons (.same _) .nil)))
      ·simp only[lH,aG,bM,eT];rfl
      ·simp only[lH,aG,bM,eT];rfl
      all_goals(repeat'(first|exact aW|exact rfl|exact sn|exact rS sn|exact eV rfl|exact vL _ _|exact nY rfl|refine bI ?_ ?_))
     ·conv=>whnf
      refine bl ?_;refine⟨(i+1,v.l[i].refs),dM,⟨dM,by dsimp only;rw[HG]⟩,?_⟩;cases wV:v.l[i].refs with
      |nil=>exact absurd wV hri
      |cons r R=>exact mZ
   ·have e:v.l.take i=v.l:=aI oM;rw[e,<-hrf]at hR;exact absurd hR.symm hr
  |cons r R=>
   show vc _ _ _ _ _ [(0,.cells false [.h 2]),(2,dU 25 1 (iR (r::R)))] _ _
   repeat'(first|refine bl ?_|refine bS (λh=>?_) (λh=>?_))
   ·refine eE V.cP rfl eD h ?_;have hcg:=V.dG v.l i h;have HG:=V.uQ v.l i h;rw[<-hR]at HG;have hci:(r::R).length+v.l[i].cR<=V.dB v.l:=by
     have h1:=V.tT (v.l.take i);rw[<-hR]at h1;have h2:=V.CC v.l i h;have h3:=V.kA v.l (i+1);omega
    conv=>whnf
    refine bl ?_;refine .fresh A.h (V0 1 Lp) (aEK Lp oM) rfl ?_;conv=>whnf
    skip
    refine TY rfl kK kK kK kK (show(bE Lp).length+1<=2^38 by simp only[bE,aB];omega) rfl rfl ?_;conv=>whnf
    skip
    by_cases hri:v.l[i].refs=[]
    ·refine .BL _ [] ((aJ.UZ (V:=[296]) (xs:=[.d (.agg v.l[i].aT1),.h 296,.fn (.func 131) [] [.x]]) (rL v.l[i] oM hri (Lp++[[ci i]]) (by simp only[aU,aQ,cS];omega)) (.v _) (.cons (.same _) (.cons (.same _) (.cons (.same _) .nil))) (.cons (.same _) (.cons (.rd (.os (eX rfl rfl) (pY Lp [ci i]))) (.same _))) rfl).mR (.cons (.agg (V.aT1 v.l[i])) (.cons (.same _) (.cons (.fn .nil (.cons (.x _) .nil)) .nil)))) ?_;conv=>whnf
     refine bl ?_;refine⟨(i+1,r::R),dM,⟨dM,by dsimp only;rw[HG,hri,dS]⟩,?_⟩;exact mZ
    ·refine .BL (.d (cb true)) [(0,.cells false [.h 400]),(400,dU 25 1 (iR ((r::R)++v.l[i].refs))),(2,.dead)] ?_ ?_
     ·refine(aJ.UU (aF7 v.l[i] oM (V.EG _ QS.2 i h) hri (Lp++[[ci i]]) (by simp only[aU,aQ,cS];omega) ((r::R)) (by(try simp only[aU]);omega)) (.v _) (g:=g12 400) (gi:=g21 400) (aC9 400 eD) (aDA 400 eD) (mb':=[(0,.cells false [.h 2]),(2,dU 25 1 (iR ((r::R))))]) ?_ ?_ [296] (xs':=[.d (.agg v.l[i].aT1),.h 296,.fn (.func 131) [] [.lp 0 0]]) (.cons (.same _) (.cons (.rd (.os (eX rfl rfl) (pY Lp [ci i]))) (.same _))) ?_ ?_ ?_ ?_ ?_ ?_ ?_).mR (.cons (.agg (V.aT1 v.l[i])) (.cons (.same _) (.cons (.same _) .nil)))
      ·simp only[lH,aG,bM,eT];rfl
      ·simp only[lH,aG,bM,eT];rfl
      all_goals(repeat'(first|exact aW|exact rfl|exact sn|exact aZ|exact rS sn|exact eV rfl|exact vL _ _|exact nY rfl|refine bI ?_ ?_))
     ·conv=>whnf
      refine bl ?_;refine⟨(i+1,r::(R++v.l[i].refs)),dM,⟨dM,by dsimp only;rw[HG];rfl⟩,?_⟩;exact mv 400 2
   ·have e:v.l.take i=v.l:=aI oM;rw[e,<-hrf]at hR;rw[<-hR];exact em
 termination_by SizeOf.sizeOf v
mutual
def OV:∀(v:V)(p d:Int),(mQ v p d).1=true->v.NX
 |.mk k n s l r,p,d,h=>by
  rw[mQ]at h;split at h
  ·cases h
  ·split at h
   ·rename_i hk;simp only[aUA]at h;have:l=[]:=bL oM;subst this;exact⟨λ_=>rfl,tV⟩
   ·split at h
    ·simp only[aUA]at h;have:l=[]:=bL oM;subst this;exact⟨λ_=>rfl,tV⟩
    ·split at h
     ·split at h
      ·cases h
      ·simp only[aUA]at h;have:l=[]:=bL oM;subst this;exact⟨λ_=>rfl,tV⟩
     ·split at h
      ·split at h
       ·cases h
       ·simp only[aUA]at h;have:l=[]:=bL oM;subst this;exact⟨λ_=>rfl,tV⟩
      ·split at h
       ·rename_i hk4 hk3;split at h
        ·cases h
        ·refine⟨λe=>absurd e oM,?_⟩;cases hq:nG l (p -1) (d -1)with
         |mk b q=>
          obtain⟨q1,q2⟩:=q;rw[hq]at h;cases b with
          |false=>cases h
          |true=>exact OU l (p -1) (d -1) (by rw[hq])
       ·cases h
def OU:∀(l:List V)(p d:Int),(nG l p d).1=true->V.aEB l
 |[],p,d,h=>trivial
 |v::r,p,d,h=>by
  rw[nG]at h;cases hq:mQ v p d with
  |mk b q=>
   obtain⟨q1,q2⟩:=q;rw[hq]at h;cases b with
   |false=>cases h
   |true=>exact⟨OV v p d (by rw[hq]),OU r q1 q2 h⟩
end
def V.QG(v:V)(h:v.may=true):v.NX:=by
 refine OV v 512 16 ?_;unfold V.may V.aHT at h;cases hq:mQ v 512 16 with
 |mk b q=>
  obtain⟨q1,q2⟩:=q;rw[hq]at h;cases b with
  |false=>simp at h
  |true=>rfl
def V.eI(v:V):List Int:=if v.may=true then v.refs else []
def V.iY(v:V):v.eI.length<=v.cR:=by
 unfold V.eI;split
 ·exact V.EO v
 ·simp
def jG(v:V)(hv:v.cR<=2^35):Pu 72 [.d (.agg v.aT1)] (.d (.sl 1 (iR v.eI))):=by
 refine iC mix Tryz.func72 ?_;refine bl ?_;refine fT (cs:=v.aT1) (AL v oM) ?_;conv=>whnf
 repeat'(first|refine bl ?_|refine bS (λh=>?_) (λh=>?_))
 ·have hok:=v.QG h;by_cases hr:v.refs=[]
  ·refine dR (rL v oM hr [] (by simp only[cS];omega)) (.cons (.agg v.aT1) (.cons (.nl 0 1) (.cons (.fn .nil (.cons (.x _) .nil)) .nil))) ?_;conv=>whnf
   refine bl ?_;rw[show v.eI=[] by unfold V.eI;rw[aUF h,hr]];exact .one (.nz _ _)
  ·refine dZ.mk (.d (cb true)) [(17,.cells false [.h 2]),(2,dU 25 1 (iR v.refs))] ?_ ?_
   ·refine(aJ.UU (W6 v oM hok hr [] (by simp only[cS];omega)) (.v _) (g:=swp 0 17) (gi:=swp 0 17) (fH _ _) (fH _ _) (mb':=[(17,.cells false [.d (.nl 1)])]) ?_ ?_ [] (xs':=[.d (.agg v.aT1),.d (.sl 1 []),.fn (.func 131) [] [.lp 17 0]]) (.same _) ?_ ?_ ?_ ?_ ?_ ?_ ?_).mR (.cons (.agg v.aT1) (.cons (.nl 0 1) (.cons (.same _) .nil)))
    ·simp only[lH,aG,bM,eT];rfl
    ·simp only[lH,aG,bM,eT];rfl
    all_goals(repeat'(first|exact aW|exact rfl|exact sn|exact rS sn|exact eV rfl|exact vL _ _|exact nY rfl|refine bI ?_ ?_))
   ·conv=>whnf
    refine bl ?_;rw[show v.eI=v.refs by unfold V.eI;rw[aUF h]];exact .one (.dU (t:=25) rfl)
 ·rw[show v.eI=[] by unfold V.eI;rw[aT7 (by rw[h];simp)]];exact .one (.nz _ _)
def O4(v:V)(hv:v.cR<=2^35)(h0:v.eI=[]):Pu 72 [.d (.agg v.aT1)] (.d (.nl 1)):=by
 refine iC mix Tryz.func72 ?_;refine bl ?_;refine fT (cs:=v.aT1) (AL v oM) ?_;conv=>whnf
 repeat'(first|refine bl ?_|refine bS (λh=>?_) (λh=>?_))
 ·have hok:=v.QG h;have hr:v.refs=[]:=by unfold V.eI at h0;rwa [aUF h]at h0
  refine dR (rL v oM hr [] (by simp only[cS];omega)) (.cons (.agg v.aT1) (.cons (.nl 0 1) (.cons (.fn .nil (.cons (.x _) .nil)) .nil))) ?_;conv=>whnf
  refine bl ?_;exact .one (.d _)
 ·exact .one (.d _)
def O3(v:V)(hv:v.cR<=2^35)(h0:v.eI≠[]):∀(m:Mem)(d:Nat),m d=none->aJ Tryz.prog 72 [.d (.agg v.aT1)] m (.ok (.h d)) (aX m d (dU 25 1 (iR v.eI))):=by
 refine iW mix (F:=A.h) (r:=dU 25 1 (iR v.eI)) Tryz.func72 rfl kK (bD rfl) rfl (oJ _ _ _) (λ_ _=>rfl) (λi j hj=>by simpa [A.hs]using hj) (λg=>eT g _ _ _) ?_;refine bl ?_;refine fT (cs:=v.aT1) (AL v oM) ?_;conv=>whnf
 repeat'(first|refine bl ?_|refine bS (λh=>?_) (λh=>?_))
 ·have hok:=v.QG h;have e:v.eI=v.refs:=by unfold V.eI;rw[aUF h]
  have hr:v.refs≠[]:=by rwa [e]at h0
  refine dZ.mk (.d (cb true)) [(17,.cells false [.h 2]),(2,dU 25 1 (iR v.refs))] ?_ ?_
  ·refine(aJ.UU (W6 v oM hok hr [] (by simp only[cS];omega)) (.v _) (g:=swp 0 17) (gi:=swp 0 17) (fH _ _) (fH _ _) (mb':=[(17,.cells false [.d (.nl 1)])]) ?_ ?_ [] (xs':=[.d (.agg v.aT1),.d (.sl 1 []),.fn (.func 131) [] [.lp 17 0]]) (.same _) ?_ ?_ ?_ ?_ ?_ ?_ ?_).mR (.cons (.agg v.aT1) (.cons (.nl 0 1) (.cons (.same _) .nil)))
   ·simp only[lH,aG,bM,eT];rfl
   ·simp only[lH,aG,bM,eT];rfl
   all_goals(repeat'(first|exact aW|exact rfl|exact sn|exact rS sn|exact eV rfl|exact vL _ _|exact nY rfl|refine bI ?_ ?_))
  ·conv=>whnf
   refine bl ?_;exact⟨_,rfl,by rw[e];rfl⟩
 ·exfalso;unfold V.eI at h0;rw[aT7 (by rw[h];simp)]at h0;exact h0 rfl
def iU{α:Type}(f:α->List Int)(L:List α)(i:Nat)(h:i<L.length):((L.take (i+1)).map f).flatten=((L.take i).map f).flatten++f L[i]:=by
 rw[iT,bP,fJ];simp[aC h]
def qN(L:List V):((L.map V.eI).flatten).length<=V.dB L:=by
 induction L with
 |nil=>simp
 |cons v r ih=>have:=V.iY v;simp only[aG,dL,aU,V.dB];omega
def gG(a b:List Int):bE (iR a)++(iR b).map (λx=>x.map A.d)=bE (iR (a++b)):=by rw[<-aDK,ER];rfl
def W4.held(x:W4):List Int:=x.value.eI++((x.values.map V.eI).flatten++(x.names.map λn=>n.value.eI).flatten)
def aHG(x:W4)(hx:x.cR<=2^35):Pu 146 [.d (.agg x.aT1)] (.d (.sl 1 (iR x.held))):=by
 have hc:x.cR=x.value.cR+V.dB x.values+S4.dB x.code+x.names.length+V.dB (x.names.map (·.value)):=rfl;have wF:∀i(h:i<x.values.length),x.values[i].cR<=2^35:=λi h=>by have:=V.dG x.values i h;omega
 have SU:∀i(h:i<x.names.length),x.names[i].value.cR<=2^35:=λi h=>by
  have:=V.dG (x.names.map (·.value)) i (by simpa using h);simp only[fO]at this;omega
 have hr0:=x.value.iY;have hr1:∀i,(((x.values.take i).map V.eI).flatten).length<=V.dB x.values:=λi=>cL (qN _) (V.kA _ _);have hr2:∀i,(((x.names.take i).map λn=>n.value.eI).flatten).length<=V.dB (x.names.map (·.value)):=λi=>by
  have h1:=qN ((x.names.map (·.value)).take i);have h2:=V.kA (x.names.map (·.value)) i;have e:((x.names.take i).map λn=>n.value.eI)=((x.names.map (·.value)).take i).map V.eI:=by rw[<-List.map_take,bH];rfl
  rw[e];omega
 have hlv:=V.eW x.values;refine iC mix Tryz.func146 ?_;refine w1 ?_
 repeat'(first|with_reducible (first|refine w9 ?_|refine nN.mk ?_)|((with_reducible refine wr ?_);(conv=>whnf)))
 refine BH (λ_:Unit=>True) (λ_=>[(1,.lp 1 0),(3,lv 1 900 (iR x.value.eI))]) (λ_=>(1,.cells false (x.aT1.map A.d))::lm 900 25 1 (iR x.value.eI) []) 1000 ?_ ?_
 ·skip
  refine bl ?_;by_cases h0:x.value.eI=[]
  ·refine dR (O4 x.value oM h0) (.cons (.agg x.value.aT1) .nil) ?_;conv=>whnf
   refine bl ?_;rw[h0];exact⟨(),tV,mZ⟩
  ·refine fQ (λm d hd=>(O3 x.value oM h0 m d hd).mR (.cons (.agg x.value.aT1) .nil)) 900 rfl ?_;generalize x.value.eI=R at h0⊢;cases R
   ·exact absurd rfl h0
   conv=>whnf
   refine bl ?_;exact⟨(),tV,mZ⟩
 rintro _ _;obtain⟨L1,hL1⟩:∃L1:Nat->List Int,L1=λi=>x.value.eI++((x.values.take i).map V.eI).flatten:=⟨_,rfl⟩;obtain⟨L2,hL2⟩:∃L2:Nat->List Int,L2=λi=>L1 x.values.length++((x.names.take i).map λn=>n.value.eI).flatten:=⟨_,rfl⟩;have e10:L1 0=x.value.eI:=by rw[hL1];simp
 have e1l:∀i,(L1 i).length<=2^36:=λi=>by rw[hL1];have:=hr1 i;rw[aU];omega
 have e1s:∀i(h:i<x.values.length),L1 (i+1)=L1 i++x.values[i].eI:=λi h=>by rw[hL1];dsimp only;rw[iU V.eI x.values i h,<-List.append_assoc]
 have e20:L2 0=L1 x.values.length:=by rw[hL2];simp
 have e2l:∀i,(L2 i).length<=2^37:=λi=>by rw[hL2];have:=hr2 i;have:=e1l x.values.length;rw[aU];omega
 have e2s:∀i(h:i<x.names.length),L2 (i+1)=L2 i++x.names[i].value.eI:=λi h=>by rw[hL2];dsimp only;rw[iU (λn:N4=>n.value.eI) x.names i h,<-List.append_assoc]
 refine bl ?_;refine cY mix (λi:Nat=>i<=x.values.length) (I:=λi=>[(1,.lp 1 0),(12,.d (.sl 5 (x.values.map V.row))),(13,.d (ci x.values.length)),(3,lv 1 900 (iR (L1 i))),(14,.d (ci i))])
  (J:=λi=>(1,.cells false (x.aT1.map A.d))::lm 900 25 1 (iR (L1 i)) []) (μ:=λi=>x.values.length -i) 1000 0 0
  (λ_:Unit=>True) (λ_=>[(1,.lp 1 0),(3,lv 1 900 (iR (L1 x.values.length)))]) (λ_=>(1,.cells false (x.aT1.map A.d))::lm 900 25 1 (iR (L1 x.values.length)) []) 1000 oM (by rw[e10];generalize x.value.eI=R;cases R<;>exact mZ) ?_ ?_
 ·intro i hi;have hlen:=e1l i;have HG:=e1s i;have hN:i=x.values.length->L1 x.values.length=L1 i:=λe=>by rw[e]
  generalize L1 i=Q at HG hlen hN⊢;by_cases cX:i<x.values.length
  ·have hq:=x.values[i].iY;have WI:=wF i cX;have n0:=jG x.values[i] WI;have HG:=HG cX;rcases Q with _|⟨q,Q⟩
   all_goals
    refine bl ?_;refine O8.t (aUZ (by(try simp only[aB]);omega)) ?_
    repeat'(first|refine bl ?_|refine eE V.cP rfl eD cX (bw ?_)|refine dR n0 (.cons (.agg x.values[i].aT1) .nil) (bw ?_))
    generalize x.values[i].eI=R at HG hq⊢;refine n8 (by simp only[aB,bE,aQ,cS]at hlen⊢;omega) kK ?_;conv=>whnf
   ·cases R
    ·refine E9.mk (λ_=>?_) (λh=>absurd rfl h);conv=>whnf
     refine bl ?_;refine⟨i+1,oM,oM,?_⟩;rw[HG];exact mZ
    ·refine E9.mk (λh=>by cases h) (λ_=>?_);conv=>whnf
     refine bl ?_;refine⟨i+1,oM,oM,?_⟩;rw[HG];exact mv 1064 900
   ·refine bl ?_;refine⟨i+1,oM,oM,?_⟩;rw[HG];refine mq 1064 900 ?_;exact cO rfl (gG (q::Q) R)
  ·have hN:=hN oM;cases Q
   all_goals
    refine bl ?_;refine O8.f (aU0 (by(try simp only[aB]);omega)) ?_;refine bl ?_;rw[hN];exact⟨(),tV,mZ⟩
 rintro _ _;refine bl ?_;refine cY mix (λi:Nat=>i<=x.names.length) (I:=λi=>[(1,.lp 1 0),(24,.d (.sl 6 (x.names.map N4.aT1))),(25,.d (ci x.names.length)),(3,lv 1 900 (iR (L2 i))),(26,.d (ci i))])
  (J:=λi=>(1,.cells false (x.aT1.map A.d))::lm 900 25 1 (iR (L2 i)) []) (μ:=λi=>x.names.length -i) 1000 0 2
  (λ_:Unit=>True) (λ_=>[(1,.lp 1 0),(3,lv 1 900 (iR (L2 x.names.length)))]) (λ_=>(1,.cells false (x.aT1.map A.d))::lm 900 25 1 (iR (L2 x.names.length)) []) 1000 oM (by rw[e20];generalize L1 x.values.length=R;cases R<;>exact mZ) ?_ ?_
 ·intro i hi;have hlen:=e2l i;have HG:=e2s i;have hN:i=x.names.length->L2 x.names.length=L2 i:=λe=>by rw[e]
  generalize L2 i=Q at HG hlen hN⊢;by_cases cX:i<x.names.length
  ·have hq:=x.names[i].value.iY;have WI:=SU i cX;have n0:=jG x.names[i].value WI;have HG:=HG cX;rcases Q with _|⟨q,Q⟩
   all_goals
    refine bl ?_;refine O8.t (aUZ (by(try simp only[aB]);omega)) ?_
    repeat'(first|refine bl ?_|refine cD rfl eD cX (bw ?_)|refine dR n0 (.cons (.agg x.names[i].value.aT1) .nil) (bw ?_))
    generalize x.names[i].value.eI=R at HG hq⊢;refine n8 (by simp only[aB,bE,aQ,cS]at hlen⊢;omega) kK ?_;conv=>whnf
   ·cases R
    ·refine E9.mk (λ_=>?_) (λh=>absurd rfl h);conv=>whnf
     refine bl ?_;refine⟨i+1,oM,oM,?_⟩;rw[HG];exact mZ
    ·refine E9.mk (λh=>by cases h) (λ_=>?_);conv=>whnf
     refine bl ?_;refine⟨i+1,oM,oM,?_⟩;rw[HG];exact mv 1072 900
   ·refine bl ?_;refine⟨i+1,oM,oM,?_⟩;rw[HG];refine mq 1072 900 ?_;exact cO rfl (gG (q::Q) R)
  ·have hN:=hN oM;cases Q
   all_goals
    refine bl ?_;refine O8.f (aU0 (by(try simp only[aB]);omega)) ?_;refine bl ?_;rw[hN];exact⟨(),tV,mZ⟩
 rintro _ _;have hh:x.held=L2 x.names.length:=by rw[hL2,hL1];simp[W4.held]
 rw[hh];cases L2 x.names.length
 all_goals refine bl ?_
 ·exact .one (.nz _ _)
 ·exact .one (.dU (t:=25) rfl)
def idxOf{α:Type}(p:α->Bool)(L:List α):Int:=match L.findIdx? p with
 |some i=>i
 |none=>-1
def yH{α:Type}(p:α->Bool)(L:List α):decide (0<=idxOf p L)=L.any p:=by
 unfold idxOf;cases h:L.findIdx? p with
 |none=>
  have:=List.findIdx?_eq_none_iff.1 h;have h2:L.any p=false:=by
   rw[qR];intro x hx;simp[this x hx]
  rw[h2];rfl
 |some i=>
  obtain⟨hi,hp,_⟩:=kP.1 h;have h2:L.any p=true:=dQ.2 ⟨L[i],aY hi,hp⟩;rw[h2];simp
def CN{α:Type}(p:α->Bool)(L:List α)(i:Nat)(h:i<L.length)(h0:(L.take i).any p=false)(hp:p L[i]=true):idxOf p L=i:=by
 have:L.findIdx? p=some i:=by
  rw[kP];refine⟨h,hp,λj hj=>?_⟩;rw[qR]at h0;have:=h0 L[j] (by rw[List.mem_take_iff_getElem];exact⟨j,oM,rfl⟩);simpa using this
 unfold idxOf;rw[this]
def CM{α:Type}(p:α->Bool)(L:List α)(h0:L.any p=false):idxOf p L=-1:=by
 have:L.findIdx? p=none:=by
  rw[List.findIdx?_eq_none_iff];intro x hx;rw[qR]at h0;simpa using h0 x hx
 unfold idxOf;rw[this]
def A2{α:Type}(p:α->Bool)(L:List α)(i:Nat)(h:i<L.length)(h0:(L.take i).any p=false)(hp:p L[i]=false):(L.take (i+1)).any p=false:=by
 rw[iT,List.any_append,h0];simp[aC h,hp]
def S5(k:FuncId)(caps:List C)(p:Int->Bool)(hf:∀r m,aJ Tryz.prog k ([.d (ci r)]++caps.map A.d) m (.ok (.d (cb (p r)))) m)(L:List Int)(hL:L.length<=2^38):Pu 183 [.d (.sl 1 (iR L)),.d (.fn (.func k) [] caps)] (.d (ci (idxOf p L))):=by
 refine iC mix Tryz.func183 ?_;refine bl ?_;refine bV mix (λi:Nat=>i<=L.length/\(L.take i).any p=false) (I:=λi=>[(0,.d (.sl 1 (iR L))),(1,.d (.fn (.func k) [] caps)),(7,.d (ci L.length)),(8,.d (ci i))])
  (J:=λi=>[]) (μ:=λi=>L.length -i) 100 0 ⟨oM,rfl⟩ mZ ?_
 rintro i ⟨hi,h0⟩
 repeat'(first|refine bl ?_|refine bS (λh=>?_) (λh=>?_))
 ·refine cD rfl eD h ?_;conv=>whnf
  skip
  refine aF (hf L[i]) ?_;conv=>whnf
  repeat'(first|refine bl ?_|refine bS (λh=>?_) (λh=>?_))
  ·exact oF (CN p L i aM h0 aM).symm
  ·refine⟨i+1,oM,⟨oM,A2 p L i aM h0 aM⟩,?_⟩;exact mZ
 ·rw[aI oM]at h0;exact oF (CM p L h0).symm
def JC(k:FuncId)(caps:List C)(p:Int->Bool)(hf:∀r m,aJ Tryz.prog k ([.d (ci r)]++caps.map A.d) m (.ok (.d (cb (p r)))) m)(L:List Int)(hL:L.length<=2^38):Pu 145 [.d (.sl 1 (iR L)),.d (.fn (.func k) [] caps)] (.d (cb (L.any p))):=by
 refine iC mix Tryz.func145 ?_;refine bl ?_;refine aF (S5 k caps p hf L hL) ?_;conv=>whnf
 refine bl ?_;exact dP (yH p L)
def aAY(w:D4)(r:Int):Pu 147 [.d (ci r),.d (.ip [.ip w.aT1])] (.d (cb (!w.mI r))):=by
 refine iC mix Tryz.func147 ?_;refine bl ?_;refine aF (sB w r) ?_;conv=>whnf
 refine bl ?_;exact dP rfl
def D4.V9(w:D4)(x:W4):Bool:=!(x.held.any λr=> !w.mI r)
def W4.aDG(x:W4):x.held.length<=x.cR:=by
 have hc:x.cR=x.value.cR+V.dB x.values+S4.dB x.code+x.names.length+V.dB (x.names.map (·.value)):=rfl;have h1:=x.value.iY;have h2:=qN x.values;have h3:=qN (x.names.map (·.value));rw[bH]at h3;simp only[W4.held,aU];have h4:((x.names.map (V.eI∘λn=>n.value)).flatten).length=((x.names.map λn=>n.value.eI).flatten).length:=rfl;omega
def aD6(w:D4)(x:W4)(hx:x.cR<=2^35):Pu 88 [.d (.ip w.aT1),.d (.agg x.aT1)] (.d (cb (w.V9 x))):=by
 have hl:=x.aDG;refine iC mix Tryz.func88 ?_;refine bl ?_;refine dR (aHG x hx) (.cons (.agg x.aT1) .nil) ?_;conv=>whnf
 skip
 refine fU (cs:=[.sl 1 (iR x.held),.fn (.func 147) [] [.ip [.ip w.aT1]]]) (JC _ _ _ (aAY w) _ oM) (.v _) (.cons (.d _) (.cons (.fn .nil (.cons (.lp rfl (.cons (.d _) .nil)) .nil)) .nil)) ?_;conv=>whnf
 refine bl ?_;exact dP rfl
def D4.aDI(w:D4)(r:Int):Int:=((w.find r).map λt=>t.bQ.home).getD 0
def D4.LA(w:D4)(r:Int):Int:=((w.find r).map λt=>t.bQ.of).getD 0
def D4.SL(w:D4)(r:Int):Int:=((w.find r).map λt=>t.bQ.by_).getD 0
def D4.n4(w:D4)(x:W4)(of k:Int):Bool:=decide (w.zB of=k)&&decide (w.aDI of=x.home)
def aF2(w:D4)(x:W4)(of k:Int)(hk:k≠0):Pu 148 [.d (ci of),.d (.v (.int .u8 k)),.d (.ip [.ip w.aT1]),.d (.ip x.aT1)] (.d (cb (w.n4 x of k))):=by
 refine iC mix Tryz.func148 ?_;refine bl ?_;refine cH (P9 w of) ?_;conv=>whnf
 repeat'(first|refine bl ?_|refine bS (λh=>?_) (λh=>?_))
 ·refine EA eD (λt ht=>?_) (λht=>?_)
  ·conv=>whnf
   refine bl ?_;refine dP ?_;have h1:w.aDI of=t.bQ.home:=by unfold D4.aDI D4.find;rw[ht];rfl
   unfold D4.n4;rw[h1];simp[h]
  ·exfalso;have:w.zB of=0:=by unfold D4.zB D4.find;rw[ht];rfl
   omega
 ·refine dP ?_;unfold D4.n4;simp[h]
abbrev kF(a b:Int):Ky:=.agg [.int .i64 a,.int .u8 b]
def CO(key:(Int×Int)×Int->Int×Int)(val:(Int×Int)×Int->A)(r s:Int):∀L:List ((Int×Int)×Int),fL (kF r s) (L.map λt=>(kF (key t).1 (key t).2,val t))=(L.find? λt=>decide (key t=(r,s))).map val
 |[]=>rfl
 |t::L=>by
  simp only[aG,fL,eN];by_cases h:key t=(r,s)
  ·simp[h]
  ·have:¬kF r s=kF (key t).1 (key t).2:=by
    simp only[kF,Ky.agg.injEq,iX,KC.int.injEq,true_and,and_true];exact λe=>h (by rw[e.1,e.2])
   simp only[this,if_false,h,decide_false];exact CO key val r s L
def aB2(f:(Int×Int)×Int->Ky)(g:(Int×Int)×Int->C)(L:List ((Int×Int)×Int)):(L.map f).zip ((L.map g).map A.d)=L.map λt=>(f t,A.d (g t)):=by
 induction L with
 |nil=>rfl
 |cons a r ih=>simp only[aG,List.zip_cons_cons,ih]
def lkF{L:List ((Int×Int)×Int)}{s:Int}{k1:A->Prop}{k0:Prop}(hk:Ky.fits P kt (kF r s)=true)(h1:∀t,(L.find? λt=>decide (t.1=(r,s)))=some t->k1 (.d (ci t.2)))(h0:(L.find? λt=>decide (t.1=(r,s)))=none->k0):
 n5 (kH P kt (kF r s) ((L.map λf=>kF f.1.1 f.1.2).zip ((L.map λf=>ci f.2).map A.d))) (fL (kF r s) ((L.map λf=>kF f.1.1 f.1.2).zip ((L.map λf=>ci f.2).map A.d))) k1 k0:=by
 rw[aB2];have hf:kH P kt (kF r s) (L.map λt=>(kF t.1.1 t.1.2,A.d (ci t.2)))=true:=by
  unfold kH;rw[hk,cA,cV];intro p hp;obtain⟨t,_,rfl⟩:=aA4.1 hp;rfl
 have hg:=CO (λt=>t.1) (λt=>A.d (ci t.2)) r s L;cases h:L.find? λt=>decide (t.1=(r,s))with
 |none=>rw[h]at hg;exact .BP hf hg (h0 h)
 |some t=>rw[h]at hg;exact .CL _ hf hg (h1 t h)
def D4.aCS(w:D4)(x:W4)(r:Int):Bool:=match w.facets.find? λt=>decide (t.1=(x.of,x.set))with
 |some t=>decide (t.2=r)
 |none=>true
def D4.qJ(w:D4)(r:Int)(x:W4)(v:Int):Bool:=
 if x.kind=6 then w.n4 x x.of 5&& !w.QN r 6 x.of
 else if x.kind=7 then w.n4 x x.of 5
 else if x.kind=9 then w.n4 x x.of 8
 else if x.kind=11 then w.n4 x x.of 10&& !w.QN r 11 x.of
 else if x.kind=15 then w.n4 x x.by_ 13&&(w.mI x.of&&decide (w.LA x.by_=r))
 else if x.kind=16 then w.n4 x x.by_ 3&&w.mI x.of
 else if x.kind=13 then decide (x.of=0)||(decide (w.zB x.of=15)&&decide (w.SL x.of=r))
 else if x.kind=14 then w.mI x.of&&(decide (w.zB x.of≠14)&&(decide (x.set≠v)&&(decide (a7O .andNot .u8 x.set v=0)&&w.aCS x r)))
 else true
def aG8(w:D4)(r:Int)(x:W4)(n:Nat)(v:Int)(hv:x.kind=14->w.MD n 63 x.of=some v):Pu 91 [.d (.ip w.aT1),.d (ci r),.d (.agg x.aT1)] (.d (cb (w.qJ r x v))):=by
 have hth:∀(ml:List (Nat×R))(of k:Int),k≠0->aK ml 1=some (.cells false [.d (.ip w.aT1)])->∀i,aK ml i=some (.cells false (x.aT1.map A.d))->aJ Tryz.prog 148 [.d (ci of),.d (.v (.int .u8 k)),.lp 1 0,.lp i 0] (aK ml) (.ok (.d (cb (w.n4 x of k)))) (aK ml):=λml of k hk h1 i h2=>
  aJ.view (cs:=[ci of,.v (.int .u8 k),.ip [.ip w.aT1],.ip x.aT1]) (aF2 w x of k hk) (.v _) (.cons (.d _) (.cons (.d _) (.cons (.lp h1 (.cons (.d _) .nil)) (.cons (.lp h2 (wJ.data _ _)) .nil))))
 refine iC mix Tryz.func91 ?_
 repeat'(first|refine bl ?_|refine bS (λh=>?_) (λh=>?_))
 ·refine dZ.mk (.d (cb (w.n4 x x.of 5))) [] (hth _ x.of 5 eD rfl 9 rfl) ?_;conv=>whnf
  repeat'(first|refine bl ?_|refine bS (λh=>?_) (λh=>?_))
  ·refine aF (TT w r 6 x.of) ?_;conv=>whnf
   refine bl ?_;refine dP ?_;simp_all[D4.qJ]
  ·refine dP ?_;simp_all[D4.qJ]
 ·refine dZ.mk (.d (cb (w.n4 x x.of 5))) [] (hth _ x.of 5 eD rfl 9 rfl) ?_;conv=>whnf
  refine bl ?_;refine dP ?_;simp_all[D4.qJ]
 ·refine dZ.mk (.d (cb (w.n4 x x.of 8))) [] (hth _ x.of 8 eD rfl 9 rfl) ?_;conv=>whnf
  refine bl ?_;refine dP ?_;simp_all[D4.qJ]
 ·refine dZ.mk (.d (cb (w.n4 x x.of 10))) [] (hth _ x.of 10 eD rfl 9 rfl) ?_;conv=>whnf
  repeat'(first|refine bl ?_|refine bS (λh=>?_) (λh=>?_))
  ·refine aF (TT w r 11 x.of) ?_;conv=>whnf
   refine bl ?_;refine dP ?_;simp_all[D4.qJ]
  ·refine dP ?_;simp_all[D4.qJ]
 ·refine .BL (.d (cb (w.n4 x x.by_ 13))) [] (hth _ x.by_ 13 eD rfl 9 rfl) ?_;conv=>whnf
  repeat'(first|refine bl ?_|refine bS (λh=>?_) (λh=>?_))
  ·refine cH (sB w x.of) ?_;conv=>whnf
   repeat'(first|refine bl ?_|refine bS (λh=>?_) (λh=>?_))
   ·refine EA eD (λt ht=>?_) (λht=>?_)
    ·conv=>whnf
     refine bl ?_;refine dP ?_;have h1:w.LA x.by_=t.bQ.of:=by unfold D4.LA D4.find;rw[ht];rfl
     simp_all[D4.qJ]
    ·exfalso;have h1:w.zB x.by_=0:=by unfold D4.zB D4.find;rw[ht];rfl
     simp_all[D4.n4]
   ·refine dP ?_;simp_all[D4.qJ]
  ·refine dP ?_;simp_all[D4.qJ]
 ·refine dZ.mk (.d (cb (w.n4 x x.by_ 3))) [] (hth _ x.by_ 3 eD rfl 9 rfl) ?_;conv=>whnf
  repeat'(first|refine bl ?_|refine bS (λh=>?_) (λh=>?_))
  ·refine aF (sB w x.of) ?_;conv=>whnf
   refine bl ?_;refine dP ?_;simp_all[D4.qJ]
  ·refine dP ?_;simp_all[D4.qJ]
 ·refine dP ?_;simp_all[D4.qJ]
 ·refine cH (P9 w x.of) ?_;conv=>whnf
  repeat'(first|refine bl ?_|refine bS (λh=>?_) (λh=>?_))
  ·refine EA eD (λt ht=>?_) (λht=>?_)
   ·conv=>whnf
    refine bl ?_;refine dP ?_;have h1:w.SL x.of=t.bQ.by_:=by unfold D4.SL D4.find;rw[ht];rfl
    simp_all[D4.qJ]
   ·exfalso;have h1:w.zB x.of=0:=by unfold D4.zB D4.find;rw[ht];rfl
    simp_all
  ·refine dP ?_;simp_all[D4.qJ]
 ·refine aF (XF w x.of n v (hv aM)) ?_;conv=>whnf
  refine bl ?_;refine lkF kK (λt ht=>?_) (λht=>?_);have hfb:w.aCS x r=decide (t.2=r):=by unfold D4.aCS;rw[ht]
  rotate_left
  have hfb:w.aCS x r=true:=by unfold D4.aCS;rw[ht]
  all_goals
   clear ht;conv=>whnf
   refine bl ?_;refine aF (sB w x.of) ?_;conv=>whnf
   repeat'(first|refine bl ?_|refine bS (λh=>?_) (λh=>?_))
   ·refine aF (P9 w x.of) ?_;conv=>whnf
    repeat'(first|refine bl ?_|refine bS (λh=>?_) (λh=>?_))
    all_goals(refine dP ?_;simp_all[D4.qJ])
   ·refine dP ?_;simp_all[D4.qJ]
 ·refine dP ?_;simp_all[D4.qJ]
def RK(r:Option (List Ot×Nat))(v:A):Bool:=match r with
 |some ([(r,[])],_)=>Y6 r (.ok v)
 |_=>false
def zO(aXX:P.follows .mixedOrders=true){f:FuncId}{xs:List A}{v:A}{d nx:Nat}(h:RK (yI P aA0 d (.fn f) xs .nil nx) v=true)(hx:A.lQ xs=[]):∀m,aJ P f xs m (.ok v) m:=by
 intro m;cases he:yI P aA0 d (.fn f) xs .nil nx with
 |none=>rw[he]at h;cases h
 |some p=>
  obtain⟨outs,nx'⟩:=p;rw[he]at h;obtain⟨r,u,rfl,aVN⟩:=(aJ0 aXX aHX d).fn _ _ _ _ _ _ he;unfold RK at h;split at h
  ·rename_i e;simp only[aA,aD,iX,and_true]at e;obtain⟨⟨rfl,rfl⟩,_⟩:=e;have hr:=UA h;subst hr;have hn:(Tr.nil:Tr R).get=λ_=>none:=funext λn=>Tr.get_nil n;rw[hn]at aVN;exact aJ.frame (m:=m) (ups:=[]) aVN (by simp[hx]) sM sM sM
  ·cases h
def H6(x:Int):Int:=[0,1,1,2,1,2,2,3,1,2,2,3,2,3,3,4,1,2,2,3,2,3,3,4,2,3,3,4,3,4,4,5,1,2,2,3,2,3,3,4,2,3,3,4,3,4,4,5,2,3,3,4,3,4,4,5,3,4,4,5,4,5,5,6].getD x.toNat 0
def Y2(x:Int):0<=H6 x/\H6 x<=6:=by
 unfold H6;generalize x.toNat=n;rcases eQ n 64 with h|h
 ·have:∀k:Fin 64,0<=([0,1,1,2,1,2,2,3,1,2,2,3,2,3,3,4,1,2,2,3,2,3,3,4,2,3,3,4,3,4,4,5,1,2,2,3,2,3,3,4,2,3,3,4,3,4,4,5,2,3,3,4,3,4,4,5,3,4,4,5,4,5,5,6]:List Int).getD k.val 0/\([0,1,1,2,1,2,2,3,1,2,2,3,2,3,3,4,1,2,2,3,2,3,3,4,2,3,3,4,3,4,4,5,1,2,2,3,2,3,3,4,2,3,3,4,3,4,4,5,2,3,3,4,3,4,4,5,3,4,4,5,4,5,5,6]:List Int).getD k.val 0<=6:=eD;exact this ⟨n,h⟩
 ·rw[bF,lD (by simpa using h)];simp
def aEE:((List.range 64).all λk=>RK (yI Tryz.prog aA0 5 (.fn 129) [.d (.v (.int .u64 k))] .nil 1) (.d (ci (H6 k))))=true:=kK
def aHZ(x:Int)(h0:0<=x)(h1:x<=63):Pu 129 [.d (.v (.int .u64 x))] (.d (ci (H6 x))):=by
 have hx:((x.toNat:Nat):Int)=x:=oM;have:=cV.1 aEE x.toNat (jI.2 oM);rw[hx]at this;exact zO mix this rfl
def aB9(a b:Int)(h:(0<=a/\a<=63)\/(0<=b/\b<=63)):0<=aB8 a b/\aB8 a b<=63:=by
 unfold aB8 a7O;have key:((BitVec.ofInt IntKind.u8.bits a)&&&(BitVec.ofInt IntKind.u8.bits b)).toNat<=63:=by
  rw[BitVec.toNat_and];rcases h with⟨h0,h1⟩|⟨h0,h1⟩
  ·refine cL Nat.and_le_left ?_;rw[u3];simp only[IntKind.bits];omega
  ·refine cL Nat.and_le_right ?_;rw[u3];simp only[IntKind.bits];omega
 dsimp only;generalize((BitVec.ofInt IntKind.u8.bits a)&&&(BitVec.ofInt IntKind.u8.bits b)).toNat=n at key;simp only[IntKind.wrap];simp only[IntKind.signed,IntKind.bits,c0,bY,if_false];omega
def D4.VA(w:D4):∀(n:Nat)(set r v:Int),0<=set->set<=63->w.MD n set r=some v->0<=v/\v<=63
 |0,set,r,v,h0,h1,h=>by cases h
 |n+1,set,r,v,h0,h1,h=>by
  rw[D4.MD]at h;have hm:∀y:Int,0<=HN [set,y]/\HN [set,y]<=63:=λy=>aB9 _ _ (.inl (aB9 _ _ (.inr ⟨h0,h1⟩)));split at h
  ·simp only[aA]at h;omega
  ·split at h
   ·exact D4.VA w n _ _ v (hm _).1 (hm _).2 h
   ·split at h
    ·exact D4.VA w n _ _ v h0 h1 h
    ·simp only[aA]at h;rw[<-h];exact hm _
def YG{n:Int}(h:0<=n)(h':n<=18446744073709551615):MN .u64 n:=by
 simp[MN,IntKind.min,IntKind.max,IntKind.signed,IntKind.bits];omega
def aDO{a b:Int}(h:a=b):A.d (ci a)=A.d (ci b):=by rw[h]
def aIK(p:Int)(h0:0<=p)(h1:p<=6):IntKind.i64.wrap (1*2^min p.toNat IntKind.i64.bits)=2^p.toNat:=by
 have:p=0\/p=1\/p=2\/p=3\/p=4\/p=5\/p=6:=oM;rcases this with rfl|rfl|rfl|rfl|rfl|rfl|rfl<;>decide
def D4.tY(w:D4)(r:Int):Int:=(w.MD (w.aT4.length+1) 63 r).getD 0
def D4.aB5(w:D4)(r:Int):0<=w.tY r/\w.tY r<=63:=by
 unfold D4.tY;cases h:w.MD (w.aT4.length+1) 63 r with
 |none=>simp
 |some v=>exact w.VA _ 63 r v oM oM h
def D4.HY(w:D4):Prop:=∀r,(w.MD (w.aT4.length+1) 63 r).isSome=true
def aB6(w:D4)(hA:w.HY)(r:Int):Pu 93 [.d (.ip w.aT1),.d (ci r)] (.d (.v (.int .u8 (w.tY r)))):=by
 refine XF w r (w.aT4.length+1) _ ?_;have:=hA r;unfold D4.tY;cases h:w.MD (w.aT4.length+1) 63 r with
 |none=>rw[h]at this;cases this
 |some v=>rfl
def D4.term(w:D4)(t:T4):Int:=if t.bQ.kind=14 then -1 else 2^(H6 (w.tY t.ref)).toNat -1
def D4.oL(w:D4):List T4->Int
 |[]=>0
 |t::r=>w.term t+w.oL r
def EY(w:D4):∀(L:List T4)(i:Nat)(h:i<L.length),w.oL L=w.term L[i]+w.oL (L.eraseIdx i)
 |[],i,h=>by simp at h
 |a::r,0,h=>rfl
 |a::r,i+1,h=>by
  simp only[D4.oL,cJ,gK];rw[EY w r i (by simpa using h)];omega
def D4.ZD(w:D4)(t:T4):-1<=w.term t/\w.term t<=63:=by
 unfold D4.term;have h:=Y2 (w.tY t.ref);generalize H6 (w.tY t.ref)=p at h;split
 ·omega
 ·have:p.toNat=0\/p.toNat=1\/p.toNat=2\/p.toNat=3\/p.toNat=4\/p.toNat=5\/p.toNat=6:=oM;rcases this with e|e|e|e|e|e|e<;>rw[e]<;>decide
def D4.GU(w:D4):∀L:List T4,-(L.length:Int)<=w.oL L/\w.oL L<=63*L.length
 |[]=>by simp[D4.oL]
 |t::r=>by
  have h1:=w.ZD t;have h2:=w.GU r;simp only[D4.oL,aQ];omega
def aFQ(w:D4)(hA:w.HY)(hl:w.aT4.length<=2^30):Pu 68 [.d (.ip w.aT1)] (.d (ci (w.oL w.aT4))):=by
 refine iC mix Tryz.func68 ?_;refine bl ?_;refine xI rfl ?_;conv=>whnf
 refine bl ?_;refine bV mix (λa:Option (Ky×C)×List T4×Int=>a.2.1.length<=w.aT4.length/\a.2.2+w.oL a.2.1=w.oL w.aT4/\-((w.aT4.length:Int)-a.2.1.length)<=a.2.2/\a.2.2<=63*((w.aT4.length:Int)-a.2.1.length)) (I:=λa=>[(0,.d (.ip w.aT1)),(10,.h 49),(3,.d (ci a.2.2))])
  (J:=λa=>[(49,.di a.1 (a.2.1.map T4.kv))]) (μ:=λa=>a.2.1.length) 100 (none,w.aT4,0) ⟨sM,sM,sM,sM⟩ mZ ?_
 rintro⟨cur,L,n⟩ ⟨h1,h2,h3,h4⟩;dsimp only at h1 h2 h3 h4⊢;refine bl ?_;refine EI (λh0=>?_) (λi hi=>?_)
 ·conv=>whnf
  refine bl ?_;refine oF ?_;subst h0;simpa [D4.oL]using h2
 ·have hs:=EY w L i hi;have ht:=w.ZD L[i];have hp:=Y2 (w.tY L[i].ref);have hab:=w.aB5 L[i].ref;have hle:=List.length_eraseIdx_of_lt hi;conv=>whnf
  repeat'(first|refine bl ?_|refine bS (λh=>?_) (λh=>?_))
  ·have e:w.term L[i]=-1:=by unfold D4.term;rw[aUF aM]
   refine⟨(some (T4.kv L[i]),L.eraseIdx i,n -1),xL _ _ hi,⟨dM,dM,dM,dM⟩,?_⟩;exact mZ
  ·have e:w.term L[i]=2^(H6 (w.tY L[i].ref)).toNat -1:=by unfold D4.term;rw[aT7 aM]
   refine aF (aB6 w hA L[i].ref) ?_;conv=>whnf
   skip
   refine FC.mk (YG oM oM) ?_;conv=>whnf
   skip
   refine aF (aHZ _ hab.1 hab.2) ?_;conv=>whnf
   skip
   rw[aIK _ hp.1 hp.2,<-Int.sub_add_cancel (2^(H6 (w.tY L[i].ref)).toNat) 1,<-e];refine xR.mk (aUZ hp.1) ?_;conv=>whnf
   refine bl ?_;refine⟨(some (T4.kv L[i]),L.eraseIdx i,n+w.term L[i]),xL _ _ hi,⟨dM,dM,dM,dM⟩,?_⟩;exact mZ
def l6(F:List ((Int×Int)×Int)):List (Ky×A):=F.map λf=>(kF f.1.1 f.1.2,.d (ci f.2))
def D4.wA(w:D4)(i:Nat):List A:=[.d (.sl 1 (iR w.parents)),.d (.sl 1 (w.cut.map λb=>[cb b])),.d (.im (w.aT4.map λt=>kI t.ref) (w.aT4.map λt=>.ip t.bQ.aT1)),.h i,.d (ci w.last),.d (.sl 1 (iR w.made))]
def D4.JW(w:D4)(F:List ((Int×Int)×Int)):D4:={w with facets:=F}
def X5(F:List ((Int×Int)×Int)):A.lQ ((l6 F).map (·.2))=[]:=by
 have:∀l:List ((Int×Int)×Int),A.lQ (l.map λf=>A.d (ci f.2))=[]:=by
  intro l;induction l with
  |nil=>rfl
  |cons a r ih=>simp only[aG,A.lQ,A.hs,ih,dS]
 unfold l6;rw[bH];exact this F
def rdW{i j:Nat}{fz gz:Bool}{st:List (Ky×Nat)}(h0:m i=some (.cells fz (w.wA j)))(h1:m j=some (.mp gz (l6 F) st)):Rd m (.lp i 0) (.ip (w.JW F).aT1):=by
 refine .lp h0 (.cons (.d _) (.cons (.d _) (.cons (.d _) (.cons ?_ (.cons (.d _) (.cons (.d _) .nil))))))
 have:=Rd.mp (m:=m) (vs:=F.map λf=>ci f.2) h1 (by
  have e:(l6 F).map (·.2)=(F.map λf=>ci f.2).map A.d:=by unfold l6;rw[bH,bH];rfl
  rw[e];exact wJ.data _ _)
 have e:(l6 F).map (·.1)=F.map λf=>kF f.1.1 f.1.2:=by unfold l6;rw[bH];rfl
 rw[e]at this;exact this
def aL5{k1:A->Prop}{k0:Prop}(hk:KC.fits P kt (.int .i64 0)=true)(h:w.find r=some t)(h1:k1 (.d (.ip t.bQ.aT1))):
 n5 (kH P kt (kI r) ((w.aT4.map λt=>kI t.ref).zip ((w.aT4.map λt=>.ip t.bQ.aT1).map A.d))) (fL (kI r) ((w.aT4.map λt=>kI t.ref).zip ((w.aT4.map λt=>.ip t.bQ.aT1).map A.d))) k1 k0:=by
 refine EA hk (λt' ht=>?_) (λht=>?_)
 ·have e:t'=t:=eY (ht.symm.trans h);subst e;exact h1
 ·rw[show w.find r=none from ht]at h;cases h
def SM(w:D4)(y4:(w.aT4.map (·.ref)).Nodup)(t:T4)(h:t∈w.aT4):w.find t.ref=some t:=by
 unfold D4.find;refine vJ h sM λy hy hp=>?_;have e:y.ref=t.ref:=by simpa using hp
 obtain⟨j1,q1⟩:=dY.1 hy;obtain⟨j2,q2⟩:=dY.1 h;have:j1=j2:=by
  refine(List.getElem?_inj (l:=w.aT4.map (·.ref)) ?_ y4).1 ?_
  ·have:=(bA.1 q1).1;simpa using this
  ·simp only[cK,q1,q2,dF,e]
 subst this;rw[q1]at q2;simpa using q2
def D4.GL(w:D4)(t:T4):Bool:=w.V9 t.bQ&&((!xT t.bQ.kind||w.mI t.bQ.of)&&((!DB t.bQ.kind||w.mI t.bQ.by_)&&(!decide (t.bQ.kind=13)||(decide (t.bQ.of=0)||w.mI t.bQ.of))))
def D4.zF(w:D4):Nat->Int->Bool
 |k,q=>match w.find q with
  |none=>false
  |some t=>if uY t.bQ.kind=true then(match k with
   |0=>false
   |k+1=>if w.mI t.bQ.of=true then D4.zF w k t.bQ.of else false)else true
def SE{q:Int}(h:w.find q=some t)(hw:uY t.bQ.kind=true):w.zF 0 q=false:=by
 unfold D4.zF;rw[h];simp[hw]
def JR{k:Nat}{q:Int}(h:w.find q=some t)(hw:uY t.bQ.kind=true):w.zF (k+1) q=if w.mI t.bQ.of=true then w.zF k t.bQ.of else false:=by
 rw[D4.zF,h];simp[hw]
def aG0{k:Nat}{q:Int}(h:w.find q=some t)(hw:uY t.bQ.kind=false):w.zF k q=true:=by
 unfold D4.zF;rw[h];simp[hw]
def lP(L:List T4):List ((Int×Int)×Int):=(L.filter λt=>decide (t.bQ.kind=14)).map λt=>((t.bQ.of,t.bQ.set),t.ref)
def D4.NV(w:D4)(t:T4):Bool:=(w.JW (lP w.aT4)).qJ t.ref t.bQ (w.tY t.bQ.of)
def D4.sH(w:D4):Bool:=w.aT4.all (λt=>w.GL t&&w.zF w.aT4.length t.ref)&&(decide (((lP w.aT4).map (·.1)).Nodup)&&w.aT4.all w.NV)
def FF{α:Type}(p:α->Bool):∀(L:List α)(i:Nat)(h:i<L.length),L.all p=(p L[i]&&(L.eraseIdx i).all p)
 |[],i,h=>by simp at h
 |a::r,0,h=>sM
 |a::r,i+1,h=>by
  simp only[o9,cJ,gK];rw[FF p r i (by simpa using h),Bool.and_left_comm]
def mem_erase{α:Type}{L:List α}{i:Nat}{x:α}(h:x∈L.eraseIdx i):x∈L:=(List.eraseIdx_sublist L i).subset h
def wW{fz:Bool}:rB ml (R.mp fz (l6 F) []).hs:=by
 show rB _ (A.lQ ((l6 F).map (·.2))++[]);rw[X5];trivial
def aD4{i:Nat}{g:Nat->Nat}{fz:Bool}(h:aK ml i=some (.mp fz (l6 F) [])):(aK ml i).map (R.eZ g)=some (.mp fz (l6 F) []):=by
 rw[h];show some (R.mp fz ((l6 F).map λp=>(p.1,p.2.eZ g)) [])=_;congr 2;unfold l6;rw[bH];rfl
def aCQ(F G:List ((Int×Int)×Int)):l6 (F++G)=l6 F++l6 G:=by simp only[l6,bP]
def NJ(r s:Int)(F:List ((Int×Int)×Int)):fL (kF r s) (l6 F)=(F.find? λt=>decide (t.1=(r,s))).map λt=>.d (ci t.2):=CO (λt=>t.1) (λt=>A.d (ci t.2)) r s F
def SJ{s:Int}(hk:Ky.fits P kt (kF r s)=true)(F:List ((Int×Int)×Int)):kH P kt (kF r s) (l6 F)=true:=by
 unfold kH;rw[hk,cA,cV];intro p hp;obtain⟨t,_,rfl⟩:=aA4.1 hp;rfl
def aNG{s:Int}{k1:A->Prop}{k0:Prop}(hk:Ky.fits P kt (kF r s)=true)(h1:∀t,(F.find? λt=>decide (t.1=(r,s)))=some t->k1 (.d (ci t.2)))(h0:(F.find? λt=>decide (t.1=(r,s)))=none->k0):
 n5 (kH P kt (kF r s) (l6 F)) (fL (kF r s) (l6 F)) k1 k0:=by
 have hf:=SJ hk F;have hg:=NJ r s F;cases h:F.find? λt=>decide (t.1=(r,s))with
 |none=>rw[h]at hg;exact .BP hf hg (h0 h)
 |some t=>rw[h]at hg;exact .CL _ hf hg (h1 t h)
def aJ.l8{mb u:List (Nat×R)}(h:aJ P f xs (aK mb) (.ok v) (aH (aK mb) u))(hhs:rB mb (A.lQ xs))(hm:RN ml mb)(n0:H9 mb mb)(hfr:HH ml mb u):aJ P f xs (aK ml) (.ok v) (aH (aK ml) u):=
 aJ.frame h hhs.at hm.at (λi r hi=>n0.at i r hi) hfr.at
def CU{α:Type}:∀(L:List α)(i:Nat)(h:i<L.length),L.Perm (L[i]::L.eraseIdx i)
 |[],i,h=>by simp at h
 |a::r,0,h=>.refl _
 |a::r,i+1,h=>by
  have:=CU r i (by simpa using h);simp only[cJ,gK];exact(this.cons a).trans (.swap _ _ _)
def T4.fc(t:T4):(Int×Int)×Int:=((t.bQ.of,t.bQ.set),t.ref)
def Z5{L M:List T4}(h:L.Perm M):(lP L).Perm (lP M):=(h.filter _).map _
def HC{L:List T4}(h:t.bQ.kind=14):lP (t::L)=t.fc::lP L:=by
 unfold lP T4.fc;rw[List.filter_cons_of_pos (by simpa using h)];rfl
def Z4{L:List T4}(h:¬t.bQ.kind=14):lP (t::L)=lP L:=by
 unfold lP;rw[List.filter_cons_of_neg (by simpa using h)]
def Z7{k:Int×Int}:(F.find? λf=>decide (f.1=k))=none↔k∉F.map (·.1):=by
 rw[mN];constructor
 ·intro h hk;obtain⟨f,hf,rfl⟩:=aA4.1 hk;exact h f hf sM
 ·intro h f hf e;exact h (aA4.2 ⟨f,hf,by simpa using e⟩)
def aAP(w:D4)(r:Int)(t:T4)(ht:w.find r=some t)(hk:t.bQ.kind=14)(F:List ((Int×Int)×Int))(hF:(F.find? λf=>decide (f.1=(t.bQ.of,t.bQ.set)))=none):
 aJ Tryz.prog 81 [.lp 0 0,.d (ci r)] (aK [(0,.cells false (w.wA 1)),(1,.mp false (l6 F) [])]) (.ok (.eL [])) (aH (aK [(0,.cells false (w.wA 1)),(1,.mp false (l6 F) [])]) [(1,.mp false (l6 (F++[((t.bQ.of,t.bQ.set),r)])) [])]):=by
 refine wE mix 100 Tryz.func81 tV ⟨wW,tV⟩ ?_
 repeat'(first|refine bl ?_|refine bS (λh=>?_) (λh=>?_)|refine aL5 eD ht (bw ?_))
 ·refine .BP (SJ kK F) (by rw[NJ,hF];rfl) ?_;conv=>whnf
  refine bl ?_;refine dA rfl ⟨.inr ?_,.inr rfl,.inl rfl,tV⟩;rw[aCQ];rfl
 ·exact absurd hk aM
def IA(w:D4)(F:List ((Int×Int)×Int)):∀(n:Nat)(s r:Int),(w.JW F).MD n s r=w.MD n s r
 |0,s,r=>rfl
 |n+1,s,r=>by
  rw[D4.MD,D4.MD];have e:(w.JW F).find r=w.find r:=rfl;rw[e];cases w.find r with
  |none=>rfl
  |some t=>
   dsimp only;rw[IA w F n,IA w F n]
def JQ(w:D4):∀(k:Nat)(s q:Int),w.zF k q=true->(w.MD (k+1) s q).isSome=true
 |k,s,q,h=>by
  cases hf:w.find q with
  |none=>unfold D4.zF at h;rw[hf]at h;cases h
  |some t=>
   rw[D4.MD,hf];dsimp only;cases hw:uY t.bQ.kind with
   |false=>
    have:¬t.bQ.kind=14/\¬t.bQ.kind=15/\¬t.bQ.kind=16:=by
     simp only[uY,aU1,not_or]at hw;exact hw
    rw[aT7 this.1,aT7 oM];rfl
   |true=>
    cases k with
    |zero=>rw[SE hf hw]at h;cases h
    |succ k=>
     rw[JR hf hw]at h;split at h
     ·split
      ·exact JQ w k _ _ h
      ·split
       ·exact JQ w k _ _ h
       ·rfl
     ·cases h
def XH(w:D4)(h:∀t∈w.aT4,w.zF w.aT4.length t.ref=true):w.HY:=by
 intro r;cases hf:w.find r with
 |none=>rw[D4.MD,hf];rfl
 |some t=>
  have hm:=cT hf;have hr:t.ref=r:=by have:=iD hf;exact aUL this
  rw[<-hr];exact JQ w _ _ _ (h t hm)
def HY.JW{w:D4}(h:w.HY)(F:List ((Int×Int)×Int)):(w.JW F).HY:=λr=>by
 rw[show(w.JW F).aT4=w.aT4 from rfl,IA];exact h r
def HY.some{w:D4}(h:w.HY)(r:Int):w.MD (w.aT4.length+1) 63 r=some (w.tY r):=by
 have:=h r;unfold D4.tY;cases hq:w.MD (w.aT4.length+1) 63 r with
 |none=>rw[hq]at this;cases this
 |some v=>rfl
def aFP(w:D4)(hf:w.facets=[])(aXR:∀t∈w.aT4,t.bQ.cR<=2^35)(hlen:w.aT4.length<=2^30)(y4:(w.aT4.map (·.ref)).Nodup):
 aJ Tryz.prog 67 [.lp 0 0] (aK [(0,.cells false (w.wA 1)),(1,.mp false [] [])]) (.ok (.d (cb w.sH))) (aH (aK [(0,.cells false (w.wA 1)),(1,.mp false [] [])]) [(1,if w.sH=true then .mp false (l6 (lP w.aT4)) []else .dead)]):=by
 refine V5 mix (if w.sH=true then []else [1]) 100 Tryz.func67 rfl kK (bD rfl) (by cases w.sH<;>trivial) ?_ ?_
 ·refine⟨?_,tV⟩;cases w.sH
  ·trivial
  ·show rB _ (A.lQ ((l6 (lP w.aT4)).map (·.2))++[]);rw[X5];trivial
 refine bl ?_;refine xI rfl ?_;conv=>whnf
 refine bl ?_;have hwf:w.JW []=w:=by cases w;simp only[D4.JW]at hf⊢;rw[hf]
 have sN:∀{ml:List (Nat×R)},aK ml 0=some (.cells false (w.wA 1))->aK ml 1=some (.mp false [] [])->Rd (aK ml) (.lp 0 0) (.ip w.aT1):=λ{ml}h0 h1=>by
  have:=rdW (F:=[]) h0 h1
  rwa [hwf]at this
 have fin:w.sH=false->∀(ml:List (Nat×R)),aK ml 0=some (.cells false (w.wA 1))->aK ml 1≠none->aGG (if w.sH=true then []else [1]) [(0,.cells false (w.wA 1)),(1,.mp false [] [])] (.d (cb w.sH)) [(1,if w.sH=true then .mp false (l6 (lP w.aT4)) []else .dead)] (.d (cb false)) ml:=λhb ml h0 h1=>by
  rw[hb];refine XY rfl ⟨.inr rfl,.inr ?_,.inl rfl,tV⟩;exact h0
 refine bV mix (λa:Option (Ky×C)×List T4=>(∀t∈a.2,t∈w.aT4)/\w.aT4.all (λt=>w.GL t&&w.zF w.aT4.length t.ref)=a.2.all (λt=>w.GL t&&w.zF w.aT4.length t.ref)) (I:=λa=>[(0,.lp 0 0),(17,.h 140)])
  (J:=λa=>[(140,.di a.1 (a.2.map T4.kv)),(0,.cells false (w.wA 1)),(1,.mp false [] [])]) (μ:=λa=>a.2.length) 200 (none,w.aT4) ⟨λt h=>h,rfl⟩ mZ ?_
 rintro⟨cur,L⟩ ⟨aVM,aWV⟩;dsimp only at aVM aWV⊢;refine bl ?_;refine EI (λh0=>?_) (λi hi=>?_)
 ·have hA1:w.aT4.all (λt=>w.GL t&&w.zF w.aT4.length t.ref)=true:=by rw[aWV,h0];rfl
  conv=>whnf
  refine bl ?_;refine xI rfl ?_;conv=>whnf
  refine bl ?_;clear aWV aVM;refine bV mix (λa:Option (Ky×C)×List T4×List ((Int×Int)×Int)=>(∀t∈a.2.1,t∈w.aT4)/\(a.2.2++lP a.2.1).Perm (lP w.aT4)/\(a.2.2.map (·.1)).Nodup) (I:=λa=>[(0,.lp 0 0),(131,.h 248)])
   (J:=λa=>[(248,.di a.1 (a.2.1.map T4.kv)),(0,.cells false (w.wA 1)),(1,.mp false (l6 a.2.2) [])]) (μ:=λa=>a.2.1.length) 300 (none,w.aT4,[]) ⟨λt h=>h,sM,sM⟩ mZ ?_
  rintro⟨cur2,L2,F⟩ ⟨aVM,hp,hnF⟩;dsimp only at aVM hp hnF⊢;refine bl ?_;refine EI (λh2=>?_) (λi hi=>?_)
  ·conv=>whnf
   refine bl ?_;refine xI rfl ?_;conv=>whnf
   refine bl ?_;have hpF:(l6 F).Perm (l6 (lP w.aT4)):=by
    rw[h2]at hp;have:F.Perm (lP w.aT4):=by simpa [lP]using hp
    exact this.map _
   have hac:w.HY:=XH w λt ht=>by
    have:=cV.1 hA1 t ht;simp only[aE]at this;exact this.2
   have a2H:((lP w.aT4).map (·.1)).Nodup:=by
    rw[h2]at hp;have:F.Perm (lP w.aT4):=by simpa [lP]using hp
    exact(this.map (·.1)).nodup_iff.1 hnF
   refine bV mix (λa:Option (Ky×C)×List T4=>(∀t∈a.2,t∈w.aT4)/\w.aT4.all w.NV=a.2.all w.NV) (I:=λa=>[(0,.lp 0 0),(167,.h 348)])
    (J:=λa=>[(1,.mp false (l6 (lP w.aT4)) []),(348,.di a.1 (a.2.map T4.kv)),(0,.cells false (w.wA 1))]) (μ:=λa=>a.2.length) 400 (none,w.aT4) ⟨λt h=>h,rfl⟩
    (cN.trans (l':=[(0,.lp 0 0),(167,.h 348)]) (ml':=[(1,.mp false (l6 F) []),(348,.di none (w.aT4.map T4.kv)),(0,.cells false (w.wA 1))]) mZ (cN.perm 1 hpF)) ?_
   rintro⟨cur3,L3⟩ ⟨aX2,aYS⟩;dsimp only at aX2 aYS⊢;refine bl ?_;refine EI (λh3=>?_) (λj hj=>?_)
   ·conv=>whnf
    refine bl ?_;have hb:w.sH=true:=by
     unfold D4.sH;rw[hA1,aYS,h3,aUZ a2H];rfl
    rw[hb];exact XY rfl ⟨.inr rfl,.inr rfl,.inl rfl,tV⟩
   ·rw[FF _ L3 j hj]at aYS;have a2X:=aX2 _ (aY hj);conv=>whnf
    refine bl ?_;refine fU (cs:=[.ip (w.JW (lP w.aT4)).aT1,ci L3[j].ref,.agg L3[j].bQ.aT1]) (aG8 (w.JW (lP w.aT4)) L3[j].ref L3[j].bQ (w.aT4.length+1) (w.tY L3[j].bQ.of) (λ_=>by rw[IA];exact HY.some hac _)) (.v _) (.cons (rdW rfl rfl) (.cons (.d _) (.cons (.d _) .nil))) ?_;conv=>whnf
    repeat'(first|refine bl ?_|refine bS (λh=>?_) (λh=>?_))
    ·refine fin ?_ _ rfl sn;have hq:w.NV L3[j]=false:=aM;unfold D4.sH;rw[aYS,hq];simp
    ·have hq:w.NV L3[j]=true:=aM;refine⟨(some (T4.kv L3[j]),L3.eraseIdx j),xL _ _ hj,⟨λt ht=>aX2 t (mem_erase ht),?_⟩,?_⟩
     ·dsimp only;rw[aYS,hq];rfl
     ·exact mZ
  ·have hin:=aVM _ (aY hi);have hpe:=Z5 (CU L2 i hi);have hfd:w.find L2[i].ref=some L2[i]:=SM w y4 _ hin;conv=>whnf
   repeat'(first|refine bl ?_|refine bS (λh=>?_) (λh=>?_))
   ·refine aNG kK (λf hff=>?_) (λhff=>?_)
    ·conv=>whnf
     refine bl ?_;refine fin ?_ _ rfl sn;rw[HC aM]at hpe;have h1:L2[i].fc.1∈F.map (·.1):=aA4.2 ⟨f,cT hff,(by have:=iD hff;exact aUL this)⟩;have h3:¬((lP w.aT4).map (·.1)).Nodup:=by
      intro hq;have h4:=((hp.symm.map (·.1)).nodup_iff.1 hq);rw[bP]at h4;have h5:=(iS.1 h4).2.2 _ h1 L2[i].fc.1 (((hpe.map (·.1)).mem_iff.2 sM));exact h5 rfl
     unfold D4.sH;rw[aU0 h3];simp
    ·conv=>whnf
     refine bl ?_;rw[HC aM]at hpe;refine dZ.mk (.eL []) [(1,.mp false (l6 (F++[L2[i].fc])) [])] (aJ.l8 (aAP w L2[i].ref L2[i] hfd aM F hff) ⟨sn,tV⟩ ⟨rfl,rfl,tV⟩ ⟨⟨sn,tV⟩,wW,tV⟩ ⟨.inl sn,tV⟩) ?_;conv=>whnf
     refine bl ?_;refine⟨(some (T4.kv L2[i]),L2.eraseIdx i,F++[L2[i].fc]),xL _ _ hi,⟨λt ht=>aVM t (mem_erase ht),?_,?_⟩,?_⟩
     ·dsimp only;rw[bG];exact(qX F hpe.symm).trans hp
     ·dsimp only;rw[bP,iS];refine⟨hnF,sM,λa ha b hb=>?_⟩;simp only[aG,bM,aR]at hb;subst hb;rintro rfl;exact(Z7.1 hff) ha
     ·exact mZ
   ·rw[Z4 aM]at hpe;refine⟨(some (T4.kv L2[i]),L2.eraseIdx i,F),xL _ _ hi,⟨λt ht=>aVM t (mem_erase ht),?_,hnF⟩,?_⟩
    ·dsimp only;exact(qX F hpe.symm).trans hp
    ·exact mZ
 ·rw[FF _ L i hi]at aWV;have hin:=aVM _ (aY hi);conv=>whnf
  refine bl ?_;refine fU (cs:=[.ip w.aT1,.agg L[i].bQ.aT1]) (aD6 w L[i].bQ (aXR _ hin)) (.v _) (.cons (sN rfl rfl) (.cons (.d _) .nil)) ?_;conv=>whnf
  repeat'(first|refine bl ?_|refine bS (λh=>?_) (λh=>?_)|refine aF (ZR _) (bw ?_)|refine aF (ZQ _) (bw ?_)|refine fU (cs:=[.ip w.aT1,ci _]) (sB w _) (.v _) (.cons (sN rfl rfl) (.cons (.d _) .nil)) (bw ?_))
  any_goals(refine fin ?_ _ rfl sn
            have hok:w.GL L[i]=false:=by simp_all[D4.GL]
            unfold D4.sH;rw[aWV,hok];rfl)
  all_goals
   have hok:w.GL L[i]=true:=by simp_all[D4.GL]
   have hfd:w.find L[i].ref=some L[i]:=SM w y4 _ hin;refine bV mix (λb:Nat×Int=>b.1<=w.aT4.length/\w.zF w.aT4.length L[i].ref=w.zF (w.aT4.length -b.1) b.2/\(w.find b.2).isSome=true) (I:=λb=>[(0,.lp 0 0),(17,.h 140),(5,.d (ci b.1)),(6,.d (ci b.2))])
    (J:=λb=>[(140,.di (some (T4.kv L[i])) ((L.eraseIdx i).map T4.kv)),(0,.cells false (w.wA 1)),(1,.mp false [] [])]) (μ:=λb=>w.aT4.length -b.1) 400 (0,L[i].ref) ⟨sM,rfl,by dsimp only;rw[hfd];rfl⟩ mZ ?_
   rintro⟨n,q⟩ ⟨hn,he,hs⟩;dsimp only at hn he hs⊢;obtain⟨t,hfq⟩:=eS.1 hs
   repeat'(first|refine bl ?_|refine bS (λh=>?_) (λh=>?_)|refine aF (U1 _) (bw ?_)|refine aL5 eD hfq (bw ?_)|refine fU (cs:=[.ip w.aT1,ci _]) (sB w _) (.v _) (.cons (sN rfl rfl) (.cons (.d _) .nil)) (bw ?_))
  any_goals(refine fin ?_ _ rfl sn
            have he2:w.zF w.aT4.length L[i].ref=false:=by
             rw[he]
             first
             |(rw[show w.aT4.length -n=0 by omega];exact SE hfq aM)
             |(rw[show w.aT4.length -n=(w.aT4.length -n -1)+1 by omega,JR hfq aM,aT7 (by simp_all)])
            unfold D4.sH;rw[aWV,he2,kL];rfl)
  any_goals(refine⟨(n+1,t.bQ.of),by dsimp only;omega,⟨by dsimp only;omega,?_,?_⟩,?_⟩
            · dsimp only
              rw[he,show w.aT4.length -n=(w.aT4.length -(n+1))+1 by omega,JR hfq aM,aUF aM]
            · exact(by assumption:w.mI t.bQ.of=true)
            · exact mZ)
  any_goals(refine⟨(some (T4.kv L[i]),L.eraseIdx i),xL _ _ hi,⟨λt ht=>aVM t (mem_erase ht),?_⟩,?_⟩
            · dsimp only
              rw[aWV,hok,he,aG0 hfq aM];rfl
            · exact mZ)
def zD:List Int->Int->Bool
 |[],_=>true
 |p::r,i=>(decide (0<=p)&&decide (p<=i))&&zD r (i+1)
def TQ(L:List Int)(i:Nat)(h:i<L.length):zD (L.drop i) i=((decide (0<=L[i])&&decide (L[i]<=i))&&zD (L.drop (i+1)) ((i+1:Nat):Int)):=by
 rw[dE h];rfl
def WH{zl ce b:Nat}{n:Int}{fr:Bool}{X:Prop}(h1:Nat.beq zl ce=true)(h2:Nat.blt 0 ce=true)(h0:0<=n)(hn:n<=2^38)(hb:Nat.ble b 512=true)(hf:fr=true)(hx:X):
 xR (decide (zl=ce/\0<ce/\0<=n/\n<=n/\(b:Int)*n<=281474976710656/\n<=9223372036854775807)&&fr) X:=by
 obtain⟨k,rfl⟩:=lX h0;exact aJB h1 h2 oM hb hf hx
abbrev H5:C:=.v (.pointer none)
def aD9(L:List Int)(hL:L.length<=2^38)(pG:¬(L.length<16/\zD L 0=true)):Pu 40 [.d (.sl 1 (iR L))] (.eL [.d H5,.d (ci 71)]):=by
 refine iC mix Tryz.func40 ?_
 repeat'(first|refine bl ?_|refine bS (λh=>?_) (λh=>?_))
 ·exact .eL (cs:=[H5,ci 71]) (.cons (.d _) (.cons (.d _) .nil))
 refine bV mix (λi:Nat=>i<=L.length/\zD (L.drop i) i=zD L 0) (I:=λi=>[(0,.d (.sl 1 (iR L))),(2,.d H5),(10,.d (.sl 1 (iR L))),(11,.d (ci L.length)),(12,.d (ci i))])
  (J:=λi=>[]) (μ:=λi=>L.length -i) 100 0 ⟨oM,rfl⟩ mZ ?_
 rintro i ⟨hi,h0⟩
 repeat'(first|refine bl ?_|refine bS (λh=>?_) (λh=>?_))
 ·refine cD rfl eD aM ?_;conv=>whnf
  repeat'(first|refine bl ?_|refine bS (λh=>?_) (λh=>?_))
  any_goals exact A1.eL (cs:=[H5,ci 71]) (.cons (.d _) (.cons (.d _) .nil))
  refine⟨i+1,oM,⟨oM,?_⟩,mZ⟩;rw[<-h0,TQ L i aM];simp_all
 ·exfalso;rw[dT oM]at h0;exact pG ⟨oM,h0.symm⟩
def aKE(L:List Int):List (Nat×R):=[(212,.cells false [.d (.sl 1 (iR L)),.h 164,.h 188,.h 196,.d (ci 0),.h 180]),(164,dU 4 1 (List.replicate (L.length+1) [cb false])),(180,dU 3 1 (iR (List.replicate (L.length+1) 0))),(188,.mp false [] []),(196,.mp false [] [])]
def aKF(L:List Int)(hl:L.length<16)(hp:zD L 0=true):aJ Tryz.prog 40 [.d (.sl 1 (iR L))] (aK []) (.ok (.eL [.lp 212 0,.d (ci 0)])) (aH (aK []) (aKE L)):=by
 refine wE mix 100 Tryz.func40 ?_ ?_ ?_
 ·exact⟨sn,tV⟩
 ·refine⟨⟨sn,sn,sn,sn,tV⟩,aZ,aZ,tV,tV,tV⟩
 repeat'(first|refine bl ?_|refine bS (λh=>?_) (λh=>?_))
 ·exfalso;(try simp only[aB]at*);omega
 refine bV mix (λi:Nat=>i<=L.length/\zD (L.drop i) i=true) (I:=λi=>[(0,.d (.sl 1 (iR L))),(2,.d H5),(10,.d (.sl 1 (iR L))),(11,.d (ci L.length)),(12,.d (ci i))])
  (J:=λi=>[]) (μ:=λi=>L.length -i) 100 0 ⟨oM,hp⟩ mZ ?_
 rintro i ⟨hi,h0⟩
 repeat'(first|refine bl ?_|refine bS (λh=>?_) (λh=>?_))
 ·refine cD rfl eD aM ?_;rw[TQ L i aM]at h0;simp only[aE,aUA]at h0;conv=>whnf
  repeat'(first|refine bl ?_|refine bS (λh=>?_) (λh=>?_))
  any_goals(exfalso;omega)
  exact⟨i+1,oM,⟨oM,h0.2⟩,mZ⟩
 ·refine FC.mk (RG (by simp only[aB];omega) (by simp only[aB];omega)) ?_;conv=>whnf
  repeat'(first|refine bl ?_|refine cH (DG (iR L) (by simp only[aB];omega) sM) (bw ?_))
  refine WH kK kK (by simp only[aB];omega) (by simp only[aB];omega) kK rfl ?_;conv=>whnf
  skip
  refine WH kK kK (by simp only[aB];omega) (by simp only[aB];omega) kK rfl ?_;conv=>whnf
  refine bl ?_;refine dA rfl ⟨.inr rfl,.inr rfl,.inr ?_,.inr ?_,.inr rfl,tV⟩
  ·refine(congrArg (λq=>some (R.fW false 3 1 q)) ?_:some (R.fW false 3 1 _)=some (R.fW false 3 1 _));have e:zc Tryz.prog 8 3=[ci 0]:=kK;rw[aB,show((iR L).length:Int)=(L.length:Int) by simp,show((L.length:Int)+1).toNat=L.length+1 by omega,e];simp[bE,iR]
  ·refine(congrArg (λq=>some (R.fW false 4 1 q)) ?_:some (R.fW false 4 1 _)=some (R.fW false 4 1 _));have e:zc Tryz.prog 8 4=[cb false]:=kK;rw[aB,show((iR L).length:Int)=(L.length:Int) by simp,show((L.length:Int)+1).toNat=L.length+1 by omega,e];simp[bE]
def w0(L:List Int)(cut:List Bool):D4:=⟨L,cut,[],[],0,List.replicate (L.length+1) 0⟩
def PR(cut:List Bool):R:=dU 4 1 (cut.map λb=>[cb b])
def w0A(L:List Int):R:=.cells false [.d (.sl 1 (iR L)),.h 164,.h 188,.h 196,.d (ci 0),.d (.sl 1 (iR (List.replicate (L.length+1) 0)))]
def QA(L:List Int)(cut:List Bool):List (Nat×R):=[(212,w0A L),(164,PR cut),(188,.mp false [] []),(196,.mp false [] [])]
def aER{L:List Int}{cut:List Bool}(h0:m 212=some (w0A L))(h1:m 164=some (PR cut))(h2:m 188=some (.mp false [] []))(h3:m 196=some (.mp false [] [])):Rd m (.lp 212 0) (.ip (w0 L cut).aT1):=
 .lp h0 (.cons (.d _) (.cons (.dU h1) (.cons (.mp (vs:=[]) h2 .nil) (.cons (.mp (vs:=[]) h3 .nil) (.cons (.d _) (.cons (.d _) .nil))))))
def JF(L:List Int)(cut:List Bool)(n:Int)(hn:(w0 L cut).vF n=false):aJ Tryz.prog 64 [.lp 212 0,.d (ci n)] (aK (QA L cut)) (.ok (.d (ci 2))) (aH (aK (QA L cut)) []):=by
 refine wE mix 1000 Tryz.func64 tV tV ?_;refine bl ?_;refine fU (cs:=[.ip (w0 L cut).aT1]) (vQ (w0 L cut)) (.v _) (.cons (aER rfl rfl rfl rfl) .nil) ?_;conv=>whnf
 refine bl ?_;refine fU (cs:=[.ip (w0 L cut).aT1,ci n]) (XW (w0 L cut) n) (.v _) (.cons (aER rfl rfl rfl rfl) (.cons (.d _) .nil)) ?_;rw[hn];conv=>whnf
 refine bl ?_;exact dA rfl ⟨.inr rfl,.inr rfl,.inr rfl,.inr rfl,tV⟩
def VE(L:List Int)(cut:List Bool)(k:Nat)(hc:k<cut.length)(hn:(w0 L cut).vF k=true):aJ Tryz.prog 64 [.lp 212 0,.d (ci k)] (aK (QA L cut)) (.ok (.d (ci 0))) (aH (aK (QA L cut)) [(164,PR (cut.set k true))]):=by
 refine wE mix 1000 Tryz.func64 tV ⟨aZ,tV⟩ ?_;refine bl ?_;refine fU (cs:=[.ip (w0 L cut).aT1]) (vQ (w0 L cut)) (.v _) (.cons (aER rfl rfl rfl rfl) .nil) ?_;conv=>whnf
 refine bl ?_;refine fU (cs:=[.ip (w0 L cut).aT1,ci k]) (XW (w0 L cut) k) (.v _) (.cons (aER rfl rfl rfl rfl) (.cons (.d _) .nil)) ?_;rw[hn];conv=>whnf
 refine bl ?_;refine lG.mk k rfl (by simp only[bE,aB];exact hc) ?_;conv=>whnf
 skip
 refine fZ.mk [.d (cb cut[k])] (gB _ _ [cb cut[k]] sM) ?_;conv=>whnf
 refine bl ?_;refine dA rfl ⟨.inr ?_,.inr rfl,.inl rfl,.inr rfl,.inr rfl,tV⟩;refine(congrArg (λq=>some (R.fW false 4 1 q)) ?_:some (R.fW false 4 1 _)=some (R.fW false 4 1 _));refine(tU _ k [cb true]).trans ?_;rw[<-List.map_set]
def S7(k:FuncId)(caps:List C)(p:V->Bool)(L:List V)(hf:∀i(h:i<L.length),∀m,aJ Tryz.prog k ([.d (.agg (V.aT1 L[i]))]++caps.map A.d) m (.ok (.d (cb (p L[i])))) m)(hL:L.length<=2^40):Pu 226 [.d (.sl 5 (L.map V.row)),.d (.fn (.func k) [] caps)] (.d (ci (idxOf p L))):=by
 refine iC mix Tryz.func226 ?_;refine bl ?_;refine bV mix (λi:Nat=>i<=L.length/\(L.take i).any p=false) (I:=λi=>[(0,.d (.sl 5 (L.map V.row))),(1,.d (.fn (.func k) [] caps)),(7,.d (ci L.length)),(8,.d (ci i))])
  (J:=λi=>[]) (μ:=λi=>L.length -i) 100 0 ⟨oM,rfl⟩ mZ ?_
 rintro i ⟨hi,h0⟩
 repeat'(first|refine bl ?_|refine bS (λh=>?_) (λh=>?_))
 ·refine eE V.cP rfl eD h ?_;conv=>whnf
  skip
  refine aF (hf i h) ?_;conv=>whnf
  repeat'(first|refine bl ?_|refine bS (λh=>?_) (λh=>?_))
  ·exact oF (CN p L i aM h0 aM).symm
  ·refine⟨i+1,oM,⟨oM,A2 p L i aM h0 aM⟩,?_⟩;exact mZ
 ·rw[aI oM]at h0;exact oF (CM p L h0).symm
def JE(k:FuncId)(caps:List C)(p:V->Bool)(L:List V)(hf:∀i(h:i<L.length),∀m,aJ Tryz.prog k ([.d (.agg (V.aT1 L[i]))]++caps.map A.d) m (.ok (.d (cb (p L[i])))) m)(hL:L.length<=2^40):Pu 203 [.d (.sl 5 (L.map V.row)),.d (.fn (.func k) [] caps)] (.d (cb (L.any p))):=by
 refine iC mix Tryz.func203 ?_;refine bl ?_;refine aF (S7 k caps p L hf hL) ?_;conv=>whnf
 refine bl ?_;exact dP (yH p L)
def aGJ(v:V)(hv:v.cR<=2^40):Pu 204 [.d (.agg v.aT1)] (.d (cb (!v.may))):=by
 refine iC mix Tryz.func204 ?_;refine bl ?_;refine fT (cs:=v.aT1) (AL v oM) ?_;conv=>whnf
 refine bl ?_;exact dP rfl
def aGK{α:Type}(p:α->Bool)(L:List α):(!L.any λv=> !p v)=L.all p:=by
 induction L with
 |nil=>rfl
 |cons a r ih=>simp only[List.any_cons,o9,<-ih];cases p a<;>simp
def aJN(L:List V)(hL:V.dB L<=2^40):Pu 166 [.d (.sl 5 (L.map V.row))] (.d (cb (L.all V.may))):=by
 have hl:=V.eW L;refine iC mix Tryz.func166 ?_;refine bl ?_;refine aF (JE 204 [] (λv=> !v.may) L (λi h=>aGJ L[i] (by have:=V.dG L i h;omega)) oM) ?_;conv=>whnf
 refine bl ?_;exact dP (aGK _ _)
def U5(L:List V):Int:=if L.all V.may=true then(if(V.mk 3 0 ByteArray.empty L 0).may=true then 0 else 4)else 2
def pD(L:List V):List C:=if L.all V.may=true/\(V.mk 3 0 ByteArray.empty L 0).may=true then(V.mk 3 0 ByteArray.empty L 0).aT1 else zV
def aJA(L:List V)(hL:V.dB L<=2^37):Pu 121 [.d (.sl 5 (L.map V.row))] (.eL [.d (.agg (pD L)),.d (ci (U5 L))]):=by
 refine iC mix Tryz.func121 ?_
 repeat'(first|refine bl ?_|refine bS (λh=>?_) (λh=>?_)|refine aF (aJN L oM) (bw ?_)|refine fT (cs:=(V.mk 3 0 ByteArray.empty L 0).aT1) (AL (V.mk 3 0 ByteArray.empty L 0) (by simp only[V.cR];omega)) (bw ?_))
 ·have hA:L.all V.may=false:=by rw[iA];simpa using‹∃x,x∈L/\x.may=false›
  have e1:pD L=zV:=by unfold pD;rw[aT7 (by rw[hA];simp)]
  have e2:U5 L=2:=by unfold U5;rw[aT7 (by rw[hA];simp)]
  rw[e1,e2];exact .eL (cs:=[.agg zV,ci 2]) (.cons (.agg (wJ.data _ zV)) (.cons (.d _) .nil))
 ·have e1:pD L=zV:=by unfold pD;rw[aT7 (by simp_all)]
  have e2:U5 L=4:=by unfold U5;rw[aUF (by simp_all),aT7 (by simp_all)]
  rw[e1,e2];exact .eL (cs:=[.agg zV,ci 4]) (.cons (.agg (wJ.data _ zV)) (.cons (.d _) .nil))
 ·have hm:(V.mk 3 0 ByteArray.empty L 0).may=true:=aM;refine fT (cs:=(V.mk 3 0 ByteArray.empty L 0).aT1) (RB (V.mk 3 0 ByteArray.empty L 0) (by simp only[V.cR];omega)) ?_;conv=>whnf
  refine bl ?_;have e1:pD L=(V.mk 3 0 ByteArray.empty L 0).aT1:=by unfold pD;rw[aUF (by simp_all)]
  have e2:U5 L=0:=by unfold U5;rw[aUF (by simp_all),aUF (by simp_all)]
  rw[e1,e2];exact .eL (cs:=[.agg (V.mk 3 0 ByteArray.empty L 0).aT1,ci 0]) (.cons (.agg (wJ.data _ (V.mk 3 0 ByteArray.empty L 0).aT1)) (.cons (.d _) .nil))
mutual
def E4.lit:E4->Int->Int->Bool×Int
 |.mk k _ _ l,n,d=>if 512<n+1 then(false,n+1)else if k≠3/\l.length=0 then(true,n+1)else if d=0 then(false,n+1)else E4.oC l (n+1) (d -1)
def E4.oC:List E4->Int->Int->Bool×Int
 |[],n,_=>(true,n)
 |v::r,n,d=>match E4.lit v n d with
  |(false,n')=>(false,n')
  |(true,n')=>E4.oC r n' d
end
def E4.QE(v:E4)(n d:Int):v.lit n d=if 512<n+1 then(false,n+1)else if v.kind≠3/\v.l.length=0 then(true,n+1)else if d=0 then(false,n+1)else E4.oC v.l (n+1) (d -1):=by cases v;rw[E4.lit];rfl
mutual
def E4.aKA:∀(v:E4)(n d:Int),0<=n->n<=512->0<=(v.lit n d).2/\(v.lit n d).2<=513/\((v.lit n d).1=true->(v.lit n d).2<=512)
 |.mk k m s l,n,d,h0,h1=>by
  rw[E4.lit];by_cases h2:512<n+1
  ·simp[h2];omega
  ·have ih:=E4.QD l (n+1) (d -1) oM oM;simp only[h2,if_false]
   repeat' split
   all_goals first|exact ih|(simp;omega)
def E4.QD:∀(l:List E4)(n d:Int),0<=n->n<=512->0<=(E4.oC l n d).2/\(E4.oC l n d).2<=513/\((E4.oC l n d).1=true->(E4.oC l n d).2<=512)
 |[],n,d,h0,h1=>by rw[E4.oC];simp;omega
 |v::r,n,d,h0,h1=>by
  rw[E4.oC];have h2:=E4.aKA v n d h0 h1;generalize E4.lit v n d=q at h2⊢;obtain⟨b,m⟩:=q;cases b with
  |false=>simpa using⟨h2.1,h2.2.1⟩
  |true=>exact E4.QD r m d h2.1 (h2.2.2 rfl)
end
def E4.AN:List E4->Int->Int->Int->Int
 |[],_,_,_=>-1
 |v::r,n,d,i=>match E4.lit v n d with
  |(false,_)=>i
  |(true,n')=>E4.AN r n' d (i+1)
def E4.N8:∀(l:List E4)(i:Nat)(h:i<l.length)(n d n':Int),E4.oC (l.take i) n d=(true,n')->E4.oC (l.take (i+1)) n d=E4.lit l[i] n' d
 |v::r,0,h,n,d,n',e=>by
  simp only[fD,E4.oC,aD,true_and]at e;subst e;simp only[cC,fD,E4.oC,eK];generalize E4.lit v n d=q;obtain⟨b,x⟩:=q;cases b<;>rfl
 |v::r,i+1,h,n,d,n',e=>by
  simp only[cC,E4.oC,cJ]at e⊢;generalize E4.lit v n d=q at e⊢;obtain⟨b,x⟩:=q;cases b with
  |false=>simp at e
  |true=>exact E4.N8 r i (by simpa using h) x d n' e
def E4.KE:∀(l:List E4)(i:Nat)(n d n':Int),E4.oC (l.take i) n d=(false,n')->E4.oC l n d=(false,n')
 |[],i,n,d,n',e=>by simpa using e
 |v::r,0,n,d,n',e=>by simp[E4.oC]at e
 |v::r,i+1,n,d,n',e=>by
  simp only[cC,E4.oC]at e⊢;generalize E4.lit v n d=q at e⊢;obtain⟨b,x⟩:=q;cases b with
  |false=>exact e
  |true=>exact E4.KE r i x d n' e
def E4.TH:∀(l:List E4)(i:Nat)(h:i<l.length)(n d n' m k:Int),E4.oC (l.take i) n d=(true,n')->E4.lit l[i] n' d=(false,m)->E4.AN l n d k=k+i
 |v::r,0,h,n,d,n',m,k,e,e2=>by
  simp only[fD,E4.oC,aD,true_and]at e;subst e;simp only[eK]at e2;rw[E4.AN,e2];simp
 |v::r,i+1,h,n,d,n',m,k,e,e2=>by
  simp only[cC,E4.oC,cJ]at e e2;rw[E4.AN];generalize E4.lit v n d=q at e⊢;obtain⟨b,x⟩:=q;cases b with
  |false=>simp at e
  |true=>
   have:=E4.TH r i (by simpa using h) x d n' m (k+1) e e2;simp only[this];omega
def E4.TI:∀(l:List E4)(n d n' k:Int),E4.oC l n d=(true,n')->E4.AN l n d k=-1
 |[],n,d,n',k,e=>rfl
 |v::r,n,d,n',k,e=>by
  rw[E4.oC]at e;rw[E4.AN];generalize E4.lit v n d=q at e⊢;obtain⟨b,x⟩:=q;cases b with
  |false=>simp at e
  |true=>exact E4.TI r x d n' (k+1) e
def E4.KD:∀(l:List E4)(n d k:Int),0<=k->decide (0<=E4.AN l n d k)=!(E4.oC l n d).1
 |[],n,d,k,hk=>by simp[E4.AN,E4.oC]
 |v::r,n,d,k,hk=>by
  rw[E4.AN,E4.oC];generalize E4.lit v n d=q;obtain⟨b,x⟩:=q;cases b with
  |false=>simpa using hk
  |true=>exact E4.KD r x d (k+1) oM
abbrev fV(n:Int):R:=.cells false [.d (ci n)]
def KJ(n d:Int):List (Nat×R):=[(0,fV n),(108,.cells false [.lp 0 0]),(116,fV d)]
def P7(k:FuncId)(L:List E4)(n d:Int)(h0:0<=n)(h1:n<=512)(hf:∀i(h:i<L.length),∀n,0<=n->n<=512->aJ Tryz.prog k [.d (.agg L[i].aT1),.lp 108 0,.lp 116 0] (aK (KJ n d)) (.ok (.d (cb (!(L[i].lit n (d -1)).1)))) (aH (aK (KJ n d)) [(0,fV (L[i].lit n (d -1)).2)]))(hL:L.length<=2^40):
 aJ Tryz.prog 227 [.d (.sl 4 (L.map E4.row)),.fn (.func k) [] [.lp 108 0,.lp 116 0]] (aK (KJ n d)) (.ok (.d (ci (E4.AN L n (d -1) 0)))) (aH (aK (KJ n d)) [(0,fV (E4.oC L n (d -1)).2)]):=by
 refine wE mix 200 Tryz.func227 tV ⟨tV,tV⟩ ?_;refine bl ?_;refine bV mix (λa:Nat×Int=>a.1<=L.length/\E4.oC (L.take a.1) n (d -1)=(true,a.2)) (I:=λa=>[(0,.d (.sl 4 (L.map E4.row))),(1,.fn (.func k) [] [.lp 108 0,.lp 116 0]),(7,.d (ci L.length)),(8,.d (ci a.1))])
  (J:=λa=>KJ a.2 d) (μ:=λa=>L.length -a.1) 100 (0,n) ⟨dM,rfl⟩ mZ ?_
 rintro⟨i,q⟩ ⟨hi,hq⟩;have hb:=E4.QD (L.take i) n (d -1) h0 h1;rw[hq]at hb;dsimp only at hi hq hb⊢;have a1Q:=hb.2.2 rfl
 repeat'(first|refine bl ?_|refine bS (λh=>?_) (λh=>?_))
 ·refine eE E4.cP rfl eD aM ?_;conv=>whnf
  skip
  have hc:=hf i aM q hb.1 a1Q;have HG:=E4.N8 L i aM n (d -1) q hq;generalize hz:E4.lit L[i] q (d -1)=z at hc HG;obtain⟨b,m⟩:=z;refine dZ.mk (.d (cb (!b))) [(0,fV m)] (aJ.l8 hc ⟨sn,sn,tV⟩ ⟨rfl,rfl,rfl,tV⟩ ⟨tV,⟨sn,tV⟩,tV,tV⟩ ⟨.inl sn,tV⟩) ?_;conv=>whnf
  cases b with
  |false=>
   refine bl ?_;refine dA ?_ ⟨.inr ?_,.inl rfl,.inr rfl,.inr rfl,tV⟩
   ·rw[E4.TH L i aM n (d -1) q m 0 hq hz];simp
   ·rw[E4.KE L (i+1) n (d -1) m HG];rfl
  |true=>
   refine bl ?_;refine⟨(i+1,m),dM,⟨dM,HG⟩,?_⟩;exact mZ
 ·rw[aI oM]at hq;refine dA ?_ ⟨.inr ?_,.inl rfl,.inr rfl,.inr rfl,tV⟩
  ·rw[E4.TI L n (d -1) q 0 hq]
  ·rw[hq];rfl
def HZ(k:FuncId)(L:List E4)(n d:Int)(h0:0<=n)(h1:n<=512)(hf:∀i(h:i<L.length),∀n,0<=n->n<=512->aJ Tryz.prog k [.d (.agg L[i].aT1),.lp 108 0,.lp 116 0] (aK (KJ n d)) (.ok (.d (cb (!(L[i].lit n (d -1)).1)))) (aH (aK (KJ n d)) [(0,fV (L[i].lit n (d -1)).2)]))(hL:L.length<=2^40):
 aJ Tryz.prog 205 [.d (.sl 4 (L.map E4.row)),.fn (.func k) [] [.lp 108 0,.lp 116 0]] (aK (KJ n d)) (.ok (.d (cb (!(E4.oC L n (d -1)).1)))) (aH (aK (KJ n d)) [(0,fV (E4.oC L n (d -1)).2)]):=by
 refine wE mix 200 Tryz.func205 tV ⟨tV,tV⟩ ?_;refine bl ?_;refine dZ.mk (.d (ci (E4.AN L n (d -1) 0))) [(0,fV (E4.oC L n (d -1)).2)] (aJ.l8 (P7 k L n d h0 h1 hf hL) ⟨sn,sn,tV⟩ ⟨rfl,rfl,rfl,tV⟩ ⟨tV,⟨sn,tV⟩,tV,tV⟩ ⟨.inl sn,tV⟩) ?_;conv=>whnf
 refine bl ?_;refine dA ?_ ⟨.inr rfl,.inl rfl,.inr rfl,.inr rfl,tV⟩;rw[<-E4.KD L n (d -1) 0 oM]
def V2(v:E4)(n d:Int)(h0:0<=n)(h1:n<=512)(hd:1<=d)(hd2:d<=100)(hf:aJ Tryz.prog 168 [.d (.agg v.aT1),.lp 0 0,.d (ci (d -1))] (aK [(0,fV n)]) (.ok (.d (cb (v.lit n (d -1)).1))) (aH (aK [(0,fV n)]) [(0,fV (v.lit n (d -1)).2)])):
 aJ Tryz.prog 206 [.d (.agg v.aT1),.lp 108 0,.lp 116 0] (aK (KJ n d)) (.ok (.d (cb (!(v.lit n (d -1)).1)))) (aH (aK (KJ n d)) [(0,fV (v.lit n (d -1)).2)]):=by
 refine wE mix 200 Tryz.func206 tV ⟨tV,tV⟩ ?_;refine bl ?_;refine dZ.mk (.d (cb (v.lit n (d -1)).1)) [(0,fV (v.lit n (d -1)).2)] ((aJ.l8 hf ⟨sn,tV⟩ ⟨rfl,tV⟩ ⟨tV,tV⟩ ⟨.inl sn,tV⟩).mR (.cons (.agg v.aT1) (.cons (.same _) (.cons (.same _) .nil)))) ?_;conv=>whnf
 refine bl ?_;exact dA rfl ⟨.inr rfl,.inl rfl,.inr rfl,.inr rfl,tV⟩
def F9(v:E4)(hv:v.cR<=2^40)(n d:Int)(h0:0<=n)(h1:n<=512)(hd:0<=d)(hd2:d<=100):
 aJ Tryz.prog 168 [.d (.agg v.aT1),.lp 0 0,.d (ci d)] (aK [(0,fV n)]) (.ok (.d (cb (v.lit n d).1))) (aH (aK [(0,fV n)]) [(0,fV (v.lit n d).2)]):=by
 refine wE mix 100 Tryz.func168 tV ⟨tV,tV⟩ ?_
 repeat'(first|refine bl ?_|refine bS (λh=>?_) (λh=>?_))
 any_goals(first
  |(have e:v.lit n d=(false,n+1):=by rw[E4.QE];simp_all;done
    refine dA ?_ ⟨.inr ?_,.inl rfl,tV⟩<;>rw[e]<;>rfl)
  |(have e:v.lit n d=(true,n+1):=by rw[E4.QE];simp_all;done
    refine dA ?_ ⟨.inr ?_,.inl rfl,tV⟩<;>rw[e]<;>rfl))
 all_goals
  have e:v.lit n d=E4.oC v.l (n+1) (d -1):=by
   rw[E4.QE,aT7 oM,aT7 (by simp_all),aT7 aM]
  have AZ:=v.fA;have hln:=E4.eW v.l;refine dZ.mk (.d (cb (!(E4.oC v.l (n+1) (d -1)).1))) [(0,fV (E4.oC v.l (n+1) (d -1)).2)] (aJ.l8 (HZ 206 v.l (n+1) d oM oM (λi h m hm0 hm1=>have vZ:=v.gM i h;have hcg:=E4.dG v.l i h;V2 v.l[i] m d hm0 hm1 oM hd2 (F9 v.l[i] oM m (d -1) hm0 hm1 oM oM)) oM) ⟨sn,sn,tV⟩ ⟨rfl,rfl,rfl,tV⟩ ⟨tV,⟨sn,tV⟩,tV,tV⟩ ⟨.inl sn,tV⟩) ?_;conv=>whnf
  refine bl ?_;refine dA ?_ ⟨.inr ?_,.inl rfl,tV⟩
  ·rw[e];simp;try rfl
  ·rw[e];rfl
 termination_by SizeOf.sizeOf v
mutual
def S4.sm:S4->Int->Bool×Int
 |.mk _ _ _ _ _ a b t e c w,n=>if 512<n+1\/64<(w.length:Int)\/(a.lit 0 16).1=false\/(b.lit 0 16).1=false then(false,n+1)else
  match S4.C4 t (n+1)with
  |(false,m)=>(false,m)
  |(true,m)=>match S4.C4 e m with
   |(false,k)=>(false,k)
   |(true,k)=>S4.C4 c k
def S4.C4:List S4->Int->Bool×Int
 |[],n=>(true,n)
 |v::r,n=>match S4.sm v n with
  |(false,m)=>(false,m)
  |(true,m)=>S4.C4 r m
end
def S4.Q3(v:S4)(n:Int):v.sm n=if 512<n+1\/64<(v.w.length:Int)\/(v.a.lit 0 16).1=false\/(v.b.lit 0 16).1=false then(false,n+1)else
 match S4.C4 v.t (n+1)with
 |(false,m)=>(false,m)
 |(true,m)=>match S4.C4 v.e m with
  |(false,k)=>(false,k)
  |(true,k)=>S4.C4 v.c k:=by cases v;rw[S4.sm];rfl
abbrev VX(q:Bool×Int):Prop:=0<=q.2/\q.2<=513/\(q.1=true->q.2<=512)
mutual
def S4.aMH:∀(v:S4)(n:Int),0<=n->n<=512->VX (v.sm n)
 |.mk _ _ _ _ _ a b t e c w,n,h0,h1=>by
  rw[S4.sm];by_cases hc:512<n+1\/64<(w.length:Int)\/(a.lit 0 16).1=false\/(b.lit 0 16).1=false
  ·rw[aUF hc];simp[VX];omega
  ·rw[aT7 hc];have i1:=S4.C1 t (n+1) oM oM;generalize S4.C4 t (n+1)=q at i1⊢;obtain⟨x,m⟩:=q;cases x with
   |false=>exact i1
   |true=>
    have i2:=S4.C1 e m i1.1 (i1.2.2 rfl);dsimp only;generalize S4.C4 e m=q2 at i2⊢;obtain⟨y,k⟩:=q2;cases y with
    |false=>exact i2
    |true=>exact S4.C1 c k i2.1 (i2.2.2 rfl)
def S4.C1:∀(l:List S4)(n:Int),0<=n->n<=512->VX (S4.C4 l n)
 |[],n,h0,h1=>by rw[S4.C4];simp[VX];omega
 |v::r,n,h0,h1=>by
  rw[S4.C4];have i1:=S4.aMH v n h0 h1;generalize S4.sm v n=q at i1⊢;obtain⟨x,m⟩:=q;cases x with
  |false=>exact i1
  |true=>exact S4.C1 r m i1.1 (i1.2.2 rfl)
end
def S4.aFI(l:List S4)(i:Nat)(h:i<l.length)(n:Int):S4.C4 (l.drop i) n=match S4.sm l[i] n with
 |(false,m)=>(false,m)
 |(true,m)=>S4.C4 (l.drop (i+1)) m:=by
 rw[dE h,S4.C4]
def EX(l:List S4)(hv:S4.dB l<=2^38)(n:Int)(h0:0<=n)(h1:n<=512):aJ Tryz.prog 122 [.d (jX l),.lp 0 0] (aK [(0,fV n)]) (.ok (.d (cb (S4.C4 l n).1))) (aH (aK [(0,fV n)]) [(0,fV (S4.C4 l n).2)]):=by
 have hl:=S4.eW l;refine wE mix 100 Tryz.func122 tV ⟨tV,tV⟩ ?_;refine bl ?_;refine bV mix (λa:Nat×Int=>a.1<=l.length/\(0<=a.2/\a.2<=512)/\S4.C4 (l.drop a.1) a.2=S4.C4 l n) (I:=λa=>[(1,.lp 0 0),(9,.d (jX l)),(10,.d (ci l.length)),(11,.d (ci a.1))])
  (J:=λa=>[(0,fV a.2)]) (μ:=λa=>l.length -a.1) 100 (0,n) ⟨dM,⟨h0,h1⟩,rfl⟩ mZ ?_
 rintro⟨i,q⟩ ⟨hi,hqb,hq⟩;dsimp only at hi hq hqb⊢
 repeat'(first|refine bl ?_|refine bS (λh=>?_) (λh=>?_))
 ·refine eE S4.cP rfl eD aM ?_;have hdr:=S4.aFI l i aM q;conv=>whnf
  repeat'(first|refine bl ?_|refine bS (λh=>?_) (λh=>?_))
  any_goals
   have e:S4.C4 l n=(false,q+1):=by rw[<-hq,hdr,S4.Q3,aUF oM]
   refine dA ?_ ⟨.inr ?_,.inl rfl,tV⟩<;>rw[e]<;>rfl
  have hcg:=S4.dG l i aM;have AZ:=l[i].fA;have hq1:q+1<=512:=aM;have hc1:=F9 l[i].a oM 0 16 oM oM oM oM;generalize XN:E4.lit l[i].a 0 16=z1 at hc1;obtain⟨b1,m1⟩:=z1;refine lN 188 (fV m1) ((hc1.AK rfl (λg=>rfl) (λg=>rfl) rfl (by simp[A.lQ,A.hs]) (aK _) 188 rfl).mR (.cons (.agg l[i].a.aT1) (.cons (.same _) (.cons (.same _) .nil)))) ?_;conv=>whnf
  cases b1 with
  |false=>
   refine bl ?_;have e:S4.C4 l n=(false,q+1):=by rw[<-hq,hdr,S4.Q3,aUF (by rw[XN];simp)]
   refine dA ?_ ⟨.inr ?_,.inl rfl,tV⟩<;>rw[e]<;>rfl
  |true=>
   refine bl ?_;have wF:=F9 l[i].b oM 0 16 oM oM oM oM;generalize XO:E4.lit l[i].b 0 16=z2 at wF;obtain⟨b2,m2⟩:=z2;refine lN 196 (fV m2) ((wF.AK rfl (λg=>rfl) (λg=>rfl) rfl (by simp[A.lQ,A.hs]) (aK _) 196 rfl).mR (.cons (.agg l[i].b.aT1) (.cons (.same _) (.cons (.same _) .nil)))) ?_;conv=>whnf
   cases b2 with
   |false=>
    refine bl ?_;have e:S4.C4 l n=(false,q+1):=by rw[<-hq,hdr,S4.Q3,aUF (by rw[XO];simp)]
    refine dA ?_ ⟨.inr ?_,.inl rfl,tV⟩<;>rw[e]<;>rfl
   |true=>
    refine bl ?_;have hng:¬(512<q+1\/64<(l[i].w.length:Int)\/(l[i].a.lit 0 16).1=false\/(l[i].b.lit 0 16).1=false):=by
     rw[XN,XO];simp;omega
    rw[S4.Q3,aT7 hng]at hdr;have ht:=EX l[i].t oM (q+1) oM oM;have hbt:=S4.C1 l[i].t (q+1) oM oM;generalize S4.C4 l[i].t (q+1)=zt at ht hbt hdr;obtain⟨bt,mt⟩:=zt;refine dZ.mk (.d (cb bt)) [(0,fV mt)] (aJ.l8 ht ⟨sn,tV⟩ ⟨rfl,tV⟩ ⟨tV,tV⟩ ⟨.inl sn,tV⟩) ?_;conv=>whnf
    cases bt with
    |false=>
     refine bl ?_;have e:S4.C4 l n=(false,mt):=by rw[<-hq,hdr]
     refine dA ?_ ⟨.inr ?_,.inl rfl,tV⟩<;>rw[e]<;>rfl
    |true=>
     refine bl ?_;dsimp only at hdr hbt;have he:=EX l[i].e oM mt hbt.1 (hbt.2.2 rfl);have hbe:=S4.C1 l[i].e mt hbt.1 (hbt.2.2 rfl);generalize S4.C4 l[i].e mt=ze at he hbe hdr;obtain⟨be,me⟩:=ze;refine dZ.mk (.d (cb be)) [(0,fV me)] (aJ.l8 he ⟨sn,tV⟩ ⟨rfl,tV⟩ ⟨tV,tV⟩ ⟨.inl sn,tV⟩) ?_;conv=>whnf
     cases be with
     |false=>
      refine bl ?_;have e:S4.C4 l n=(false,me):=by rw[<-hq,hdr]
      refine dA ?_ ⟨.inr ?_,.inl rfl,tV⟩<;>rw[e]<;>rfl
     |true=>
      refine bl ?_;dsimp only at hdr hbe;have hc:=EX l[i].c oM me hbe.1 (hbe.2.2 rfl);have hbc:=S4.C1 l[i].c me hbe.1 (hbe.2.2 rfl);generalize S4.C4 l[i].c me=zc at hc hbc hdr;obtain⟨bc,mc⟩:=zc;refine dZ.mk (.d (cb bc)) [(0,fV mc)] (aJ.l8 hc ⟨sn,tV⟩ ⟨rfl,tV⟩ ⟨tV,tV⟩ ⟨.inl sn,tV⟩) ?_;conv=>whnf
      cases bc with
      |false=>
       refine bl ?_;have e:S4.C4 l n=(false,mc):=by rw[<-hq,hdr]
       refine dA ?_ ⟨.inr ?_,.inl rfl,tV⟩<;>rw[e]<;>rfl
      |true=>
       refine bl ?_;dsimp only at hdr hbc;refine⟨(i+1,mc),dM,⟨dM,⟨hbc.1,hbc.2.2 rfl⟩,by dsimp only;rw[<-hq,hdr]⟩,?_⟩;exact mZ
 ·rw[dT oM]at hq;refine dA ?_ ⟨.inr ?_,.inl rfl,tV⟩
  ·rw[<-hq];rfl
  ·rw[<-hq];rfl
 termination_by S4.dB l
abbrev V.zero:V:=.mk 0 0 ByteArray.empty [] 0
abbrev W4.base(x:W4):W4:=⟨x.kind,x.home,V.zero,[],0,0,0,0,0,false,[],[]⟩
def W4.bare(x:W4):W4:=
 if x.kind=1 then{x.base with value:=x.value}
 else if x.kind=2\/x.kind=4 then{x.base with values:=x.values}
 else if x.kind=3 then{x.base with n:=x.n}
 else if x.kind=6\/x.kind=11 then{x.base with of:=x.of}
 else if x.kind=7 then{x.base with of:=x.of,value:=x.value}
 else if x.kind=8 then{x.base with n:=x.n,lost:=x.lost}
 else if x.kind=9 then{x.base with of:=x.of,n:=x.n}
 else if x.kind=10 then{x.base with full:=x.full,value:=x.value}
 else if x.kind=12 then{x.base with code:=x.code,names:=x.names}
 else if x.kind=13 then{x.base with full:=x.full,of:=x.of}
 else if x.kind=15\/x.kind=16 then{x.base with of:=x.of,by_:=x.by_}
 else if x.kind=14 then{x.base with home:=0,of:=x.of,set:=x.set}
 else x.base
def aGP(x:W4):Pu 117 [.d (.agg x.aT1)] (.d (.agg x.bare.aT1)):=by
 refine iC mix Tryz.func117 ?_
 repeat'(first|refine bl ?_|refine bS (λh=>?_) (λh=>?_))
 all_goals
  unfold W4.bare
  repeat(first|rw[aT7 oM]|rw[aUF oM])
  exact .one (.agg (by repeat'(first|exact wJ.nil|refine wJ.cons (Rd.d _) ?_|refine wJ.cons (Rd.nz _ _) ?_)))
def aKJ(L:List V)(hL:V.dB L<=2^37)(h:U5 L=0):Pu 121 [.d (.sl 5 (L.map V.row))] (.eL [.d (.agg [.v (.int .u8 3),ci 0,.v (.string ByteArray.empty),.sl 5 (L.map V.row),ci 0]),.d (ci (U5 L))]):=by
 have e:pD L=[.v (.int .u8 3),ci 0,.v (.string ByteArray.empty),.sl 5 (L.map V.row),ci 0]:=by
  unfold pD;unfold U5 at h;rw[aUF];·rfl
  repeat' split at h
  ·exact⟨aM,aM⟩
  ·cases h
  ·cases h
 rw[<-e];exact aJA L hL
def aKK(L:List V)(hL:V.dB L<=2^37)(h:¬U5 L=0):Pu 121 [.d (.sl 5 (L.map V.row))] (.eL [.d (.agg [.v (.int .u8 0),ci 0,.v (.string ByteArray.empty),.nl 5,ci 0]),.d (ci (U5 L))]):=by
 have e:pD L=zV:=by
  unfold pD;unfold U5 at h;rw[aT7];rintro⟨h1,h2⟩;rw[aUF h1,aUF h2]at h;exact h rfl
 have h2:=aJA L hL;rw[e]at h2;exact h2
def ZO{α:Type}(p:α->Bool)(L:List α)(i:Nat)(h:i<L.length)(h0:(L.take i).all p=true)(hp:p L[i]=true):(L.take (i+1)).all p=true:=by
 rw[iT,gQ,h0];simp[aC h,hp]
def W4.HE(x b:W4):Bool:=decide (x.kind≠0)&&(decide (x.kind<=16)&&(decide (x.n=b.n)&&(decide (x.lost=b.lost)&&(decide (x.of=b.of)&&(decide (x.by_=b.by_)&&(decide (x.set=b.set)&&(decide (x.full=b.full)&&decide (x.home=b.home))))))))
def W4.BZ(x b:W4):Bool:=decide (x.values.length=b.values.length)&&(decide (x.code.length=b.code.length)&&(decide (x.names.length=b.names.length)&&(!b.value.blank||x.value.blank)))
def W4.JZ(x:W4)(w:D4):Bool:=(decide (x.kind=14)||w.HU x.home)&&x.value.may
def W4.DT(x:W4):Bool:=decide (U5 x.values=0)&&decide (x.names.length<=64)
def W4.NQ(x:W4):Bool:=x.names.all λn=>n.value.may
def W4.YA(x:W4):Bool:=
 if x.kind=3\/x.kind=8\/x.kind=9 then decide (0<=x.n)&&(decide (x.n<=9007199254740992)&&(decide (0<=x.lost)&&decide (x.lost<=x.n)))
 else if x.kind=10 then x.full||x.value.blank
 else if x.kind=12 then(S4.C4 x.code 0).1
 else if x.kind=14 then TK x.set
 else true
def D4.AA(w:D4)(x:W4):Bool:=x.HE x.bare&&(x.BZ x.bare&&(x.JZ w&&(x.DT&&(x.NQ&&x.YA))))
def aG9(w:D4)(x:W4)(hx:x.cR<=2^35)(hh:-9223372036854775808<=x.home/\x.home<=9223372036854775807):Pu 65 [.d (.ip w.aT1),.d (.agg x.aT1)] (.d (cb (w.AA x))):=by
 have hcc:x.cR=x.value.cR+V.dB x.values+S4.dB x.code+x.names.length+V.dB (x.names.map (·.value)):=rfl;have hnb:∀i(h:i<x.names.length),x.names[i].value.cR<=2^40:=λi h=>by
  have:=V.dG (x.names.map (·.value)) i (by simpa using h);rw[fO]at this;omega
 refine iC mix Tryz.func65 ?_;obtain⟨b,hb⟩:∃b,b=x.bare:=⟨_,rfl⟩;have hbo:=aGP x;rw[<-hb]at hbo;have hF:w.AA x=(x.HE b&&(x.BZ b&&(x.JZ w&&(x.DT&&(x.NQ&&x.YA))))):=by rw[hb];rfl
 rw[hF];clear hF hb
 repeat'(first|refine bl ?_|refine bS (λh=>?_) (λh=>?_)|refine fT (cs:=x.aT1) hbo (bw ?_))
 any_goals(first
  |(have e:x.HE b=false:=by(unfold W4.HE;simp_all;done)
    refine dP ?_;rw[e];rfl)
  |(have e:x.HE b=false:=by(unfold W4.HE;simp_all;omega)
    refine dP ?_;rw[e];rfl)
  |(have e:x.BZ b=false:=by(unfold W4.BZ;simp_all;done)
    refine dP ?_;rw[e,c0,kL])
  |(have e:x.BZ b=false:=by(unfold W4.BZ;simp_all;omega)
    refine dP ?_;rw[e,c0,kL]))
 have e1:x.HE b=true:=by unfold W4.HE;simp_all
 repeat'(first|refine bl ?_|refine bS (λh=>?_) (λh=>?_)|refine fT (cs:=b.value.aT1) (I6 b.value) (bw ?_)|refine fT (cs:=x.value.aT1) (I6 x.value) (bw ?_))
 any_goals(have e:x.BZ b=false:=by(unfold W4.BZ;simp_all;done)
           refine dP ?_;rw[e,c0,kL])
 all_goals
  have e2:x.BZ b=true:=by(unfold W4.BZ;simp_all;omega)
  rw[e1,e2,cA,cA];clear e1 e2
 repeat'(first|refine bl ?_|refine bS (λh=>?_) (λh=>?_)|refine aF (aIL w x.home hh.1 hh.2) (bw ?_)|refine fT (cs:=x.value.aT1) (AL x.value oM) (bw ?_))
 any_goals(have e:x.JZ w=false:=by(unfold W4.JZ;simp_all;done)
           refine dP ?_;rw[e,c0])
 all_goals
  have e3:x.JZ w=true:=by(unfold W4.JZ;simp_all;done)
  rw[e3,cA];clear e3
 all_goals by_cases hof:U5 x.values=0
 repeat'(first|refine bl ?_|refine bS (λh=>?_) (λh=>?_)|refine aF (aKJ x.values oM hof) (bw ?_)|refine aF (aKK x.values oM hof) (bw ?_))
 any_goals(first
  |(have e:x.DT=false:=by(unfold W4.DT;simp_all;done)
    refine dP ?_;rw[e,c0])
  |(have e:x.DT=false:=by(unfold W4.DT;simp_all;omega)
    refine dP ?_;rw[e,c0]))
 any_goals(exfalso;omega)
 all_goals
  have e4:x.DT=true:=by(unfold W4.DT;simp_all;omega)
  rw[e4,cA];clear e4;have E0:x.names.length<=64:=oM;refine bV mix (λi:Nat=>i<=x.names.length/\(x.names.take i).all (λn=>n.value.may)=true) (I:=λi=>[(3,.lp 1 0),(137,.d (.sl 6 (x.names.map N4.aT1))),(138,.d (ci x.names.length)),(139,.d (ci i))])
   (J:=λi=>[(1,.cells false (x.aT1.map A.d))]) (μ:=λi=>x.names.length -i) 1000 0 ⟨oM,rfl⟩ mZ ?_
  rintro i ⟨hi,h0⟩
 repeat'(first|refine bl ?_|refine bS (λh=>?_) (λh=>?_)|refine cD rfl eD aM (bw ?_)|refine fT (cs:=(x.names[i]' aM).value.aT1) (AL (x.names[i]' aM).value (hnb i aM)) (bw ?_)|refine fT (cs:=x.value.aT1) (I6 x.value) (bw ?_)|refine aF (IB x.set) (bw ?_))
 any_goals refine lN 1104 (fV (S4.C4 x.code 0).2) ((EX x.code oM 0 oM oM).AK rfl (λg=>rfl) (λg=>rfl) rfl (by simp[A.lQ,A.hs]) (aK _) 1104 rfl) (bw ?_)
 repeat'(first|refine bl ?_|fail)
 all_goals first
  |(refine vT (i+1) ⟨oM,⟨oM,ZO (λn=>n.value.may) x.names i aM h0 aM⟩,mZ⟩;done)
  |(have e5:x.NQ=true:=by(have q:=h0;rw[aI oM]at q;exact q)
    refine dP ?_;rw[e5,cA];unfold W4.YA;simp_all;done)
  |(have e5:x.NQ=true:=by(have q:=h0;rw[aI oM]at q;exact q)
    refine dP ?_;rw[e5,cA];unfold W4.YA;simp_all;omega)
  |(have e5:x.NQ=false:=by(unfold W4.NQ;rw[iA];exact⟨x.names[i]' aM,aY _,by simp_all⟩)
    refine dP ?_;rw[e5,c0];done)
end Go.Pv
