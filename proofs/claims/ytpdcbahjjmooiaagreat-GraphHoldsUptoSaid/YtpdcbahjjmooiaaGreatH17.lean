import Derived.Test.YtpdcbahjjmooiaaGreatH16
import Derived.Sort.AssemblyPlain
import Derived.Shelf.SlicesE.Compact
/- A program logic over the model, contracts of the functions that the law reaches: part 17. (Names and blanks were shortened by program.) -/
set_option linter.unusedVariables false
set_option linter.unusedSimpArgs false
set_option linter.constructorNameAsVariable false
set_option linter.unusedSectionVars false
set_option linter.deprecated false
set_option maxRecDepth 100000
set_option maxHeartbeats 8000000
open Go Go.Proofs
namespace Go.Pv
open Go.RowKit
variable{m:Mem}
theorem S7(k:FuncId)(caps:List C)(p:V->Bool)(L:List V)(hf:∀i(h:i<L.length),∀m,aJ Tryz.prog k ([.d (.agg (V.aT1 L[i]))]++caps.map A.d) m (.ok (.d (cb (p L[i])))) m)(hL:L.length<=2^40):Pu 226 [.d (.sl 5 (L.map V.row)),.d (.fn (.func k) [] caps)] (.d (ci (idxOf p L))):=by
 refine iC mix Tryz.func226 ?_;refine bl ?_;refine bV mix (λi:Nat=>i<=L.length/\(L.take i).any p=false) (I:=λi=>[(0,.d (.sl 5 (L.map V.row))),(1,.d (.fn (.func k) [] caps)),(7,.d (ci L.length)),(8,.d (ci i))])
  (J:=λi=>[]) (μ:=λi=>L.length -i) 100 0 ⟨oM,rfl⟩ mZ ?_
 rintro i ⟨hi,h0⟩
 repeat'(first|refine bl ?_|refine bS (λh=>?_) (λh=>?_))
 ·refine eE V.cP rfl eD h ?_;conv=>whnf
  skip
  refine aF (hf i h) ?_;conv=>whnf
  repeat'(first|refine bl ?_|refine bS (λh=>?_) (λh=>?_))
  ·exact oF (CN p L i aM h0 aM).symm
  ·refine⟨i+1,oM,⟨oM,A2 p L i aM h0 aM⟩,?_⟩;exact mZ
 ·rw[aI oM]at h0;exact oF (CM p L h0).symm
theorem JE(k:FuncId)(caps:List C)(p:V->Bool)(L:List V)(hf:∀i(h:i<L.length),∀m,aJ Tryz.prog k ([.d (.agg (V.aT1 L[i]))]++caps.map A.d) m (.ok (.d (cb (p L[i])))) m)(hL:L.length<=2^40):Pu 203 [.d (.sl 5 (L.map V.row)),.d (.fn (.func k) [] caps)] (.d (cb (L.any p))):=by
 refine iC mix Tryz.func203 ?_;refine bl ?_;refine aF (S7 k caps p L hf hL) ?_;conv=>whnf
 refine bl ?_;exact dP (yH p L)
theorem aGJ(v:V)(hv:v.cR<=2^40):Pu 204 [.d (.agg v.aT1)] (.d (cb (!v.may))):=by
 refine iC mix Tryz.func204 ?_;refine bl ?_;refine fT (cs:=v.aT1) (AL v oM) ?_;conv=>whnf
 refine bl ?_;exact dP rfl
theorem aGK{α:Type}(p:α->Bool)(L:List α):(!L.any λv=> !p v)=L.all p:=by
 induction L with
 |nil=>rfl
 |cons a r ih=>simp only[List.any_cons,o9,<-ih];cases p a<;>simp
theorem aJN(L:List V)(hL:V.dB L<=2^40):Pu 166 [.d (.sl 5 (L.map V.row))] (.d (cb (L.all V.may))):=by
 have hl:=V.eW L;refine iC mix Tryz.func166 ?_;refine bl ?_;refine aF (JE 204 [] (λv=> !v.may) L (λi h=>aGJ L[i] (by have:=V.dG L i h;omega)) oM) ?_;conv=>whnf
 refine bl ?_;exact dP (aGK _ _)
def U5(L:List V):Int:=if L.all V.may=true then(if(V.mk 3 0 ByteArray.empty L 0).may=true then 0 else 4)else 2
def pD(L:List V):List C:=if L.all V.may=true/\(V.mk 3 0 ByteArray.empty L 0).may=true then(V.mk 3 0 ByteArray.empty L 0).aT1 else zV
theorem aJA(L:List V)(hL:V.dB L<=2^37):Pu 121 [.d (.sl 5 (L.map V.row))] (.eL [.d (.agg (pD L)),.d (ci (U5 L))]):=by
 refine iC mix Tryz.func121 ?_
 repeat'(first|refine bl ?_|refine bS (λh=>?_) (λh=>?_)|refine aF (aJN L oM) (bw ?_)|refine fT (cs:=(V.mk 3 0 ByteArray.empty L 0).aT1) (AL (V.mk 3 0 ByteArray.empty L 0) (by simp only[V.cR];omega)) (bw ?_))
 ·have hA:L.all V.may=false:=by rw[iA];simpa using‹∃x,x∈L/\x.may=false›
  have e1:pD L=zV:=by unfold pD;rw[aT7 (by rw[hA];simp)]
  have e2:U5 L=2:=by unfold U5;rw[aT7 (by rw[hA];simp)]
  rw[e1,e2];exact .eL (cs:=[.agg zV,ci 2]) (.cons (.agg (wJ.data _ zV)) (.cons (.d _) .nil))
 ·have e1:pD L=zV:=by unfold pD;rw[aT7 (by simp_all)]
  have e2:U5 L=4:=by unfold U5;rw[aUF (by simp_all),aT7 (by simp_all)]
  rw[e1,e2];exact .eL (cs:=[.agg zV,ci 4]) (.cons (.agg (wJ.data _ zV)) (.cons (.d _) .nil))
 ·have hm:(V.mk 3 0 ByteArray.empty L 0).may=true:=aM;refine fT (cs:=(V.mk 3 0 ByteArray.empty L 0).aT1) (RB (V.mk 3 0 ByteArray.empty L 0) (by simp only[V.cR];omega)) ?_;conv=>whnf
  refine bl ?_;have e1:pD L=(V.mk 3 0 ByteArray.empty L 0).aT1:=by unfold pD;rw[aUF (by simp_all)]
  have e2:U5 L=0:=by unfold U5;rw[aUF (by simp_all),aUF (by simp_all)]
  rw[e1,e2];exact .eL (cs:=[.agg (V.mk 3 0 ByteArray.empty L 0).aT1,ci 0]) (.cons (.agg (wJ.data _ (V.mk 3 0 ByteArray.empty L 0).aT1)) (.cons (.d _) .nil))
mutual
def E4.lit:E4->Int->Int->Bool×Int
 |.mk k _ _ l,n,d=>if 512<n+1 then(false,n+1)else if k≠3/\l.length=0 then(true,n+1)else if d=0 then(false,n+1)else E4.oC l (n+1) (d -1)
def E4.oC:List E4->Int->Int->Bool×Int
 |[],n,_=>(true,n)
 |v::r,n,d=>match E4.lit v n d with
  |(false,n')=>(false,n')
  |(true,n')=>E4.oC r n' d
end
theorem E4.QE(v:E4)(n d:Int):v.lit n d=if 512<n+1 then(false,n+1)else if v.kind≠3/\v.l.length=0 then(true,n+1)else if d=0 then(false,n+1)else E4.oC v.l (n+1) (d -1):=by cases v;rw[E4.lit];rfl
mutual
theorem E4.aKA:∀(v:E4)(n d:Int),0<=n->n<=512->0<=(v.lit n d).2/\(v.lit n d).2<=513/\((v.lit n d).1=true->(v.lit n d).2<=512)
 |.mk k m s l,n,d,h0,h1=>by
  rw[E4.lit];by_cases h2:512<n+1
  ·simp[h2];omega
  ·have ih:=E4.QD l (n+1) (d -1) oM oM;simp only[h2,if_false]
   repeat' split
   all_goals first|exact ih|(simp;omega)
theorem E4.QD:∀(l:List E4)(n d:Int),0<=n->n<=512->0<=(E4.oC l n d).2/\(E4.oC l n d).2<=513/\((E4.oC l n d).1=true->(E4.oC l n d).2<=512)
 |[],n,d,h0,h1=>by rw[E4.oC];simp;omega
 |v::r,n,d,h0,h1=>by
  rw[E4.oC];have h2:=E4.aKA v n d h0 h1;generalize E4.lit v n d=q at h2⊢;obtain⟨b,m⟩:=q;cases b with
  |false=>simpa using⟨h2.1,h2.2.1⟩
  |true=>exact E4.QD r m d h2.1 (h2.2.2 rfl)
end
def E4.AN:List E4->Int->Int->Int->Int
 |[],_,_,_=>-1
 |v::r,n,d,i=>match E4.lit v n d with
  |(false,_)=>i
  |(true,n')=>E4.AN r n' d (i+1)
theorem E4.N8:∀(l:List E4)(i:Nat)(h:i<l.length)(n d n':Int),E4.oC (l.take i) n d=(true,n')->E4.oC (l.take (i+1)) n d=E4.lit l[i] n' d
 |v::r,0,h,n,d,n',e=>by
  simp only[fD,E4.oC,aD,true_and]at e;subst e;simp only[cC,fD,E4.oC,eK];generalize E4.lit v n d=q;obtain⟨b,x⟩:=q;cases b<;>rfl
 |v::r,i+1,h,n,d,n',e=>by
  simp only[cC,E4.oC,cJ]at e⊢;generalize E4.lit v n d=q at e⊢;obtain⟨b,x⟩:=q;cases b with
  |false=>simp at e
  |true=>exact E4.N8 r i (by simpa using h) x d n' e
theorem E4.KE:∀(l:List E4)(i:Nat)(n d n':Int),E4.oC (l.take i) n d=(false,n')->E4.oC l n d=(false,n')
 |[],i,n,d,n',e=>by simpa using e
 |v::r,0,n,d,n',e=>by simp[E4.oC]at e
 |v::r,i+1,n,d,n',e=>by
  simp only[cC,E4.oC]at e⊢;generalize E4.lit v n d=q at e⊢;obtain⟨b,x⟩:=q;cases b with
  |false=>exact e
  |true=>exact E4.KE r i x d n' e
theorem E4.TH:∀(l:List E4)(i:Nat)(h:i<l.length)(n d n' m k:Int),E4.oC (l.take i) n d=(true,n')->E4.lit l[i] n' d=(false,m)->E4.AN l n d k=k+i
 |v::r,0,h,n,d,n',m,k,e,e2=>by
  simp only[fD,E4.oC,aD,true_and]at e;subst e;simp only[eK]at e2;rw[E4.AN,e2];simp
 |v::r,i+1,h,n,d,n',m,k,e,e2=>by
  simp only[cC,E4.oC,cJ]at e e2;rw[E4.AN];generalize E4.lit v n d=q at e⊢;obtain⟨b,x⟩:=q;cases b with
  |false=>simp at e
  |true=>
   have:=E4.TH r i (by simpa using h) x d n' m (k+1) e e2;simp only[this];omega
theorem E4.TI:∀(l:List E4)(n d n' k:Int),E4.oC l n d=(true,n')->E4.AN l n d k=-1
 |[],n,d,n',k,e=>rfl
 |v::r,n,d,n',k,e=>by
  rw[E4.oC]at e;rw[E4.AN];generalize E4.lit v n d=q at e⊢;obtain⟨b,x⟩:=q;cases b with
  |false=>simp at e
  |true=>exact E4.TI r x d n' (k+1) e
theorem E4.KD:∀(l:List E4)(n d k:Int),0<=k->decide (0<=E4.AN l n d k)=!(E4.oC l n d).1
 |[],n,d,k,hk=>by simp[E4.AN,E4.oC]
 |v::r,n,d,k,hk=>by
  rw[E4.AN,E4.oC];generalize E4.lit v n d=q;obtain⟨b,x⟩:=q;cases b with
  |false=>simpa using hk
  |true=>exact E4.KD r x d (k+1) oM
abbrev fV(n:Int):R:=.cells false [.d (ci n)]
def KJ(n d:Int):List (Nat×R):=[(0,fV n),(108,.cells false [.lp 0 0]),(116,fV d)]
theorem P7(k:FuncId)(L:List E4)(n d:Int)(h0:0<=n)(h1:n<=512)(hf:∀i(h:i<L.length),∀n,0<=n->n<=512->aJ Tryz.prog k [.d (.agg L[i].aT1),.lp 108 0,.lp 116 0] (aK (KJ n d)) (.ok (.d (cb (!(L[i].lit n (d -1)).1)))) (aH (aK (KJ n d)) [(0,fV (L[i].lit n (d -1)).2)]))(hL:L.length<=2^40):
 aJ Tryz.prog 227 [.d (.sl 4 (L.map E4.row)),.fn (.func k) [] [.lp 108 0,.lp 116 0]] (aK (KJ n d)) (.ok (.d (ci (E4.AN L n (d -1) 0)))) (aH (aK (KJ n d)) [(0,fV (E4.oC L n (d -1)).2)]):=by
 refine wE mix 200 Tryz.func227 tV ⟨tV,tV⟩ ?_;refine bl ?_;refine bV mix (λa:Nat×Int=>a.1<=L.length/\E4.oC (L.take a.1) n (d -1)=(true,a.2)) (I:=λa=>[(0,.d (.sl 4 (L.map E4.row))),(1,.fn (.func k) [] [.lp 108 0,.lp 116 0]),(7,.d (ci L.length)),(8,.d (ci a.1))])
  (J:=λa=>KJ a.2 d) (μ:=λa=>L.length -a.1) 100 (0,n) ⟨dM,rfl⟩ mZ ?_
 rintro⟨i,q⟩ ⟨hi,hq⟩;have hb:=E4.QD (L.take i) n (d -1) h0 h1;rw[hq]at hb;dsimp only at hi hq hb⊢;have a1Q:=hb.2.2 rfl
 repeat'(first|refine bl ?_|refine bS (λh=>?_) (λh=>?_))
 ·refine eE E4.cP rfl eD aM ?_;conv=>whnf
  skip
  have hc:=hf i aM q hb.1 a1Q;have eB:=E4.N8 L i aM n (d -1) q hq;generalize hz:E4.lit L[i] q (d -1)=z at hc eB;obtain⟨b,m⟩:=z;refine dZ.mk (.d (cb (!b))) [(0,fV m)] (aJ.l8 hc ⟨sn,sn,tV⟩ ⟨rfl,rfl,rfl,tV⟩ ⟨tV,⟨sn,tV⟩,tV,tV⟩ ⟨.inl sn,tV⟩) ?_;conv=>whnf
  cases b with
  |false=>
   refine bl ?_;refine dA ?_ ⟨.inr ?_,.inl rfl,.inr rfl,.inr rfl,tV⟩
   ·rw[E4.TH L i aM n (d -1) q m 0 hq hz];simp
   ·rw[E4.KE L (i+1) n (d -1) m eB];rfl
  |true=>
   refine bl ?_;refine⟨(i+1,m),dM,⟨dM,eB⟩,?_⟩;exact mZ
 ·rw[aI oM]at hq;refine dA ?_ ⟨.inr ?_,.inl rfl,.inr rfl,.inr rfl,tV⟩
  ·rw[E4.TI L n (d -1) q 0 hq]
  ·rw[hq];rfl
theorem HZ(k:FuncId)(L:List E4)(n d:Int)(h0:0<=n)(h1:n<=512)(hf:∀i(h:i<L.length),∀n,0<=n->n<=512->aJ Tryz.prog k [.d (.agg L[i].aT1),.lp 108 0,.lp 116 0] (aK (KJ n d)) (.ok (.d (cb (!(L[i].lit n (d -1)).1)))) (aH (aK (KJ n d)) [(0,fV (L[i].lit n (d -1)).2)]))(hL:L.length<=2^40):
 aJ Tryz.prog 205 [.d (.sl 4 (L.map E4.row)),.fn (.func k) [] [.lp 108 0,.lp 116 0]] (aK (KJ n d)) (.ok (.d (cb (!(E4.oC L n (d -1)).1)))) (aH (aK (KJ n d)) [(0,fV (E4.oC L n (d -1)).2)]):=by
 refine wE mix 200 Tryz.func205 tV ⟨tV,tV⟩ ?_;refine bl ?_;refine dZ.mk (.d (ci (E4.AN L n (d -1) 0))) [(0,fV (E4.oC L n (d -1)).2)] (aJ.l8 (P7 k L n d h0 h1 hf hL) ⟨sn,sn,tV⟩ ⟨rfl,rfl,rfl,tV⟩ ⟨tV,⟨sn,tV⟩,tV,tV⟩ ⟨.inl sn,tV⟩) ?_;conv=>whnf
 refine bl ?_;refine dA ?_ ⟨.inr rfl,.inl rfl,.inr rfl,.inr rfl,tV⟩;rw[<-E4.KD L n (d -1) 0 oM]
theorem V2(v:E4)(n d:Int)(h0:0<=n)(h1:n<=512)(hd:1<=d)(hd2:d<=100)(hf:aJ Tryz.prog 168 [.d (.agg v.aT1),.lp 0 0,.d (ci (d -1))] (aK [(0,fV n)]) (.ok (.d (cb (v.lit n (d -1)).1))) (aH (aK [(0,fV n)]) [(0,fV (v.lit n (d -1)).2)])):
 aJ Tryz.prog 206 [.d (.agg v.aT1),.lp 108 0,.lp 116 0] (aK (KJ n d)) (.ok (.d (cb (!(v.lit n (d -1)).1)))) (aH (aK (KJ n d)) [(0,fV (v.lit n (d -1)).2)]):=by
 refine wE mix 200 Tryz.func206 tV ⟨tV,tV⟩ ?_;refine bl ?_;refine dZ.mk (.d (cb (v.lit n (d -1)).1)) [(0,fV (v.lit n (d -1)).2)] ((aJ.l8 hf ⟨sn,tV⟩ ⟨rfl,tV⟩ ⟨tV,tV⟩ ⟨.inl sn,tV⟩).mR (.cons (.agg v.aT1) (.cons (.same _) (.cons (.same _) .nil)))) ?_;conv=>whnf
 refine bl ?_;exact dA rfl ⟨.inr rfl,.inl rfl,.inr rfl,.inr rfl,tV⟩
theorem F9(v:E4)(hv:v.cR<=2^40)(n d:Int)(h0:0<=n)(h1:n<=512)(hd:0<=d)(hd2:d<=100):
 aJ Tryz.prog 168 [.d (.agg v.aT1),.lp 0 0,.d (ci d)] (aK [(0,fV n)]) (.ok (.d (cb (v.lit n d).1))) (aH (aK [(0,fV n)]) [(0,fV (v.lit n d).2)]):=by
 refine wE mix 100 Tryz.func168 tV ⟨tV,tV⟩ ?_
 repeat'(first|refine bl ?_|refine bS (λh=>?_) (λh=>?_))
 any_goals(first
  |(have e:v.lit n d=(false,n+1):=by rw[E4.QE];simp_all;done
    refine dA ?_ ⟨.inr ?_,.inl rfl,tV⟩<;>rw[e]<;>rfl)
  |(have e:v.lit n d=(true,n+1):=by rw[E4.QE];simp_all;done
    refine dA ?_ ⟨.inr ?_,.inl rfl,tV⟩<;>rw[e]<;>rfl))
 all_goals
  have e:v.lit n d=E4.oC v.l (n+1) (d -1):=by
   rw[E4.QE,aT7 oM,aT7 (by simp_all),aT7 aM]
  have AZ:=v.fA;have hln:=E4.eW v.l;refine dZ.mk (.d (cb (!(E4.oC v.l (n+1) (d -1)).1))) [(0,fV (E4.oC v.l (n+1) (d -1)).2)] (aJ.l8 (HZ 206 v.l (n+1) d oM oM (λi h m hm0 hm1=>have vZ:=v.gM i h;have hcg:=E4.dG v.l i h;V2 v.l[i] m d hm0 hm1 oM hd2 (F9 v.l[i] oM m (d -1) hm0 hm1 oM oM)) oM) ⟨sn,sn,tV⟩ ⟨rfl,rfl,rfl,tV⟩ ⟨tV,⟨sn,tV⟩,tV,tV⟩ ⟨.inl sn,tV⟩) ?_;conv=>whnf
  refine bl ?_;refine dA ?_ ⟨.inr ?_,.inl rfl,tV⟩
  ·rw[e];simp;try rfl
  ·rw[e];rfl
 termination_by SizeOf.sizeOf v
mutual
def S4.sm:S4->Int->Bool×Int
 |.mk _ _ _ _ _ a b t e c w,n=>if 512<n+1\/64<(w.length:Int)\/(a.lit 0 16).1=false\/(b.lit 0 16).1=false then(false,n+1)else
  match S4.C4 t (n+1)with
  |(false,m)=>(false,m)
  |(true,m)=>match S4.C4 e m with
   |(false,k)=>(false,k)
   |(true,k)=>S4.C4 c k
def S4.C4:List S4->Int->Bool×Int
 |[],n=>(true,n)
 |v::r,n=>match S4.sm v n with
  |(false,m)=>(false,m)
  |(true,m)=>S4.C4 r m
end
theorem S4.Q3(v:S4)(n:Int):v.sm n=if 512<n+1\/64<(v.w.length:Int)\/(v.a.lit 0 16).1=false\/(v.b.lit 0 16).1=false then(false,n+1)else
 match S4.C4 v.t (n+1)with
 |(false,m)=>(false,m)
 |(true,m)=>match S4.C4 v.e m with
  |(false,k)=>(false,k)
  |(true,k)=>S4.C4 v.c k:=by cases v;rw[S4.sm];rfl
abbrev VX(q:Bool×Int):Prop:=0<=q.2/\q.2<=513/\(q.1=true->q.2<=512)
mutual
theorem S4.aMH:∀(v:S4)(n:Int),0<=n->n<=512->VX (v.sm n)
 |.mk _ _ _ _ _ a b t e c w,n,h0,h1=>by
  rw[S4.sm];by_cases hc:512<n+1\/64<(w.length:Int)\/(a.lit 0 16).1=false\/(b.lit 0 16).1=false
  ·rw[aUF hc];simp[VX];omega
  ·rw[aT7 hc];have i1:=S4.C1 t (n+1) oM oM;generalize S4.C4 t (n+1)=q at i1⊢;obtain⟨x,m⟩:=q;cases x with
   |false=>exact i1
   |true=>
    have i2:=S4.C1 e m i1.1 (i1.2.2 rfl);dsimp only;generalize S4.C4 e m=q2 at i2⊢;obtain⟨y,k⟩:=q2;cases y with
    |false=>exact i2
    |true=>exact S4.C1 c k i2.1 (i2.2.2 rfl)
theorem S4.C1:∀(l:List S4)(n:Int),0<=n->n<=512->VX (S4.C4 l n)
 |[],n,h0,h1=>by rw[S4.C4];simp[VX];omega
 |v::r,n,h0,h1=>by
  rw[S4.C4];have i1:=S4.aMH v n h0 h1;generalize S4.sm v n=q at i1⊢;obtain⟨x,m⟩:=q;cases x with
  |false=>exact i1
  |true=>exact S4.C1 r m i1.1 (i1.2.2 rfl)
end
theorem S4.aFI(l:List S4)(i:Nat)(h:i<l.length)(n:Int):S4.C4 (l.drop i) n=match S4.sm l[i] n with
 |(false,m)=>(false,m)
 |(true,m)=>S4.C4 (l.drop (i+1)) m:=by
 rw[dE h,S4.C4]
theorem EX(l:List S4)(hv:S4.dB l<=2^38)(n:Int)(h0:0<=n)(h1:n<=512):aJ Tryz.prog 122 [.d (jX l),.lp 0 0] (aK [(0,fV n)]) (.ok (.d (cb (S4.C4 l n).1))) (aH (aK [(0,fV n)]) [(0,fV (S4.C4 l n).2)]):=by
 have hl:=S4.eW l;refine wE mix 100 Tryz.func122 tV ⟨tV,tV⟩ ?_;refine bl ?_;refine bV mix (λa:Nat×Int=>a.1<=l.length/\(0<=a.2/\a.2<=512)/\S4.C4 (l.drop a.1) a.2=S4.C4 l n) (I:=λa=>[(1,.lp 0 0),(9,.d (jX l)),(10,.d (ci l.length)),(11,.d (ci a.1))])
  (J:=λa=>[(0,fV a.2)]) (μ:=λa=>l.length -a.1) 100 (0,n) ⟨dM,⟨h0,h1⟩,rfl⟩ mZ ?_
 rintro⟨i,q⟩ ⟨hi,hqb,hq⟩;dsimp only at hi hq hqb⊢
 repeat'(first|refine bl ?_|refine bS (λh=>?_) (λh=>?_))
 ·refine eE S4.cP rfl eD aM ?_;have hdr:=S4.aFI l i aM q;conv=>whnf
  repeat'(first|refine bl ?_|refine bS (λh=>?_) (λh=>?_))
  any_goals
   have e:S4.C4 l n=(false,q+1):=by rw[<-hq,hdr,S4.Q3,aUF oM]
   refine dA ?_ ⟨.inr ?_,.inl rfl,tV⟩<;>rw[e]<;>rfl
  have hcg:=S4.dG l i aM;have AZ:=l[i].fA;have hq1:q+1<=512:=aM;have hc1:=F9 l[i].a oM 0 16 oM oM oM oM;generalize XN:E4.lit l[i].a 0 16=z1 at hc1;obtain⟨b1,m1⟩:=z1;refine lN 188 (fV m1) ((hc1.AK rfl (λg=>rfl) (λg=>rfl) rfl (by simp[A.lQ,A.hs]) (aK _) 188 rfl).mR (.cons (.agg l[i].a.aT1) (.cons (.same _) (.cons (.same _) .nil)))) ?_;conv=>whnf
  cases b1 with
  |false=>
   refine bl ?_;have e:S4.C4 l n=(false,q+1):=by rw[<-hq,hdr,S4.Q3,aUF (by rw[XN];simp)]
   refine dA ?_ ⟨.inr ?_,.inl rfl,tV⟩<;>rw[e]<;>rfl
  |true=>
   refine bl ?_;have wF:=F9 l[i].b oM 0 16 oM oM oM oM;generalize XO:E4.lit l[i].b 0 16=z2 at wF;obtain⟨b2,m2⟩:=z2;refine lN 196 (fV m2) ((wF.AK rfl (λg=>rfl) (λg=>rfl) rfl (by simp[A.lQ,A.hs]) (aK _) 196 rfl).mR (.cons (.agg l[i].b.aT1) (.cons (.same _) (.cons (.same _) .nil)))) ?_;conv=>whnf
   cases b2 with
   |false=>
    refine bl ?_;have e:S4.C4 l n=(false,q+1):=by rw[<-hq,hdr,S4.Q3,aUF (by rw[XO];simp)]
    refine dA ?_ ⟨.inr ?_,.inl rfl,tV⟩<;>rw[e]<;>rfl
   |true=>
    refine bl ?_;have hng:¬(512<q+1\/64<(l[i].w.length:Int)\/(l[i].a.lit 0 16).1=false\/(l[i].b.lit 0 16).1=false):=by
     rw[XN,XO];simp;omega
    rw[S4.Q3,aT7 hng]at hdr;have ht:=EX l[i].t oM (q+1) oM oM;have hbt:=S4.C1 l[i].t (q+1) oM oM;generalize S4.C4 l[i].t (q+1)=zt at ht hbt hdr;obtain⟨bt,mt⟩:=zt;refine dZ.mk (.d (cb bt)) [(0,fV mt)] (aJ.l8 ht ⟨sn,tV⟩ ⟨rfl,tV⟩ ⟨tV,tV⟩ ⟨.inl sn,tV⟩) ?_;conv=>whnf
    cases bt with
    |false=>
     refine bl ?_;have e:S4.C4 l n=(false,mt):=by rw[<-hq,hdr]
     refine dA ?_ ⟨.inr ?_,.inl rfl,tV⟩<;>rw[e]<;>rfl
    |true=>
     refine bl ?_;dsimp only at hdr hbt;have he:=EX l[i].e oM mt hbt.1 (hbt.2.2 rfl);have hbe:=S4.C1 l[i].e mt hbt.1 (hbt.2.2 rfl);generalize S4.C4 l[i].e mt=ze at he hbe hdr;obtain⟨be,me⟩:=ze;refine dZ.mk (.d (cb be)) [(0,fV me)] (aJ.l8 he ⟨sn,tV⟩ ⟨rfl,tV⟩ ⟨tV,tV⟩ ⟨.inl sn,tV⟩) ?_;conv=>whnf
     cases be with
     |false=>
      refine bl ?_;have e:S4.C4 l n=(false,me):=by rw[<-hq,hdr]
      refine dA ?_ ⟨.inr ?_,.inl rfl,tV⟩<;>rw[e]<;>rfl
     |true=>
      refine bl ?_;dsimp only at hdr hbe;have hc:=EX l[i].c oM me hbe.1 (hbe.2.2 rfl);have hbc:=S4.C1 l[i].c me hbe.1 (hbe.2.2 rfl);generalize S4.C4 l[i].c me=zc at hc hbc hdr;obtain⟨bc,mc⟩:=zc;refine dZ.mk (.d (cb bc)) [(0,fV mc)] (aJ.l8 hc ⟨sn,tV⟩ ⟨rfl,tV⟩ ⟨tV,tV⟩ ⟨.inl sn,tV⟩) ?_;conv=>whnf
      cases bc with
      |false=>
       refine bl ?_;have e:S4.C4 l n=(false,mc):=by rw[<-hq,hdr]
       refine dA ?_ ⟨.inr ?_,.inl rfl,tV⟩<;>rw[e]<;>rfl
      |true=>
       refine bl ?_;dsimp only at hdr hbc;refine⟨(i+1,mc),dM,⟨dM,⟨hbc.1,hbc.2.2 rfl⟩,by dsimp only;rw[<-hq,hdr]⟩,?_⟩;exact mZ
 ·rw[dT oM]at hq;refine dA ?_ ⟨.inr ?_,.inl rfl,tV⟩
  ·rw[<-hq];rfl
  ·rw[<-hq];rfl
 termination_by S4.dB l
abbrev V.zero:V:=.mk 0 0 ByteArray.empty [] 0
abbrev W4.base(x:W4):W4:=⟨x.kind,x.home,V.zero,[],0,0,0,0,0,false,[],[]⟩
def W4.bare(x:W4):W4:=
 if x.kind=1 then{x.base with value:=x.value}
 else if x.kind=2\/x.kind=4 then{x.base with values:=x.values}
 else if x.kind=3 then{x.base with n:=x.n}
 else if x.kind=6\/x.kind=11 then{x.base with of:=x.of}
 else if x.kind=7 then{x.base with of:=x.of,value:=x.value}
 else if x.kind=8 then{x.base with n:=x.n,lost:=x.lost}
 else if x.kind=9 then{x.base with of:=x.of,n:=x.n}
 else if x.kind=10 then{x.base with full:=x.full,value:=x.value}
 else if x.kind=12 then{x.base with code:=x.code,names:=x.names}
 else if x.kind=13 then{x.base with full:=x.full,of:=x.of}
 else if x.kind=15\/x.kind=16 then{x.base with of:=x.of,by_:=x.by_}
 else if x.kind=14 then{x.base with home:=0,of:=x.of,set:=x.set}
 else x.base
theorem aGP(x:W4):Pu 117 [.d (.agg x.aT1)] (.d (.agg x.bare.aT1)):=by
 refine iC mix Tryz.func117 ?_
 repeat'(first|refine bl ?_|refine bS (λh=>?_) (λh=>?_))
 all_goals
  unfold W4.bare
  repeat(first|rw[aT7 oM]|rw[aUF oM])
  exact .one (.agg (by repeat'(first|exact wJ.nil|refine wJ.cons (Rd.d _) ?_|refine wJ.cons (Rd.nz _ _) ?_)))
theorem aKJ(L:List V)(hL:V.dB L<=2^37)(h:U5 L=0):Pu 121 [.d (.sl 5 (L.map V.row))] (.eL [.d (.agg [.v (.int .u8 3),ci 0,.v (.string ByteArray.empty),.sl 5 (L.map V.row),ci 0]),.d (ci (U5 L))]):=by
 have e:pD L=[.v (.int .u8 3),ci 0,.v (.string ByteArray.empty),.sl 5 (L.map V.row),ci 0]:=by
  unfold pD;unfold U5 at h;rw[aUF];·rfl
  repeat' split at h
  ·exact⟨aM,aM⟩
  ·cases h
  ·cases h
 rw[<-e];exact aJA L hL
theorem aKK(L:List V)(hL:V.dB L<=2^37)(h:¬U5 L=0):Pu 121 [.d (.sl 5 (L.map V.row))] (.eL [.d (.agg [.v (.int .u8 0),ci 0,.v (.string ByteArray.empty),.nl 5,ci 0]),.d (ci (U5 L))]):=by
 have e:pD L=zV:=by
  unfold pD;unfold U5 at h;rw[aT7];rintro⟨h1,h2⟩;rw[aUF h1,aUF h2]at h;exact h rfl
 have h2:=aJA L hL;rw[e]at h2;exact h2
theorem ZO{α:Type}(p:α->Bool)(L:List α)(i:Nat)(h:i<L.length)(h0:(L.take i).all p=true)(hp:p L[i]=true):(L.take (i+1)).all p=true:=by
 rw[iT,gQ,h0];simp[aC h,hp]
def W4.HE(x b:W4):Bool:=decide (x.kind≠0)&&(decide (x.kind<=16)&&(decide (x.n=b.n)&&(decide (x.lost=b.lost)&&(decide (x.of=b.of)&&(decide (x.by_=b.by_)&&(decide (x.set=b.set)&&(decide (x.full=b.full)&&decide (x.home=b.home))))))))
def W4.BZ(x b:W4):Bool:=decide (x.values.length=b.values.length)&&(decide (x.code.length=b.code.length)&&(decide (x.names.length=b.names.length)&&(!b.value.blank||x.value.blank)))
def W4.JZ(x:W4)(w:D4):Bool:=(decide (x.kind=14)||w.HU x.home)&&x.value.may
def W4.DT(x:W4):Bool:=decide (U5 x.values=0)&&decide (x.names.length<=64)
def W4.NQ(x:W4):Bool:=x.names.all λn=>n.value.may
def W4.YA(x:W4):Bool:=
 if x.kind=3\/x.kind=8\/x.kind=9 then decide (0<=x.n)&&(decide (x.n<=9007199254740992)&&(decide (0<=x.lost)&&decide (x.lost<=x.n)))
 else if x.kind=10 then x.full||x.value.blank
 else if x.kind=12 then(S4.C4 x.code 0).1
 else if x.kind=14 then TK x.set
 else true
def D4.AA(w:D4)(x:W4):Bool:=x.HE x.bare&&(x.BZ x.bare&&(x.JZ w&&(x.DT&&(x.NQ&&x.YA))))
theorem aG9(w:D4)(x:W4)(hx:x.cR<=2^35)(hh:-9223372036854775808<=x.home/\x.home<=9223372036854775807):Pu 65 [.d (.ip w.aT1),.d (.agg x.aT1)] (.d (cb (w.AA x))):=by
 have hcc:x.cR=x.value.cR+V.dB x.values+S4.dB x.code+x.names.length+V.dB (x.names.map (·.value)):=rfl;have hnb:∀i(h:i<x.names.length),x.names[i].value.cR<=2^40:=λi h=>by
  have:=V.dG (x.names.map (·.value)) i (by simpa using h);rw[fO]at this;omega
 refine iC mix Tryz.func65 ?_;obtain⟨b,hb⟩:∃b,b=x.bare:=⟨_,rfl⟩;have hbo:=aGP x;rw[<-hb]at hbo;have hF:w.AA x=(x.HE b&&(x.BZ b&&(x.JZ w&&(x.DT&&(x.NQ&&x.YA))))):=by rw[hb];rfl
 rw[hF];clear hF hb
 repeat'(first|refine bl ?_|refine bS (λh=>?_) (λh=>?_)|refine fT (cs:=x.aT1) hbo (bw ?_))
 any_goals(first
  |(have e:x.HE b=false:=by(unfold W4.HE;simp_all;done)
    refine dP ?_;rw[e];rfl)
  |(have e:x.HE b=false:=by(unfold W4.HE;simp_all;omega)
    refine dP ?_;rw[e];rfl)
  |(have e:x.BZ b=false:=by(unfold W4.BZ;simp_all;done)
    refine dP ?_;rw[e,c0,kL])
  |(have e:x.BZ b=false:=by(unfold W4.BZ;simp_all;omega)
    refine dP ?_;rw[e,c0,kL]))
 have e1:x.HE b=true:=by unfold W4.HE;simp_all
 repeat'(first|refine bl ?_|refine bS (λh=>?_) (λh=>?_)|refine fT (cs:=b.value.aT1) (I6 b.value) (bw ?_)|refine fT (cs:=x.value.aT1) (I6 x.value) (bw ?_))
 any_goals(have e:x.BZ b=false:=by(unfold W4.BZ;simp_all;done)
           refine dP ?_;rw[e,c0,kL])
 all_goals
  have e2:x.BZ b=true:=by(unfold W4.BZ;simp_all;omega)
  rw[e1,e2,cA,cA];clear e1 e2
 repeat'(first|refine bl ?_|refine bS (λh=>?_) (λh=>?_)|refine aF (aIL w x.home hh.1 hh.2) (bw ?_)|refine fT (cs:=x.value.aT1) (AL x.value oM) (bw ?_))
 any_goals(have e:x.JZ w=false:=by(unfold W4.JZ;simp_all;done)
           refine dP ?_;rw[e,c0])
 all_goals
  have e3:x.JZ w=true:=by(unfold W4.JZ;simp_all;done)
  rw[e3,cA];clear e3
 all_goals by_cases hof:U5 x.values=0
 repeat'(first|refine bl ?_|refine bS (λh=>?_) (λh=>?_)|refine aF (aKJ x.values oM hof) (bw ?_)|refine aF (aKK x.values oM hof) (bw ?_))
 any_goals(first
  |(have e:x.DT=false:=by(unfold W4.DT;simp_all;done)
    refine dP ?_;rw[e,c0])
  |(have e:x.DT=false:=by(unfold W4.DT;simp_all;omega)
    refine dP ?_;rw[e,c0]))
 any_goals(exfalso;omega)
 all_goals
  have e4:x.DT=true:=by(unfold W4.DT;simp_all;omega)
  rw[e4,cA];clear e4;have E0:x.names.length<=64:=oM;refine bV mix (λi:Nat=>i<=x.names.length/\(x.names.take i).all (λn=>n.value.may)=true) (I:=λi=>[(3,.lp 1 0),(137,.d (.sl 6 (x.names.map N4.aT1))),(138,.d (ci x.names.length)),(139,.d (ci i))])
   (J:=λi=>[(1,.cells false (x.aT1.map A.d))]) (μ:=λi=>x.names.length -i) 1000 0 ⟨oM,rfl⟩ mZ ?_
  rintro i ⟨hi,h0⟩
 repeat'(first|refine bl ?_|refine bS (λh=>?_) (λh=>?_)|refine cD rfl eD aM (bw ?_)|refine fT (cs:=(x.names[i]' aM).value.aT1) (AL (x.names[i]' aM).value (hnb i aM)) (bw ?_)|refine fT (cs:=x.value.aT1) (I6 x.value) (bw ?_)|refine aF (IB x.set) (bw ?_))
 any_goals refine lN 1104 (fV (S4.C4 x.code 0).2) ((EX x.code oM 0 oM oM).AK rfl (λg=>rfl) (λg=>rfl) rfl (by simp[A.lQ,A.hs]) (aK _) 1104 rfl) (bw ?_)
 repeat'(first|refine bl ?_|fail)
 all_goals first
  |(refine vT (i+1) ⟨oM,⟨oM,ZO (λn=>n.value.may) x.names i aM h0 aM⟩,mZ⟩;done)
  |(have e5:x.NQ=true:=by(have q:=h0;rw[aI oM]at q;exact q)
    refine dP ?_;rw[e5,cA];unfold W4.YA;simp_all;done)
  |(have e5:x.NQ=true:=by(have q:=h0;rw[aI oM]at q;exact q)
    refine dP ?_;rw[e5,cA];unfold W4.YA;simp_all;omega)
  |(have e5:x.NQ=false:=by(unfold W4.NQ;rw[iA];exact⟨x.names[i]' aM,aY _,by simp_all⟩)
    refine dP ?_;rw[e5,c0];done)
def oW(L:List Int):List Bool:=List.replicate (L.length+1) false
def K3(p:Option Int)(c:Int):Bool:=match p with
 |none=>true
 |some q=>decide (q<c)
def E7(n:Nat):List Int->Option Int->Bool
 |[],_=>true
 |c::r,p=>K3 p c&&(decide (0<c)&&decide (c<n))&&E7 n r (some c)
def xY(c:List Bool)(l:List Int):List Bool:=l.foldl (λa k=>a.set k.toNat true) c
theorem RX(l:List Int):∀c:List Bool,(xY c l).length=c.length:=by
 induction l with
 |nil=>intro c;rfl
 |cons a r ih=>intro c;simp only[xY,fX]at ih⊢;rw[ih];simp
theorem NB(c:List Bool)(l:List Int)(i:Nat)(h:i<l.length):xY c (l.take (i+1))=(xY c (l.take i)).set l[i].toNat true:=by
 simp only[xY];rw[aT h,iB];rfl
def EM(l:List Int):Nat->Option Int
 |0=>none
 |i+1=>l[i]?
theorem C3(n:Nat)(l:List Int)(i:Nat)(h:i<l.length):E7 n (l.drop i) (EM l i)=(K3 (EM l i) l[i]&&(decide (0<l[i])&&decide (l[i]<n))&&E7 n (l.drop (i+1)) (EM l (i+1))):=by
 rw[dE h,E7];simp only[EM,aC h]
theorem OE(l:List Int)(i:Nat)(h:0<i)(h2:i<=l.length):EM l i=some (l[i -1]' oM):=by
 cases i with
 |zero=>omega
 |succ k=>simp only[EM,Nat.add_sub_cancel];exact aC oM
def Q8(T:List T4):List (Ky×A):=T.map λt=>(kI t.ref,.d (.ip t.bQ.aT1))
def zrs(L:List Int):List Int:=List.replicate (L.length+1) 0
def oD(L:List Int)(C:List Bool)(T:List T4):D4:=⟨L,C,T,[],0,zrs L⟩
def aJE(L:List Int)(C:List Bool):R:=.cells false [.d (.sl 1 (iR L)),.d (.sl 1 (C.map λb=>[cb b])),.h 188,.h 196,.d (ci 0),.d (.sl 1 (iR (zrs L)))]
theorem aNM{L:List Int}{C:List Bool}{T:List T4}{st:List (Ky×Nat)}(h0:m 212=some (aJE L C))(h2:m 188=some (.mp false (Q8 T) st))(h3:m 196=some (.mp false [] [])):Rd m (.lp 212 0) (.ip (oD L C T).aT1):=by
 refine .lp h0 (.cons (.d _) (.cons (.d _) (.cons ?_ (.cons (.mp (vs:=[]) h3 .nil) (.cons (.d _) (.cons (.d _) .nil))))))
 have:=Rd.mp (m:=m) (vs:=T.map λt=>.ip t.bQ.aT1) h2 (by
  have e:(Q8 T).map (·.2)=(T.map λt=>Go.Pv.C.ip t.bQ.aT1).map A.d:=by unfold Q8;rw[bH,bH];rfl
  rw[e];exact wJ.data _ _)
 have e:(Q8 T).map (·.1)=T.map λt=>kI t.ref:=by unfold Q8;rw[bH];rfl
 rw[e]at this;exact this
def AG(T:List T4):Nat->Int
 |0=>0
 |i+1=>((T[i]?).map (·.ref)).getD 0
def ZE(w:D4)(xl:Int):List T4->Int->Bool
 |[],_=>true
 |t::r,last=>(decide (last<t.ref)&&decide (t.ref<=xl))&&w.AA t.bQ&&ZE w xl r t.ref
theorem LW(w:D4)(xl:Int)(T:List T4)(i:Nat)(h:i<T.length)(q:Int):ZE w xl (T.drop i) q=((decide (q<T[i].ref)&&decide (T[i].ref<=xl))&&w.AA T[i].bQ&&ZE w xl (T.drop (i+1)) (AG T (i+1))):=by
 rw[dE h,ZE,AG,aC h];rfl
def yV(a:List Int)(t:T4):List Int:=if t.bQ.kind=14 then a else a.set t.bQ.home.toNat (a.getD t.bQ.home.toNat 0+1)
def UR(n:Nat)(T:List T4):List Int:=T.foldl yV (List.replicate n 0)
theorem LX(n:Nat)(T:List T4)(i:Nat)(h:i<T.length):UR n (T.take (i+1))=yV (UR n (T.take i)) T[i]:=by
 unfold UR;rw[aT h,iB];rfl
theorem W0(a:List Int)(t:T4):(yV a t).length=a.length:=by
 unfold yV;split<;>simp
theorem aCY(T:List T4):∀a:List Int,(T.foldl yV a).length=a.length:=by
 induction T with
 |nil=>intro a;rfl
 |cons t r ih=>intro a;rw[fX,ih,W0]
theorem ZF(n:Nat)(T:List T4):(UR n T).length=n:=by
 unfold UR;rw[aCY];simp
theorem aHF{a:List Int}{b:Int}(h:∀v∈a,0<=v/\v<=b)(hb:0<=b)(k:Nat):0<=a.getD k 0/\a.getD k 0<=b:=by
 rw[bF];cases e:a[k]? with
 |none=>simp;exact hb
 |some v=>simp only[gZ];exact h v (c6 e)
theorem aBW(a:List Int)(t:T4)(b:Int)(hb:0<=b)(h:∀v∈a,0<=v/\v<=b):∀v∈yV a t,0<=v/\v<=b+1:=by
 intro v hv;unfold yV at hv;split at hv
 ·have:=h v hv;omega
 ·rcases oI hv with x|x
  ·have:=h v x;omega
  ·have:=aHF h hb t.bQ.home.toNat;omega
theorem aF1(n:Nat)(T:List T4)(i:Nat)(hi:i<=T.length):∀v∈UR n (T.take i),0<=v/\v<=i:=by
 induction i with
 |zero=>intro v hv;simp[UR]at hv;omega
 |succ k ih=>
  rw[LX n T k oM];intro v hv;have:=aBW _ _ (k:Int) oM (ih oM) v hv
  push_cast;exact this
theorem E3(T:List T4)(i:Nat)(h:i<T.length):Q8 (T.take (i+1))=Q8 (T.take i)++[(kI T[i].ref,.d (.ip T[i].bQ.aT1))]:=by
 unfold Q8;rw[aT h,bP];rfl
theorem aIO(T:List T4):A.lQ ((Q8 T).map (·.2))=[]:=by
 have e:(Q8 T).map (·.2)=(T.map λt=>C.ip t.bQ.aT1).map A.d:=by unfold Q8;rw[bH,bH];rfl
 rw[e,wX]
theorem aF0{ml:List (Nat×R)}(T:List T4):rB ml (A.lQ ((Q8 T).map (·.2))++[]):=by
 rw[aIO];trivial
theorem aNL{T:List T4}{st:List (Ky×Nat)}(h:m 188=some (.mp false (Q8 T) st)):Rd m (.h 188) (.im (T.map λt=>kI t.ref) (T.map λt=>.ip t.bQ.aT1)):=by
 have:=Rd.mp (m:=m) (vs:=T.map λt=>.ip t.bQ.aT1) h (by
  have e:(Q8 T).map (·.2)=(T.map λt=>Go.Pv.C.ip t.bQ.aT1).map A.d:=by unfold Q8;rw[bH,bH];rfl
  rw[e];exact wJ.data _ _)
 have e:(Q8 T).map (·.1)=T.map λt=>kI t.ref:=by unfold Q8;rw[bH];rfl
 rw[e]at this;exact this
theorem aLU{fz:Bool}{t:TypeId}{es:Nat}{l l':List (List A)}(h:l=l'):ZN m (.fW fz t es l) (.fW fz t es l'):=h▸.fW (.same _)
theorem GR{a b:A}(h:a=b):Cv m a b:=h▸.same _
theorem aAC(L:List Int)(C:List Bool)(T:List T4)(x:W4):(oD L C T).AA x=(oD L C []).AA x:=rfl
def YW(L:List Int):List (Nat×R):=[(212,.cells false [.d (.sl 1 (iR L)),.h 164,.h 188,.h 196,.d (ci 0),.h 180]),(164,PR (oW L)),(180,dU 3 1 (iR (List.replicate (L.length+1) 0))),(188,.mp false [] []),(196,.mp false [] [])]
theorem aHV(L:List Int):aKE L=YW L:=by
 simp only[aKE,YW,PR,oW,List.map_replicate]
theorem aHW(L:List Int)(hl:L.length<16)(hp:zD L 0=true):aJ Tryz.prog 40 [.d (.sl 1 (iR L))] (aK []) (.ok (.eL [.lp 212 0,.d (ci 0)])) (aH (aK []) (YW L)):=by
 rw[<-aHV];exact aKF L hl hp
theorem NS{w:D4}{x:W4}(h:w.AA x=true):x.value.may=true/\(∀i(h:i<x.values.length),x.values[i].may=true)/\(∀i(h:i<x.names.length),x.names[i].value.may=true)/\(x.kind≠14->w.HU x.home=true):=by
 simp only[D4.AA,aE]at h;obtain⟨_,_,h3,h4,h5,_⟩:=h;simp only[W4.JZ,aE,gP,aUA]at h3;simp only[W4.DT,aE,aUA]at h4;have hA:x.values.all V.may=true:=by
  have:=h4.1;unfold U5 at this;by_cases e:x.values.all V.may=true
  ·exact e
  ·rw[aT7 e]at this;omega
 refine⟨h3.2,λi hi=>cV.1 hA _ (aY hi),λi hi=>cV.1 h5 _ (aY hi),λhk=>?_⟩;rcases h3.1 with e|e
 ·exact absurd e hk
 ·exact e
def QF:List Int->List Int->Bool
 |m::r,t::s=>(decide (t<=m)&&decide (m<=512))&&QF r s
 |_,_=>true
theorem GA(M F:List Int)(i:Nat)(h:i<M.length)(h2:i<F.length):QF (M.drop i) (F.drop i)=((decide (F[i]<=M[i])&&decide (M[i]<=512))&&QF (M.drop (i+1)) (F.drop (i+1))):=by
 rw[dE h,dE h2,QF]
theorem aFZ(M:List Int)(i:Nat)(h:i<M.length):(M.take (i+1)).sum=(M.take i).sum+M[i]:=by
 rw[aT h,List.sum_append];simp
def gS(i:Nat):Nat:=swp 0 212 (swp 1 196 i)
def gT(i:Nat):Nat:=swp 1 196 (swp 0 212 i)
theorem gTS(i:Nat):gT (gS i)=i:=by unfold gT gS;rw[fH,fH]
theorem gST(i:Nat):gS (gT i)=i:=by unfold gT gS;rw[fH,fH]
theorem aCR(g:Nat->Nat)(F:List ((Int×Int)×Int)):(R.mp false (l6 F) []).eZ g=.mp false (l6 F) []:=by
 simp only[R.eZ,l6,bH,bM];rfl
def MY(w:D4):R:=if w.sH=true then .mp false (l6 (lP w.aT4)) []else .dead
theorem aFJ(g:Nat->Nat)(w:D4):(MY w).eZ g=MY w:=by
 unfold MY;split
 ·exact aCR g _
 ·rfl
theorem aFO(w:D4)(hf:w.facets=[])(aXR:∀t∈w.aT4,t.bQ.cR<=2^35)(hlen:w.aT4.length<=2^30)(y4:(w.aT4.map (·.ref)).Nodup):
 aJ Tryz.prog 67 [.lp 212 0] (aK [(212,.cells false (w.wA 196)),(196,.mp false [] [])]) (.ok (.d (cb w.sH))) (aH (aK [(212,.cells false (w.wA 196)),(196,.mp false [] [])]) [(196,MY w)]):=by
 have k:=(aFP w hf aXR hlen y4).eZ (g:=gS) (gi:=gT) gTS gST;rw[rJ gTS gST,tZ gTS gST]at k;have e:lH gS [(1,if w.sH=true then R.mp false (l6 (lP w.aT4)) []else .dead)]=[(196,MY w)]:=by
  show [(gS 1,(MY w).eZ gS)]=_;rw[aFJ];rfl
 rw[e]at k;exact k
theorem aFK{w:D4}(h:w.sH=true):w.HY:=XH w λt ht=>by
 simp only[D4.sH,aE]at h;have:=cV.1 h.1 t ht;simp only[aE]at this;exact this.2
theorem xN(w:D4)(xl:Int):∀(T:List T4)(q:Int),ZE w xl T q=true->(∀t∈T,q<t.ref)/\(T.map (·.ref)).Nodup
 |[],q,h=>sM
 |t::r,q,h=>by
  simp only[ZE,aE,aUA]at h;obtain⟨h1,h2⟩:=xN w xl r t.ref h.2;refine⟨λu hu=>?_,?_⟩
  ·rcases aO.1 hu with rfl|hu
   ·exact h.1.1.1
   ·have:=h1 u hu;have:=h.1.1.1;omega
  ·rw[aG,gR];refine⟨λhm=>?_,h2⟩;obtain⟨u,hu,e⟩:=aA4.1 hm;have:=h1 u hu;omega
def DU(x:X4):List Bool:=xY (oW x.parents) x.aU3
def YB(x:X4):Bool:=QF x.made (UR (x.parents.length+1) x.aT4)&&(decide (0<=x.last)&&(decide (x.last<=64*x.made.sum)&&((oD x.parents (DU x) x.aT4).sH&&decide (x.last+((oD x.parents (DU x) x.aT4).JW (lP x.aT4)).oL x.aT4<=64*x.made.sum))))
def y9(x:X4):Bool:=decide (x.parents.length<16)&&(zD x.parents 0&&(decide (x.made.length=x.parents.length+1)&&(E7 (x.parents.length+1) x.aU3 none&&(ZE (oD x.parents (DU x) []) x.last x.aT4 0&&YB x))))
def bJ(x:X4):D4:=⟨x.parents,xY (oW x.parents) x.aU3,x.aT4,lP x.aT4,x.last,x.made⟩
def DW(x:X4):C:=if y9 x=true then .ip (bJ x).aT1 else H5
def DV(x:X4):Int:=if y9 x=true then 0 else 71
theorem nC{x:X4}(m:Mem)(h:y9 x=false):A1 m (.eL [.d H5,.d (ci 71)]) (.eL [.d (DW x),.d (ci (DV x))]):=by
 unfold DW DV;rw[h,aT7 gO,aT7 gO];exact .eL (cs:=[H5,ci 71]) (.cons (.d _) (.cons (.d _) .nil))
theorem aC8{x:X4}{i:Nat}(h:y9 x=true)(hr:Rd m (.lp i 0) (.ip (bJ x).aT1)):A1 m (.eL [.lp i 0,.d (ci 0)]) (.eL [.d (DW x),.d (ci (DV x))]):=by
 unfold DW DV;rw[h,aUF rfl,aUF rfl];exact .eL (cs:=[.ip (bJ x).aT1,ci 0]) (.cons hr (.cons (.d _) .nil))
theorem rdN{L:List Int}(h0:m 212=some (.cells false [.d (.sl 1 (iR L)),.h 164,.h 188,.h 196,.d (ci 0),.h 180]))(h1:m 164=some (PR (oW L)))(h2:m 188=some (.mp false [] []))(h3:m 196=some (.mp false [] []))(h4:m 180=some (dU 3 1 (iR (List.replicate (L.length+1) 0)))):Rd m (.lp 212 0) (.ip (w0 L (oW L)).aT1):=
 .lp h0 (.cons (.d _) (.cons (.dU h1) (.cons (.mp (vs:=[]) h2 .nil) (.cons (.mp (vs:=[]) h3 .nil) (.cons (.d _) (.cons (.dU h4) .nil))))))
theorem aHH{α:Type}{es ce:Nat}{L:List α}{f:α->List C}{n:Int}(i:Nat)(e:n=i){k:List C->Prop}(h1:es=ce)(h2:0<es)(hi:i<L.length)(hk:k (f L[i])):PA es ce (L.map f) n k:=by
 subst e;exact cD h1 h2 hi hk
theorem G9(L:List Int)(cut:List Bool)(c:Int)(hc:cut.length=L.length+1)(he:(w0 L cut).vF c=true):aJ Tryz.prog 64 [.lp 212 0,.d (ci c)] (aK (QA L cut)) (.ok (.d (ci 0))) (aH (aK (QA L cut)) [(164,PR (cut.set c.toNat true))]):=by
 have h1:0<c/\c<(L.length:Int)+1:=by
  simp only[D4.vF,w0,aS,aE,aUA]at he;omega
 obtain⟨k,rfl⟩:=lX (show 0<=c by omega);exact VE L cut k oM he
theorem aHE(x:X4)(aXR:∀t∈x.aT4,t.bQ.cR<=2^35)(hlen:x.aT4.length<=2^30)(hpl:x.parents.length<=2^38)(n0:x.aU3.length<=2^38)(hml:x.made.length<=2^38)(hhm:∀t∈x.aT4,-9223372036854775808<=t.bQ.home/\t.bQ.home<=9223372036854775807):Pu 25 [.d (.agg x.aT1)] (.eL [.d (DW x),.d (ci (DV x))]):=by
 refine iC mix Tryz.func25 ?_;refine bl ?_;by_cases aYR:x.parents.length<16/\zD x.parents 0=true
 case neg=>
  refine aF (aD9 x.parents hpl aYR) ?_;conv=>whnf
  refine bl ?_;refine nC _ ?_;unfold y9;rw[<-Bool.and_assoc,show(decide (x.parents.length<16)&&zD x.parents 0)=false by simp only[gI,aU1];simp only[not_and,Bool.not_eq_true]at aYR;by_cases h:x.parents.length<16;exact .inr (aYR h);exact .inl h,c0]
 obtain⟨P0,hn2⟩:=aYR;have tO:y9 x=(decide (x.made.length=x.parents.length+1)&&(E7 (x.parents.length+1) x.aU3 none&&(ZE (oD x.parents (DU x) []) x.last x.aT4 0&&YB x))):=by
  unfold y9;rw[hn2,aUZ P0,cA,cA]
 refine dZ.mk (.eL [.lp 212 0,.d (ci 0)]) (YW x.parents) (aJ.l8 (aHW x.parents P0 hn2) tV tV tV ⟨.inr rfl,.inr rfl,.inr rfl,.inr rfl,.inr rfl,tV⟩) ?_;conv=>whnf
 repeat'(first|refine bl ?_|refine bS (λh=>?_) (λh=>?_)|refine HA (cs:=[.ip (w0 x.parents (oW x.parents)).aT1]) (o4 _) (.v _) (.cons (rdN rfl rfl rfl rfl rfl) .nil) (bw ?_))
 ·refine nC _ ?_;rw[tO,aU0 (by simp[w0]at h;omega),c0]
 have T9:x.made.length=x.parents.length+1:=by simp[w0]at h;omega
 rw[aUZ T9,cA]at tO;refine bV mix (λi:Nat=>i<=x.aU3.length/\E7 (x.parents.length+1) (x.aU3.drop i) (EM x.aU3 i)=E7 (x.parents.length+1) x.aU3 none) (I:=λi=>[(1,.lp 1 0),(2,.d H5),(3,.d (ci 0)),(4,.lp 212 0),(33,.d (.sl 1 (iR x.aU3))),(34,.d (ci x.aU3.length)),(35,.d (ci i))])
  (J:=λi=>(1,.cells false (x.aT1.map A.d))::QA x.parents (xY (oW x.parents) (x.aU3.take i))) (μ:=λi=>x.aU3.length -i) 1000 0 ⟨oM,rfl⟩ ?_ ?_
 ·refine cN.freeze [180] tV ⟨.same _,.same _,.same _,.same _,.same _,GR (qD (by simp only[aB])),.same _,tV⟩ ⟨⟨rfl,_,rfl,.cells (.same _)⟩,⟨rfl,_,rfl,.cells (.cons (.same _) (.cons (.same _) (.cons (.same _) (.cons (.same _) (.cons (.same _) (.cons (.rd (.dU (eX rfl rfl))) (.same _)))))))⟩,⟨rfl,_,rfl,.fW (.same _)⟩,⟨rfl,_,rfl,.mp rfl (.same _)⟩,⟨rfl,_,rfl,.mp rfl (.same _)⟩,tV⟩ ?_ ?_
  ·exact⟨⟨sn,tV⟩,tV,tV,⟨sn,tV⟩,tV,tV,tV,tV⟩
  ·exact⟨tV,⟨sn,sn,sn,tV⟩,aZ,tV,tV,tV⟩
 rintro i ⟨hi,h0⟩;have hcu:(xY (oW x.parents) (x.aU3.take i)).length=x.parents.length+1:=by rw[RX];simp[oW]
 repeat'(first|refine bl ?_|refine bS (λh=>?_) (λh=>?_)|refine cD rfl eD aM (bw ?_)|refine aHH (i -1) oM rfl eD oM (bw ?_))
 ·refine nC _ ?_;rw[tO,<-h0,C3 _ _ _ aM,OE _ _ aM oM];rw[show K3 (some x.aU3[i -1]) x.aU3[i]=false from aU0 oM,c0,c0,c0]
 ·have cX:i<x.aU3.length:=aM;have hpv:K3 (EM x.aU3 i) x.aU3[i]=true:=by rw[OE _ _ aM oM];exact aUZ aM
  rw[C3 _ _ _ cX,hpv,cA]at h0;have heq:(w0 x.parents (xY (oW x.parents) (x.aU3.take i))).vF x.aU3[i]=(decide (0<x.aU3[i])&&decide (x.aU3[i]<((x.parents.length+1:Nat):Int))):=by simp[D4.vF,w0]
  rw[<-heq]at h0;by_cases he:(w0 x.parents (xY (oW x.parents) (x.aU3.take i))).vF x.aU3[i]=true
  ·refine dZ.mk (.d (ci 0)) [(164,PR ((xY (oW x.parents) (x.aU3.take i)).set x.aU3[i].toNat true))] (aJ.l8 (G9 x.parents _ x.aU3[i] hcu he) ⟨sn,tV⟩ ⟨rfl,rfl,rfl,rfl,tV⟩ ⟨⟨sn,sn,sn,tV⟩,aZ,tV,tV,tV⟩ ⟨.inl sn,tV⟩) ?_;conv=>whnf
   refine bl ?_;refine⟨i+1,oM,⟨oM,?_⟩,?_⟩
   ·rw[he,cA]at h0;exact h0
   ·rw[NB _ _ _ cX];exact mZ
  ·refine dZ.mk (.d (ci 2)) [] (aJ.l8 (JF x.parents _ x.aU3[i] (by simpa using he)) ⟨sn,tV⟩ ⟨rfl,rfl,rfl,rfl,tV⟩ ⟨⟨sn,sn,sn,tV⟩,aZ,tV,tV,tV⟩ tV) ?_;conv=>whnf
   refine bl ?_;refine nC _ ?_;rw[tO,<-h0,show(w0 x.parents (xY (oW x.parents) (x.aU3.take i))).vF x.aU3[i]=false by simpa using he,c0,c0]
 ·have cX:i<x.aU3.length:=aM
  have hpv:K3 (EM x.aU3 i) x.aU3[i]=true:=by have q:i=0:=by assumption
                                             subst q;rfl
  rw[C3 _ _ _ cX,hpv,cA]at h0;have heq:(w0 x.parents (xY (oW x.parents) (x.aU3.take i))).vF x.aU3[i]=(decide (0<x.aU3[i])&&decide (x.aU3[i]<((x.parents.length+1:Nat):Int))):=by simp[D4.vF,w0]
  rw[<-heq]at h0;by_cases he:(w0 x.parents (xY (oW x.parents) (x.aU3.take i))).vF x.aU3[i]=true
  ·refine dZ.mk (.d (ci 0)) [(164,PR ((xY (oW x.parents) (x.aU3.take i)).set x.aU3[i].toNat true))] (aJ.l8 (G9 x.parents _ x.aU3[i] hcu he) ⟨sn,tV⟩ ⟨rfl,rfl,rfl,rfl,tV⟩ ⟨⟨sn,sn,sn,tV⟩,aZ,tV,tV,tV⟩ ⟨.inl sn,tV⟩) ?_;conv=>whnf
   refine bl ?_;refine⟨i+1,oM,⟨oM,?_⟩,?_⟩
   ·rw[he,cA]at h0;exact h0
   ·rw[NB _ _ _ cX];exact mZ
  ·refine dZ.mk (.d (ci 2)) [] (aJ.l8 (JF x.parents _ x.aU3[i] (by simpa using he)) ⟨sn,tV⟩ ⟨rfl,rfl,rfl,rfl,tV⟩ ⟨⟨sn,sn,sn,tV⟩,aZ,tV,tV,tV⟩ tV) ?_;conv=>whnf
   refine bl ?_;refine nC _ ?_;rw[tO,<-h0,show(w0 x.parents (xY (oW x.parents) (x.aU3.take i))).vF x.aU3[i]=false by simpa using he,c0,c0]
 have uJ:i=x.aU3.length:=oM;subst uJ;rw[dT (bT _),E7]at h0;rw[<-h0,cA]at tO;rw[gX]at hcu⊢;generalize hC:xY (oW x.parents) x.aU3=C at hcu⊢;rw[show DU x=C from hC]at tO;refine fU (cs:=[.ip (w0 x.parents C).aT1]) (o4 _) (.v _) (.cons (aER rfl rfl rfl rfl) .nil) ?_;conv=>whnf
 skip
 refine WH kK kK (by simp only[w0,aS];omega) (by simp only[w0,aS];omega) kK rfl ?_;conv=>whnf
 refine bl ?_
 rw[show List.replicate (((w0 x.parents C).made.length:Nat):Int).toNat ((zc Tryz.prog 8 3).map A.d)=bE (iR (List.replicate (x.parents.length+1) 0)) by
  have e:zc Tryz.prog 8 3=[ci 0]:=kK
  rw[e];simp[bE,iR,w0]]
 refine bV mix (λi:Nat=>i<=x.aT4.length/\(∀t∈x.aT4.take i,t.ref<=AG x.aT4 i)/\ZE (oD x.parents C []) x.last (x.aT4.drop i) (AG x.aT4 i)=ZE (oD x.parents C []) x.last x.aT4 0) (I:=λi=>[(1,.lp 1 0),(2,.d H5),(3,.d (ci 0)),(4,.lp 212 0),(8,.h 1024),(9,.d (ci (AG x.aT4 i))),(63,.d (.sl 17 (x.aT4.map T4.aT1))),(64,.d (ci x.aT4.length)),(65,.d (ci i))])
  (J:=λi=>[(1,.cells false (x.aT1.map A.d)),(212,aJE x.parents C),(188,.mp false (Q8 (x.aT4.take i)) []),(196,.mp false [] []),(1024,dU 3 1 (iR (UR (x.parents.length+1) (x.aT4.take i))))]) (μ:=λi=>x.aT4.length -i) 2000 0 ⟨oM,sM,rfl⟩ ?_ ?_
 ·refine cN.freeze [164] tV ⟨.same _,.same _,.same _,.same _,.same _,.same _,.same _,GR (qD (by simp only[aB])),.same _,tV⟩ ⟨⟨rfl,_,rfl,.cells (.same _)⟩,⟨rfl,_,rfl,.cells (.cons (.same _) (.cons (.rd (.dU (eX rfl rfl))) (.same _)))⟩,⟨rfl,_,rfl,.mp rfl (.same _)⟩,⟨rfl,_,rfl,.mp rfl (.same _)⟩,⟨rfl,_,rfl,.fW (.same _)⟩,tV⟩ ?_ ?_
  ·exact⟨⟨sn,tV⟩,tV,tV,⟨sn,tV⟩,⟨sn,tV⟩,tV,tV,tV,tV,tV⟩
  ·exact⟨tV,⟨sn,sn,tV⟩,tV,tV,aZ,tV⟩
 rintro i ⟨hi,hrf,h1⟩
 repeat'(first|refine bl ?_|refine bS (λh=>?_) (λh=>?_)|refine cD rfl eD aM (bw ?_))
 ·refine nC _ ?_;rw[tO,<-h1,LW _ _ _ _ aM,aU0 oM];simp only[c0]
 ·refine nC _ ?_;rw[tO,<-h1,LW _ _ _ _ aM,show decide (x.aT4[i].ref<=x.last)=false from aU0 oM];simp only[c0,kL]
 ·have cX:i<x.aT4.length:=aM;have aWE:=aY cX;refine fU (cs:=[.ip (oD x.parents C (x.aT4.take i)).aT1,.agg x.aT4[i].bQ.aT1]) (aG9 (oD x.parents C (x.aT4.take i)) x.aT4[i].bQ (aXR _ aWE) (hhm _ aWE)) (.v _) (.cons (aNM rfl rfl rfl) (.cons (.agg (wJ.data _ x.aT4[i].bQ.aT1)) .nil)) ?_;rw[aAC];rw[LW _ _ _ _ cX,aUZ aM,aUZ aM,cA,cA]at h1;by_cases hfm:(oD x.parents C []).AA x.aT4[i].bQ=true
  case neg=>
   have hfm:(oD x.parents C []).AA x.aT4[i].bQ=false:=by simpa using hfm
   rw[hfm]at h1⊢;conv=>whnf
   refine bl ?_;refine nC _ ?_;rw[tO,<-h1];simp only[c0]
  rw[hfm,cA]at h1;rw[hfm];obtain⟨m1,m2,m3,m4⟩:=NS hfm;conv=>whnf
  refine bl ?_;refine fT (cs:=x.aT4[i].bQ.aT1) (yX x.aT4[i].bQ (by have:=aXR _ aWE;omega) m1 m2 m3) ?_;conv=>whnf
  refine bl ?_;refine .BP (aJ1 (λt:T4=>t.ref) (λt=>.d (.ip t.bQ.aT1)) _ _ eD) ?_ ?_
  ·unfold Q8;rw[wZ,mN.2 (λt ht=>by have:=hrf t ht;simp only[aUA];omega)];rfl
  conv=>whnf
  repeat'(first|refine bl ?_|refine bS (λh=>?_) (λh=>?_))
  ·have aZG:¬x.aT4[i].bQ.kind=14:=aM;have hsd:=m4 aZG;have hhr:0<=x.aT4[i].bQ.home/\x.aT4[i].bQ.home<(x.parents.length:Int)+1:=by
    simp only[D4.HU,oD,zrs,aS,aE,aUA]at hsd;omega
   obtain⟨k,hk⟩:∃k:Nat,x.aT4[i].bQ.home=k:=⟨x.aT4[i].bQ.home.toNat,oM⟩;have hkl:k<(UR (x.parents.length+1) (x.aT4.take i)).length:=by rw[ZF];omega
   have hbv:=aF1 (x.parents.length+1) x.aT4 i hi _ (aY hkl);refine lG.mk k hk (by simp only[bE,aB];exact hkl) ?_;conv=>whnf
   skip
   refine fZ.mk [.d (ci (UR (x.parents.length+1) (x.aT4.take i))[k])] (gB _ _ [ci (UR (x.parents.length+1) (x.aT4.take i))[k]] (by rw[cK,aC hkl];rfl)) ?_;conv=>whnf
   refine bl ?_;refine lG.mk k hk (by simp only[bE,aB];exact hkl) ?_;conv=>whnf
   skip
   refine fZ.mk [.d (ci (UR (x.parents.length+1) (x.aT4.take i))[k])] (gB _ _ [ci (UR (x.parents.length+1) (x.aT4.take i))[k]] (by rw[cK,aC hkl];rfl)) ?_;conv=>whnf
   refine bl ?_;refine⟨i+1,oM,⟨oM,?_,h1⟩,?_⟩
   ·intro t ht;rw[aT cX,bN]at ht;have BB:AG x.aT4 (i+1)=x.aT4[i].ref:=by rw[AG,aC cX];rfl
    rw[BB];rcases ht with ht|ht
    ·have:=hrf t ht;omega
    ·simp only[aR]at ht;subst ht;omega
   ·rw[LX _ _ _ cX,yV,aT7 aZG,E3 _ _ cX];refine cN.freeze [2232] tV ⟨.same _,.same _,.same _,.same _,.same _,GR (by show A.d (ci _)=A.d (ci _);rw[AG,aC cX];rfl),.same _,.same _,GR (by show A.d (ci _)=A.d (ci _);simp),tV⟩ ⟨⟨rfl,_,rfl,.cells (.same _)⟩,⟨rfl,_,rfl,.cells (.same _)⟩,⟨rfl,_,rfl,.mp (by simp only[bP];rfl) (by rw[bP,bP];exact IX.append (.same _) (.cons (.rd (.lp (eX rfl rfl) (wJ.data _ x.aT4[i].bQ.aT1))) (.same _)))⟩,⟨rfl,_,rfl,.mp rfl (.same _)⟩,⟨rfl,_,rfl,aLU (by rw[show x.aT4[i].bQ.home.toNat=k by omega,bF,aC hkl,gZ];exact(tU _ k [ci ((UR (x.parents.length+1) (x.aT4.take i))[k]+1)]).trans (by rw[<-List.map_set]))⟩,tV⟩ ?_ ?_
    ·exact⟨⟨sn,tV⟩,tV,tV,⟨sn,tV⟩,⟨sn,tV⟩,tV,tV,tV,tV,tV⟩
    ·exact⟨tV,⟨sn,sn,tV⟩,by rw[<-E3 _ _ cX];exact aF0 _,tV,aZ,tV⟩
  ·refine⟨i+1,oM,⟨oM,?_,h1⟩,?_⟩
   ·intro t ht;rw[aT cX,bN]at ht;have BB:AG x.aT4 (i+1)=x.aT4[i].ref:=by rw[AG,aC cX];rfl
    rw[BB];rcases ht with ht|ht
    ·have:=hrf t ht;omega
    ·simp only[aR]at ht;subst ht;omega
   ·rw[LX _ _ _ cX,yV,aUF aM,E3 _ _ cX];refine cN.freeze [2232] tV ⟨.same _,.same _,.same _,.same _,.same _,GR (by show A.d (ci _)=A.d (ci _);rw[AG,aC cX];rfl),.same _,.same _,GR (by show A.d (ci _)=A.d (ci _);simp),tV⟩ ⟨⟨rfl,_,rfl,.cells (.same _)⟩,⟨rfl,_,rfl,.cells (.same _)⟩,⟨rfl,_,rfl,.mp (by simp only[bP];rfl) (by rw[bP,bP];exact IX.append (.same _) (.cons (.rd (.lp (eX rfl rfl) (wJ.data _ x.aT4[i].bQ.aT1))) (.same _)))⟩,⟨rfl,_,rfl,.mp rfl (.same _)⟩,⟨rfl,_,rfl,.fW (.same _)⟩,tV⟩ ?_ ?_
    ·exact⟨⟨sn,tV⟩,tV,tV,⟨sn,tV⟩,⟨sn,tV⟩,tV,tV,tV,tV,tV⟩
    ·exact⟨tV,⟨sn,sn,tV⟩,by rw[<-E3 _ _ cX];exact aF0 _,tV,aZ,tV⟩
 have uJ:i=x.aT4.length:=oM;subst uJ;rw[dT (bT _),ZE]at h1;rw[<-h1,cA]at tO;rw[gX];have hfb:=aF1 (x.parents.length+1) x.aT4 x.aT4.length (bT _);rw[gX]at hfb;have hfl:=ZF (x.parents.length+1) x.aT4;have hfr:YB x=(QF x.made (UR (x.parents.length+1) x.aT4)&&(decide (0<=x.last)&&(decide (x.last<=64*x.made.sum)&&((oD x.parents C x.aT4).sH&&decide (x.last+((oD x.parents C x.aT4).JW (lP x.aT4)).oL x.aT4<=64*x.made.sum))))):=by rw[<-hC];rfl
 rw[hfr]at tO;clear hfr;generalize hFh:UR (x.parents.length+1) x.aT4=Fh at hfb hfl tO⊢;refine bV mix (λa:Nat×Int=>a.1<=x.made.length/\QF (x.made.drop a.1) (Fh.drop a.1)=QF x.made Fh/\a.2=(x.made.take a.1).sum/\0<=a.2/\a.2<=512*a.1) (I:=λa=>[(1,.lp 1 0),(2,.d H5),(3,.d (ci 0)),(4,.lp 212 0),(8,.d (.sl 1 (iR Fh))),(13,.d (ci a.2)),(110,.d (.sl 1 (iR x.made))),(111,.d (ci x.made.length)),(112,.d (ci a.1))])
  (J:=λa=>[(1,.cells false (x.aT1.map A.d)),(212,.cells false ((oD x.parents C x.aT4).wA 196)),(196,.mp false [] [])]) (μ:=λa=>x.made.length -a.1) 3000 (0,0) ⟨sM,rfl,rfl,sM,sM⟩ ?_ ?_
 ·refine cN.freeze [188,1024] tV ⟨.same _,.same _,.same _,.same _,.rd (.dU (eX rfl rfl)),.same _,.same _,GR (qD (by simp only[aB])),.same _,tV⟩ ⟨⟨rfl,_,rfl,.cells (.same _)⟩,⟨rfl,_,rfl,.cells (.cons (.same _) (.cons (.same _) (.cons (.rd (aNL (eX rfl rfl))) (.same _))))⟩,⟨rfl,_,rfl,.mp rfl (.same _)⟩,tV⟩ ?_ ?_
  ·exact⟨⟨sn,tV⟩,tV,tV,⟨sn,tV⟩,tV,tV,tV,tV,tV,tV⟩
  ·exact⟨tV,⟨sn,tV⟩,tV,tV⟩
 rintro⟨i,sm⟩ ⟨hi,h2,hsm,hs0,hs1⟩;dsimp only at hi h2 hsm hs0 hs1⊢;have y4:=(xN _ _ _ _ h1.symm).2;have a0D:=aFO (oD x.parents C x.aT4) rfl aXR hlen y4;clear hrf h0 hpl n0 hml hhm
 repeat'(first|refine bl ?_|refine bS (λh=>?_) (λh=>?_)|refine cD rfl eD oM (bw ?_))
 ·refine nC _ ?_;rw[tO,<-h2,GA _ _ _ aM oM,aU0 oM];simp only[c0]
 ·refine nC _ ?_;rw[tO,<-h2,GA _ _ _ aM oM,show decide (x.made[i]<=512)=false from aU0 oM];simp only[c0,kL]
 ·have cX:i<x.made.length:=aM;have hF0:=hfb _ (aY (show i<Fh.length by omega));refine FC.mk (RG oM oM) ?_;conv=>whnf
  refine bl ?_;refine⟨(i+1,sm+x.made[i]),dM,⟨dM,?_,?_,dM,dM⟩,mZ⟩
  ·rw[GA _ _ _ cX oM,aUZ aM,aUZ aM,cA,cA]at h2;exact h2
  ·dsimp only;rw[aFZ _ _ cX,<-hsm]
 ·refine nC _ ?_;rw[tO,show decide (0<=x.last)=false from aU0 oM];simp only[c0,kL]
 ·refine nC _ ?_;rw[aI oM]at hsm;rw[tO,<-hsm,show decide (x.last<=64*sm)=false from aU0 oM];simp only[c0,kL]
 have uJ:i=x.made.length:=oM;subst uJ;rw[dT (bT _)]at h2;rw[<-h2,show QF [] (Fh.drop x.made.length)=true from rfl,cA,aUZ (by omega:0<=x.last),cA]at tO;rw[gX]at hsm;rw[<-hsm,aUZ (by omega:x.last<=64*sm),cA]at tO;by_cases hs:(oD x.parents C x.aT4).sH=true
 case neg=>
  have hs:(oD x.parents C x.aT4).sH=false:=by simpa using hs
  rw[show MY (oD x.parents C x.aT4)=.dead by unfold MY;rw[hs];rfl,hs]at a0D;refine xQ.BL (.d (cb false)) [(196,.dead)] (aJ.l8 a0D ⟨sn,tV⟩ ⟨rfl,rfl,tV⟩ ⟨⟨sn,tV⟩,tV,tV⟩ ⟨.inl sn,tV⟩) ?_;conv=>whnf
  refine bl ?_;refine nC _ ?_;rw[tO,hs];rfl
 rw[show MY (oD x.parents C x.aT4)=.mp false (l6 (lP x.aT4)) [] by unfold MY;rw[hs];rfl,hs]at a0D;have hac:=aFK hs;have hsb:=((oD x.parents C x.aT4).JW (lP x.aT4)).GU x.aT4;have a27:=((oD x.parents C x.aT4).JW (lP x.aT4)).GU ((oD x.parents C x.aT4).JW (lP x.aT4)).aT4;have a2U:((oD x.parents C x.aT4).JW (lP x.aT4)).oL x.aT4=((oD x.parents C x.aT4).JW (lP x.aT4)).oL ((oD x.parents C x.aT4).JW (lP x.aT4)).aT4:=rfl;have aXK:(((oD x.parents C x.aT4).JW (lP x.aT4)).aT4).length<=2^30:=hlen;rw[hs,cA]at tO;refine xQ.BL (.d (cb true)) [(196,.mp false (l6 (lP x.aT4)) [])] (aJ.l8 a0D ⟨sn,tV⟩ ⟨rfl,rfl,tV⟩ ⟨⟨sn,tV⟩,tV,tV⟩ ⟨.inl sn,tV⟩) ?_;conv=>whnf
 repeat'(first|refine bl ?_|refine bS (λh=>?_) (λh=>?_)|refine HA (cs:=[.ip ((oD x.parents C x.aT4).JW (lP x.aT4)).aT1]) (aFQ _ (HY.JW hac _) hlen) (.v _) (.cons (rdW rfl rfl) .nil) (bw ?_)|refine cH (G6 (iR x.made) (by simp only[aB];omega) sM) (bw ?_))
 ·refine nC _ ?_;rw[tO];exact aU0 oM
 ·have hB:y9 x=true:=by
   rw[tO];exact aUZ oM
  have hW:bJ x=(⟨x.parents,C,x.aT4,[],x.last,x.made⟩:D4).JW (lP x.aT4):=by
   unfold bJ;rw[hC];rfl
  refine aC8 hB ?_;rw[hW];exact rdW rfl rfl
structure D4.gA(w:D4):Prop where
 cR:∀t∈w.aT4,t.bQ.cR<=2^35
 len:w.aT4.length<=2^30
 nodup:(w.aT4.map (·.ref)).Nodup
 may:∀t∈w.aT4,t.bQ.value.may=true/\(∀i(h:i<t.bQ.values.length),t.bQ.values[i].may=true)/\(∀i(h:i<t.bQ.names.length),t.bQ.names[i].value.may=true)
 sides:0<w.made.length
theorem aEY(w:D4)(hw:0<w.made.length):Pu 156 [.d (.ip w.aT1)] (.d (cb false)):=by
 refine iC mix Tryz.func156 ?_
 repeat'(first|refine bl ?_|refine aF (o4 w) (bw ?_))
 all_goals(refine dP ?_;simp;intro e;rw[e]at hw;simp at hw)
theorem aE2(w:D4)(s:Int)(h1:-9223372036854775808<=s)(h2:s<=9223372036854775807):Pu 157 [.d (.ip w.aT1),.d (ci s)] (.d (cb (w.HU s))):=by
 refine iC mix Tryz.func157 ?_
 repeat'(first|refine bl ?_|refine bS (λh=>?_) (λh=>?_)|refine aF (o4 w) (bw ?_))
 all_goals(refine dP ?_;simp_all[D4.HU];try(intros;omega))
abbrev W4.zero:W4:=⟨0,0,V.zero,[],0,0,0,0,0,false,[],[]⟩
def D4.iI(w:D4)(r:Int):W4:=((w.find r).map (·.bQ)).getD W4.zero
def D4.aDH(w:D4)(r:Int):Int:=if w.mI r=true then 0 else 5
theorem aES:wJ m ([.d (.v (.int .u8 0)),.d (ci 0),.d (.v (.int .u8 0)),.d (ci 0),.d (.v (.string ByteArray.empty)),.d (.nl 5),.d (ci 0),.d (.nl 5),.d (ci 0),.d (ci 0),.d (ci 0),.d (ci 0),.d (.v (.int .u8 0)),.d (cb false),.d (.nl 17),.d (.nl 6)]:List A) W4.zero.aT1:=
 .cons (.d _) (.cons (.d _) (.cons (.d _) (.cons (.d _) (.cons (.d _) (.cons (.nz _ _) (.cons (.d _) (.cons (.nz _ _) (.cons (.d _) (.cons (.d _) (.cons (.d _) (.cons (.d _) (.cons (.d _) (.cons (.d _) (.cons (.nz _ _) (.cons (.nz _ _) .nil)))))))))))))))
theorem ZL(w:D4)(hg:w.gA)(r:Int):Pu 114 [.d (.ip w.aT1),.d (ci r)] (.eL [.d (.agg (w.iI r).aT1),.d (ci (w.aDH r))]):=by
 refine iC mix Tryz.func114 ?_
 repeat'(first|refine bl ?_|refine bS (λh=>?_) (λh=>?_)|refine aF (vQ w) (bw ?_)|refine aF (sB w r) (bw ?_))
 ·have hn:w.find r=none:=by
   have:=‹w.mI r=false›;unfold D4.mI at this;cases h:w.find r with
   |none=>rfl
   |some t=>rw[h]at this;simp at this
  have e1:w.iI r=W4.zero:=by unfold D4.iI;rw[hn];rfl
  have e2:w.aDH r=5:=by unfold D4.aDH;rw[aT7 (by simp_all)]
  rw[e1,e2];exact .eL (cs:=[.agg W4.zero.aT1,ci 5]) (.cons (.agg aES) (.cons (.d _) .nil))
 ·have hb:=‹w.mI r=true›;refine EA eD (λt ht=>?_) (λht=>?_)
  ·have hf:w.find r=some t:=ht;have hm:=cT ht;obtain⟨m1,m2,m3⟩:=hg.may t hm;conv=>whnf
   skip
   refine aF (yX t.bQ (by have:=hg.cR t hm;omega) m1 m2 m3) ?_;conv=>whnf
   refine bl ?_;have e1:w.iI r=t.bQ:=by unfold D4.iI;rw[hf];rfl
   have e2:w.aDH r=0:=by unfold D4.aDH;rw[aUF hb]
   rw[e1,e2];exact .eL (cs:=[.agg t.bQ.aT1,ci 0]) (.cons (.agg (wJ.data _ t.bQ.aT1)) (.cons (.d _) .nil))
  ·exfalso;have hf:w.find r=none:=ht;unfold D4.mI at hb;rw[hf]at hb;simp at hb
theorem SW(w:D4)(hg:w.gA)(r:Int):Pu 71 [.d (.ip w.aT1),.d (ci r)] (.eL [.d (.agg (w.iI r).aT1),.d (ci (w.aDH r))]):=by
 refine iC mix Tryz.func71 ?_
 repeat'(first|refine bl ?_|refine aF (ZL w hg r) (bw ?_))
 all_goals exact .eL (cs:=[.agg (w.iI r).aT1,ci (w.aDH r)]) (.cons (.agg (wJ.data _ (w.iI r).aT1)) (.cons (.d _) .nil))
def D4.nW(w:D4)(r:Int):List Int:=
 if w.aDH r≠0 then []
 else if(w.iI r).kind=14\/(w.iI r).kind=11 then [(w.iI r).of]
 else if(w.iI r).kind=15\/(w.iI r).kind=16 then [(w.iI r).of,(w.iI r).by_]
 else []
theorem AM(w:D4)(hg:w.gA)(r:Int):Pu 30 [.d (.ip w.aT1),.d (ci r)] (.eL [.d (.sl 1 (iR (w.nW r))),.d (ci (w.aDH r))]):=by
 refine iC mix Tryz.func30 ?_
 repeat'(first|refine bl ?_|refine bS (λh=>?_) (λh=>?_)|refine aF (SW w hg r) (bw ?_))
 all_goals
  unfold D4.nW
  first
  |(rw[aUF aM];exact .eL (cs:=[.sl 1 [],ci (w.aDH r)]) (.cons (.nz _ _) (.cons (.d _) .nil)))
  |(rw[aT7 oM,aUF oM];rw[show w.aDH r=0 by assumption];exact .eL (cs:=[.sl 1 (iR [(w.iI r).of]),ci 0]) (.cons (.dU (t:=25) rfl) (.cons (.d _) .nil)))
  |(rw[aT7 oM,aT7 oM,aUF oM];rw[show w.aDH r=0 by assumption];exact .eL (cs:=[.sl 1 (iR [(w.iI r).of,(w.iI r).by_]),ci 0]) (.cons (.dU (t:=25) rfl) (.cons (.d _) .nil)))
  |(rw[aT7 oM,aT7 oM,aT7 oM];rw[show w.aDH r=0 by assumption];exact .eL (cs:=[.sl 1 [],ci 0]) (.cons (.nz _ _) (.cons (.d _) .nil)))
def jL(L:List N4):List Int:=(L.map λn=>n.value.eI).flatten
theorem D0(L:List N4)(hL:V.dB (L.map (·.value))+L.length<=2^35):Pu 50 [.d (.sl 6 (L.map N4.aT1))] (.d (.sl 1 (iR (jL L)))):=by
 have SU:∀i(h:i<L.length),L[i].value.cR<=2^35:=λi h=>by
  have:=V.dG (L.map (·.value)) i (by simpa using h);rw[fO]at this;omega
 have hr2:∀i,(((L.take i).map λn=>n.value.eI).flatten).length<=V.dB (L.map (·.value)):=λi=>by
  have h3:=qN ((L.take i).map (·.value));rw[bH]at h3;have h4:=V.kA (L.map (·.value)) i;rw[<-List.map_take]at h4;exact cL h3 h4
 refine iC mix Tryz.func50 ?_;refine bl ?_;refine bV mix (λa:Nat×List Int=>a.1<=L.length/\a.2=((L.take a.1).map λn=>n.value.eI).flatten) (I:=λa=>[(6,.d (.sl 6 (L.map N4.aT1))),(7,.d (ci L.length)),(3,lv 1 900 (iR a.2)),(8,.d (ci a.1))])
  (J:=λa=>lm 900 25 1 (iR a.2) []) (μ:=λa=>L.length -a.1) 1000 (0,[]) ⟨sM,sM⟩ mZ ?_
 rintro⟨i,Q⟩ ⟨hi,hQ⟩;dsimp only at hi hQ⊢;have hlen:Q.length<=2^36:=by
  have h1:=hr2 i;rw[hQ];omega
 cases Q with
 |nil=>
  show vc _ _ _ _ _ [] _ _
  repeat'(first|refine bl ?_|refine bS (λh=>?_) (λh=>?_))
  ·refine cD rfl eD h ?_;have eB:((L.take (i+1)).map λn=>n.value.eI).flatten=((L.take i).map λn=>n.value.eI).flatten++L[i].value.eI:=by rw[iU (λn:N4=>n.value.eI) L i h]
   conv=>whnf
   refine bl ?_;refine dR (jG L[i].value (SU i h)) (.cons (.agg L[i].value.aT1) .nil) ?_;have hq:=L[i].value.iY;have WI:=SU i h;conv=>whnf
   skip
   refine n8 (by simp only[aB];omega) kK ?_;conv=>whnf
   refine E9.mk (λh1=>?_) (λh1=>?_)
   ·have h1:L[i].value.eI=[]:=by simpa using h1
    conv=>whnf
    refine bl ?_;refine⟨(i+1,[]),dM,⟨dM,by dsimp only;rw[eB,h1,dS,<-hQ]⟩,?_⟩;exact mZ
   ·have h1:L[i].value.eI≠[]:=by simpa using h1
    conv=>whnf
    refine bl ?_;refine⟨(i+1,L[i].value.eI),dM,⟨dM,by dsimp only;rw[eB,<-hQ,bZ]⟩,?_⟩;cases wV:L[i].value.eI with
    |nil=>exact absurd wV h1
    |cons r Q=>
     dsimp only[iR,List.map_cons,lv,lm];exact mv 1072 900
     all_goals exact cO rfl (by rw[wV];rfl)
  ·have e:L.take i=L:=aI oM;rw[e]at hQ;rw[show jL L=_ from hQ.symm];exact .one (.nz _ _)
 |cons r Q=>
  show vc _ _ _ _ _ [(900,dU 25 1 (iR (r::Q))),] _ _
  repeat'(first|refine bl ?_|refine bS (λh=>?_) (λh=>?_))
  ·refine cD rfl eD h ?_;have eB:((L.take (i+1)).map λn=>n.value.eI).flatten=((L.take i).map λn=>n.value.eI).flatten++L[i].value.eI:=by rw[iU (λn:N4=>n.value.eI) L i h]
   conv=>whnf
   refine bl ?_;refine dR (jG L[i].value (SU i h)) (.cons (.agg L[i].value.aT1) .nil) ?_;have hq:=L[i].value.iY;have WI:=SU i h;conv=>whnf
   skip
   refine n8 (by simp only[aB,bE];omega) kK ?_;conv=>whnf
   refine bl ?_;refine⟨(i+1,r::(Q++L[i].value.eI)),dM,⟨dM,by dsimp only;rw[eB,<-hQ];rfl⟩,?_⟩;refine mq 1072 900 ?_
   all_goals exact cO rfl (gG (r::Q) L[i].value.eI)
  ·have e:L.take i=L:=aI oM;rw[e]at hQ;rw[show jL L=_ from hQ.symm];exact .one (.dU (t:=25) rfl)

theorem aLG(a:Int):Pu 220 [.d (ci a)] (.d (cb false)):=by
 refine iC mix Tryz.func220 ?_;refine bl ?_;refine dP ?_;simp
abbrev iG(d:Array Int):R:=dU 25 1 (iR d.toList)
abbrev eF(a b:Int):Bool:=decide (a<b)
def aNN:Go.Shelf.Ren:=⟨λx=>if x=43 then 107 else x,λx=>if x=22 then 31 else if x=23 then 25 else x,λx=>x⟩
theorem aNE:SlLaysE.n43 Tryz.prog aNN where
 mixed:=mix
 f43:=⟨Tryz.f107.name,kK,kK⟩
 t0:=kK
 a0:=λw=>by rfl
 z0:=λw=>by rfl
 v0:=λw=>by rfl
 t3:=kK
 a3:=λw=>by rfl
 z3:=λw=>by rfl
 v3:=λw=>by rfl
 t4:=kK
 a4:=λw=>by rfl
 z4:=λw=>by rfl
 v4:=λw=>by rfl
 t22:=kK
 a22:=λw=>by rfl
 z22:=λw=>by rfl
 v22:=λw=>by rfl
 a23:=λw=>by rfl
 z23:=λw=>by rfl
abbrev encI:Int->Value:=Value.int .i64
theorem aNI:OneCell encI:=λx=>rfl
theorem VG{w:World}{M:Nat->Prop}{m:Mem}{ρ:Nat->Value}:∀(L:List Int)(ys:List Value),A.bR w M m ρ (bE (iR L)).flatten ys↔ys=L.map encI
 |[],ys=>by simp[bE,A.bR]
 |x::L,ys=>by
  have ih:=VG (w:=w) (M:=M) (m:=m) (ρ:=ρ) L;simp only[bE,iR,aG,dL,bM,qY,A.bR,A.Den,C.Den]at ih⊢;constructor
  ·rintro⟨y,yr,rfl,rfl,h⟩;rw[(ih yr).1 h]
  ·intro h;exact⟨encI x,L.map encI,h,rfl,(ih _).2 rfl⟩
def DH(d:Array Int):Array Int:=(Go.Lib.compactUpTo d d.size).toArray
theorem PJ(d:Array Int):(Go.Lib.compactUpTo d d.size).length<=d.size:=by
 unfold Go.Lib.compactUpTo;rw[aB];exact cL (List.length_filter_le _ _) sM
theorem XQ(d:Array Int)(h:0<d.size):0<(Go.Lib.compactUpTo d d.size).length:=by
 unfold Go.Lib.compactUpTo;rw[aB];have:0∈(List.range d.size).filter (Go.Lib.keeps d):=jU.2 ⟨jI.2 h,by simp[Go.Lib.keeps]⟩;exact List.length_pos_of_mem this
theorem VD(d:Array Int)(h1:0<d.size)(hd:d.size<=2^40):aJ Tryz.prog 107 [.h 0] (aK [(0,iG d)]) (.ok (.h 1)) (aH (aK [(0,iG d)]) [(0,.dead),(1,iG (DH d))]):=by
 refine⟨kK,?_⟩;intro N T M0 S0 w0 ρ a w hs cX vs P2;have hm0:aK [(0,iG d)] 0=some (iG d):=rfl;have PE:∀i r,aK [(0,iG d)] i=some r->i=0/\r=iG d:=by
  intro i r h;simp only[aK]at h;cases hb:Nat.beq 0 i with
  |true=>rw[hb]at h;simp only[cond_true,aA]at h;exact⟨(bB hb).symm,h.symm⟩
  |false=>rw[hb]at h;cases h
 obtain⟨xs,aWZ,aWJ,hlen,hfz,aX5⟩:=hs.res 0 _ hm0;have hxs:=(VG _ _).1 aWJ;have hrl:(bE (iR d.toList)).length=d.size:=by simp[bE]
 rw[hrl]at aWZ;rcases aWZ with⟨rfl,hn,_⟩|⟨LR,g,o,cap,cur,hρ,hcp,hg,hnc,hcm,aXM,htk⟩
 ·omega
 simp only[A.bR,A.Den]at P2;obtain⟨y,yr,rfl,hy,rfl⟩:=P2;have hyv:=eH hy hm0 (λe=>by cases e);rw[hρ]at hyv;subst hyv;have hc:∀j(h:j<d.size),w.cell? ⟨g,o+j,none⟩=some (encI d[j]!):=by
  intro j h;have:=vV.cells (.inr ⟨LR,g,o,cap,cur,rfl,hcp,hg,hnc,hcm,aXM,htk⟩) rfl j (encI d[j]!) (by rw[hxs];simp[h]);exact this
 have hH:Go.Sort.Holds encI w g o d:=λj h=>⟨hc j h,by unfold World.frozen?;rw[hg];simp⟩;have aVN:=AnyE.slices_Compact aNE encI aNI (EqlAt.intD _ _ _) (NeqAt.intD _ _ _) (0:Int) (λw=>by rfl) g o cap d w hH oM hnc;refine aVN.mono ?_;rintro e w' ⟨rfl,q,rfl⟩;have n0:=PJ d;have a14:=XQ d h1;generalize hL:Go.Lib.compactUpTo d d.size=L at n0 a14;have hcA:DH d=L.toArray:=by unfold DH;rw[hL]
 rw[hcA];generalize y4:(L++List.replicate (d.size -L.length) (0:Int)).toArray=nd;have a21:nd.size=d.size:=by rw[<-y4];simp;omega
 have hgw:(Go.Sort.putRow encI (Go.Sort.ahead w q) g o nd).heap[g]?=some (.cells (Go.Sort.putCells encI o nd cur) 25 (0,0)):=by
  unfold Go.Sort.putRow Go.Sort.mapBlock;simp only[fN,if_true];rw[show(Go.Sort.ahead w q).heap=w.heap from rfl,hg];rfl
 have aW2:iF (λb=>b=g) w (Go.Sort.putRow encI (Go.Sort.ahead w q) g o nd):=
  ⟨rfl,rfl,rfl,by simp[Go.Sort.ahead],λb hb hn=>by
    unfold Go.Sort.putRow Go.Sort.mapBlock;simp only[fN];rw[aT7 (λe=>hn e.symm)]
    rfl⟩
 generalize hwE:Go.Sort.putRow encI (Go.Sort.ahead w q) g o nd=w' at hgw aW2;let ρ':Nat->Value:=dW ρ 1 (.slice (some ⟨g,o,none⟩) L.length cap);have hgm:dD M0 (aK [(0,iG d)]) ρ g:=.inr ⟨0,_,hm0,rfl,by rw[hρ];simp[jK];omega⟩;have hgo:=hs.own 0 _ g hm0 rfl (by rw[hρ];simp[jK];omega);have a0F:jK (ρ' 1)=some g:=by
  show jK (dW ρ 1 _ 1)=_;simp[dW,jK];omega
 have hm2:∀i r,aH (aK [(0,iG d)]) [(0,.dead),(1,iG L.toArray)] i=some r->(i=0/\r=.dead)\/(i=1/\r=iG L.toArray):=by
  intro i r hi;simp only[aH,aX]at hi;split at hi
  ·rename_i e;exact .inr ⟨e,(eY hi).symm⟩
  ·split at hi
   ·rename_i e;exact .inl ⟨e,(eY hi).symm⟩
   ·rename_i e1 e2;exact absurd (PE i r hi).1 e2
 have eB:dV (dD M0 (aK [(0,iG d)]) ρ) w w':=aW2.stays λb _ e=>by rw[e];exact hgm
 have Q2:∀b,dD M0 (aH (aK [(0,iG d)]) [(0,.dead),(1,iG L.toArray)]) ρ' b->b<w.heap.size->dD M0 (aK [(0,iG d)]) ρ b:=by
  rintro b (e|⟨i,r,e1,e2,e3⟩) _
  ·exact .inl e
  ·rcases hm2 i r e1 with⟨rfl,rfl⟩|⟨rfl,rfl⟩
   ·cases e2
   ·rw[a0F]at e3;rw[<-Option.some.inj e3];exact hgm
 have hon:gL (aK [(0,iG d)]) (aH (aK [(0,iG d)]) [(0,.dead),(1,iG L.toArray)]) ρ ρ':=by
  intro i hi;cases hq:aK [(0,iG d)] i with
  |none=>exact absurd hq hi
  |some r=>
   obtain⟨rfl,rfl⟩:=PE i r hq;exact⟨by simp[aH,aX],λhd=>absurd (by simp[aH,aX]) hd⟩
 refine⟨ρ',?_,hon,?_⟩
 ·exact{keeps:=hs.keeps.trans aW2 λb hb e=>by subst e;exact hgo.1.resolve_left oM
        size:=hs.size
        defers:=λds e=>eJ eB Q2 hon _ _ (hs.defers ds e)
        tmps:=λk=>A.dC eB Q2 hon _ _ (hs.tmps k)
        res:=λi r hi=>by
         rcases hm2 i r hi with⟨rfl,rfl⟩|⟨rfl,rfl⟩
         · trivial
         · refine⟨L.map encI,?_,(VG _ _).2 sM,?_,(λe=>by cases e),?_⟩
           · refine .inr ⟨by simp[bE],g,o,cap,_,?_,hcp,hgw,?_,hcm,?_,?_⟩
             · show dW ρ 1 _ 1=_
               simp[dW,bE]
             · simp[bE];omega
             · simp[Go.Sort.putCells];omega
             · simp only[bE,aB,Nat.mul_one]
               refine iQ λj=>?_;rw[cM];by_cases hj:j<L.length
               · rw[aUF (by simpa using hj),eA,jH]
                 unfold Go.Sort.putCells;rw[Array.getElem?_mapIdx,cF (by omega:o+j<cur.size)];simp only[dF];rw[aUF oM];have e1:o+j -o=j:=oM;rw[e1,<-y4];simp[hj,bX hj]
               · rw[aT7 (by simpa using hj),c8 (by simpa using hj)]
           · intro e he
             simp only[bE,iR,aA4]at he;obtain⟨x,⟨y,_,rfl⟩,rfl⟩:=he;rfl
           · intro u hu
             obtain⟨x,_,rfl⟩:=aA4.1 hu;rfl
        own:=λi r b hi hl hb=>by
         rcases hm2 i r hi with⟨rfl,rfl⟩|⟨rfl,rfl⟩
         · cases hl
         · rw[a0F]at hb
           have:=eY hb;subst this;exact⟨hgo.1,hgo.2.1,cG hgo.2.2 aW2.size⟩
        apart:=λi j r s b hi l1 hj l2 c1 c2=>by
         rcases hm2 i r hi with⟨rfl,rfl⟩|⟨rfl,rfl⟩
         · cases l1
         · rcases hm2 j s hj with⟨rfl,rfl⟩|⟨rfl,rfl⟩
           · cases l2
           · rfl}
 ·refine⟨_,rfl,?_⟩;simp only[A.Den];refine⟨by simp[aH,aX],λ_=>?_⟩;show _=dW ρ 1 _ 1;simp[dW]
end Go.Pv
