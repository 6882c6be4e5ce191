import Derived.Test.YtpdcbahjjmooiaaGreatH17
import Derived.Shelf.SortG.Plain
import Derived.Shelf.SortG.SortNone
/- A program logic over the model, contracts of the functions that the law reaches: part 18. (Names and blanks were shortened by program.) -/
set_option linter.unusedVariables false
set_option linter.unusedSimpArgs false
set_option linter.constructorNameAsVariable false
set_option linter.unusedSectionVars false
set_option linter.deprecated false
set_option maxRecDepth 100000
set_option maxHeartbeats 8000000
open Go Go.Proofs
namespace Go.Pv
open Go.RowKit
variable{r:Int}{F:List (Int×Int)}{P:Program}{kt:TypeId}{k1:A->Prop}{k0:Prop}{kv:List (Ky×A)}{ml:List (Nat×R)}{fz:Bool}
theorem j4(d:Array Int):(Go.Sort.sort eF d).toList=d.toList.mergeSort (λx y=>decide (x<=y)):=by
 have:=Go.Sort.sortInt d.toList;rw[sJ]at this;exact this
theorem xM(d:Array Int):(Go.Sort.sort eF d).size=d.size:=by
 have:=congrArg List.length (j4 d);simpa using this
theorem j5(f:FuncId)(hf:kW Tryz.prog f=true)(hc:∀(jK off cap:Nat)(zs:List Int)(w:World),Go.Sort.Holds encI w jK off zs.toArray->jK<w.heap.size->zs.length<4611686018427387904->Calls Tryz.prog f #[.slice (some ⟨jK,off,none⟩) zs.length cap] w λe w'=>e=.returned (.tuple #[])/\∃n os,w'=Go.Sort.grow (Go.Sort.putRow encI (Go.Sort.ahead w n) jK off (zs.mergeSort λx y=>decide (x<=y)).toArray) os)(d:Array Int)(h1:0<d.size)(hd:d.size<=2^39):
 aJ Tryz.prog f [.h 0] (aK [(0,iG d)]) (.ok (.eL [])) (aH (aK [(0,iG d)]) [(0,iG (Go.Sort.sort eF d))]):=by
 refine⟨hf,?_⟩;intro N T M0 S0 w0 ρ a w hs cX vs P2;have hm0:aK [(0,iG d)] 0=some (iG d):=rfl;obtain⟨xs,aWZ,aWJ,hlen,hfz,aX5⟩:=hs.res 0 _ hm0;have hxs:=(VG _ _).1 aWJ;have hrl:(bE (iR d.toList)).length=d.size:=by simp[bE]
 rw[hrl]at aWZ;rcases aWZ with⟨rfl,hn,_⟩|⟨LR,g,o,cap,cur,hρ,hcp,hg,hnc,hcm,aXM,htk⟩
 ·omega
 simp only[A.bR,A.Den]at P2;obtain⟨y,yr,rfl,hy,rfl⟩:=P2;have hyv:=eH hy hm0 (λe=>by cases e);rw[hρ]at hyv;subst hyv;have hH:Go.Sort.Holds encI w g o d.toList.toArray:=λj h=>by
  have h:j<d.size:=by simpa using h
  refine⟨?_,by unfold World.frozen?;rw[hg];simp⟩;have:=vV.cells (.inr ⟨LR,g,o,cap,cur,rfl,hcp,hg,hnc,hcm,aXM,htk⟩) rfl j (encI d[j]!) (by rw[hxs];simp[h]);simpa using this
 have hgo:=hs.own 0 _ g hm0 rfl (by rw[hρ];simp[jK];omega);have aVN:=hc g o cap d.toList w hH hgo.2.2 zM;rw[c7]at aVN;refine aVN.mono ?_;rintro e w' ⟨rfl,q,os,rfl⟩;rw[<-j4 d,sJ];have vZ:=xM d;generalize Go.Sort.sort eF d=nd at vZ;have hgw:(Go.Sort.putRow encI (Go.Sort.ahead w q) g o nd).heap[g]?=some (.cells (Go.Sort.putCells encI o nd cur) 25 (0,0)):=by
  unfold Go.Sort.putRow Go.Sort.mapBlock;simp only[fN,if_true];rw[show(Go.Sort.ahead w q).heap=w.heap from rfl,hg];rfl
 have aW2:iF (λb=>b=g) w (Go.Sort.putRow encI (Go.Sort.ahead w q) g o nd):=
  ⟨rfl,rfl,rfl,by simp[Go.Sort.ahead],λb hb hn=>by
    unfold Go.Sort.putRow Go.Sort.mapBlock;simp only[fN];rw[aT7 (λe=>hn e.symm)]
    rfl⟩
 generalize Go.Sort.putRow encI (Go.Sort.ahead w q) g o nd=w1 at hgw aW2
 have EN:iF (λ_=>False) w1 (Go.Sort.grow w1 os):=⟨rfl,rfl,rfl,sM,λb hb _=>by
  unfold Go.Sort.grow
  exact fY hb⟩
 have hw:=hs.write (r':=iG nd) hm0 rfl rfl (λfz t es l' e=>by
  simp only[dU,R.fW.injEq]at e;obtain⟨rfl,rfl,rfl,rfl⟩:=e
  exact⟨false,25,_,rfl,by simp[bE,vZ]⟩) aW2 (λb _ e=>by rw[hρ,e];simp[jK];omega) (λhO eB hm=>?_)
 ·refine⟨ρ,?_,?_,⟨_,rfl,by simp[A.Den,A.bR]⟩⟩
  ·exact(hw.world (X:=λ_=>False) EN (λ_ _ e=>e.elim)).shrink λb e=>.inl e
  ·have h2:=gL.set (m:=aK [(0,iG d)]) (ρ:=ρ) 0 (iG nd) (ρ 0) (λ_ _=>⟨by rw[hm0];simp[dU],rfl,λfz t es l' e=>by
    rw[hm0]at e;simp only[dU,aA,R.fW.injEq]at e;obtain⟨rfl,rfl,rfl,rfl⟩:=e
    exact⟨false,25,_,rfl,by simp[bE,vZ]⟩⟩)
   rwa [jP]at h2
 ·refine⟨nd.toList.map encI,?_,(VG _ _).2 rfl,?_,(λe=>by cases e),?_⟩
  ·refine .inr ⟨by simp[bE],g,o,cap,_,?_,hcp,hgw,?_,hcm,?_,?_⟩
   ·rw[hρ];simp[bE,vZ]
   ·simp[bE];omega
   ·simp[Go.Sort.putCells];omega
   ·simp only[bE,aB,Nat.mul_one];refine iQ λj=>?_;rw[cM];by_cases hj:j<nd.toList.length
    ·have QB:j<nd.size:=by simpa using hj
     rw[aUF (by simpa using hj),eA,jH];unfold Go.Sort.putCells;rw[Array.getElem?_mapIdx,cF (by omega:o+j<cur.size)];simp only[dF];rw[aUF oM];have e1:o+j -o=j:=oM;rw[e1];simp[QB]
    ·rw[aT7 (by simpa using hj),c8 (by simpa using hj)]
  ·intro e he;simp only[bE,iR,aA4]at he;obtain⟨x,⟨y,_,rfl⟩,rfl⟩:=he;rfl
  ·intro u hu;obtain⟨x,_,rfl⟩:=aA4.1 hu;rfl
theorem KY(f:FuncId)(B:Func)(h1:Tryz.prog.funcs[f]?=some {B with name:=((Tryz.prog.funcs[f]?).getD Tryz.f0).name})(h2:(((Tryz.prog.funcs[f]?).getD Tryz.f0).name== "runtime.NumGoroutine")=false):Bears Tryz.prog f B:=⟨_,h2,h1⟩
def aAN:List (Nat×Nat):=[(53,106),(64,161),(63,160),(78,198),(79,199),(70,189),(71,190),(72,191),(73,192),(74,193),(75,194),(59,195),(76,196),(77,197),(88,215),(89,216),(90,217),(91,218),(92,219),(68,220),(96,234)]
def aA3:List (Nat×Nat):=[(22,31),(23,25),(51,223),(67,251),(69,194),(61,244),(60,243),(44,127),(75,271),(79,185),(83,289),(84,290)]
def aAX:Go.Shelf.Ren:=⟨λx=>((aAN.find? λp=>Nat.beq p.1 x).map (·.2)).getD x,λx=>((aA3.find? λp=>Nat.beq p.1 x).map (·.2)).getD x,λx=>x⟩
theorem NA:SlLaysN.n53 Tryz.prog aAX:=by
 constructor
 all_goals first|exact mix|exact KY _ _ kK kK|(intro w;rfl)|kernel_rfl
theorem Q5(d:Array Int)(h1:0<d.size)(hd:d.size<=2^39):aJ Tryz.prog 106 [.h 0] (aK [(0,iG d)]) (.ok (.eL [])) (aH (aK [(0,iG d)]) [(0,iG (Go.Sort.sort eF d))]):=
 j5 _ kK (λb o c zs w=>AnyG.slices_Sort_int NA b o c zs w) d h1 hd
theorem j6(c:C)(hc:∀w M y,C.Den w M c y->∃p cap,y=.slice p 0 cap):Pu 106 [.d c] (.eL []):=λm=>⟨kK,λN T M0 S0 w0 ρ a w hs cX vs P2=>by
 simp only[A.bR,A.Den]at P2;obtain⟨y,yr,rfl,hy,rfl⟩:=P2;obtain⟨p,cap,rfl⟩:=hc _ _ _ hy;refine(AnyG.slices_Sort_int_none NA p cap w).mono ?_;rintro e w' ⟨rfl,rfl⟩
 exact⟨ρ,hs,gL.refl m ρ,_,rfl,by simp[A.Den,A.bR]⟩⟩
theorem aFN:Pu 106 [.d (.nl 1)] (.eL []):=j6 _ λw M y h=>by
 simp only[C.Den]at h;exact⟨_,_,h⟩
theorem aQW:Pu 106 [.d (.sl 1 [])] (.eL []):=j6 _ λw M y h=>by
 simp only[C.Den]at h;obtain⟨a,cap,h,_⟩:=h;exact⟨_,_,h⟩
theorem rK(d:Array Int)(hd:d.size<=2^39):aJ Tryz.prog 106 [.h 0] (aK [(0,iG d)]) (.ok (.eL [])) (aH (aK [(0,iG d)]) [(0,iG (Go.Sort.sort eF d))]):=by
 by_cases h1:0<d.size
 ·exact Q5 d h1 hd
 have e:d= #[]:=jA oM;have es:=xM d;have e2:Go.Sort.sort eF d= #[]:=jA oM;rw[e2];subst e;have em:aH (aK [(0,iG #[])]) [(0,iG #[])]=aK [(0,iG #[])]:=by
  rw[hY];funext i;show aK [(0,iG #[]),(0,iG #[])] i=_;simp only[aK];cases Nat.beq 0 i<;>rfl
 rw[em];refine⟨kK,λN T M0 S0 w0 ρ a w hs cX vs P2=>?_⟩;have hm0:aK [(0,iG #[])] 0=some (iG #[]):=rfl;obtain⟨xs,aWZ,_⟩:=hs.res 0 _ hm0;simp only[A.bR,A.Den]at P2;obtain⟨y,yr,rfl,hy,rfl⟩:=P2;have hyv:=eH hy hm0 (λe=>by cases e);have hz:∃p cap,y=.slice p 0 cap:=by
  rcases aWZ with⟨_,_,a,h⟩|⟨_,g,o,cap,cur,h,_⟩
  ·exact⟨_,_,by rw[hyv,h]⟩
  ·exact⟨_,_,by rw[hyv,h];rfl⟩
 obtain⟨p,cap,rfl⟩:=hz;refine(AnyG.slices_Sort_int_none NA p cap w).mono ?_;rintro e w' ⟨rfl,rfl⟩;exact⟨ρ,hs,gL.refl _ ρ,_,rfl,by simp[A.Den,A.bR]⟩
theorem RW:Pu 107 [.d (.nl 1)] (.d (.nl 1)):=by
 refine iC mix Tryz.func107 ?_;refine bl ?_;exact .one (.d (.nl 1))
theorem aLE:Pu 107 [.d (.sl 1 [])] (.d (.sl 1 [])):=by
 refine iC mix Tryz.func107 ?_;refine bl ?_;exact .one (.d (.sl 1 []))
theorem PG:Pu 61 [.d (.nl 1)] (.d (.nl 1)):=by
 refine iC mix Tryz.func61 ?_;refine bl ?_;exact .one (.d _)
theorem xW(L:List Int)(hL:L.length<=2^38)(h0:L≠[]):∀(m:Mem)(d:Nat),m d=none->aJ Tryz.prog 61 [.d (.sl 1 (iR L))] m (.ok (.h d)) (aX m d (dU 25 1 (iR L))):=by
 refine iW mix (F:=A.h) (r:=dU 25 1 (iR L)) Tryz.func61 rfl kK (bD rfl) rfl (oJ _ _ _) (λ_ _=>rfl) (λi j hj=>by simpa [A.hs]using hj) (λg=>eT g _ _ _) ?_;refine bl ?_;refine BN.mk (λh=>absurd (by simpa using h) h0) ?_;conv=>whnf
 refine bl ?_;refine n8 (by simp only[aB,aS];omega) kK ?_;conv=>whnf
 refine bl ?_;exact⟨_,rfl,rfl⟩
def oZ(L:List Int):List Int:=(DH (Go.Sort.sort eF L.toArray)).toList
theorem AT:oZ []=[]:=by
 unfold oZ DH;have h:=xM (#[]:Array Int);have h2:=PJ (Go.Sort.sort eF #[]);have:Go.Lib.compactUpTo (Go.Sort.sort eF #[]) (Go.Sort.sort eF #[]).size=[]:=bL (by have:(#[]:Array Int).size=0:=rfl;omega);rw[this]
theorem xH(L:List Int):(oZ L).length<=L.length:=by
 unfold oZ DH;have h:=xM L.toArray;have h2:=PJ (Go.Sort.sort eF L.toArray);simp at h⊢;omega
theorem CY:Pu 49 [.d (.nl 1)] (.d (.nl 1)):=by
 refine iC mix Tryz.func49 ?_
 repeat'(first|refine bl ?_|refine aF PG (bw ?_)|refine aF aFN (bw ?_)|refine aF RW (bw ?_))
 exact .one (.d (.nl 1))
theorem aNQ:Pu 49 [.d (.sl 1 [])] (.d (.sl 1 [])):=by
 refine iC mix Tryz.func49 ?_
 repeat'(first|refine bl ?_|refine aF (G7 [] sM sM) (bw ?_)|refine aF aQW (bw ?_)|refine aF aLE (bw ?_))
 exact .one (.d (.sl 1 []))
def gC(i:Nat):Nat:=swp 0 500 (swp 1 501 i)
def gD(i:Nat):Nat:=swp 1 501 (swp 0 500 i)
theorem gCD(i:Nat):gD (gC i)=i:=by unfold gC gD;rw[fH,fH]
theorem gDC(i:Nat):gC (gD i)=i:=by unfold gC gD;rw[fH,fH]
theorem G8(d:Array Int)(h1:0<d.size)(hd:d.size<=2^40):aJ Tryz.prog 107 [.h 500] (aK [(500,iG d)]) (.ok (.h 501)) (aH (aK [(500,iG d)]) [(500,.dead),(501,iG (DH d))]):=by
 have k:=(VD d h1 hd).eZ gCD gDC;rw[rJ gCD gDC,tZ gCD gDC]at k;have e:lH gC [(0,iG d)]=[(500,iG d)]:=by
  simp only[lH,aG,bM,eT];rfl
 have e2:lH gC [(0,.dead),(1,iG (DH d))]=[(500,.dead),(501,iG (DH d))]:=by
  simp only[lH,aG,bM,eT];rfl
 rw[e,e2]at k;exact k
theorem WQ(L:List Int)(hL:L.length<=2^38)(h0:L≠[]):∀(m:Mem)(d:Nat),m d=none->aJ Tryz.prog 49 [.d (.sl 1 (iR L))] m (.ok (.h d)) (aX m d (dU 25 1 (iR (oZ L)))):=by
 refine iW mix (F:=A.h) (r:=dU 25 1 (iR (oZ L))) Tryz.func49 rfl kK (bD rfl) rfl (oJ _ _ _) (λ_ _=>rfl) (λi j hj=>by simpa [A.hs]using hj) (λg=>eT g _ _ _) ?_;have vZ:=xM L.toArray;have aWU:0<L.length:=gH.2 h0;have hLs:L.toArray.size=L.length:=sM
 repeat'(first|refine bl ?_|refine fQ (xW L hL h0) 500 rfl (bw ?_)|refine lN 500 (iG (Go.Sort.sort eF L.toArray)) ((Q5 L.toArray oM oM).AK (oJ _ _ _) (λg=>eT g _ _ _) (λg=>eT g _ _ _) rfl (by simp[A.lQ,A.hs]) (aK _) 500 rfl) (bw ?_)|refine dZ.mk (.h 501) [(500,.dead),(501,iG (DH (Go.Sort.sort eF L.toArray)))] (aJ.l8 (G8 _ oM oM) ⟨sn,tV⟩ ⟨rfl,tV⟩ ⟨aZ,tV⟩ ⟨.inl sn,.inr rfl,tV⟩) (bw ?_))
 exact⟨501,rfl,rfl⟩
theorem aPU(L:List Int)(hL:L.length<=2^38):Pu 49 [.d (.sl 1 (iR L))] (.d (.sl 1 (iR (oZ L)))):=by
 by_cases h0:L=[]
 ·subst h0;rw[AT];exact aNQ
 refine iC mix Tryz.func49 ?_;have vZ:=xM L.toArray;have aWU:0<L.length:=gH.2 h0;have hLs:L.toArray.size=L.length:=sM
 repeat'(first|refine bl ?_|refine fQ (xW L hL h0) 500 rfl (bw ?_)|refine lN 500 (iG (Go.Sort.sort eF L.toArray)) ((Q5 L.toArray oM oM).AK (oJ _ _ _) (λg=>eT g _ _ _) (λg=>eT g _ _ _) rfl (by simp[A.lQ,A.hs]) (aK _) 500 rfl) (bw ?_)|refine dZ.mk (.h 501) [(500,.dead),(501,iG (DH (Go.Sort.sort eF L.toArray)))] (aJ.l8 (G8 _ oM oM) ⟨sn,tV⟩ ⟨rfl,tV⟩ ⟨aZ,tV⟩ ⟨.inl sn,.inr rfl,tV⟩) (bw ?_))
 exact .one (.dU (t:=25) rfl)
def dl(L:List Int):A:=match L with
 |[]=>.d (.nl 1)
 |r::q=>.d (.sl 1 (iR (r::q)))
def W4.xB(x:W4):List Int:=(x.value.eI++jL x.names)++(x.values.map V.eI).flatten
def D4.oE(w:D4)(r:Int):List Int:=if w.aDH r≠0 then []else oZ (w.iI r).xB
theorem QC(w:D4)(hg:w.gA)(r:Int)(Q:A->List (Nat×R)->Prop)(q1:w.aDH r≠0->∀ml,Q (.eL [.d (.nl 1),.d (ci (w.aDH r))]) ml)(q2:w.aDH r=0->(w.iI r).xB=[]->∀ml,Q (.eL [.d (.nl 1),.d (ci 0)]) ml)
 (q3:w.aDH r=0->(w.iI r).xB≠[]->∀i ml,aK ml i=some (dU 25 1 (iR (oZ (w.iI r).xB)))->Q (.eL [.h i,.d (ci 0)]) ml):∀c,Tryz.f29.body=some c->vc Tryz.prog [] Tryz.f29.ntmps c (C9 0 [.d (.ip w.aT1),.d (ci r)]) [] 1 (JS Tryz.prog Tryz.f29 Q):=by
 intro c hc;cases hc
 repeat'(first|with_reducible (first|refine tG ?_|refine w9 ?_|refine nN.mk ?_)|((with_reducible refine wr ?_);(conv=>whnf))|((refine aF (SW w hg r) ?_);(conv=>whnf)))
 refine w1 (w1 ?_)
 repeat'(first|with_reducible (first|refine w2 ?_|refine w9 ?_|refine nN.mk ?_)|((with_reducible (first|refine wr ?_|refine wi ?_));(conv=>whnf))|((with_reducible refine nQ (λh=>?_) (λh=>?_))<;>(try rw[h])<;>(conv at h=>{simp})))
 ·skip
  refine bl ?_;exact q1 aM _
 have he:w.aDH r=0:=aM;have q2:=q2 he;have q3:=q3 he;have hx:(w.iI r).cR<=2^35:=by
  unfold D4.iI;cases hf:w.find r with
  |none=>exact bD rfl
  |some t=>exact hg.cR t (cT hf)
 generalize w.iI r=x at q2 q3 hx⊢;have hc:x.cR=x.value.cR+V.dB x.values+S4.dB x.code+x.names.length+V.dB (x.names.map (·.value)):=rfl;have wF:∀i(h:i<x.values.length),x.values[i].cR<=2^35:=λi h=>by have:=V.dG x.values i h;omega
 have hr0:=x.value.iY;have hvl:=V.eW x.values;have hr1:∀i,(((x.values.take i).map V.eI).flatten).length<=V.dB x.values:=λi=>cL (qN _) (V.kA _ _);have hr2:(jL x.names).length<=V.dB (x.names.map (·.value)):=by
  have h1:=qN (x.names.map (·.value));rw[bH]at h1;exact h1
 refine BH (λ_:Unit=>True) (λ_=>[(6,.lp 65 0),(8,lv 1 900 (iR (x.value.eI++jL x.names)))]) (λ_=>(65,.cells false (x.aT1.map A.d))::lm 900 25 1 (iR (x.value.eI++jL x.names)) []) 1000 ?_ ?_
 ·by_cases hv:x.value.eI=[]
  ·skip
   repeat'(first|refine bl ?_|refine jV (O4 x.value oM hv) (.cons (.agg x.value.aT1) .nil) (bw ?_)|refine cH (D0 x.names oM) (bw ?_))
   refine n8 (by simp only[aB];omega) kK ?_;conv=>whnf
   refine E9.mk (λh1=>?_) (λh1=>?_)
   ·have h1:jL x.names=[]:=by simpa using h1
    conv=>whnf
    refine bl ?_;refine⟨(),tV,?_⟩;rw[hv,h1];exact mZ
   ·have h1:jL x.names≠[]:=by simpa using h1
    conv=>whnf
    refine bl ?_;refine⟨(),tV,?_⟩;rw[hv,bZ];cases wV:jL x.names with
    |nil=>exact absurd wV h1
    |cons r0 Q0=>
     dsimp only[iR,List.map_cons,lv,lm];exact mv 153 900
     all_goals exact cO rfl rfl
  ·skip
   repeat'(first|refine bl ?_|refine xQ.fresh A.h (dU 25 1 (iR x.value.eI)) (λm d hd=>(O3 x.value oM hv m d hd).mR (.cons (.agg x.value.aT1) .nil)) rfl (bw ?_)|refine cH (D0 x.names oM) (bw ?_))
   refine n8 (by simp only[aB,bE];omega) kK ?_;conv=>whnf
   refine bl ?_;refine⟨(),tV,?_⟩;cases wV:x.value.eI with
   |nil=>exact absurd wV hv
   |cons r0 Q0=>
    dsimp only[iR,List.map_cons,List.cons_append,lv,lm];refine mq 153 900 ?_
    all_goals exact cO rfl (gG (r0::Q0) (jL x.names))
 rintro _ _;refine bl ?_;refine cY mix (λa:Nat×List Int=>a.1<=x.values.length/\a.2=(x.value.eI++jL x.names)++((x.values.take a.1).map V.eI).flatten) (I:=λa=>[(28,.d (.sl 5 (x.values.map V.row))),(29,.d (ci x.values.length)),(8,lv 1 900 (iR a.2)),(30,.d (ci a.1))])
  (J:=λa=>lm 900 25 1 (iR a.2) []) (μ:=λa=>x.values.length -a.1) 2000 (0,x.value.eI++jL x.names) 0
  (λQ:List Int=>Q=x.xB) (λQ=>[(8,dl Q)]) (λQ=>[]) 4000 ⟨sM,sM⟩ (by dsimp only;generalize x.value.eI++jL x.names=L1;cases L1<;>exact mZ) ?_ ?_
 ·rintro⟨i,Q⟩ ⟨hi,hQ⟩;dsimp only at hi hQ⊢;have hlen:Q.length<=2^36:=by
   have h1:=hr1 i;rw[hQ];simp only[aU];omega
  cases Q with
  |nil=>
   show vc _ _ _ _ _ [] _ _
   repeat'(first|refine bl ?_|refine bS (λh=>?_) (λh=>?_))
   ·refine eE V.cP rfl eD h ?_;have eB:(x.value.eI++jL x.names)++((x.values.take (i+1)).map V.eI).flatten=(x.value.eI++jL x.names)++((x.values.take i).map V.eI).flatten++x.values[i].eI:=by rw[iU V.eI x.values i h,<-List.append_assoc]
    conv=>whnf
    refine bl ?_;refine dR (jG x.values[i] (wF i h)) (.cons (.agg x.values[i].aT1) .nil) ?_;have hq:=x.values[i].iY;have WI:=wF i h;conv=>whnf
    skip
    refine n8 (by simp only[aB];omega) kK ?_;conv=>whnf
    refine E9.mk (λh1=>?_) (λh1=>?_)
    ·have h1:x.values[i].eI=[]:=by simpa using h1
     conv=>whnf
     refine bl ?_;refine⟨(i+1,[]),dM,⟨dM,by dsimp only;rw[eB,h1,dS,<-hQ]⟩,?_⟩;exact mZ
    ·have h1:x.values[i].eI≠[]:=by simpa using h1
     conv=>whnf
     refine bl ?_;refine⟨(i+1,x.values[i].eI),dM,⟨dM,by dsimp only;rw[eB,<-hQ,bZ]⟩,?_⟩;cases wV:x.values[i].eI with
     |nil=>exact absurd wV h1
     |cons r Q=>
      dsimp only[iR,List.map_cons,lv,lm];exact mv 2064 900
      all_goals first|exact cO rfl rfl|exact cO rfl (by rw[wV];rfl)
   ·rw[aI oM]at hQ;exact⟨[],hQ,mZ⟩
  |cons r Q=>
   show vc _ _ _ _ _ [(900,dU 25 1 (iR (r::Q))),] _ _
   repeat'(first|refine bl ?_|refine bS (λh=>?_) (λh=>?_))
   ·refine eE V.cP rfl eD h ?_;have eB:(x.value.eI++jL x.names)++((x.values.take (i+1)).map V.eI).flatten=(x.value.eI++jL x.names)++((x.values.take i).map V.eI).flatten++x.values[i].eI:=by rw[iU V.eI x.values i h,<-List.append_assoc]
    conv=>whnf
    refine bl ?_;refine dR (jG x.values[i] (wF i h)) (.cons (.agg x.values[i].aT1) .nil) ?_;have hq:=x.values[i].iY;have WI:=wF i h;conv=>whnf
    skip
    refine n8 (by simp only[aB,bE];omega) kK ?_;conv=>whnf
    refine bl ?_;refine⟨(i+1,r::(Q++x.values[i].eI)),dM,⟨dM,by dsimp only;rw[eB,<-hQ];rfl⟩,?_⟩;refine mq 2064 900 ?_
    all_goals exact cO rfl (gG (r::Q) x.values[i].eI)
   ·rw[aI oM]at hQ;exact⟨r::Q,hQ,cN.freeze [900] tV ⟨.rd (.dU (eX rfl rfl)),tV⟩ tV ⟨tV,tV⟩ tV⟩
 rintro Q hQ;subst hQ;have hlL:x.xB.length<=2^38:=by
  have h1:=hr1 x.values.length;rw[gX]at h1;unfold W4.xB;simp only[aU];omega
 cases hL:x.xB with
 |nil=>
  rw[hL]at q2
  repeat'(first|refine bl ?_|refine aF CY (bw ?_))
  exact q2 rfl _
 |cons r0 Q0=>
  rw[hL]at q3 hlL
  repeat'(first|refine bl ?_|refine fQ (WQ (r0::Q0) hlL sM) 5000 rfl (bw ?_))
  exact q3 sM 5000 _ rfl
theorem vN{w:D4}(h:w.aDH r=0):w.oE r=oZ (w.iI r).xB:=by unfold D4.oE;rw[aT7 (by simpa using h)]
theorem D8{w:D4}(h:w.aDH r≠0):w.oE r=[]:=by unfold D4.oE;rw[aUF h]
theorem aOL(w:D4)(hg:w.gA)(r:Int):Pu 29 [.d (.ip w.aT1),.d (ci r)] (.eL [.d (.sl 1 (iR (w.oE r))),.d (ci (w.aDH r))]):=by
 refine CV mix Tryz.func29 rfl kK (bD rfl) rfl (QC w hg r _ (λh ml=>?_) (λh h2 ml=>?_) (λh h2 i ml hi=>?_) _ rfl)
 ·rw[D8 h];exact .eL (cs:=[.sl 1 [],ci (w.aDH r)]) (.cons (.nz _ _) (.cons (.d _) .nil))
 ·rw[vN h,h2,AT,h];exact .eL (cs:=[.sl 1 [],ci 0]) (.cons (.nz _ _) (.cons (.d _) .nil))
 ·rw[vN h,h];exact .eL (cs:=[.sl 1 (iR (oZ (w.iI r).xB)),ci 0]) (.cons (.dU hi) (.cons (.d _) .nil))
theorem aDZ(w:D4)(hg:w.gA)(r:Int)(h0:w.oE r≠[]):∀(m:Mem)(d:Nat),m d=none->aJ Tryz.prog 29 [.d (.ip w.aT1),.d (ci r)] m (.ok (.eL [.h d,.d (ci 0)])) (aX m d (dU 25 1 (iR (w.oE r)))):=by
 refine iW mix (F:=λd=>.eL [.h d,.d (ci 0)]) (r:=dU 25 1 (iR (w.oE r))) Tryz.func29 rfl kK (bD rfl) rfl (oJ _ _ _) (λ_ _=>rfl) (λi j hj=>by simpa [A.hs,A.lQ]using hj) (λg=>eT g _ _ _) (QC w hg r _ (λh ml=>?_) (λh h2 ml=>?_) (λh h2 i ml hi=>?_) _ rfl)
 ·exact absurd (D8 h) h0
 ·exact absurd (by rw[vN h,h2,AT]) h0
 ·exact⟨i,rfl,by rw[vN h];exact hi⟩
theorem tP(w:D4)(r:Int):(w.nW r).length<=2:=by
 unfold D4.nW
 repeat' split
 all_goals simp
theorem N7(x:W4):x.xB.length<=x.cR:=by
 have h1:=x.value.iY;have h2:=qN x.values;have h3:=qN (x.names.map (·.value));rw[bH]at h3;have hc:x.cR=x.value.cR+V.dB x.values+S4.dB x.code+x.names.length+V.dB (x.names.map (·.value)):=rfl;unfold W4.xB jL;simp only[aU];have h4:((x.names.map λn=>n.value.eI).flatten).length<=V.dB (x.names.map (·.value)):=h3;omega
theorem aB0(w:D4)(hg:w.gA)(r:Int):(w.iI r).cR<=2^35:=by
 unfold D4.iI;cases hf:w.find r with
 |none=>exact bD rfl
 |some t=>exact hg.cR t (cT hf)
theorem AJ(w:D4)(hg:w.gA)(r:Int):(w.oE r).length<=2^35:=by
 by_cases h:w.aDH r=0
 ·rw[vN h];exact cL (xH _) (cL (N7 _) (aB0 w hg r))
 ·rw[D8 h];simp

def iZ(F:List (Int×Int)):List (Ky×A):=F.map λf=>(kI f.1,.d (ci f.2))
def cR(F:List (Int×Int))(r:Int):Int:=((F.find? λf=>decide (f.1=r)).map (·.2)).getD 0
def kJ(F:List (Int×Int))(r:Int):Bool:=(F.find? λf=>decide (f.1=r)).isSome
def xG(F:List (Int×Int))(r v:Int):List (Int×Int):=F.map λf=>if f.1=r then(r,v)else f
theorem mP:kJ F r=true↔r∈F.map (·.1):=by
 unfold kJ;rw[List.find?_isSome];constructor
 ·rintro⟨f,h1,h2⟩;exact aA4.2 ⟨f,h1,by simpa using h2⟩
 ·intro h;obtain⟨f,h1,rfl⟩:=aA4.1 h;exact⟨f,h1,sM⟩
theorem V1(F:List (Int×Int))(r:Int):fL (kI r) (iZ F)=(F.find? λf=>decide (f.1=r)).map λf=>.d (ci f.2):=wZ (λf:Int×Int=>f.1) (λf=>A.d (ci f.2)) r F
theorem P3(hk:KC.fits P kt (.int .i64 0)=true)(F:List (Int×Int)):kH P kt (kI r) (iZ F)=true:=aJ1 (λf:Int×Int=>f.1) (λf=>A.d (ci f.2)) r F hk
theorem lkC(hk:KC.fits P kt (.int .i64 0)=true)(h0:k1 (.d (ci 0))->k0)(h1:k1 (.d (ci (cR F r)))):n5 (kH P kt (kI r) (iZ F)) (fL (kI r) (iZ F)) k1 k0:=by
 have hf:=P3 (P:=P) (r:=r) hk F;have hg:=V1 F r;unfold cR at h1;cases h:F.find? λf=>decide (f.1=r)with
 |none=>rw[h]at hg h1;exact .BP hf hg (h0 h1)
 |some f=>rw[h]at hg h1;exact .CL _ hf hg h1
theorem lkE(e:kv=iZ F)(hk:KC.fits P kt (.int .i64 0)=true)(h0:k1 (.d (ci 0))->k0)(h1:k1 (.d (ci (cR F r)))):n5 (kH P kt (kI r) kv) (fL (kI r) kv) k1 k0:=by
 subst e;exact lkC hk h0 h1
theorem aBP{X1 X0:Prop}(hk:KC.fits P kt (.int .i64 0)=true)(h1:kJ F r=true->X1)(h0:kJ F r=false->X0):aB4 (kH P kt (kI r) (iZ F)) (fL (kI r) (iZ F)) X1 X0:=by
 have hf:=P3 (P:=P) (r:=r) hk F;have hg:=V1 F r;unfold kJ at h1 h0;cases h:F.find? λf=>decide (f.1=r)with
 |none=>rw[h]at hg h0;exact .BP hf hg (h0 rfl)
 |some f=>rw[h]at hg h1;exact .CL hf (by rw[hg];simp) (h1 rfl)
theorem EE(F:List (Int×Int))(r v:Int):((iZ F).map λp=>if p.1=kI r then(kI r,.d (ci v))else p)=iZ (xG F r v):=by
 unfold iZ xG;rw[bH,bH];refine cQ λf _=>?_;simp only[Function.comp];by_cases e:f.1=r
 ·simp[e]
 ·have:¬kI f.1=kI r:=by simp[kI,e]
  rw[aT7 this,aT7 e]
theorem vP(F:List (Int×Int))(r v:Int):iZ F++[(kI r,.d (ci v))]=iZ (F++[(r,v)]):=by simp[iZ]
theorem PQ(F:List (Int×Int))(r v q:Int)(h:kJ F r=true):cR (xG F r v) q=if q=r then v else cR F q:=by
 unfold cR xG;induction F with
 |nil=>simp[kJ]at h
 |cons f F ih=>
  rw[aG,eN,eN];by_cases e:f.1=r
  ·simp only[e,if_true];by_cases e2:q=r
   ·simp[e2]
   ·have:¬r=q:=λx=>e2 x.symm;simp only[this,decide_false,e2,if_false];clear ih h;induction F with
    |nil=>rfl
    |cons g F ih=>
     rw[aG,eN,eN];by_cases e3:g.1=r
     ·have:¬r=q:=λx=>e2 x.symm;simp only[e3,if_true,this,decide_false];exact ih
     ·simp only[e3,if_false];by_cases e4:g.1=q
      ·simp[e4]
      ·simp only[e4,decide_false];exact ih
  ·simp only[e,if_false];by_cases e2:f.1=q
   ·have:¬q=r:=λx=>e (e2.trans x);simp[e2,this]
   ·simp only[e2,decide_false];refine ih ?_;unfold kJ at h⊢;rw[eN]at h;simpa [e]using h
theorem PN(F:List (Int×Int))(r v q:Int)(h:kJ F r=false):cR (F++[(r,v)]) q=if q=r then v else cR F q:=by
 unfold cR;rw[y3];cases hq:F.find? λf=>decide (f.1=q)with
 |some f=>
  have:¬q=r:=by
   rintro rfl;unfold kJ at h;rw[hq]at h;cases h
  simp[this]
 |none=>
  simp only[Option.none_or,eN,List.find?_nil];by_cases e:q=r
  ·subst e;simp
  ·have:¬r=q:=λx=>e x.symm;simp[e,this]
theorem uC(F:List (Int×Int))(r:Int)(h:kJ F r=false):cR F r=0:=by
 unfold cR;unfold kJ at h;cases hq:F.find? λf=>decide (f.1=r)with
 |none=>rfl
 |some f=>rw[hq]at h;cases h
theorem rT(F:List (Int×Int))(r:Int)(h:kJ F r=true):∃f∈F,f.1=r/\f.2=cR F r:=by
 unfold cR;unfold kJ at h;cases hq:F.find? λf=>decide (f.1=r)with
 |none=>rw[hq]at h;cases h
 |some f=>exact⟨f,cT hq,by simpa using iD hq,rfl⟩
theorem aKD(F:List (Int×Int)):A.lQ ((iZ F).map (·.2))=[]:=by
 have e:(iZ F).map (·.2)=(F.map λf=>ci f.2).map A.d:=by unfold iZ;rw[bH,bH];rfl
 rw[e,wX]
theorem aEP:rB ml (R.mp fz (iZ F) []).hs:=by
 show rB _ (A.lQ ((iZ F).map (·.2))++[]);rw[aKD];trivial
theorem KS{i:Nat}{g:Nat->Nat}(h:aK ml i=some (.mp fz kv []))(he:kv=iZ F):(aK ml i).map (R.eZ g)=some (.mp fz (iZ F) []):=by
 rw[h,he];show some (R.mp fz ((iZ F).map λp=>(p.1,p.2.eZ g)) [])=_;congr 2;unfold iZ;rw[bH];rfl
def B8(b:UInt8):Bool:=!((decide ((b.toNat:Int)<97)||decide (122<(b.toNat:Int)))&&(decide ((b.toNat:Int)<48)||decide (57<(b.toNat:Int))))
def gN(s:ByteArray):Bool:=match s.data.toList with
 |[]=>false
 |b::r=>decide (s.size<=32)&&(decide (97<=(b.toNat:Int))&&decide ((b.toNat:Int)<=122))&&(b::r).all B8
theorem aM2(s:ByteArray)(i:Nat)(b:UInt8)(h:s.data.toList[i]?=some b):s[i]?=some b:=by
 have cX:i<s.data.toList.length:=(bA.1 h).1;have aW3:i<s.size:=by simpa using cX
 rw[getElem?_pos s i aW3];have:s[i]=s.data[i]:=rfl;rw[this];rw[aC cX]at h;simpa using h
theorem YX(b:UInt8):B8 b=true↔((97<=(b.toNat:Int)/\(b.toNat:Int)<=122)\/(48<=(b.toNat:Int)/\(b.toNat:Int)<=57)):=by
 simp only[B8,eC,gI,Bool.or_eq_false_iff,aU1];omega
theorem lF(s:ByteArray):Pu 187 [.d (.v (.string s))] (.d (cb (gN s))):=by
 refine iC mix Tryz.func187 ?_;cases hd:s.data.toList with
 |nil=>
  have hz:s={data:= #[]}:=by rw[EL];have:=congrArg List.length hd;simpa using this
  have hn:gN s=false:=by unfold gN;rw[hd]
  rw[hn];subst hz;refine bl ?_
  all_goals exact dP rfl
 |cons b0 r=>
  have vZ:s.size=r.length+1:=by have:=congrArg List.length hd;simpa using this
  have hZ:¬s={data:= #[]}:=by rw[EL];omega
  have hn:gN s=(decide (s.size<=32)&&(decide (97<=(b0.toNat:Int))&&decide ((b0.toNat:Int)<=122))&&(b0::r).all B8):=by unfold gN;rw[hd]
  have hg:s[(0:Int).toNat]?=some b0:=aM2 s 0 b0 (by rw[hd];rfl);rw[hn]
  repeat'(first|refine bl ?_|refine bS (λh=>?_) (λh=>?_)|refine aJL.mk b0 eD hg kK (bw ?_))
  ·exact absurd aM hZ
  ·refine dP ?_;rw[aU0 (by omega:¬s.size<=32)];rfl
  ·refine dP ?_;rw[aU0 (by omega:¬(97:Int)<=b0.toNat)];simp
  ·refine dP ?_;rw[aU0 (by omega:¬(b0.toNat:Int)<=122)];simp
  rw[aUZ (by omega:s.size<=32),aUZ (by omega:(97:Int)<=b0.toNat),aUZ (by omega:(b0.toNat:Int)<=122),cA,cA];refine xR.mk kK ?_;conv=>whnf
  refine bl ?_;have hbc:FH s=(b0::r).map λb=>[.v (.int .u8 b.toNat)]:=by unfold FH;rw[hd]
  rw[hbc];generalize hl:b0::r=l;have hll:l.length<=32:=by rw[<-hl,aQ];omega
  refine bV mix (λi:Nat=>i<=l.length/\(l.take i).all B8=true) (I:=λi=>[(23,.d (.sl 1 (l.map λb=>[.v (.int .u8 b.toNat)]))),(24,.d (ci l.length)),(25,.d (ci i))])
   (J:=λi=>[]) (μ:=λi=>l.length -i) 1000 0 ⟨oM,sM⟩ mZ ?_
  rintro i ⟨hi,h0⟩
  repeat'(first|refine bl ?_|refine bS (λh=>?_) (λh=>?_)|refine cD rfl eD aM (bw ?_))
  all_goals first
   |(have cX:i<l.length:=by assumption
     refine⟨i+1,oM,⟨oM,?_⟩,mZ⟩;rw[aT cX,gQ,h0,cA];simp only[o9,List.all_nil,o6]
     rw[YX];omega)
   |(have cX:i<l.length:=by assumption
     refine dP ?_;have:l.all B8=false:=by
      rw[iA];exact⟨l[i],aY cX,by rw[YX];omega⟩
     rw[this];rfl)
   |(rw[aI oM]at h0
     rw[h0];exact dP rfl)
abbrev sR(L:List ByteArray):List (List C):=L.map λs=>[.v (.string s)]
abbrev kS(s:ByteArray):Ky:=.one (.str s)
theorem J9{α:Type}(key:α->ByteArray)(val:α->A)(r:ByteArray):∀L:List α,fL (kS r) (L.map λt=>(kS (key t),val t))=(L.find? λt=>decide (key t=r)).map val
 |[]=>rfl
 |t::L=>by
  simp only[aG,fL,eN];by_cases h:key t=r
  ·simp[h]
  ·have:¬kS r=kS (key t):=by simp[kS];exact λe=>h e.symm
   simp only[this,if_false,h,decide_false];exact J9 key val r L
theorem aND{α:Type}(key:α->ByteArray)(val:α->A)(r:ByteArray)(L:List α)(hk:KC.fits P kt (.str ByteArray.empty)=true):kH P kt (kS r) (L.map λt=>(kS (key t),val t))=true:=by
 have h1:(kS r).fits P kt=true:=hk;unfold kH;rw[h1,cA,cV];intro p hp;obtain⟨t,_,rfl⟩:=aA4.1 hp;rfl
def MA(F:List (ByteArray×Int)):List (Ky×A):=F.map λf=>(kS f.1,.d (ci f.2))
def xX(F:List (ByteArray×Int))(r:ByteArray):Int:=((F.find? λf=>decide (f.1=r)).map (·.2)).getD 0
def CK(F:List (ByteArray×Int))(r:ByteArray):Bool:=(F.find? λf=>decide (f.1=r)).isSome
def Y4(F:List (ByteArray×Int))(r:ByteArray)(v:Int):List (ByteArray×Int):=F.map λf=>if f.1=r then(r,v)else f
theorem SY{F:List (ByteArray×Int)}{r:ByteArray}:CK F r=true↔r∈F.map (·.1):=by
 unfold CK;rw[List.find?_isSome];constructor
 ·rintro⟨f,h1,h2⟩;exact aA4.2 ⟨f,h1,by simpa using h2⟩
 ·intro h;obtain⟨f,h1,rfl⟩:=aA4.1 h;exact⟨f,h1,sM⟩
theorem aDW(F:List (ByteArray×Int))(r:ByteArray):fL (kS r) (MA F)=(F.find? λf=>decide (f.1=r)).map λf=>.d (ci f.2):=J9 (λf:ByteArray×Int=>f.1) (λf=>A.d (ci f.2)) r F
theorem X9{r:ByteArray}(hk:KC.fits P kt (.str ByteArray.empty)=true)(F:List (ByteArray×Int)):kH P kt (kS r) (MA F)=true:=aND (λf:ByteArray×Int=>f.1) (λf=>A.d (ci f.2)) r F hk
theorem aL3{F:List (ByteArray×Int)}{r:ByteArray}(hk:KC.fits P kt (.str ByteArray.empty)=true)(h0:k1 (.d (ci 0))->k0)(h1:k1 (.d (ci (xX F r)))):n5 (kH P kt (kS r) (MA F)) (fL (kS r) (MA F)) k1 k0:=by
 have hf:=X9 (P:=P) (r:=r) hk F;have hg:=aDW F r;unfold xX at h1;cases h:F.find? λf=>decide (f.1=r)with
 |none=>rw[h]at hg h1;exact .BP hf hg (h0 h1)
 |some f=>rw[h]at hg h1;exact .CL _ hf hg h1
theorem aL4{F:List (ByteArray×Int)}{r:ByteArray}(e:kv=MA F)(hk:KC.fits P kt (.str ByteArray.empty)=true)(h0:k1 (.d (ci 0))->k0)(h1:k1 (.d (ci (xX F r)))):n5 (kH P kt (kS r) kv) (fL (kS r) kv) k1 k0:=by
 subst e;exact aL3 hk h0 h1
theorem aMG{F:List (ByteArray×Int)}{r:ByteArray}{X1 X0:Prop}(hk:KC.fits P kt (.str ByteArray.empty)=true)(h1:CK F r=true->X1)(h0:CK F r=false->X0):aB4 (kH P kt (kS r) (MA F)) (fL (kS r) (MA F)) X1 X0:=by
 have hf:=X9 (P:=P) (r:=r) hk F;have hg:=aDW F r;unfold CK at h1 h0;cases h:F.find? λf=>decide (f.1=r)with
 |none=>rw[h]at hg h0;exact .BP hf hg (h0 rfl)
 |some f=>rw[h]at hg h1;exact .CL hf (by rw[hg];simp) (h1 rfl)
theorem aHU(F:List (ByteArray×Int))(r:ByteArray)(v:Int):((MA F).map λp=>if p.1=kS r then(kS r,.d (ci v))else p)=MA (Y4 F r v):=by
 unfold MA Y4;rw[bH,bH];refine cQ λf _=>?_;simp only[Function.comp];by_cases e:f.1=r
 ·simp[e]
 ·have:¬kS f.1=kS r:=by simp[kS,e]
  rw[aT7 this,aT7 e]
theorem YS(F:List (ByteArray×Int))(r:ByteArray)(v:Int):MA F++[(kS r,.d (ci v))]=MA (F++[(r,v)]):=by simp[MA]
theorem aCF(F:List (ByteArray×Int))(r:ByteArray)(v:Int)(q:ByteArray)(h:CK F r=true):xX (Y4 F r v) q=if q=r then v else xX F q:=by
 unfold xX Y4;induction F with
 |nil=>simp[CK]at h
 |cons f F ih=>
  rw[aG,eN,eN];by_cases e:f.1=r
  ·simp only[e,if_true];by_cases e2:q=r
   ·simp[e2]
   ·have:¬r=q:=λx=>e2 x.symm;simp only[this,decide_false,e2,if_false];clear ih h;induction F with
    |nil=>rfl
    |cons g F ih=>
     rw[aG,eN,eN];by_cases e3:g.1=r
     ·have:¬r=q:=λx=>e2 x.symm;simp only[e3,if_true,this,decide_false];exact ih
     ·simp only[e3,if_false];by_cases e4:g.1=q
      ·simp[e4]
      ·simp only[e4,decide_false];exact ih
  ·simp only[e,if_false];by_cases e2:f.1=q
   ·have:¬q=r:=λx=>e (e2.trans x);simp[e2,this]
   ·simp only[e2,decide_false];refine ih ?_;unfold CK at h⊢;rw[eN]at h;simpa [e]using h
theorem aCE(F:List (ByteArray×Int))(r:ByteArray)(v:Int)(q:ByteArray)(h:CK F r=false):xX (F++[(r,v)]) q=if q=r then v else xX F q:=by
 unfold xX;rw[y3];cases hq:F.find? λf=>decide (f.1=q)with
 |some f=>
  have:¬q=r:=by
   rintro rfl;unfold CK at h;rw[hq]at h;cases h
  simp[this]
 |none=>
  simp only[Option.none_or,eN,List.find?_nil];by_cases e:q=r
  ·subst e;simp
  ·have:¬r=q:=λx=>e x.symm;simp[e,this]
theorem PM(F:List (ByteArray×Int))(r:ByteArray)(h:CK F r=false):xX F r=0:=by
 unfold xX;unfold CK at h;cases hq:F.find? λf=>decide (f.1=r)with
 |none=>rfl
 |some f=>rw[hq]at h;cases h
theorem RT(F:List (ByteArray×Int))(r:ByteArray)(h:CK F r=true):∃f∈F,f.1=r/\f.2=xX F r:=by
 unfold xX;unfold CK at h;cases hq:F.find? λf=>decide (f.1=r)with
 |none=>rw[hq]at h;cases h
 |some f=>exact⟨f,cT hq,by simpa using iD hq,rfl⟩
theorem aNH{i:Nat}{g:Nat->Nat}{F:List (ByteArray×Int)}(h:aK ml i=some (.mp fz kv []))(he:kv=MA F):(aK ml i).map (R.eZ g)=some (.mp fz (MA F) []):=by
 rw[h,he];show some (R.mp fz ((MA F).map λp=>(p.1,p.2.eZ g)) [])=_;congr 2;unfold MA;rw[bH];rfl
theorem aDJ{F:List (ByteArray×Int)}:rB ml (R.mp fz (MA F) []).hs:=by
 have e:(MA F).map (·.2)=(F.map λf=>ci f.2).map A.d:=by unfold MA;rw[bH,bH];rfl
 show rB _ (A.lQ ((MA F).map (·.2))++[]);rw[e,wX];trivial
theorem UT(L:List ByteArray)(hL:L.length<=2^38):Pu 188 [.d (.sl 1 (sR L))] (.d (cb (!decide L.Nodup))):=by
 refine iC mix Tryz.func188 ?_;refine bl ?_;refine bV mix (λs:Nat×List (ByteArray×Int)=>s.1<=L.length/\s.2.map (·.1)=L.take s.1/\(∀f∈s.2,f.2=1)/\(L.take s.1).Nodup) (I:=λs=>[(3,.h 9),(7,.d (.sl 1 (sR L))),(8,.d (ci L.length)),(9,.d (ci s.1))])
  (J:=λs=>[(9,.mp false (MA s.2) [])]) (μ:=λs=>L.length -s.1) 1000 (0,[]) ⟨sM,sM,sM,sM⟩ mZ ?_
 rintro⟨i,F⟩ ⟨h1,h2,h3,h4⟩;dsimp only at h1 h2 h3 h4⊢;have hcb:∀r,0<=xX F r/\xX F r<=1:=λr=>by
  cases hh:CK F r with
  |true=>obtain⟨f,g1,g2,g3⟩:=RT F r hh;have:=h3 f g1;omega
  |false=>rw[PM F r hh];omega
 repeat'(first|refine bl ?_|refine bS (λh=>?_) (λh=>?_)|refine cD rfl eD aM (bw ?_))
 ·have cX:i<L.length:=aM;have TW:=hcb L[i];have J3:=aT cX;have hme:L[i]∈L.take i->¬L.Nodup:=λhm hn=>by
   obtain⟨j,hj,e⟩:=dH.1 hm;rw[cW]at hj;rw[List.getElem_take]at e;have:=(jB hn).1 e;omega
  generalize L[i]=s at TW J3 hme⊢;refine aL3 eD (λh=>h) ?_;conv=>whnf
  refine bl ?_;refine aMG eD (λhh=>?_) (λhh=>?_)
  ·conv=>whnf
   repeat'(first|refine bl ?_|refine bS (λh=>?_) (λh=>?_)|refine aL4 (aHU F s (xX F s+1)) eD (λh=>h) (bw ?_))
   ·have hm:s∈L.take i:=by rw[<-h2];exact SY.1 hh
    rw[aU0 (hme hm)];exact dP rfl
   ·exfalso;rw[aCF F s _ s hh,aUF rfl]at h;obtain⟨f,hf,_,g3⟩:=RT F s hh;have:=h3 f hf;omega
  ·conv=>whnf
   repeat'(first|refine bl ?_|refine bS (λh=>?_) (λh=>?_)|refine aL4 (YS F s (xX F s+1)) eD (λh=>h) (bw ?_))
   ·exfalso;rw[aCE F s _ s hh,aUF rfl,PM F s hh]at h;omega
   ·have hns:s∉L.take i:=λe=>by rw[<-h2]at e;rw[SY.2 e]at hh;cases hh
    refine⟨(i+1,F++[(s,xX F s+1)]),dM,⟨dM,by dsimp only;rw[bP,h2,J3];rfl,?_,?_⟩,?_⟩
    ·dsimp only;intro f hf;rcases bN.1 hf with hf|hf
     ·exact h3 f hf
     ·rw[aR.1 hf,PM F s hh];rfl
    ·dsimp only;rw[J3];refine iS.2 ⟨h4,sM,λx hx y hy e=>?_⟩;rw[aR.1 hy]at e;exact hns (e▸hx)
    ·have aZJ:=YS F s (xX F s+1)
     (refine cN.swap 5000 5001 ?_ ?_ ?_ ?_ ?_<;>repeat'(first|exact aW|exact rfl|exact sn|refine bI ?_ ?_))
     all_goals first|exact aDJ|exact aNH rfl aZJ
 ·rw[aI oM]at h4;rw[aUZ h4];exact dP rfl
def BA(N:List N4):Bool:=decide (N.length<=64)&&(N.all (λn=>gN n.name&&n.value.may)&&decide ((N.map (·.name)).Nodup))
def dlS(L:List ByteArray):A:=match L with
 |[]=>.d (.nl 1)
 |r::q=>.d (.sl 1 (sR (r::q)))
theorem aBI(L M:List ByteArray):bE (sR L)++bE (sR M)=bE (sR (L++M)):=by simp[bE]
theorem TM(N:List N4)(hN:V.dB (N.map (·.value))<=2^35)(hl:N.length<=2^38):Pu 159 [.d (.sl 6 (N.map N4.aT1))] (.d (cb (BA N))):=by
 have hnb:∀i(h:i<N.length),N[i].value.cR<=2^40:=λi h=>by
  have:=V.dG (N.map (·.value)) i (by simpa using h);rw[fO]at this;omega
 refine iC mix Tryz.func159 ?_
 repeat'(first|refine bl ?_|refine bS (λh=>?_) (λh=>?_))
 ·refine dP ?_;unfold BA;rw[aU0 oM];rfl
 have h64:N.length<=64:=oM;refine cY mix (λi:Nat=>i<=N.length/\(N.take i).all (λn=>gN n.name&&n.value.may)=true) (I:=λi=>[(9,.d (.sl 6 (N.map N4.aT1))),(10,.d (ci N.length)),(3,lv 1 900 (sR ((N.take i).map (·.name)))),(11,.d (ci i))])
  (J:=λi=>lm 900 9 1 (sR ((N.take i).map (·.name))) []) (μ:=λi=>N.length -i) 2000 0 0
  (λ_:Unit=>N.all (λn=>gN n.name&&n.value.may)=true) (λ_=>[(3,dlS (N.map (·.name)))]) (λ_=>[]) 4000 ⟨oM,sM⟩ mZ ?_ ?_
 ·rintro i ⟨hi,h0⟩;generalize hQ:(N.take i).map (·.name)=Q;have hQl:Q.length<=64:=by rw[<-hQ];simp;omega
  have pG:∀(h:i<N.length),(gN N[i].name&&N[i].value.may)=false->BA N=false:=λh e=>by
   unfold BA;have:N.all (λn=>gN n.name&&n.value.may)=false:=by
    rw[iA];exact⟨N[i],aY h,by simp[e]⟩
   rw[this];simp
  have aX9:∀(h:i<N.length),(gN N[i].name&&N[i].value.may)=true->(N.take (i+1)).all (λn=>gN n.name&&n.value.may)=true/\(N.take (i+1)).map (·.name)=Q++[N[i].name]:=λh e=>by
   rw[aT h,gQ,h0,bP,hQ];simp[e]
  cases Q with
  |nil=>
   show vc _ _ _ _ _ [] _ _
   repeat'(first|refine bl ?_|refine bS (λh=>?_) (λh=>?_)|refine cD rfl eD aM (bw ?_)|refine aF (lF _) (bw ?_)|refine dR (AL N[i].value (hnb i aM)) (.cons (.agg N[i].value.aT1) .nil) (bw ?_))
   ·exact dP (pG aM (by simp_all)).symm
   ·exact dP (pG aM (by simp_all)).symm
   ·obtain⟨y1,y2⟩:=aX9 aM (by simp_all);refine n8 sM kK ?_;conv=>whnf
    refine E9.mk (λh=>by cases h) (λh=>?_);conv=>whnf
    refine bl ?_;refine⟨i+1,oM,⟨oM,y1⟩,?_⟩;rw[y2];exact mv 2152 900
    all_goals exact cO rfl rfl
   ·rw[aI oM]at h0 hQ;refine⟨(),h0,?_⟩;rw[hQ];exact mZ
  |cons q0 Q=>
   show vc _ _ _ _ _ [(900,dU 9 1 (sR (q0::Q)))] _ _
   repeat'(first|refine bl ?_|refine bS (λh=>?_) (λh=>?_)|refine cD rfl eD aM (bw ?_)|refine aF (lF _) (bw ?_)|refine dR (AL N[i].value (hnb i aM)) (.cons (.agg N[i].value.aT1) .nil) (bw ?_))
   ·exact dP (pG aM (by simp_all)).symm
   ·exact dP (pG aM (by simp_all)).symm
   ·obtain⟨y1,y2⟩:=aX9 aM (by simp_all);simp only[aQ]at hQl;refine n8 (by simp only[aB,bE,aQ,cE,aS];omega) kK ?_;conv=>whnf
    refine bl ?_;refine⟨i+1,oM,⟨oM,y1⟩,?_⟩;rw[y2];refine mq 2152 900 ?_
    all_goals exact cO rfl (aBI (q0::Q) [N[i].name])
   ·rw[aI oM]at h0 hQ;refine⟨(),h0,?_⟩;rw[hQ];exact cN.freeze [900] tV ⟨.rd (.dU (eX rfl rfl)),tV⟩ tV ⟨tV,tV⟩ trivial
 rintro _ aWV;have aWW:BA N=decide ((N.map (·.name)).Nodup):=by unfold BA;rw[aWV,aUZ h64];simp
 have htw:=UT (N.map (·.name)) (by simp only[aB];omega);rw[aWW];generalize N.map (·.name)=LL at htw⊢;cases LL with
 |nil=>
  repeat'(first|refine bl ?_|refine dR htw (.cons (.nl _ _) .nil) (bw ?_))
  exact dP sM
 |cons l0 LL=>
  repeat'(first|refine bl ?_|refine aF htw (bw ?_))
  exact dP sM
def E4.sV(v:E4):Bool:=decide (v.kind=0/\v.n=0/\v.s.size=0/\v.l.length=0)
theorem wS(v:E4):Pu 238 [.d (.agg v.aT1)] (.d (cb v.sV)):=by
 refine iC mix Tryz.func238 ?_
 repeat'(first|refine bl ?_|refine bS (λh=>?_) (λh=>?_))
 all_goals(refine dP ?_;simp_all[E4.sV,EL])
mutual
def E4.me:E4->Int->Int->Bool×Int
 |.mk k n s l,p,d=>if p -1<0\/(k≠1/\n≠0)\/(k≠3/\l.length≠0)\/(k≠2/\k≠4/\s.size≠0)then(false,p -1)else if k=1 then(true,p -1)else if k=2 then(decide (s.size<=256),p -1)else if k=4 then(gN s,p -1)else if k=3/\0<d then E4.A9 l (p -1) (d -1)else(false,p -1)
def E4.A9:List E4->Int->Int->Bool×Int
 |[],n,_=>(true,n)
 |v::r,n,d=>match E4.me v n d with
  |(false,n')=>(false,n')
  |(true,n')=>E4.A9 r n' d
end
theorem E4.GB(v:E4)(p d:Int):v.me p d=if p -1<0\/(v.kind≠1/\v.n≠0)\/(v.kind≠3/\v.l.length≠0)\/(v.kind≠2/\v.kind≠4/\v.s.size≠0)then(false,p -1)else if v.kind=1 then(true,p -1)else if v.kind=2 then(decide (v.s.size<=256),p -1)else if v.kind=4 then(gN v.s,p -1)else if v.kind=3/\0<d then E4.A9 v.l (p -1) (d -1)else(false,p -1):=by cases v;rw[E4.me];rfl
mutual
theorem E4.aL7:∀(v:E4)(p d:Int),0<=p->p<=512->-1<=(v.me p d).2/\(v.me p d).2<=512/\((v.me p d).1=true->0<=(v.me p d).2)
 |.mk k n s l,p,d,h0,h1=>by
  rw[E4.me];by_cases hc:p -1<0\/(k≠1/\n≠0)\/(k≠3/\l.length≠0)\/(k≠2/\k≠4/\s.size≠0)
  ·rw[aUF hc];simp;omega
  ·rw[aT7 hc];have hp:¬p -1<0:=λh=>hc (.inl h);have ih:=E4.V3 l (p -1) (d -1) oM oM
   repeat' split
   all_goals first|exact ih|(simp;omega)
theorem E4.V3:∀(l:List E4)(p d:Int),0<=p->p<=512->-1<=(E4.A9 l p d).2/\(E4.A9 l p d).2<=512/\((E4.A9 l p d).1=true->0<=(E4.A9 l p d).2)
 |[],n,d,h0,h1=>by rw[E4.A9];simp;omega
 |v::r,n,d,h0,h1=>by
  rw[E4.A9];have h2:=E4.aL7 v n d h0 h1;generalize E4.me v n d=q at h2⊢;obtain⟨b,m⟩:=q;cases b with
  |false=>simpa using⟨h2.1,h2.2.1⟩
  |true=>exact E4.V3 r m d (h2.2.2 rfl) h2.2.1
end
def E4.KN:List E4->Int->Int->Int->Int
 |[],_,_,_=>-1
 |v::r,n,d,i=>match E4.me v n d with
  |(false,_)=>i
  |(true,n')=>E4.KN r n' d (i+1)
theorem E4.TN:∀(l:List E4)(i:Nat)(h:i<l.length)(n d n':Int),E4.A9 (l.take i) n d=(true,n')->E4.A9 (l.take (i+1)) n d=E4.me l[i] n' d
 |v::r,0,h,n,d,n',e=>by
  simp only[fD,E4.A9,aD,true_and]at e;subst e;simp only[cC,fD,E4.A9,eK];generalize E4.me v n d=q;obtain⟨b,x⟩:=q;cases b<;>rfl
 |v::r,i+1,h,n,d,n',e=>by
  simp only[cC,E4.A9,cJ]at e⊢;generalize E4.me v n d=q at e⊢;obtain⟨b,x⟩:=q;cases b with
  |false=>simp at e
  |true=>exact E4.TN r i (by simpa using h) x d n' e
theorem E4.OA:∀(l:List E4)(i:Nat)(n d n':Int),E4.A9 (l.take i) n d=(false,n')->E4.A9 l n d=(false,n')
 |[],i,n,d,n',e=>by simpa using e
 |v::r,0,n,d,n',e=>by simp[E4.A9]at e
 |v::r,i+1,n,d,n',e=>by
  simp only[cC,E4.A9]at e⊢;generalize E4.me v n d=q at e⊢;obtain⟨b,x⟩:=q;cases b with
  |false=>exact e
  |true=>exact E4.OA r i x d n' e
theorem E4.YN:∀(l:List E4)(i:Nat)(h:i<l.length)(n d n' m k:Int),E4.A9 (l.take i) n d=(true,n')->E4.me l[i] n' d=(false,m)->E4.KN l n d k=k+i
 |v::r,0,h,n,d,n',m,k,e,e2=>by
  simp only[fD,E4.A9,aD,true_and]at e;subst e;simp only[eK]at e2;rw[E4.KN,e2];simp
 |v::r,i+1,h,n,d,n',m,k,e,e2=>by
  simp only[cC,E4.A9,cJ]at e e2;rw[E4.KN];generalize E4.me v n d=q at e⊢;obtain⟨b,x⟩:=q;cases b with
  |false=>simp at e
  |true=>
   have:=E4.YN r i (by simpa using h) x d n' m (k+1) e e2;simp only[this];omega
theorem E4.YO:∀(l:List E4)(n d n' k:Int),E4.A9 l n d=(true,n')->E4.KN l n d k=-1
 |[],n,d,n',k,e=>rfl
 |v::r,n,d,n',k,e=>by
  rw[E4.A9]at e;rw[E4.KN];generalize E4.me v n d=q at e⊢;obtain⟨b,x⟩:=q;cases b with
  |false=>simp at e
  |true=>exact E4.YO r x d n' (k+1) e
theorem E4.N9:∀(l:List E4)(n d k:Int),0<=k->decide (0<=E4.KN l n d k)=!(E4.A9 l n d).1
 |[],n,d,k,hk=>by simp[E4.KN,E4.A9]
 |v::r,n,d,k,hk=>by
  rw[E4.KN,E4.A9];generalize E4.me v n d=q;obtain⟨b,x⟩:=q;cases b with
  |false=>simpa using hk
  |true=>exact E4.N9 r x d (k+1) oM
def KK(n d:Int):List (Nat×R):=[(0,fV n),(108,.cells false [.lp 0 0]),(116,fV d)]
theorem MO(k:FuncId)(L:List E4)(n d:Int)(h0:0<=n)(h1:n<=512)(hf:∀i(h:i<L.length),∀n,0<=n->n<=512->aJ Tryz.prog k [.d (.agg L[i].aT1),.lp 108 0,.lp 116 0] (aK (KK n d)) (.ok (.d (cb (!(L[i].me n (d -1)).1)))) (aH (aK (KK n d)) [(0,fV (L[i].me n (d -1)).2)]))(hL:L.length<=2^40):
 aJ Tryz.prog 227 [.d (.sl 4 (L.map E4.row)),.fn (.func k) [] [.lp 108 0,.lp 116 0]] (aK (KK n d)) (.ok (.d (ci (E4.KN L n (d -1) 0)))) (aH (aK (KK n d)) [(0,fV (E4.A9 L n (d -1)).2)]):=by
 refine wE mix 200 Tryz.func227 tV ⟨tV,tV⟩ ?_;refine bl ?_;refine bV mix (λa:Nat×Int=>a.1<=L.length/\E4.A9 (L.take a.1) n (d -1)=(true,a.2)) (I:=λa=>[(0,.d (.sl 4 (L.map E4.row))),(1,.fn (.func k) [] [.lp 108 0,.lp 116 0]),(7,.d (ci L.length)),(8,.d (ci a.1))])
  (J:=λa=>KK a.2 d) (μ:=λa=>L.length -a.1) 100 (0,n) ⟨dM,rfl⟩ mZ ?_
 rintro⟨i,q⟩ ⟨hi,hq⟩;have hb:=E4.V3 (L.take i) n (d -1) h0 h1;rw[hq]at hb;dsimp only at hi hq hb⊢;have hq0:=hb.2.2 rfl
 repeat'(first|refine bl ?_|refine bS (λh=>?_) (λh=>?_))
 ·refine eE E4.cP rfl eD aM ?_;conv=>whnf
  skip
  have hc:=hf i aM q hq0 hb.2.1;have eB:=E4.TN L i aM n (d -1) q hq;generalize hz:E4.me L[i] q (d -1)=z at hc eB;obtain⟨b,m⟩:=z;refine dZ.mk (.d (cb (!b))) [(0,fV m)] (aJ.l8 hc ⟨sn,sn,tV⟩ ⟨rfl,rfl,rfl,tV⟩ ⟨tV,⟨sn,tV⟩,tV,tV⟩ ⟨.inl sn,tV⟩) ?_;conv=>whnf
  cases b with
  |false=>
   refine bl ?_;refine dA ?_ ⟨.inr ?_,.inl rfl,.inr rfl,.inr rfl,tV⟩
   ·rw[E4.YN L i aM n (d -1) q m 0 hq hz];simp
   ·rw[E4.OA L (i+1) n (d -1) m eB];rfl
  |true=>
   refine bl ?_;refine⟨(i+1,m),dM,⟨dM,eB⟩,?_⟩;exact mZ
 ·rw[aI oM]at hq;refine dA ?_ ⟨.inr ?_,.inl rfl,.inr rfl,.inr rfl,tV⟩
  ·rw[E4.YO L n (d -1) q 0 hq]
  ·rw[hq];rfl
theorem FM(k:FuncId)(L:List E4)(n d:Int)(h0:0<=n)(h1:n<=512)(hf:∀i(h:i<L.length),∀n,0<=n->n<=512->aJ Tryz.prog k [.d (.agg L[i].aT1),.lp 108 0,.lp 116 0] (aK (KK n d)) (.ok (.d (cb (!(L[i].me n (d -1)).1)))) (aH (aK (KK n d)) [(0,fV (L[i].me n (d -1)).2)]))(hL:L.length<=2^40):
 aJ Tryz.prog 205 [.d (.sl 4 (L.map E4.row)),.fn (.func k) [] [.lp 108 0,.lp 116 0]] (aK (KK n d)) (.ok (.d (cb (!(E4.A9 L n (d -1)).1)))) (aH (aK (KK n d)) [(0,fV (E4.A9 L n (d -1)).2)]):=by
 refine wE mix 200 Tryz.func205 tV ⟨tV,tV⟩ ?_;refine bl ?_;refine dZ.mk (.d (ci (E4.KN L n (d -1) 0))) [(0,fV (E4.A9 L n (d -1)).2)] (aJ.l8 (MO k L n d h0 h1 hf hL) ⟨sn,sn,tV⟩ ⟨rfl,rfl,rfl,tV⟩ ⟨tV,⟨sn,tV⟩,tV,tV⟩ ⟨.inl sn,tV⟩) ?_;conv=>whnf
 refine bl ?_;refine dA ?_ ⟨.inr rfl,.inl rfl,.inr rfl,.inr rfl,tV⟩;rw[<-E4.N9 L n (d -1) 0 oM]
theorem TL(v:E4)(n d:Int)(h0:0<=n)(h1:n<=512)(hd:1<=d)(hd2:d<=100)(hf:aJ Tryz.prog 255 [.d (.agg v.aT1),.lp 0 0,.d (ci (d -1))] (aK [(0,fV n)]) (.ok (.d (cb (v.me n (d -1)).1))) (aH (aK [(0,fV n)]) [(0,fV (v.me n (d -1)).2)])):
 aJ Tryz.prog 258 [.d (.agg v.aT1),.lp 108 0,.lp 116 0] (aK (KK n d)) (.ok (.d (cb (!(v.me n (d -1)).1)))) (aH (aK (KK n d)) [(0,fV (v.me n (d -1)).2)]):=by
 refine wE mix 200 Tryz.func258 tV ⟨tV,tV⟩ ?_;refine bl ?_;refine dZ.mk (.d (cb (v.me n (d -1)).1)) [(0,fV (v.me n (d -1)).2)] ((aJ.l8 hf ⟨sn,tV⟩ ⟨rfl,tV⟩ ⟨tV,tV⟩ ⟨.inl sn,tV⟩).mR (.cons (.agg v.aT1) (.cons (.same _) (.cons (.same _) .nil)))) ?_;conv=>whnf
 refine bl ?_;exact dA rfl ⟨.inr rfl,.inl rfl,.inr rfl,.inr rfl,tV⟩
theorem KL(v:E4)(hv:v.cR<=2^40)(p d:Int)(h0:0<=p)(h1:p<=512)(hd:0<=d)(hd2:d<=100):
 aJ Tryz.prog 255 [.d (.agg v.aT1),.lp 0 0,.d (ci d)] (aK [(0,fV p)]) (.ok (.d (cb (v.me p d).1))) (aH (aK [(0,fV p)]) [(0,fV (v.me p d).2)]):=by
 refine wE mix 100 Tryz.func255 tV ⟨tV,tV⟩ ?_;have AZ:=v.fA;have hln:=E4.eW v.l
 repeat'(first|refine bl ?_|refine bS (λh=>?_) (λh=>?_)|refine aF (lF _) (bw ?_))
 all_goals(try simp only[EL,<-List.length_eq_zero_iff]at*)
 all_goals first
  |(exfalso;omega)
  |(have e:v.me p d=(false,p -1):=by rw[E4.GB,aUF oM]
    refine dA ?_ ⟨.inr ?_,.inl rfl,tV⟩<;>rw[e]<;>rfl)
  |(have e:v.me p d=(true,p -1):=by rw[E4.GB,aT7 oM,aUF oM]
    refine dA ?_ ⟨.inr ?_,.inl rfl,tV⟩<;>rw[e]<;>rfl)
  |(have e:v.me p d=(decide (v.s.size<=256),p -1):=by rw[E4.GB,aT7 oM,aT7 oM,aUF oM]
    refine dA ?_ ⟨.inr ?_,.inl rfl,tV⟩<;>rw[e]
    · dsimp only
      rw[show decide ((v.s.size:Int)<=256)=decide (v.s.size<=256)from decide_eq_decide.2 oM]
    · rfl)
  |(have e:v.me p d=(gN v.s,p -1):=by rw[E4.GB,aT7 oM,aT7 oM,aT7 oM,aUF oM]
    refine dA ?_ ⟨.inr ?_,.inl rfl,tV⟩<;>rw[e]<;>rfl)
  |(have e:v.me p d=(false,p -1):=by rw[E4.GB,aT7 oM,aT7 oM,aT7 oM,aT7 oM,aT7 oM]
    refine dA ?_ ⟨.inr ?_,.inl rfl,tV⟩<;>rw[e]<;>rfl)
  |skip
 all_goals
  have e:v.me p d=E4.A9 v.l (p -1) (d -1):=by
   rw[E4.GB,aT7 oM,aT7 oM,aT7 oM,aT7 oM,aUF oM]
  refine dZ.mk (.d (cb (!(E4.A9 v.l (p -1) (d -1)).1))) [(0,fV (E4.A9 v.l (p -1) (d -1)).2)] (aJ.l8 (FM 258 v.l (p -1) d oM oM (λi h m hm0 hm1=>have vZ:=v.gM i h;have hcg:=E4.dG v.l i h;TL v.l[i] m d hm0 hm1 oM hd2 (KL v.l[i] oM m (d -1) hm0 hm1 oM oM)) oM) ⟨sn,sn,tV⟩ ⟨rfl,rfl,rfl,tV⟩ ⟨tV,⟨sn,tV⟩,tV,tV⟩ ⟨.inl sn,tV⟩) ?_;conv=>whnf
  refine bl ?_;refine dA ?_ ⟨.inr ?_,.inl rfl,tV⟩
  ·rw[e];simp;try rfl
  ·rw[e];rfl
 termination_by SizeOf.sizeOf v
theorem aA1:((List.range 64).all λk=>RK (yI Tryz.prog aA0 5 (.fn 254) [.d (.v (.int .u8 k))] .nil 1) (.d (ci (H6 k))))=true:=kK
theorem aED(x:Int)(h0:0<=x)(h1:x<=63):Pu 254 [.d (.v (.int .u8 x))] (.d (ci (H6 x))):=by
 obtain⟨k,rfl⟩:=lX h0;have:=cV.1 aA1 k (jI.2 oM);exact zO mix this rfl
theorem aD3:((List.range 256).all λk=> !TK k||decide (k<=63))=true:=kK
theorem aHS(x:Int)(h0:0<=x)(h1:x<256)(h:TK x=true):x<=63:=by
 obtain⟨k,rfl⟩:=lX h0;have:=cV.1 aD3 k (jI.2 oM);rw[h]at this;simp at this;omega
def aKT(x:Int):Bool:=TK x&&decide (H6 x=1)
theorem aGL(x:Int)(h0:0<=x)(h1:x<256):Pu 245 [.d (ck x)] (.d (cb (aKT x))):=by
 refine iC mix Tryz.func245 ?_;unfold aKT;have ham:=IB x;cases hm:TK x with
 |false=>
  rw[hm]at ham
  repeat'(first|refine bl ?_|refine aF ham (bw ?_))
  exact dP sM
 |true=>
  rw[hm]at ham
  repeat'(first|refine bl ?_|refine aF ham (bw ?_)|refine aF (aED x h0 (aHS x h0 h1 hm)) (bw ?_))
  all_goals exact dP (by simp_all)
def E4.MR(v:E4):Bool:=(v.me 512 16).1
theorem yD(v:E4)(hv:v.cR<=2^40):Pu 246 [.d (.agg v.aT1)] (.d (cb v.MR)):=by
 refine iC mix Tryz.func246 ?_;have hc1:=KL v hv 512 16 oM oM oM oM;unfold E4.MR;generalize v.me 512 16=z1 at hc1⊢;obtain⟨b1,m1⟩:=z1
 repeat'(first|refine bl ?_|(refine lN 17 (fV m1) ((hc1.AK rfl (λg=>rfl) (λg=>rfl) rfl (by simp[A.lQ,A.hs]) (aK _) 17 rfl).mR (.cons (.agg v.aT1) (.cons (.same _) (.cons (.same _) .nil)))) ?_;(conv=>whnf)))
 exact dP rfl
def E4.sW(v:E4):Bool:=v.sV||v.MR
theorem FR(v:E4)(hv:v.cR<=2^40):Pu 243 [.d (.agg v.aT1)] (.d (cb v.sW)):=by
 refine iC mix Tryz.func243 ?_
 repeat'(first|refine bl ?_|refine bS (λh=>?_) (λh=>?_)|refine dR (wS v) (.cons (.agg v.aT1) .nil) (bw ?_)|refine dR (yD v hv) (.cons (.agg v.aT1) .nil) (bw ?_))
 all_goals(refine dP ?_;simp_all[E4.sW])
theorem uP{m:Mem}{L:List A}{cs:List C}{x y:Bool}(h:wJ m L cs)(e:x=y):A1 m (.eL [.agg L,.d (cb x)]) (.eL [.d (.agg cs),.d (cb y)]):=by
 subst e;exact .eL (cs:=[.agg cs,cb x]) (.cons (.agg h) (.cons (.d _) .nil))
abbrev E4.zero:E4:=.mk 0 0 ByteArray.empty []
def S4.aIX(v:S4):S4:=.mk 0 v.name .empty 0 0 (v.a) .zero [] [] [] []
def S4.aKL(v:S4):Bool:=gN v.name&&v.a.sW
theorem aCZ(v:S4)(hv:v.cR<=2^40)(h0:0<=v.jR)(h1:v.jR<256):Pu 242 [.d (.agg v.aT1)] (.eL [.d (.agg v.aIX.aT1),.d (cb v.aKL)]):=by
 have AZ:=v.fA;have hca:v.a.cR<=2^40:=oM;have hcb:v.b.cR<=2^40:=oM;refine iC mix Tryz.func242 ?_
 repeat'(first|refine bl ?_|refine bS (λh=>?_) (λh=>?_)|refine cH (lF _) (bw ?_)|refine jV (FR v.a hca) (.cons (.agg v.a.aT1) .nil) (bw ?_))
 all_goals(refine uP (by repeat'(first|exact .nil|refine .cons (.d _) ?_|refine .cons (.nz _ _) ?_)) ?_;simp_all[S4.aKL])
def S4.aIY(v:S4):S4:=.mk 0 v.name .empty v.jR 0 (v.a) (v.b) [] [] [] []
def S4.aKM(v:S4):Bool:=gN v.name&&(aKT v.jR&&(v.a.MR&&(v.b.sW&&(v.b.sV||(decide (v.jR≠1)&&decide (v.jR≠32))))))
theorem aC0(v:S4)(hv:v.cR<=2^40)(h0:0<=v.jR)(h1:v.jR<256):Pu 244 [.d (.agg v.aT1)] (.eL [.d (.agg v.aIY.aT1),.d (cb v.aKM)]):=by
 have AZ:=v.fA;have hca:v.a.cR<=2^40:=oM;have hcb:v.b.cR<=2^40:=oM;refine iC mix Tryz.func244 ?_
 repeat'(first|refine bl ?_|refine bS (λh=>?_) (λh=>?_)|refine aF (lF _) (bw ?_)|refine aF (aGL v.jR h0 h1) (bw ?_)|refine dR (FR v.b hcb) (.cons (.agg v.b.aT1) .nil) (bw ?_)|refine dR (yD v.a hca) (.cons (.agg v.a.aT1) .nil) (bw ?_)|refine jV (wS v.b) (.cons (.agg v.b.aT1) .nil) (bw ?_))
 all_goals(refine uP (by repeat'(first|exact .nil|refine .cons (.d _) ?_|refine .cons (.nz _ _) ?_)) ?_;simp_all[S4.aKM])
def S4.aIZ(v:S4):S4:=.mk 0 v.name .empty 0 0 (v.a) (v.b) [] [] [] []
def S4.aKN(v:S4):Bool:=gN v.name&&(v.a.MR&&v.b.MR)
theorem aC1(v:S4)(hv:v.cR<=2^40)(h0:0<=v.jR)(h1:v.jR<256):Pu 248 [.d (.agg v.aT1)] (.eL [.d (.agg v.aIZ.aT1),.d (cb v.aKN)]):=by
 have AZ:=v.fA;have hca:v.a.cR<=2^40:=oM;have hcb:v.b.cR<=2^40:=oM;refine iC mix Tryz.func248 ?_
 repeat'(first|refine bl ?_|refine bS (λh=>?_) (λh=>?_)|refine cH (lF _) (bw ?_)|refine jV (yD v.a hca) (.cons (.agg v.a.aT1) .nil) (bw ?_)|refine jV (yD v.b hcb) (.cons (.agg v.b.aT1) .nil) (bw ?_))
 all_goals(refine uP (by repeat'(first|exact .nil|refine .cons (.d _) ?_|refine .cons (.nz _ _) ?_)) ?_;simp_all[S4.aKN])
def S4.aI0(v:S4):S4:=.mk 0 .empty .empty 0 0 (v.a) (v.b) v.t v.e [] []
def S4.aKO(v:S4):Bool:=v.a.sW&&v.b.sW
theorem aC2(v:S4)(hv:v.cR<=2^40)(h0:0<=v.jR)(h1:v.jR<256):Pu 249 [.d (.agg v.aT1)] (.eL [.d (.agg v.aI0.aT1),.d (cb v.aKO)]):=by
 have AZ:=v.fA;have hca:v.a.cR<=2^40:=oM;have hcb:v.b.cR<=2^40:=oM;refine iC mix Tryz.func249 ?_
 repeat'(first|refine bl ?_|refine bS (λh=>?_) (λh=>?_)|refine jV (FR v.a hca) (.cons (.agg v.a.aT1) .nil) (bw ?_)|refine jV (FR v.b hcb) (.cons (.agg v.b.aT1) .nil) (bw ?_))
 all_goals(refine uP (by repeat'(first|exact .nil|refine .cons (.d _) ?_|refine .cons (.nz _ _) ?_)) ?_;simp_all[S4.aKO])
def S4.aI1(v:S4):S4:=.mk 0 .empty .empty v.jR 0 (v.a) .zero v.t v.e [] []
def S4.aKP(v:S4):Bool:=v.a.MR&&TK v.jR
theorem aC3(v:S4)(hv:v.cR<=2^40)(h0:0<=v.jR)(h1:v.jR<256):Pu 250 [.d (.agg v.aT1)] (.eL [.d (.agg v.aI1.aT1),.d (cb v.aKP)]):=by
 have AZ:=v.fA;have hca:v.a.cR<=2^40:=oM;have hcb:v.b.cR<=2^40:=oM;refine iC mix Tryz.func250 ?_
 repeat'(first|refine bl ?_|refine bS (λh=>?_) (λh=>?_)|refine cH (IB v.jR) (bw ?_)|refine jV (yD v.a hca) (.cons (.agg v.a.aT1) .nil) (bw ?_))
 all_goals(refine uP (by repeat'(first|exact .nil|refine .cons (.d _) ?_|refine .cons (.nz _ _) ?_)) ?_;simp_all[S4.aKP])
def S4.aI2(v:S4):S4:=.mk 0 .empty .empty 0 0 (v.a) .zero [] [] [] []
def S4.aKQ(v:S4):Bool:=v.a.sW
theorem aC4(v:S4)(hv:v.cR<=2^40)(h0:0<=v.jR)(h1:v.jR<256):Pu 251 [.d (.agg v.aT1)] (.eL [.d (.agg v.aI2.aT1),.d (cb v.aKQ)]):=by
 have AZ:=v.fA;have hca:v.a.cR<=2^40:=oM;have hcb:v.b.cR<=2^40:=oM;refine iC mix Tryz.func251 ?_
 repeat'(first|refine bl ?_|refine jV (FR v.a hca) (.cons (.agg v.a.aT1) .nil) (bw ?_))
 all_goals(refine uP (by repeat'(first|exact .nil|refine .cons (.d _) ?_|refine .cons (.nz _ _) ?_)) ?_;simp_all[S4.aKQ])
def S4.aI3(v:S4):S4:=.mk 0 .empty .empty 0 0 .zero .zero [] [] [] []
def S4.aKR(v:S4):Bool:=true
theorem aC5(v:S4)(hv:v.cR<=2^40)(h0:0<=v.jR)(h1:v.jR<256):Pu 252 [.d (.agg v.aT1)] (.eL [.d (.agg v.aI3.aT1),.d (cb v.aKR)]):=by
 have AZ:=v.fA;have hca:v.a.cR<=2^40:=oM;have hcb:v.b.cR<=2^40:=oM;refine iC mix Tryz.func252 ?_;refine bl ?_
 all_goals(refine uP (by repeat'(first|exact .nil|refine .cons (.d _) ?_|refine .cons (.nz _ _) ?_)) ?_;simp_all[S4.aKR])
def S4.aI4(v:S4):S4:=.mk 0 v.name .empty 0 0 (v.a) .zero [] [] [] []
def S4.aKS(v:S4):Bool:=gN v.name&&v.a.MR
theorem aC6(v:S4)(hv:v.cR<=2^40)(h0:0<=v.jR)(h1:v.jR<256):Pu 253 [.d (.agg v.aT1)] (.eL [.d (.agg v.aI4.aT1),.d (cb v.aKS)]):=by
 have AZ:=v.fA;have hca:v.a.cR<=2^40:=oM;have hcb:v.b.cR<=2^40:=oM;refine iC mix Tryz.func253 ?_
 repeat'(first|refine bl ?_|refine bS (λh=>?_) (λh=>?_)|refine cH (lF _) (bw ?_)|refine jV (yD v.a hca) (.cons (.agg v.a.aT1) .nil) (bw ?_))
 all_goals(refine uP (by repeat'(first|exact .nil|refine .cons (.d _) ?_|refine .cons (.nz _ _) ?_)) ?_;simp_all[S4.aKS])
theorem S6(k:FuncId)(caps:List C)(p:ByteArray->Bool)(L:List ByteArray)(hf:∀i(h:i<L.length),∀m,aJ Tryz.prog k ([.d (.v (.string L[i]))]++caps.map A.d) m (.ok (.d (cb (p L[i])))) m)(hL:L.length<=2^40):Pu 259 [.d (.sl 1 (sR L)),.d (.fn (.func k) [] caps)] (.d (ci (idxOf p L))):=by
 refine iC mix Tryz.func259 ?_;refine bl ?_;refine bV mix (λi:Nat=>i<=L.length/\(L.take i).any p=false) (I:=λi=>[(0,.d (.sl 1 (sR L))),(1,.d (.fn (.func k) [] caps)),(7,.d (ci L.length)),(8,.d (ci i))])
  (J:=λi=>[]) (μ:=λi=>L.length -i) 100 0 ⟨oM,rfl⟩ mZ ?_
 rintro i ⟨hi,h0⟩
 repeat'(first|refine bl ?_|refine bS (λh=>?_) (λh=>?_))
 ·refine cD rfl eD h ?_;conv=>whnf
  skip
  refine aF (hf i h) ?_;conv=>whnf
  repeat'(first|refine bl ?_|refine bS (λh=>?_) (λh=>?_))
  ·exact oF (CN p L i aM h0 aM).symm
  ·refine⟨i+1,oM,⟨oM,A2 p L i aM h0 aM⟩,?_⟩;exact mZ
 ·rw[aI oM]at h0;exact oF (CM p L h0).symm
theorem JD(k:FuncId)(caps:List C)(p:ByteArray->Bool)(L:List ByteArray)(hf:∀i(h:i<L.length),∀m,aJ Tryz.prog k ([.d (.v (.string L[i]))]++caps.map A.d) m (.ok (.d (cb (p L[i])))) m)(hL:L.length<=2^40):Pu 256 [.d (.sl 1 (sR L)),.d (.fn (.func k) [] caps)] (.d (cb (L.any p))):=by
 refine iC mix Tryz.func256 ?_;refine bl ?_;refine aF (S6 k caps p L hf hL) ?_;conv=>whnf
 refine bl ?_;exact dP (yH p L)
theorem aAV(s:ByteArray):Pu 257 [.d (.v (.string s))] (.d (cb (!gN s))):=by
 refine iC mix Tryz.func257 ?_
 repeat'(first|refine bl ?_|refine aF (lF _) (bw ?_))
 exact dP rfl
def S4.sU(v:S4):S4:=
 if v.bQ=1 then .mk 0 v.name .empty 0 v.bQ v.a .zero [] [] [] []
 else if v.bQ=2\/v.bQ=3\/v.bQ=4\/v.bQ=8 then .mk 0 v.name .empty 0 v.bQ .zero .zero [] [] [] []
 else if v.bQ=14 then .mk 0 v.name .empty v.jR v.bQ v.a .zero [] [] [] []
 else if v.bQ=15\/v.bQ=16 then .mk 0 v.name v.second 0 v.bQ v.a .zero [] [] [] []
 else if v.bQ=5\/v.bQ=10 then .mk 0 v.name v.second 0 v.bQ .zero .zero [] [] [] []
 else if v.bQ=12 then .mk 0 v.name .empty 0 v.bQ .zero .zero [] [] v.c v.w
 else .mk 0 v.name .empty 0 v.bQ .zero .zero [] [] [] []
def S4.pL(v:S4):Bool:=
 if v.bQ=1 then gN v.name&&v.a.sW
 else if v.bQ=2\/v.bQ=3\/v.bQ=4\/v.bQ=8 then gN v.name
 else if v.bQ=14 then gN v.name&&(v.a.MR&&TK v.jR)
 else if v.bQ=15\/v.bQ=16 then gN v.name&&(v.a.MR&&(gN v.second&&decide (v.second≠v.name)))
 else if v.bQ=5\/v.bQ=10 then gN v.name&&(gN v.second&&decide (v.second≠v.name))
 else if v.bQ=12 then gN v.name&&(decide (v.w.length<=64)&&(!(v.w.any λs=> !gN s)&&decide v.w.Nodup))
 else false
theorem aD2(v:S4)(hv:v.cR<=2^38):Pu 247 [.d (.agg v.aT1)] (.eL [.d (.agg v.sU.aT1),.d (cb v.pL)]):=by
 have AZ:=v.fA;have hca:v.a.cR<=2^40:=oM;have hcw:v.w.length<=2^38:=oM;refine iC mix Tryz.func247 ?_
 repeat'(first|refine bl ?_|refine bS (λh=>?_) (λh=>?_)|refine aF (lF _) (bw ?_)|refine cH (lF _) (bw ?_)|refine cH (IB v.jR) (bw ?_)|refine jV (FR v.a hca) (.cons (.agg v.a.aT1) .nil) (bw ?_)|refine jV (yD v.a hca) (.cons (.agg v.a.aT1) .nil) (bw ?_)|refine cH (UT v.w hcw) (bw ?_)|refine cH (JD 257 [] (λs=> !gN s) v.w (λi h=>aAV v.w[i]) oM) (bw ?_))
 all_goals first
  |(have e:v.sU=.mk 0 v.name .empty 0 v.bQ v.a .zero [] [] [] []:=by unfold S4.sU;rw[aUF oM]
    rw[e];refine uP (by repeat'(first|exact .nil|refine .cons (.d _) ?_|refine .cons (.nz _ _) ?_)) ?_
    unfold S4.pL;rw[aUF oM];(try(first|(simp_all;done)|(rw[aU0 (by omega:¬v.w.length<=64)];simp;done)|(rw[aUZ (by omega:v.w.length<=64)];simp_all;done)|(obtain⟨x,hx,BF⟩:=h;rw[show(v.w.any λs=> !gN s)=true from dQ.2 ⟨x,hx,by simp[BF]⟩];simp;done)|(rename_i hxx _;obtain⟨x,hx,BF⟩:=hxx;rw[show(v.w.any λs=> !gN s)=true from dQ.2 ⟨x,hx,by simp[BF]⟩];simp;done)));done)
  |(have e:v.sU=.mk 0 v.name .empty 0 v.bQ .zero .zero [] [] [] []:=by unfold S4.sU;rw[aT7 oM,aUF oM]
    rw[e];refine uP (by repeat'(first|exact .nil|refine .cons (.d _) ?_|refine .cons (.nz _ _) ?_)) ?_
    unfold S4.pL;rw[aT7 oM,aUF oM];(try(first|(simp_all;done)|(rw[aU0 (by omega:¬v.w.length<=64)];simp;done)|(rw[aUZ (by omega:v.w.length<=64)];simp_all;done)|(obtain⟨x,hx,BF⟩:=h;rw[show(v.w.any λs=> !gN s)=true from dQ.2 ⟨x,hx,by simp[BF]⟩];simp;done)|(rename_i hxx _;obtain⟨x,hx,BF⟩:=hxx;rw[show(v.w.any λs=> !gN s)=true from dQ.2 ⟨x,hx,by simp[BF]⟩];simp;done)));done)
  |(have e:v.sU=.mk 0 v.name .empty v.jR v.bQ v.a .zero [] [] [] []:=by unfold S4.sU;rw[aT7 oM,aT7 oM,aUF oM]
    rw[e];refine uP (by repeat'(first|exact .nil|refine .cons (.d _) ?_|refine .cons (.nz _ _) ?_)) ?_
    unfold S4.pL;rw[aT7 oM,aT7 oM,aUF oM];(try(first|(simp_all;done)|(rw[aU0 (by omega:¬v.w.length<=64)];simp;done)|(rw[aUZ (by omega:v.w.length<=64)];simp_all;done)|(obtain⟨x,hx,BF⟩:=h;rw[show(v.w.any λs=> !gN s)=true from dQ.2 ⟨x,hx,by simp[BF]⟩];simp;done)|(rename_i hxx _;obtain⟨x,hx,BF⟩:=hxx;rw[show(v.w.any λs=> !gN s)=true from dQ.2 ⟨x,hx,by simp[BF]⟩];simp;done)));done)
  |(have e:v.sU=.mk 0 v.name v.second 0 v.bQ v.a .zero [] [] [] []:=by unfold S4.sU;rw[aT7 oM,aT7 oM,aT7 oM,aUF oM]
    rw[e];refine uP (by repeat'(first|exact .nil|refine .cons (.d _) ?_|refine .cons (.nz _ _) ?_)) ?_
    unfold S4.pL;rw[aT7 oM,aT7 oM,aT7 oM,aUF oM];(try(first|(simp_all;done)|(rw[aU0 (by omega:¬v.w.length<=64)];simp;done)|(rw[aUZ (by omega:v.w.length<=64)];simp_all;done)|(obtain⟨x,hx,BF⟩:=h;rw[show(v.w.any λs=> !gN s)=true from dQ.2 ⟨x,hx,by simp[BF]⟩];simp;done)|(rename_i hxx _;obtain⟨x,hx,BF⟩:=hxx;rw[show(v.w.any λs=> !gN s)=true from dQ.2 ⟨x,hx,by simp[BF]⟩];simp;done)));done)
  |(have e:v.sU=.mk 0 v.name v.second 0 v.bQ .zero .zero [] [] [] []:=by unfold S4.sU;rw[aT7 oM,aT7 oM,aT7 oM,aT7 oM,aUF oM]
    rw[e];refine uP (by repeat'(first|exact .nil|refine .cons (.d _) ?_|refine .cons (.nz _ _) ?_)) ?_
    unfold S4.pL;rw[aT7 oM,aT7 oM,aT7 oM,aT7 oM,aUF oM];(try(first|(simp_all;done)|(rw[aU0 (by omega:¬v.w.length<=64)];simp;done)|(rw[aUZ (by omega:v.w.length<=64)];simp_all;done)|(obtain⟨x,hx,BF⟩:=h;rw[show(v.w.any λs=> !gN s)=true from dQ.2 ⟨x,hx,by simp[BF]⟩];simp;done)|(rename_i hxx _;obtain⟨x,hx,BF⟩:=hxx;rw[show(v.w.any λs=> !gN s)=true from dQ.2 ⟨x,hx,by simp[BF]⟩];simp;done)));done)
  |(have e:v.sU=.mk 0 v.name .empty 0 v.bQ .zero .zero [] [] v.c v.w:=by unfold S4.sU;rw[aT7 oM,aT7 oM,aT7 oM,aT7 oM,aT7 oM,aUF oM]
    rw[e];refine uP (by repeat'(first|exact .nil|refine .cons (.d _) ?_|refine .cons (.nz _ _) ?_)) ?_
    unfold S4.pL;rw[aT7 oM,aT7 oM,aT7 oM,aT7 oM,aT7 oM,aUF oM];(try(first|(simp_all;done)|(rw[aU0 (by omega:¬v.w.length<=64)];simp;done)|(rw[aUZ (by omega:v.w.length<=64)];simp_all;done)|(obtain⟨x,hx,BF⟩:=h;rw[show(v.w.any λs=> !gN s)=true from dQ.2 ⟨x,hx,by simp[BF]⟩];simp;done)|(rename_i hxx _;obtain⟨x,hx,BF⟩:=hxx;rw[show(v.w.any λs=> !gN s)=true from dQ.2 ⟨x,hx,by simp[BF]⟩];simp;done)));done)
  |(have e:v.sU=.mk 0 v.name .empty 0 v.bQ .zero .zero [] [] [] []:=by unfold S4.sU;rw[aT7 oM,aT7 oM,aT7 oM,aT7 oM,aT7 oM,aT7 oM]
    rw[e];refine uP (by repeat'(first|exact .nil|refine .cons (.d _) ?_|refine .cons (.nz _ _) ?_)) ?_
    unfold S4.pL;rw[aT7 oM,aT7 oM,aT7 oM,aT7 oM,aT7 oM,aT7 oM];(try(first|(simp_all;done)|(rw[aU0 (by omega:¬v.w.length<=64)];simp;done)|(rw[aUZ (by omega:v.w.length<=64)];simp_all;done)|(obtain⟨x,hx,BF⟩:=h;rw[show(v.w.any λs=> !gN s)=true from dQ.2 ⟨x,hx,by simp[BF]⟩];simp;done)|(rename_i hxx _;obtain⟨x,hx,BF⟩:=hxx;rw[show(v.w.any λs=> !gN s)=true from dQ.2 ⟨x,hx,by simp[BF]⟩];simp;done)));done)
end Go.Pv
