import Derived.Test.YtpdcbahjjmooiaaGreatA24
import Derived.Shelf.SlicesE.Compact
import Derived.Sort.LotD5
/- A program logic over the model, contracts of the functions that the law reaches: part 25. (Names and blanks were shortened by program.) -/
set_option linter.unusedVariables false
set_option linter.unusedSimpArgs false
set_option linter.constructorNameAsVariable false
set_option linter.unusedSectionVars false
set_option linter.deprecated false
set_option maxRecDepth 100000
set_option maxHeartbeats 8000000
open Go Go.Proofs
namespace Go.Pv
open Go.RowKit
variable{n:Int}
def aNN:Go.Shelf.Ren:=⟨λx=>if x=43 then 107 else x,λx=>if x=22 then 31 else if x=23 then 25 else x,λx=>x⟩
theorem aNE:SlLaysE.n43 Tryz.prog aNN where
 mixed:=mix
 f43:=⟨Tryz.f107.name,by kernel_rfl,by kernel_rfl⟩
 t0:=by kernel_rfl
 a0:=λw=>by rfl
 z0:=λw=>by rfl
 v0:=λw=>by rfl
 t3:=by kernel_rfl
 a3:=λw=>by rfl
 z3:=λw=>by rfl
 v3:=λw=>by rfl
 t4:=by kernel_rfl
 a4:=λw=>by rfl
 z4:=λw=>by rfl
 v4:=λw=>by rfl
 t22:=by kernel_rfl
 a22:=λw=>by rfl
 z22:=λw=>by rfl
 v22:=λw=>by rfl
 a23:=λw=>by rfl
 z23:=λw=>by rfl
abbrev encI:Int->Value:=Value.int .i64
theorem aNI:OneCell encI:=λx=>rfl
theorem VG{w:World}{M:Nat->Prop}{m:Mem}{ρ:Nat->Value}:∀(L:List Int)(ys:List Value),A.bR w M m ρ (bE (iR L)).flatten ys↔ys=L.map encI
 |[],ys=>by simp[bE,A.bR]
 |x::L,ys=>by
  have ih:=VG (w:=w) (M:=M) (m:=m) (ρ:=ρ) L;simp only[bE,iR,aG,dL,bM,qY,A.bR,A.Den,C.Den]at ih⊢;constructor
  ·rintro⟨y,yr,rfl,rfl,h⟩;rw[(ih yr).1 h]
  ·intro h;exact⟨encI x,L.map encI,h,rfl,(ih _).2 rfl⟩
def DH(d:Array Int):Array Int:=(Go.Lib.compactUpTo d d.size).toArray
theorem PJ(d:Array Int):(Go.Lib.compactUpTo d d.size).length<=d.size:=by
 unfold Go.Lib.compactUpTo;rw[aB];exact cL (List.length_filter_le _ _) (by simp)
theorem XQ(d:Array Int)(h:0<d.size):0<(Go.Lib.compactUpTo d d.size).length:=by
 unfold Go.Lib.compactUpTo;rw[aB];have:0∈(List.range d.size).filter (Go.Lib.keeps d):=jU.2 ⟨jI.2 h,by simp[Go.Lib.keeps]⟩;exact List.length_pos_of_mem this
theorem VD(d:Array Int)(h1:0<d.size)(hd:d.size<=2^40):aJ Tryz.prog 107 [.h 0] (aK [(0,iG d)]) (.ok (.h 1)) (aH (aK [(0,iG d)]) [(0,.dead),(1,iG (DH d))]):=by
 refine⟨by kernel_rfl,?_⟩;intro N T M0 S0 w0 ρ a w hs hlt vs hvs;have hm0:aK [(0,iG d)] 0=some (iG d):=rfl;have hmi:∀i r,aK [(0,iG d)] i=some r->i=0/\r=iG d:=by
  intro i r h;simp only[aK]at h;cases hb:Nat.beq 0 i with
  |true=>rw[hb]at h;simp only[cond_true,aA]at h;exact⟨(bB hb).symm,h.symm⟩
  |false=>rw[hb]at h;cases h
 obtain⟨xs,hown,hden,hlen,hfz,hone⟩:=hs.res 0 _ hm0;have hxs:=(VG _ _).1 hden;have hrl:(bE (iR d.toList)).length=d.size:=by simp[bE]
 rw[hrl]at hown;rcases hown with⟨rfl,hn,_⟩|⟨hxl,g,o,cap,cur,hρ,hcp,hg,hnc,hcm,hfit,htk⟩
 ·omega
 simp only[A.bR,A.Den]at hvs;obtain⟨y,yr,rfl,hy,rfl⟩:=hvs;have hyv:=eH hy hm0 (λe=>by cases e);rw[hρ]at hyv;subst hyv;have hc:∀j(h:j<d.size),w.cell? ⟨g,o+j,none⟩=some (encI d[j]!):=by
  intro j h;have:=vV.cells (.inr ⟨hxl,g,o,cap,cur,rfl,hcp,hg,hnc,hcm,hfit,htk⟩) rfl j (encI d[j]!) (by rw[hxs];simp[h]);exact this
 have hH:Go.Sort.Holds encI w g o d:=λj h=>⟨hc j h,by unfold World.frozen?;rw[hg];simp⟩;have hcall:=AnyE.slices_Compact aNE encI aNI (EqlAt.intD _ _ _) (NeqAt.intD _ _ _) (0:Int) (λw=>by rfl) g o cap d w hH (by omega) hnc;refine hcall.mono ?_;rintro e w' ⟨rfl,q,rfl⟩;have hcl:=PJ d;have hcp2:=XQ d h1;generalize hL:Go.Lib.compactUpTo d d.size=L at hcl hcp2;have hcA:DH d=L.toArray:=by unfold DH;rw[hL]
 rw[hcA];generalize hnd:(L++List.replicate (d.size -L.length) (0:Int)).toArray=nd;have hnds:nd.size=d.size:=by rw[<-hnd];simp;omega
 have hgw:(Go.Sort.putRow encI (Go.Sort.ahead w q) g o nd).heap[g]?=some (.cells (Go.Sort.putCells encI o nd cur) 25 (0,0)):=by
  unfold Go.Sort.putRow Go.Sort.mapBlock;simp only[Array.getElem?_modify,if_true];rw[show(Go.Sort.ahead w q).heap=w.heap from rfl,hg];rfl
 have hkeep:iF (λb=>b=g) w (Go.Sort.putRow encI (Go.Sort.ahead w q) g o nd):=
  ⟨rfl,rfl,rfl,by simp[Go.Sort.ahead],λb hb hn=>by
    unfold Go.Sort.putRow Go.Sort.mapBlock;simp only[Array.getElem?_modify];rw[if_neg (λe=>hn e.symm)]
    rfl⟩
 generalize hwE:Go.Sort.putRow encI (Go.Sort.ahead w q) g o nd=w' at hgw hkeep;let ρ':Nat->Value:=dW ρ 1 (.slice (some ⟨g,o,none⟩) L.length cap);have hgm:dD M0 (aK [(0,iG d)]) ρ g:=.inr ⟨0,_,hm0,rfl,by rw[hρ];simp[jK];omega⟩;have hgo:=hs.own 0 _ g hm0 rfl (by rw[hρ];simp[jK];omega);have hblk1:jK (ρ' 1)=some g:=by
  show jK (dW ρ 1 _ 1)=_;simp[dW,jK];omega
 have hm2:∀i r,aH (aK [(0,iG d)]) [(0,.dead),(1,iG L.toArray)] i=some r->(i=0/\r=.dead)\/(i=1/\r=iG L.toArray):=by
  intro i r hi;simp only[aH,aX]at hi;split at hi
  ·rename_i e;exact .inr ⟨e,(eY hi).symm⟩
  ·split at hi
   ·rename_i e;exact .inl ⟨e,(eY hi).symm⟩
   ·rename_i e1 e2;exact absurd (hmi i r hi).1 e2
 have hst:dV (dD M0 (aK [(0,iG d)]) ρ) w w':=hkeep.stays λb _ e=>by rw[e];exact hgm
 have hmu:∀b,dD M0 (aH (aK [(0,iG d)]) [(0,.dead),(1,iG L.toArray)]) ρ' b->b<w.heap.size->dD M0 (aK [(0,iG d)]) ρ b:=by
  rintro b (e|⟨i,r,e1,e2,e3⟩) _
  ·exact .inl e
  ·rcases hm2 i r e1 with⟨rfl,rfl⟩|⟨rfl,rfl⟩
   ·cases e2
   ·rw[hblk1]at e3;rw[<-eY e3];exact hgm
 have hon:cI (aK [(0,iG d)]) (aH (aK [(0,iG d)]) [(0,.dead),(1,iG L.toArray)]) ρ ρ':=by
  intro i hi;cases hq:aK [(0,iG d)] i with
  |none=>exact absurd hq hi
  |some r=>
   obtain⟨rfl,rfl⟩:=hmi i r hq;exact⟨by simp[aH,aX],λhd=>absurd (by simp[aH,aX]) hd⟩
 refine⟨ρ',?_,hon,?_⟩
 ·exact{keeps:=hs.keeps.trans hkeep λb hb e=>by subst e;exact hgo.1.resolve_left (by omega)
        size:=hs.size
        defers:=λds e=>eJ hst hmu hon _ _ (hs.defers ds e)
        tmps:=λk=>A.dC hst hmu hon _ _ (hs.tmps k)
        res:=λi r hi=>by
         rcases hm2 i r hi with⟨rfl,rfl⟩|⟨rfl,rfl⟩
         · trivial
         · refine⟨L.map encI,?_,(VG _ _).2 (by simp),?_,(λe=>by cases e),?_⟩
           · refine .inr ⟨by simp[bE],g,o,cap,_,?_,hcp,hgw,?_,hcm,?_,?_⟩
             · show dW ρ 1 _ 1=_
               simp[dW,bE]
             · simp[bE];omega
             · simp[Go.Sort.putCells];omega
             · simp only[bE,aB,Nat.mul_one]
               refine iQ λj=>?_;rw[cM];by_cases hj:j<L.length
               · rw[if_pos (by simpa using hj),eA,Array.getElem?_toList]
                 unfold Go.Sort.putCells;rw[Array.getElem?_mapIdx,cF (by omega:o+j<cur.size)];simp only[dF];rw[if_pos (by omega)];have e1:o+j -o=j:=by omega
                 rw[e1,<-hnd];simp[hj,bX hj]
               · rw[if_neg (by simpa using hj),c8 (by simpa using hj)]
           · intro e he
             simp only[bE,iR,aM]at he;obtain⟨x,⟨y,_,rfl⟩,rfl⟩:=he;rfl
           · intro u hu
             obtain⟨x,_,rfl⟩:=aM.1 hu;rfl
        own:=λi r b hi hl hb=>by
         rcases hm2 i r hi with⟨rfl,rfl⟩|⟨rfl,rfl⟩
         · cases hl
         · rw[hblk1]at hb
           have:=eY hb;subst this;exact⟨hgo.1,hgo.2.1,cG hgo.2.2 hkeep.size⟩
        apart:=λi j r s b hi l1 hj l2 c1 c2=>by
         rcases hm2 i r hi with⟨rfl,rfl⟩|⟨rfl,rfl⟩
         · cases l1
         · rcases hm2 j s hj with⟨rfl,rfl⟩|⟨rfl,rfl⟩
           · cases l2
           · rfl}
 ·refine⟨_,rfl,?_⟩;simp only[A.Den];refine⟨by simp[aH,aX],λ_=>?_⟩;show _=dW ρ 1 _ 1;simp[dW]
theorem qP(hi first r:Nat)(f:Array Int):Go.Sort.siftDown eF hi first r f=if hi<=2*r+1 then f else
 if 2*r+2<hi/\f[first+(2*r+1)]! <f[first+(2*r+2)]! then
  (if f[first+r]! <f[first+(2*r+2)]! then Go.Sort.siftDown eF hi first (2*r+2) (Go.Sort.swp f (first+r) (first+(2*r+2)))else f)
 else(if f[first+r]! <f[first+(2*r+1)]! then Go.Sort.siftDown eF hi first (2*r+1) (Go.Sort.swp f (first+r) (first+(2*r+1)))else f):=by
 rw[Go.Sort.siftDown.eq_def];by_cases h:hi<=2*r+1
 ·rw[dif_pos h,if_pos h]
 rw[dif_neg h,if_neg h];by_cases h2:2*r+2<hi/\f[first+(2*r+1)]! <f[first+(2*r+2)]!
 ·rw[if_pos h2,if_pos (by simpa [eF,fP]using h2),dif_pos h2.1];by_cases h3:f[first+r]! <f[first+(2*r+2)]!
  ·rw[if_pos h3,if_neg (by simpa [eF]using h3)]
  ·rw[if_neg h3,if_pos (by simpa [eF]using h3)]
 ·rw[if_neg h2,if_neg (by simpa [eF,fP]using h2)];by_cases h3:f[first+r]! <f[first+(2*r+1)]!
  ·rw[if_pos h3,if_neg (by simpa [eF]using h3)]
  ·rw[if_neg h3,if_pos (by simpa [eF]using h3)]
theorem UN(d:Array Int)(lo hi first:Nat)(hh:first+hi<=d.size)(hlo:lo<=2^40)(hd:d.size<=2^40):aJ Tryz.prog 215 [.h 0,.d (ci lo),.d (ci hi),.d (ci first)] (aK [(0,iG d)]) (.ok (.eL [])) (aH (aK [(0,iG d)]) [(0,iG (Go.Sort.siftDown eF hi first lo d))]):=by
 refine wE mix 100 Tryz.func215 trivial ⟨aZ,trivial⟩ ?_;refine bl ?_;refine bV mix (λs:Nat×Array Int=>s.1<=2^40/\s.2.size=d.size/\Go.Sort.siftDown eF hi first s.1 s.2=Go.Sort.siftDown eF hi first lo d) (I:=λs=>[(0,.h 0),(2,.d (ci hi)),(3,.d (ci first)),(8,.d (ci s.1))])
  (J:=λs=>[(0,iG s.2)]) (μ:=λs=>hi -s.1) 200 (lo,d) ⟨hlo,rfl,rfl⟩ (by exact mv 5000 5001) ?_
 rintro⟨r,f⟩ ⟨h1,h2,h3⟩;dsimp only at h1 h2 h3⊢
 repeat'(first|refine bl ?_|refine bS (λh=>?_) (λh=>?_)|refine lG.mk (first+(2*r+1)) (by omega) (by simp only[bE,cE,aB,c7];omega) (bw ?_)|refine lG.mk (first+(2*r+2)) (by omega) (by simp only[bE,cE,aB,c7];omega) (bw ?_)|refine ow2 (first+r) (bw ?_)|(refine fZ.mk _ (fY f _ (by omega)) ?_;(conv=>whnf))|(refine fZ.mk _ ((jH (by omega)).trans (fY f _ (by omega))) ?_;(conv=>whnf))|refine cH (nE _ _) (bw ?_))
 ·refine dA rfl ⟨.inr ?_,.inl rfl,trivial⟩;rw[<-h3,qP,if_pos (by omega)];rfl
 ·refine dA rfl ⟨.inr ?_,.inl rfl,trivial⟩;rw[<-h3,qP,if_neg (by omega),if_pos ⟨by omega,by assumption⟩,if_neg (by omega)];rfl
 ·refine⟨(2*r+2,Go.Sort.swp f (first+r) (first+(2*r+2))),by dsimp only;omega,⟨by dsimp only;omega,by simp[Go.Sort.swp,h2],?_⟩,?_⟩
  ·dsimp only;rw[qP,if_neg (by omega),if_pos ⟨by omega,by assumption⟩,if_pos (by assumption)]at h3;exact h3
  ·refine mq 5000 5001 ?_;exact cO rfl (jD f _ _)
 ·refine dA rfl ⟨.inr ?_,.inl rfl,trivial⟩;rw[<-h3,qP,if_neg (by omega),if_neg (by omega),if_neg (by omega)];rfl
 ·refine⟨(2*r+1,Go.Sort.swp f (first+r) (first+(2*r+1))),by dsimp only;omega,⟨by dsimp only;omega,by simp[Go.Sort.swp,h2],?_⟩,?_⟩
  ·dsimp only;rw[qP,if_neg (by omega),if_neg (by omega),if_pos (by assumption)]at h3;exact h3
  ·refine mq 5000 5001 ?_;exact cO rfl (jD f _ _)
 ·refine dA rfl ⟨.inr ?_,.inl rfl,trivial⟩;rw[<-h3,qP,if_neg (by omega),if_neg (by omega),if_neg (by omega)];rfl
 ·refine⟨(2*r+1,Go.Sort.swp f (first+r) (first+(2*r+1))),by dsimp only;omega,⟨by dsimp only;omega,by simp[Go.Sort.swp,h2],?_⟩,?_⟩
  ·dsimp only;rw[qP,if_neg (by omega),if_neg (by omega),if_pos (by assumption)]at h3;exact h3
  ·refine mq 5000 5001 ?_;exact cO rfl (jD f _ _)
theorem T8(d:Array Int)(a b:Nat)(h1b:1<=b)(ha:a<=b)(hb:b<=d.size)(hd:d.size<=2^40):aJ Tryz.prog 193 [.h 0,.d (ci a),.d (ci b)] (aK [(0,iG d)]) (.ok (.eL [])) (aH (aK [(0,iG d)]) [(0,iG (Go.Sort.reverseRange d a b))]):=by
 refine wE mix 100 Tryz.func193 trivial ⟨aZ,trivial⟩ ?_;refine bl ?_;refine bV mix (λs:(Nat×Nat)×Array Int=>s.1.1<=2^40/\s.1.2<d.size/\s.2.size=d.size/\Go.Sort.reverseLoop s.1.1 s.1.2 s.2=Go.Sort.reverseRange d a b) (I:=λs=>[(0,.h 0),(6,.d (ci s.1.1)),(7,.d (ci s.1.2))])
  (J:=λs=>[(0,iG s.2)]) (μ:=λs=>s.1.2 -s.1.1) 200 ((a,b -1),d) ⟨by dsimp only;omega,by dsimp only;omega,rfl,rfl⟩ (by exact mv 5000 5001) ?_
 rintro⟨⟨i,j⟩,f⟩ ⟨h1,h2,h3,h4⟩;dsimp only at h1 h2 h3 h4⊢
 repeat'(first|refine bl ?_|refine bS (λh=>?_) (λh=>?_)|refine ow i (bw ?_)|refine ow j (bw ?_)|(refine fZ.mk _ (fY f _ (by omega)) ?_;(conv=>whnf))|(refine fZ.mk _ ((jH (by omega)).trans (fY f _ (by omega))) ?_;(conv=>whnf)))
 ·refine⟨((i+1,j -1),Go.Sort.swp f i j),by dsimp only;omega,⟨by dsimp only;omega,by dsimp only;omega,by simp[Go.Sort.swp,h3],?_⟩,?_⟩
  ·dsimp only;rw[<-h4,Go.Sort.reverseLoop.eq_def i j f,if_pos (by assumption)]
  ·refine mq 5000 5001 ?_;exact cO rfl (jD f _ _)
 ·refine dA rfl ⟨.inr ?_,.inl rfl,trivial⟩;rw[<-h4,Go.Sort.reverseLoop.eq_def,if_neg (by omega)];rfl
theorem EV(d:Array Int){lo hi first:Int}(lo' hi' first':Nat)(e1:lo=lo')(e2:hi=hi')(e3:first=first')(hh:first'+hi'<=d.size)(hlo:lo'<=2^40)(hd:d.size<=2^40):aJ Tryz.prog 215 [.h 0,.d (ci lo),.d (ci hi),.d (ci first)] (aK [(0,iG d)]) (.ok (.eL [])) (aH (aK [(0,iG d)]) [(0,iG (Go.Sort.siftDown eF hi' first' lo' d))]):=by
 subst e1;subst e2;subst e3;exact UN d lo' hi' first' hh hlo hd
theorem xL(hi first:Nat):∀(n r:Nat)(f:Array Int),hi -r<=n->(Go.Sort.siftDown eF hi first r f).size=f.size
 |0,r,f,h=>by rw[qP,if_pos (by omega)]
 |n+1,r,f,h=>by
  rw[qP]
  repeat' split
  all_goals first
   |rfl
   |(rw[xL hi first n _ _ (by omega)];simp[Go.Sort.swp])
theorem rK(f:Array Int)(i j:Nat)(h:j<f.size):((bE (iR f.toList)).set i [.d (ci f[j]!)])[j]?=some [.d (ci f[j]!)]:=by
 by_cases e:i=j
 ·subst e;rw[List.getElem?_set_self (by simp only[bE,aB,c7];exact h)]
 ·rw[jH e];exact fY f j h
theorem tdv(a b:Nat)(h:a<=b):((b:Int)-a -1).tdiv 2=(((b -a -1)/2:Nat):Int):=by
 by_cases e:a=b
 ·subst e;rw[show(a:Int)-a -1=-1 by omega,show a -a -1=0 by omega];rfl
 ·rw[n5 (by omega)];omega
theorem SZ(d:Array Int)(a b:Nat)(ha:a<=b)(hb:b<=d.size)(hd:d.size<=2^39):aJ Tryz.prog 190 [.h 0,.d (ci a),.d (ci b)] (aK [(0,iG d)]) (.ok (.eL [])) (aH (aK [(0,iG d)]) [(0,iG (Go.Sort.heapSort eF d a b))]):=by
 refine wE mix 100 Tryz.func190 trivial ⟨aZ,trivial⟩ ?_;refine bl ?_;rw[tdv a b ha];refine⟨decide_eq_true ⟨rfl,by decide,RG (by omega) (by omega)⟩,?_⟩;conv=>whnf
 refine bl ?_;refine bV mix (λs:Nat×Array Int=>s.1<=(b -a -1)/2+1/\s.2.size=d.size/\Go.Sort.heapBuild eF (b -a) a s.1 s.2=Go.Sort.heapBuild eF (b -a) a ((b -a -1)/2+1) d) (I:=λs=>[(0,.h 0),(6,.d (ci a)),(7,.d (ci 0)),(8,.d (ci (b -a:Nat))),(9,.d (ci ((s.1:Int)-1)))])
  (J:=λs=>[(0,iG s.2)]) (μ:=λs=>s.1) 200 ((b -a -1)/2+1,d) ⟨by dsimp only;omega,rfl,rfl⟩ (by exact mv 5000 5001) ?_
 rintro⟨k,f⟩ ⟨h1,h2,h3⟩;dsimp only at h1 h2 h3⊢
 repeat'(first|refine bl ?_|refine bS (λh=>?_) (λh=>?_))
 ·cases k with
  |zero=>exact absurd ‹(1:Int)<=((0:Nat):Int)› (by omega)
  |succ q=>
   refine dZ.mk (.eL []) [(0,iG (Go.Sort.siftDown eF (b -a) a q f))] (aJ.hP (EV f q (b -a) a (by omega) rfl rfl (by omega) (by omega) (by omega)) ⟨sn,trivial⟩ ⟨rfl,trivial⟩ ⟨aZ,trivial⟩ ⟨.inl sn,trivial⟩) ?_;conv=>whnf
   refine bl ?_;refine⟨(q,Go.Sort.siftDown eF (b -a) a q f),by dsimp only;omega,⟨by dsimp only;omega,by dsimp only;rw[xL _ _ _ _ _ (bT _)];exact h2,h3⟩,by exact mv 5000 5001⟩
 ·have hk:k=0:=by omega
  subst hk;refine bV mix (λs:Nat×Array Int=>s.1<=b -a/\s.2.size=d.size/\Go.Sort.heapPop eF a s.1 s.2=Go.Sort.heapSort eF d a b) (I:=λs=>[(0,.h 0),(6,.d (ci a)),(7,.d (ci 0)),(10,.d (ci ((s.1:Int)-1)))])
   (J:=λs=>[(0,iG s.2)]) (μ:=λs=>s.1) 300 (b -a,f) ⟨by dsimp only;omega,h2,by dsimp only;unfold Go.Sort.heapSort;rw[<-h3];rfl⟩ (by exact mv 5000 5001) ?_
  rintro⟨k,g⟩ ⟨g1,g2,g3⟩;dsimp only at g1 g2 g3⊢;cases k with
  |zero=>
   refine bl ?_;refine dA rfl ⟨.inr ?_,.inl rfl,trivial⟩;rw[<-g3];rfl
  |succ q=>
   repeat'(first|refine bl ?_|refine bS (λh=>?_) (λh=>?_)|refine ow a (bw ?_)|refine ow2 (a+q) (bw ?_)|(refine fZ.mk _ (fY g _ (by omega)) ?_;(conv=>whnf))|(refine fZ.mk _ (rK g a (a+q) (by omega)) ?_;(conv=>whnf)))
   ·refine dZ.mk (.eL []) [(0,iG (Go.Sort.siftDown eF q a 0 (Go.Sort.swp g a (a+q))))] (aJ.hP (EV (Go.Sort.swp g a (a+q)) 0 q a rfl (by omega) rfl (by simp[Go.Sort.swp];omega) (by omega) (by simp[Go.Sort.swp];omega)) ⟨sn,trivial⟩ ⟨congrArg (λq=>some (R.fW false 25 1 q)) (jD g a (a+q)),trivial⟩ ⟨aZ,trivial⟩ ⟨.inl sn,trivial⟩) ?_;conv=>whnf
    refine bl ?_;refine⟨(q,Go.Sort.siftDown eF q a 0 (Go.Sort.swp g a (a+q))),by dsimp only;omega,⟨by dsimp only;omega,by dsimp only;rw[xL _ _ _ _ _ (bT _)];simp[Go.Sort.swp,g2],g3⟩,by exact mv 5000 5001⟩
   ·exfalso;assumption
def YL(d:Array Int)(s:Nat):List (Nat×R):=[(0,iG d),(1,.cells false [.d (ci s)])]
theorem xF(d:Array Int)(a b s n:Nat)(ha:a<n)(hb:b<n):(Go.Sort.order2 eF d a b s).1<n/\(Go.Sort.order2 eF d a b s).2.1<n/\(Go.Sort.order2 eF d a b s).2.2<=s+1:=by
 unfold Go.Sort.order2;split<;>exact⟨by assumption,by assumption,by simp⟩
theorem GF(d:Array Int)(a b s:Nat)(ha:a<d.size)(hb:b<d.size)(hd:d.size<=2^40)(hs:s<=1000):aJ Tryz.prog 234 [.h 0,.d (ci a),.d (ci b),.lp 1 0] (aK (YL d s)) (.ok (.eL [.d (ci (Go.Sort.order2 eF d a b s).1),.d (ci (Go.Sort.order2 eF d a b s).2.1)])) (aH (aK (YL d s)) [(1,.cells false [.d (ci (Go.Sort.order2 eF d a b s).2.2)])]):=by
 refine wE mix 100 Tryz.func234 trivial ⟨trivial,trivial⟩ ?_
 repeat'(first|refine bl ?_|refine bS (λh=>?_) (λh=>?_)|refine lG.mk a rfl (by simp only[bE,aB,c7];omega) (bw ?_)|refine lG.mk b rfl (by simp only[bE,aB,c7];omega) (bw ?_)|(refine fZ.mk _ (fY d _ (by omega)) ?_;(conv=>whnf))|refine cH (nE _ _) (bw ?_))
 ·have e:Go.Sort.order2 eF d a b s=(b,a,s+1):=by unfold Go.Sort.order2;rw[if_pos (by simpa [eF]using‹d[b]! <d[a]!›)]
  rw[e];exact dA rfl ⟨.inr rfl,.inr rfl,.inl rfl,trivial⟩
 ·have e:Go.Sort.order2 eF d a b s=(a,b,s):=by unfold Go.Sort.order2;rw[if_neg (by simpa [eF]using‹d[a]! <=d[b]!›)]
  rw[e];exact dA rfl ⟨.inr rfl,.inr rfl,.inl rfl,trivial⟩
theorem OB(d:Array Int)(a b c s:Nat)(ha:a<d.size)(hb:b<d.size)(hc:c<d.size)(hd:d.size<=2^40)(hs:s<=900):aJ Tryz.prog 219 [.h 0,.d (ci a),.d (ci b),.d (ci c),.lp 1 0] (aK (YL d s)) (.ok (.d (ci (Go.Sort.median eF d a b c s).1))) (aH (aK (YL d s)) [(1,.cells false [.d (ci (Go.Sort.median eF d a b c s).2)])]):=by
 refine wE mix 100 Tryz.func219 trivial ⟨trivial,trivial⟩ ?_;have hdef:Go.Sort.median eF d a b c s=(let r1:=Go.Sort.order2 eF d a b s;let r2:=Go.Sort.order2 eF d r1.2.1 c r1.2.2;let r3:=Go.Sort.order2 eF d r1.1 r2.1 r2.2.2;(r3.2.1,r3.2.2)):=rfl;rw[hdef];clear hdef;have c1:=GF d a b s ha hb hd (by omega);have b1:=xF d a b s d.size ha hb;generalize Go.Sort.order2 eF d a b s=r1 at c1 b1⊢;have c2:=GF d r1.2.1 c r1.2.2 b1.2.1 hc hd (by omega);have b2:=xF d r1.2.1 c r1.2.2 d.size b1.2.1 hc;dsimp only;generalize Go.Sort.order2 eF d r1.2.1 c r1.2.2=r2 at c2 b2⊢;have c3:=GF d r1.1 r2.1 r2.2.2 b1.1 b2.1 hd (by omega);generalize Go.Sort.order2 eF d r1.1 r2.1 r2.2.2=r3 at c3⊢;refine bl ?_;refine dZ.mk _ [(1,.cells false [.d (ci r1.2.2)])] (aJ.hP c1 ⟨sn,sn,trivial⟩ ⟨rfl,rfl,trivial⟩ ⟨aZ,trivial,trivial⟩ ⟨.inl sn,trivial⟩) ?_;conv=>whnf
 refine bl ?_;refine dZ.mk _ [(1,.cells false [.d (ci r2.2.2)])] (aJ.hP c2 ⟨sn,sn,trivial⟩ ⟨rfl,rfl,trivial⟩ ⟨aZ,trivial,trivial⟩ ⟨.inl sn,trivial⟩) ?_;conv=>whnf
 refine bl ?_;refine dZ.mk _ [(1,.cells false [.d (ci r3.2.2)])] (aJ.hP c3 ⟨sn,sn,trivial⟩ ⟨rfl,rfl,trivial⟩ ⟨aZ,trivial,trivial⟩ ⟨.inl sn,trivial⟩) ?_;conv=>whnf
 refine bl ?_;exact dA rfl ⟨.inr rfl,.inr rfl,.inl rfl,trivial⟩
theorem KP(d:Array Int){a b c:Int}(a' b' c' s:Nat)(e1:a=a')(e2:b=b')(e3:c=c')(ha:a'<d.size)(hb:b'<d.size)(hc:c'<d.size)(hd:d.size<=2^40)(hs:s<=900):aJ Tryz.prog 219 [.h 0,.d (ci a),.d (ci b),.d (ci c),.lp 1 0] (aK (YL d s)) (.ok (.d (ci (Go.Sort.median eF d a' b' c' s).1))) (aH (aK (YL d s)) [(1,.cells false [.d (ci (Go.Sort.median eF d a' b' c' s).2)])]):=by
 subst e1;subst e2;subst e3;exact OB d a' b' c' s ha hb hc hd hs
theorem QH(d:Array Int)(a s:Nat)(h1:1<=a)(ha:a+1<d.size)(hd:d.size<=2^40)(hs:s<=900):aJ Tryz.prog 218 [.h 0,.d (ci a),.lp 1 0] (aK (YL d s)) (.ok (.d (ci (Go.Sort.medianAdjacent eF d a s).1))) (aH (aK (YL d s)) [(1,.cells false [.d (ci (Go.Sort.medianAdjacent eF d a s).2)])]):=by
 refine wE mix 100 Tryz.func218 trivial ⟨trivial,trivial⟩ ?_;refine bl ?_;refine dZ.mk _ [(1,.cells false [.d (ci (Go.Sort.medianAdjacent eF d a s).2)])] (aJ.hP (KP d (a -1) a (a+1) s (by omega) rfl (by omega) (by omega) (by omega) (by omega) hd hs) ⟨sn,sn,trivial⟩ ⟨rfl,rfl,trivial⟩ ⟨aZ,trivial,trivial⟩ ⟨.inl sn,trivial⟩) ?_;conv=>whnf
 refine bl ?_;exact dA rfl ⟨.inr rfl,.inr rfl,.inl rfl,trivial⟩
theorem BA(d:Array Int)(a b c s n:Nat)(ha:a<n)(hb:b<n)(hc:c<n):(Go.Sort.median eF d a b c s).1<n/\(Go.Sort.median eF d a b c s).2<=s+3:=by
 unfold Go.Sort.median;have b1:=xF d a b s n ha hb;have b2:=xF d _ c (Go.Sort.order2 eF d a b s).2.2 n b1.2.1 hc;have b3:=xF d _ _ (Go.Sort.order2 eF d (Go.Sort.order2 eF d a b s).2.1 c (Go.Sort.order2 eF d a b s).2.2).2.2 n b1.1 b2.1;dsimp only;exact⟨b3.2.1,by omega⟩
def aDH:Go.Sort.Hint->Int
 |.unknown=>0
 |.increasing=>1
 |.decreasing=>2
theorem aEP(l:Nat):((l:Int)).tdiv 4=((l/4:Nat):Int):=by
 rw[n5 (by omega)];omega
def mS8(d:Array Int)(s:Nat):List (Nat×R):=[(0,iG d),(148,.cells false [.d (ci s)])]
theorem US{f:FuncId}{xs:List A}{d:Array Int}{s s':Nat}(h:aJ Tryz.prog f xs (aK (YL d s)) (.ok (.d (ci n))) (aH (aK (YL d s)) [(1,.cells false [.d (ci s')])])):aJ Tryz.prog f (A.iV (swp 1 148) xs) (aK (mS8 d s)) (.ok (.d (ci n))) (aH (aK (mS8 d s)) [(148,.cells false [.d (ci s')])]):=by
 have k:=h.eZ (fH 1 148) (fH 1 148);rw[rJ (fH 1 148) (fH 1 148),tZ (fH 1 148) (fH 1 148)]at k;have e:lH (swp 1 148) (YL d s)=mS8 d s:=by
  simp only[YL,lH,aG,bM,eT];rfl
 rw[e]at k;exact k
theorem wD(d:Array Int){a:Int}(a' s:Nat)(e:a=a')(h1:1<=a')(ha:a'+1<d.size)(hd:d.size<=2^40)(hs:s<=900):aJ Tryz.prog 218 [.h 0,.d (ci a),.lp 1 0] (aK (YL d s)) (.ok (.d (ci (Go.Sort.medianAdjacent eF d a' s).1))) (aH (aK (YL d s)) [(1,.cells false [.d (ci (Go.Sort.medianAdjacent eF d a' s).2)])]):=by
 subst e;exact QH d a' s h1 ha hd hs
theorem I8(d:Array Int)(a b:Nat)(ha:a<=b)(hb:b<=d.size)(hd:d.size<=2^39):aJ Tryz.prog 192 [.h 0,.d (ci a),.d (ci b)] (aK [(0,iG d)]) (.ok (.eL [.d (ci (Go.Sort.choosePivot eF d a b).1),.d (ci (aDH (Go.Sort.choosePivot eF d a b).2))])) (aH (aK [(0,iG d)]) []):=by
 refine wE mix 100 Tryz.func192 trivial trivial ?_;obtain⟨l,rfl⟩:∃l,b=a+l:=⟨b -a,by omega⟩;have hl:((a+l:Nat):Int)-a=l:=by omega
 refine bl ?_;rw[hl,aEP];refine⟨decide_eq_true ⟨rfl,by decide,RG (by omega) (by omega)⟩,?_⟩;conv=>whnf
 refine bl ?_;rw[aEP];refine⟨decide_eq_true ⟨rfl,by decide,RG (by omega) (by omega)⟩,?_⟩;conv=>whnf
 refine bl ?_;rw[aEP];refine⟨decide_eq_true ⟨rfl,by decide,RG (by omega) (by omega)⟩,?_⟩;conv=>whnf
 repeat'(first|refine bl ?_|refine bS (λh=>?_) (λh=>?_))
 case refine_1.refine_2=>
  have hb:=BA d (a+l/4*1) (a+l/4*2) (a+l/4*3) 0 d.size (by omega) (by omega) (by omega);have hc:=KP d (a:=(a:Int)+((l/4:Nat):Int)*1) (b:=(a:Int)+((l/4:Nat):Int)*2) (c:=(a:Int)+((l/4:Nat):Int)*3) (a+l/4*1) (a+l/4*2) (a+l/4*3) 0 (by omega) (by omega) (by omega) (by omega) (by omega) (by omega) (by omega) (by omega);have hd2:Go.Sort.choosePivot eF d a (a+l)=((Go.Sort.median eF d (a+l/4*1) (a+l/4*2) (a+l/4*3) 0).1,if(Go.Sort.median eF d (a+l/4*1) (a+l/4*2) (a+l/4*3) 0).2=0 then .increasing else if(Go.Sort.median eF d (a+l/4*1) (a+l/4*2) (a+l/4*3) 0).2=12 then .decreasing else .unknown):=by
   unfold Go.Sort.choosePivot;rw[show a+l -a=l by omega];dsimp only;rw[if_pos (by omega),if_neg (by omega)]
  rw[hd2];generalize Go.Sort.median eF d (a+l/4*1) (a+l/4*2) (a+l/4*3) 0=r at hb hc⊢;refine dZ.mk _ [(148,.cells false [.d (ci r.2)])] (aJ.hP (US hc) ⟨sn,sn,trivial⟩ ⟨rfl,rfl,trivial⟩ ⟨aZ,trivial,trivial⟩ ⟨.inl sn,trivial⟩) ?_;conv=>whnf
  repeat'(first|refine bl ?_|refine bS (λh=>?_) (λh=>?_))
  all_goals
   (try dsimp only)
   first
   |(rw[if_pos (by omega)];exact dA rfl ⟨.inr rfl,trivial⟩)
   |(rw[if_neg (by omega),if_pos (by omega)];exact dA rfl ⟨.inr rfl,trivial⟩)
   |(rw[if_neg (by omega),if_neg (by omega)];exact dA rfl ⟨.inr rfl,trivial⟩)
 case refine_1.refine_1=>
  have hd2:Go.Sort.choosePivot eF d a (a+l)=(let ri:=Go.Sort.medianAdjacent eF d (a+l/4*1) 0;let rj:=Go.Sort.medianAdjacent eF d (a+l/4*2) ri.2;let rk:=Go.Sort.medianAdjacent eF d (a+l/4*3) rj.2;let r:=Go.Sort.median eF d ri.1 rj.1 rk.1 rk.2;(r.1,if r.2=0 then .increasing else if r.2=12 then .decreasing else .unknown)):=by
   unfold Go.Sort.choosePivot;rw[show a+l -a=l by omega];dsimp only;rw[if_pos (by omega),if_pos (by omega)]
  rw[hd2];clear hd2;have hbi:=BA d (a+l/4*1 -1) (a+l/4*1) (a+l/4*1+1) 0 d.size (by omega) (by omega) (by omega);have hci:=wD d (a:=(a:Int)+((l/4:Nat):Int)*1) (a+l/4*1) 0 (by omega) (by omega) (by omega) (by omega) (by omega);dsimp only;rw[show Go.Sort.median eF d (a+l/4*1 -1) (a+l/4*1) (a+l/4*1+1) 0=Go.Sort.medianAdjacent eF d (a+l/4*1) 0 from rfl]at hbi;generalize Go.Sort.medianAdjacent eF d (a+l/4*1) 0=ri at hbi hci⊢;have hbj:=BA d (a+l/4*2 -1) (a+l/4*2) (a+l/4*2+1) ri.2 d.size (by omega) (by omega) (by omega);have hcj:=wD d (a:=(a:Int)+((l/4:Nat):Int)*2) (a+l/4*2) ri.2 (by omega) (by omega) (by omega) (by omega) (by omega);rw[show Go.Sort.median eF d (a+l/4*2 -1) (a+l/4*2) (a+l/4*2+1) ri.2=Go.Sort.medianAdjacent eF d (a+l/4*2) ri.2 from rfl]at hbj;generalize Go.Sort.medianAdjacent eF d (a+l/4*2) ri.2=rj at hbj hcj⊢;have hbk:=BA d (a+l/4*3 -1) (a+l/4*3) (a+l/4*3+1) rj.2 d.size (by omega) (by omega) (by omega);have hck:=wD d (a:=(a:Int)+((l/4:Nat):Int)*3) (a+l/4*3) rj.2 (by omega) (by omega) (by omega) (by omega) (by omega);rw[show Go.Sort.median eF d (a+l/4*3 -1) (a+l/4*3) (a+l/4*3+1) rj.2=Go.Sort.medianAdjacent eF d (a+l/4*3) rj.2 from rfl]at hbk;generalize Go.Sort.medianAdjacent eF d (a+l/4*3) rj.2=rk at hbk hck⊢;have hcm:=OB d ri.1 rj.1 rk.1 rk.2 hbi.1 hbj.1 hbk.1 (by omega) (by omega);generalize Go.Sort.median eF d ri.1 rj.1 rk.1 rk.2=r at hcm⊢;refine dZ.mk _ [(148,.cells false [.d (ci ri.2)])] (aJ.hP (US hci) ⟨sn,sn,trivial⟩ ⟨rfl,rfl,trivial⟩ ⟨aZ,trivial,trivial⟩ ⟨.inl sn,trivial⟩) ?_;conv=>whnf
  refine bl ?_;refine dZ.mk _ [(148,.cells false [.d (ci rj.2)])] (aJ.hP (US hcj) ⟨sn,sn,trivial⟩ ⟨rfl,rfl,trivial⟩ ⟨aZ,trivial,trivial⟩ ⟨.inl sn,trivial⟩) ?_;conv=>whnf
  refine bl ?_;refine dZ.mk _ [(148,.cells false [.d (ci rk.2)])] (aJ.hP (US hck) ⟨sn,sn,trivial⟩ ⟨rfl,rfl,trivial⟩ ⟨aZ,trivial,trivial⟩ ⟨.inl sn,trivial⟩) ?_;conv=>whnf
  refine bl ?_;refine dZ.mk _ [(148,.cells false [.d (ci r.2)])] (aJ.hP (US hcm) ⟨sn,sn,trivial⟩ ⟨rfl,rfl,trivial⟩ ⟨aZ,trivial,trivial⟩ ⟨.inl sn,trivial⟩) ?_;conv=>whnf
  repeat'(first|refine bl ?_|refine bS (λh=>?_) (λh=>?_))
  all_goals
   (try dsimp only)
   first
   |(rw[if_pos (by omega)];exact dA rfl ⟨.inr rfl,trivial⟩)
   |(rw[if_neg (by omega),if_pos (by omega)];exact dA rfl ⟨.inr rfl,trivial⟩)
   |(rw[if_neg (by omega),if_neg (by omega)];exact dA rfl ⟨.inr rfl,trivial⟩)
 case refine_2=>
  have hd2:Go.Sort.choosePivot eF d a (a+l)=(a+l/4*2,.increasing):=by
   unfold Go.Sort.choosePivot;rw[show a+l -a=l by omega];dsimp only;rw[if_neg (by omega)];rfl
  rw[hd2];refine dA ?_ ⟨.inr rfl,trivial⟩;show A.eL [A.d (ci ((a:Int)+((l/4:Nat):Int)*2)),A.d (ci 1)]=A.eL [A.d (ci ((a+l/4*2:Nat):Int)),A.d (ci 1)];rw[show((a+l/4*2:Nat):Int)=(a:Int)+((l/4:Nat):Int)*2 by omega]
abbrev cu(x:Int):C:=.v (.int .u64 x)
def aLE(x:Int):Int:=pO .xor .u64 x (IntKind.u64.wrap (x*2^13))
def aLF(x:Int):Int:=pO .xor .u64 x (x.fdiv (2^7))
def aMZ(x:Int):Int:=pO .xor .u64 x (IntKind.u64.wrap (x*2^17))
def aIV(x:Int):Int:=aMZ (aLF (aLE x))
theorem aGA(x:Int):aJ Tryz.prog 217 [.lp 0 0] (aK [(0,.cells false [.d (cu x)])]) (.ok (.d (cu (aIV x)))) (aH (aK [(0,.cells false [.d (cu x)])]) [(0,.cells false [.d (cu (aIV x))])]):=by
 refine wE mix 100 Tryz.func217 trivial ⟨trivial,trivial⟩ ?_
 repeat'(first|refine bl ?_|refine xR.mk rfl (bw ?_))
 exact dA rfl ⟨.inr rfl,.inl rfl,trivial⟩
theorem GR(p:Int->Bool)(f:Array Int)(j i:Nat)(h:i<=j)(h2:p f[i]! =true):Go.Sort.scanUp p f j (i+1)=Go.Sort.scanUp p f j i:=by
 conv=>rhs;rw[Go.Sort.scanUp]
 rw[if_pos (by simp[h,h2])]
theorem AW(p:Int->Bool)(f:Array Int)(j i:Nat)(h:¬(i<=j/\p f[i]! =true)):Go.Sort.scanUp p f j i=i:=by
 rw[Go.Sort.scanUp,if_neg (by simpa using h)]
theorem AV(p:Int->Bool)(f:Array Int)(i j:Nat)(h0:1<=j)(h:i<=j)(h2:p f[j]! =true):Go.Sort.scanDown p f i (j -1)=Go.Sort.scanDown p f i j:=by
 obtain⟨k,rfl⟩:∃k,j=k+1:=⟨j -1,by omega⟩;conv=>rhs;rw[Go.Sort.scanDown]
 rw[if_pos (by simp[h,h2])];rfl
theorem wH(p:Int->Bool)(f:Array Int)(i j:Nat)(h:¬(i<=j/\p f[j]! =true)):Go.Sort.scanDown p f i j=j:=by
 cases j with
 |zero=>rfl
 |succ k=>rw[Go.Sort.scanDown,if_neg (by simpa using h)]
abbrev pUp(f:Array Int)(a:Nat):Int->Bool:=λx=>eF x f[a]!
abbrev pDn(f:Array Int)(a:Nat):Int->Bool:=λx=> !eF x f[a]!
theorem fN(f:Array Int)(i j:Nat):(Go.Sort.swp f i j).size=f.size:=by simp[Go.Sort.swp]
theorem QP(d:Array Int)(a b pv:Nat)(hp1:a<=pv)(hp2:pv<b)(hb:b<=d.size)(hd:d.size<=2^40):aJ Tryz.prog 197 [.h 0,.d (ci a),.d (ci b),.d (ci pv)] (aK [(0,iG d)]) (.ok (.eL [.d (ci (Go.Sort.partition eF d a b pv).1),.d (cb (Go.Sort.partition eF d a b pv).2.1)])) (aH (aK [(0,iG d)]) [(0,iG (Go.Sort.partition eF d a b pv).2.2)]):=by
 have hfl:(Go.Sort.partition eF d a b pv).2.1=decide (Go.Sort.scanUp (pUp (Go.Sort.swp d a pv) a) (Go.Sort.swp d a pv) (b -1) (a+1)>Go.Sort.scanDown (pDn (Go.Sort.swp d a pv) a) (Go.Sort.swp d a pv) (Go.Sort.scanUp (pUp (Go.Sort.swp d a pv) a) (Go.Sort.swp d a pv) (b -1) (a+1)) (b -1)):=by
  unfold Go.Sort.partition;simp only[];split
  ·rename_i h;exact(decide_eq_true h).symm
  ·rename_i h;exact(decide_eq_false h).symm
 rw[Go.Sort.partition_fst,Go.Sort.partition_arr,hfl];clear hfl;refine wE mix 100 Tryz.func197 trivial ⟨aZ,trivial⟩ ?_
 repeat'(first|refine bl ?_|refine ow a (bw ?_)|refine ow pv (bw ?_)|(refine fZ.mk _ (fY d _ (by omega)) ?_;(conv=>whnf))|(refine fZ.mk _ (rK d a pv (by omega)) ?_;(conv=>whnf)))
 have hs0:=fN d a pv;generalize hf0:Go.Sort.swp d a pv=f at hs0⊢;refine cY mix (λi:Nat=>a+1<=i/\i<=b/\Go.Sort.scanUp (pUp f a) f (b -1) i=Go.Sort.scanUp (pUp f a) f (b -1) (a+1)) (I:=λi=>[(0,.h 0),(1,.d (ci a)),(10,.d (ci i)),(11,.d (ci (b -1:Nat)))])
  (J:=λi=>[(0,iG f)]) (μ:=λi=>b -i) 1000 (a+1) 0
  (λi:Nat=>a+1<=i/\i<=b/\Go.Sort.scanUp (pUp f a) f (b -1) (a+1)=i) (λi=>[(0,.h 0),(1,.d (ci a)),(10,.d (ci i)),(11,.d (ci (b -1:Nat)))]) (λi=>[(0,iG f)]) 2000 ⟨by omega,by omega,rfl⟩ (by refine mq 5000 5001 ?_;exact cO rfl (by rw[<-hf0];exact jD d a pv)) ?_ ?_
 ·rintro i ⟨h1,h2,h3⟩
  repeat'(first|refine bl ?_|refine bS (λh=>?_) (λh=>?_)|refine ow i (bw ?_)|refine ow a (bw ?_)|(refine fZ.mk _ (fY f _ (by omega)) ?_;(conv=>whnf))|refine cH (nE _ _) (bw ?_))
  ·refine⟨i+1,by omega,⟨by omega,by omega,?_⟩,by exact mv 5000 5001⟩;rw[<-h3];exact GR _ f _ i (by omega) (by simpa [pUp]using‹f[i]! <f[a]!›)
  all_goals
   refine⟨i,⟨h1,h2,?_⟩,by exact mv 5000 5001⟩;rw[<-h3];exact AW _ f _ i (by simp[pUp];omega)
 rintro i0 ⟨h1,h2,h3⟩;refine bl ?_;refine cY mix (λj:Nat=>j<=b -1/\i0<=j+1/\Go.Sort.scanDown (pDn f a) f i0 j=Go.Sort.scanDown (pDn f a) f i0 (b -1)) (I:=λj=>[(0,.h 0),(1,.d (ci a)),(10,.d (ci i0)),(11,.d (ci j))])
  (J:=λj=>[(0,iG f)]) (μ:=λj=>j) 3000 (b -1) 2
  (λj:Nat=>j<=b -1/\i0<=j+1/\Go.Sort.scanDown (pDn f a) f i0 (b -1)=j) (λj=>[(0,.h 0),(1,.d (ci a)),(10,.d (ci i0)),(11,.d (ci j))]) (λj=>[(0,iG f)]) 4000 ⟨by omega,by omega,rfl⟩ (by exact mv 5000 5001) ?_ ?_
 ·rintro j ⟨g1,g2,g3⟩
  repeat'(first|refine bl ?_|refine bS (λh=>?_) (λh=>?_)|refine ow j (bw ?_)|refine ow a (bw ?_)|(refine fZ.mk _ (fY f _ (by omega)) ?_;(conv=>whnf))|refine cH (nE _ _) (bw ?_))
  all_goals first
   |(refine⟨j -1,by omega,⟨by omega,by omega,?_⟩,by exact mv 5000 5001⟩
     rw[<-g3];exact AV _ f _ j (by omega) (by omega) (by simp[pDn];omega))
   |(refine⟨j,⟨g1,g2,?_⟩,by exact mv 5000 5001⟩
     rw[<-g3];exact wH _ f _ j (by simp[pDn];omega))
 rintro j0 ⟨g1,g2,g3⟩;rw[h3,g3]
 repeat'(first|refine bl ?_|refine bS (λh=>?_) (λh=>?_)|refine ow a (bw ?_)|refine ow j0 (bw ?_)|refine ow i0 (bw ?_)|(refine fZ.mk _ (fY f _ (by omega)) ?_;(conv=>whnf))|(refine fZ.mk _ (rK f _ _ (by omega)) ?_;(conv=>whnf)))
 ·rw[Go.Sort.partLoop_eq,h3,g3,if_pos (by omega),decide_eq_true (show i0>j0 by omega)];refine dA rfl ⟨.inr ?_,.inl rfl,trivial⟩;exact congrArg (λq=>some (R.fW false 25 1 q)) (jD f j0 a)
 have hlt0:¬i0>j0:=by omega
 rw[decide_eq_false hlt0,Go.Sort.partLoop_eq,h3,g3,if_neg hlt0];generalize hres:Go.Sort.partLoop eF a (i0+1) (j0 -1) (Go.Sort.swp f i0 j0)=res;refine cY mix (λs:(Nat×Nat)×Array Int=>a+1<=s.1.1/\s.1.1<=s.1.2+1+1/\s.1.2<=b -1/\s.2.size=d.size/\Go.Sort.partLoop eF a s.1.1 s.1.2 s.2=res) (I:=λs=>[(0,.h 0),(1,.d (ci a)),(10,.d (ci s.1.1)),(11,.d (ci s.1.2))])
  (J:=λs=>[(0,iG s.2)]) (μ:=λs=>s.1.2+2 -s.1.1) 5000 ((i0+1,j0 -1),Go.Sort.swp f i0 j0) 4
  (λs:Unit=>res.1<=b -1/\res.2.size=d.size) (λs=>[(0,.h 0),(1,.d (ci a)),(11,.d (ci res.1))]) (λs=>[(0,iG res.2)]) 6000 ⟨by dsimp only;omega,by dsimp only;omega,by dsimp only;omega,by dsimp only;rw[fN];exact hs0,hres⟩ (by refine mq 5000 5001 ?_;exact cO rfl (jD f i0 j0)) ?_ ?_
 ·rintro⟨⟨i,j⟩,g⟩ ⟨k1,k2,k3,k4,k5⟩;dsimp only at k1 k2 k3 k4 k5⊢;refine bl ?_;refine cY mix (λi2:Nat=>i<=i2/\i2<=max i (j+1)/\Go.Sort.scanUp (pUp g a) g j i2=Go.Sort.scanUp (pUp g a) g j i) (I:=λi=>[(0,.h 0),(1,.d (ci a)),(10,.d (ci i)),(11,.d (ci j))])
   (J:=λi=>[(0,iG g)]) (μ:=λi=>j+1 -i) 7000 i 6
   (λi2:Nat=>i<=i2/\i2<=max i (j+1)/\Go.Sort.scanUp (pUp g a) g j i=i2) (λi=>[(0,.h 0),(1,.d (ci a)),(10,.d (ci i)),(11,.d (ci j))]) (λi=>[(0,iG g)]) 8000 ⟨by omega,by omega,rfl⟩ (by exact mv 5000 5001) ?_ ?_
  ·rintro i2 ⟨m1,m2,m3⟩
   repeat'(first|refine bl ?_|refine bS (λh=>?_) (λh=>?_)|refine ow i2 (bw ?_)|refine ow a (bw ?_)|(refine fZ.mk _ (fY g _ (by omega)) ?_;(conv=>whnf))|refine cH (nE _ _) (bw ?_))
   ·refine⟨i2+1,by omega,⟨by omega,by omega,?_⟩,by exact mv 5000 5001⟩;rw[<-m3];exact GR _ g _ i2 (by omega) (by simpa [pUp]using‹g[i2]! <g[a]!›)
   all_goals
    refine⟨i2,⟨m1,m2,?_⟩,by exact mv 5000 5001⟩;rw[<-m3];exact AW _ g _ i2 (by simp[pUp];omega)
  rintro i2 ⟨m1,m2,m3⟩;refine bl ?_;refine cY mix (λj2:Nat=>j2<=j/\min j (i2 -1)<=j2/\Go.Sort.scanDown (pDn g a) g i2 j2=Go.Sort.scanDown (pDn g a) g i2 j) (I:=λj2=>[(0,.h 0),(1,.d (ci a)),(10,.d (ci i2)),(11,.d (ci j2))])
   (J:=λj2=>[(0,iG g)]) (μ:=λj2=>j2) 9000 j 8
   (λj2:Nat=>j2<=j/\min j (i2 -1)<=j2/\Go.Sort.scanDown (pDn g a) g i2 j=j2) (λj2=>[(0,.h 0),(1,.d (ci a)),(10,.d (ci i2)),(11,.d (ci j2))]) (λj2=>[(0,iG g)]) 10000 ⟨by omega,by omega,rfl⟩ (by exact mv 5000 5001) ?_ ?_
  ·rintro j2 ⟨q1,q2,q3⟩
   repeat'(first|refine bl ?_|refine bS (λh=>?_) (λh=>?_)|refine ow j2 (bw ?_)|refine ow a (bw ?_)|(refine fZ.mk _ (fY g _ (by omega)) ?_;(conv=>whnf))|refine cH (nE _ _) (bw ?_))
   all_goals first
    |(refine⟨j2 -1,by omega,⟨by omega,by omega,?_⟩,by exact mv 5000 5001⟩
      rw[<-q3];exact AV _ g _ j2 (by omega) (by omega) (by simp[pDn];omega))
    |(refine⟨j2,⟨q1,q2,?_⟩,by exact mv 5000 5001⟩
      rw[<-q3];exact wH _ g _ j2 (by simp[pDn];omega))
  rintro j2 ⟨q1,q2,q3⟩;rw[Go.Sort.partLoop_eq,m3,q3]at k5
  repeat'(first|refine bl ?_|refine bS (λh=>?_) (λh=>?_)|refine ow i2 (bw ?_)|refine ow j2 (bw ?_)|(refine fZ.mk _ (fY g _ (by omega)) ?_;(conv=>whnf))|(refine fZ.mk _ (rK g _ _ (by omega)) ?_;(conv=>whnf)))
  ·rw[if_pos (by omega)]at k5;subst k5;exact⟨(),⟨by dsimp only;omega,k4⟩,by exact mv 5000 5001⟩
  ·rw[if_neg (by omega)]at k5;refine⟨((i2+1,j2 -1),Go.Sort.swp g i2 j2),by dsimp only;omega,⟨by dsimp only;omega,by dsimp only;omega,by dsimp only;omega,by dsimp only;rw[fN];exact k4,k5⟩,?_⟩;refine mq 5000 5001 ?_;exact cO rfl (jD g i2 j2)
 rintro _ ⟨r1,r2⟩
 repeat'(first|refine bl ?_|refine ow a (bw ?_)|refine lG.mk res.1 rfl (by simp only[bE,cE,aB,c7];omega) (bw ?_)|(refine fZ.mk _ (fY res.2 _ (by omega)) ?_;(conv=>whnf))|(refine fZ.mk _ (rK res.2 _ _ (by omega)) ?_;(conv=>whnf)))
 refine dA rfl ⟨.inr ?_,.inl rfl,trivial⟩;exact congrArg (λq=>some (R.fW false 25 1 q)) (jD res.2 res.1 a)
abbrev qUp(f:Array Int)(a:Nat):Int->Bool:=λx=> !eF f[a]! x
abbrev qDn(f:Array Int)(a:Nat):Int->Bool:=λx=>eF f[a]! x
theorem aA4(d:Array Int)(a b pv:Nat)(hp1:a<=pv)(hp2:pv<b)(hb:b<=d.size)(hd:d.size<=2^40):aJ Tryz.prog 196 [.h 0,.d (ci a),.d (ci b),.d (ci pv)] (aK [(0,iG d)]) (.ok (.d (ci (Go.Sort.partitionEqual eF d a b pv).1))) (aH (aK [(0,iG d)]) [(0,iG (Go.Sort.partitionEqual eF d a b pv).2)]):=by
 unfold Go.Sort.partitionEqual;refine wE mix 100 Tryz.func196 trivial ⟨aZ,trivial⟩ ?_
 repeat'(first|refine bl ?_|refine ow a (bw ?_)|refine ow pv (bw ?_)|(refine fZ.mk _ (fY d _ (by omega)) ?_;(conv=>whnf))|(refine fZ.mk _ (rK d a pv (by omega)) ?_;(conv=>whnf)))
 have hs0:=fN d a pv;generalize hf0:Go.Sort.swp d a pv=f at hs0⊢;generalize hres:Go.Sort.partEqLoop eF a (a+1) (b -1) f=res;refine cY mix (λs:(Nat×Nat)×Array Int=>a+1<=s.1.1/\s.1.1<=s.1.2+1+1/\s.1.2<=b -1/\s.2.size=d.size/\Go.Sort.partEqLoop eF a s.1.1 s.1.2 s.2=res) (I:=λs=>[(0,.h 0),(1,.d (ci a)),(9,.d (ci s.1.1)),(10,.d (ci s.1.2))])
  (J:=λs=>[(0,iG s.2)]) (μ:=λs=>s.1.2+2 -s.1.1) 5000 ((a+1,b -1),f) 0
  (λs:Unit=>True) (λs=>[(0,.h 0),(9,.d (ci res.1))]) (λs=>[(0,iG res.2)]) 6000 ⟨by dsimp only;omega,by dsimp only;omega,by dsimp only;omega,by dsimp only;exact hs0,hres⟩ (by refine mq 5000 5001 ?_;exact cO rfl (by rw[<-hf0];exact jD d a pv)) ?_ ?_
 ·rintro⟨⟨i,j⟩,g⟩ ⟨k1,k2,k3,k4,k5⟩;dsimp only at k1 k2 k3 k4 k5⊢;refine bl ?_;refine cY mix (λi2:Nat=>i<=i2/\i2<=max i (j+1)/\Go.Sort.scanUp (qUp g a) g j i2=Go.Sort.scanUp (qUp g a) g j i) (I:=λi=>[(0,.h 0),(1,.d (ci a)),(9,.d (ci i)),(10,.d (ci j))])
   (J:=λi=>[(0,iG g)]) (μ:=λi=>j+1 -i) 7000 i 2
   (λi2:Nat=>i<=i2/\i2<=max i (j+1)/\Go.Sort.scanUp (qUp g a) g j i=i2) (λi=>[(0,.h 0),(1,.d (ci a)),(9,.d (ci i)),(10,.d (ci j))]) (λi=>[(0,iG g)]) 8000 ⟨by omega,by omega,rfl⟩ (by exact mv 5000 5001) ?_ ?_
  ·rintro i2 ⟨m1,m2,m3⟩
   repeat'(first|refine bl ?_|refine bS (λh=>?_) (λh=>?_)|refine ow i2 (bw ?_)|refine ow a (bw ?_)|(refine fZ.mk _ (fY g _ (by omega)) ?_;(conv=>whnf))|refine cH (nE _ _) (bw ?_))
   all_goals first
    |(refine⟨i2+1,by omega,⟨by omega,by omega,?_⟩,by exact mv 5000 5001⟩
      rw[<-m3];exact GR _ g _ i2 (by omega) (by simp[qUp];omega))
    |(refine⟨i2,⟨m1,m2,?_⟩,by exact mv 5000 5001⟩
      rw[<-m3];exact AW _ g _ i2 (by simp[qUp];omega))
  rintro i2 ⟨m1,m2,m3⟩;refine bl ?_;refine cY mix (λj2:Nat=>j2<=j/\min j (i2 -1)<=j2/\Go.Sort.scanDown (qDn g a) g i2 j2=Go.Sort.scanDown (qDn g a) g i2 j) (I:=λj2=>[(0,.h 0),(1,.d (ci a)),(9,.d (ci i2)),(10,.d (ci j2))])
   (J:=λj2=>[(0,iG g)]) (μ:=λj2=>j2) 9000 j 4
   (λj2:Nat=>j2<=j/\min j (i2 -1)<=j2/\Go.Sort.scanDown (qDn g a) g i2 j=j2) (λj2=>[(0,.h 0),(1,.d (ci a)),(9,.d (ci i2)),(10,.d (ci j2))]) (λj2=>[(0,iG g)]) 10000 ⟨by omega,by omega,rfl⟩ (by exact mv 5000 5001) ?_ ?_
  ·rintro j2 ⟨q1,q2,q3⟩
   repeat'(first|refine bl ?_|refine bS (λh=>?_) (λh=>?_)|refine ow j2 (bw ?_)|refine ow a (bw ?_)|(refine fZ.mk _ (fY g _ (by omega)) ?_;(conv=>whnf))|refine cH (nE _ _) (bw ?_))
   all_goals first
    |(refine⟨j2 -1,by omega,⟨by omega,by omega,?_⟩,by exact mv 5000 5001⟩
      rw[<-q3];exact AV _ g _ j2 (by omega) (by omega) (by simp[qDn];omega))
    |(refine⟨j2,⟨q1,q2,?_⟩,by exact mv 5000 5001⟩
      rw[<-q3];exact wH _ g _ j2 (by simp[qDn];omega))
  rintro j2 ⟨q1,q2,q3⟩;rw[Go.Sort.partEqLoop_eq,m3,q3]at k5
  repeat'(first|refine bl ?_|refine bS (λh=>?_) (λh=>?_)|refine ow i2 (bw ?_)|refine ow j2 (bw ?_)|(refine fZ.mk _ (fY g _ (by omega)) ?_;(conv=>whnf))|(refine fZ.mk _ (rK g _ _ (by omega)) ?_;(conv=>whnf)))
  ·rw[if_pos (by omega)]at k5;subst k5;exact⟨(),trivial,by exact mv 5000 5001⟩
  ·rw[if_neg (by omega)]at k5;refine⟨((i2+1,j2 -1),Go.Sort.swp g i2 j2),by dsimp only;omega,⟨by dsimp only;omega,by dsimp only;omega,by dsimp only;omega,by dsimp only;rw[fN];exact k4,k5⟩,?_⟩;refine mq 5000 5001 ?_;exact cO rfl (jD g i2 j2)
 rintro _ _;refine bl ?_;exact dA rfl ⟨.inr rfl,.inl rfl,trivial⟩
theorem pD(x k:Nat)(h:2^k<=x):Go.Sort.bitsLen x=Go.Sort.bitsLen (x/2^k)+k:=by
 have key:∀m,Go.Sort.bitsLen x<=m↔Go.Sort.bitsLen (x/2^k)+k<=m:=by
  intro m;rw[Go.Sort.bitsLen_le_iff];rcases eQ m k with q|q
  ·have:2^m<=2^k:=Nat.pow_le_pow_right (by omega) (by omega);constructor<;>intro;omega;omega
  ·obtain⟨j,rfl⟩:∃j,m=j+k:=⟨m -k,by omega⟩;rw[Nat.add_le_add_iff_right,Go.Sort.bitsLen_le_iff,nA (Nat.two_pow_pos k),<-Nat.pow_add]
 exact Nat.le_antisymm ((key _).2 (bT _)) ((key _).1 (bT _))
theorem aNC(x:Nat):((x:Int)).fdiv (2^min (Int.toNat 32) IntKind.u64.bits)=((x/4294967296:Nat):Int):=by
 rw[kM _ (by decide)];rw[show(2:Int)^min (Int.toNat 32) IntKind.u64.bits=4294967296 by decide];omega
theorem aLX(x:Nat):((x:Int)).fdiv (2^min (Int.toNat 16) IntKind.u64.bits)=((x/65536:Nat):Int):=by
 rw[kM _ (by decide)];rw[show(2:Int)^min (Int.toNat 16) IntKind.u64.bits=65536 by decide];omega
theorem fd8(x:Nat):((x:Int)).fdiv (2^min (Int.toNat 8) IntKind.u64.bits)=((x/256:Nat):Int):=by
 rw[kM _ (by decide)];rw[show(2:Int)^min (Int.toNat 8) IntKind.u64.bits=256 by decide];omega
theorem S3(h:0<=n)(h':n<=255):MN .u8 n:=by
 simp[MN,IntKind.min,IntKind.max,IntKind.signed,IntKind.bits];omega
def aJ9(s:ByteArray):Bool:=(List.range 256).all λu=>match s[u]? with
 |some b=>Nat.beq b.toNat (Go.Sort.bitsLen u)
 |none=>false
theorem sI{s:ByteArray}{u:Nat}{ok:Bool}{k:A->Prop}(h:aJ9 s=true)(hn:n=u)(hu:u<256)(ho:ok=true)(hk:k (.d (.v (.int .u8 (Go.Sort.bitsLen u))))):aJL s n ok k:=by
 subst hn;have:=cV.1 h u (jI.2 hu);split at this
 ·rename_i b hb;have e:=bB this;exact⟨b,by omega,by simpa using hb,ho,by rw[e];exact hk⟩
 ·cases this
theorem aDY(x:Nat)(hx:x<2^60):∀m,aJ Tryz.prog 199 [.d (cu x)] m (.ok (.d (ci (Go.Sort.bitsLen x)))) m:=by
 refine iC mix Tryz.func199 ?_
 repeat'(first|refine bl ?_|refine bS (λh=>?_) (λh=>?_))
 ·refine xR.mk rfl ?_;conv=>whnf
  rw[aNC,pD x 32 (by omega)];rw[show(2:Nat)^32=4294967296 from rfl];have hy:x/4294967296<268435456:=by omega
  generalize x/4294967296=y at hy⊢
  repeat'(first|refine bl ?_|refine bS (λh=>?_) (λh=>?_))
  ·refine xR.mk rfl ?_;conv=>whnf
   rw[aLX,pD y 16 (by omega)];rw[show(2:Nat)^16=65536 from rfl];have hz:y/65536<65536:=by omega
   generalize y/65536=z at hz⊢
   repeat'(first|refine bl ?_|refine bS (λh=>?_) (λh=>?_))
   ·refine xR.mk rfl ?_;conv=>whnf
    rw[fd8,pD z 8 (by omega)];rw[show(2:Nat)^8=256 from rfl];have hu:z/256<256:=by omega
    generalize z/256=u at hu⊢;refine bl ?_
    ·have hb:=(Go.Sort.bitsLen_le_iff u 8).2 (by omega);refine FC.mk (S3 (by omega) (by omega)) ?_;conv=>whnf
     refine sI (u:=u) (by kernel_rfl) rfl (by omega) (by kernel_rfl) ?_;conv=>whnf
     refine bl ?_;refine oF ?_;omega
   ·have hb:=(Go.Sort.bitsLen_le_iff z 8).2 (by omega);refine FC.mk (S3 (by omega) (by omega)) ?_;conv=>whnf
    refine sI (u:=z) (by kernel_rfl) rfl (by omega) (by kernel_rfl) ?_;conv=>whnf
    refine bl ?_;refine oF ?_;omega
  ·refine xR.mk rfl ?_;conv=>whnf
   rw[fd8,pD y 8 (by omega)];rw[show(2:Nat)^8=256 from rfl];have hv:y/256<256:=by omega
   generalize y/256=v at hv⊢;refine bl ?_
   ·have hb:=(Go.Sort.bitsLen_le_iff v 8).2 (by omega);refine FC.mk (S3 (by omega) (by omega)) ?_;conv=>whnf
    refine sI (u:=v) (by kernel_rfl) rfl (by omega) (by kernel_rfl) ?_;conv=>whnf
    refine bl ?_;refine oF ?_;omega
  ·have hb:=(Go.Sort.bitsLen_le_iff y 8).2 (by omega);refine FC.mk (S3 (by omega) (by omega)) ?_;conv=>whnf
   refine sI (u:=y) (by kernel_rfl) rfl (by omega) (by kernel_rfl) ?_;conv=>whnf
   refine bl ?_;refine oF ?_;omega
 ·refine xR.mk rfl ?_;conv=>whnf
  rw[aLX,pD x 16 (by omega)];rw[show(2:Nat)^16=65536 from rfl];have hw:x/65536<65536:=by omega
  generalize x/65536=w at hw⊢
  repeat'(first|refine bl ?_|refine bS (λh=>?_) (λh=>?_))
  ·refine xR.mk rfl ?_;conv=>whnf
   rw[fd8,pD w 8 (by omega)];rw[show(2:Nat)^8=256 from rfl];have hp:w/256<256:=by omega
   generalize w/256=p at hp⊢;refine bl ?_
   ·have hb:=(Go.Sort.bitsLen_le_iff p 8).2 (by omega);refine FC.mk (S3 (by omega) (by omega)) ?_;conv=>whnf
    refine sI (u:=p) (by kernel_rfl) rfl (by omega) (by kernel_rfl) ?_;conv=>whnf
    refine bl ?_;refine oF ?_;omega
  ·have hb:=(Go.Sort.bitsLen_le_iff w 8).2 (by omega);refine FC.mk (S3 (by omega) (by omega)) ?_;conv=>whnf
   refine sI (u:=w) (by kernel_rfl) rfl (by omega) (by kernel_rfl) ?_;conv=>whnf
   refine bl ?_;refine oF ?_;omega
 ·refine xR.mk rfl ?_;conv=>whnf
  rw[fd8,pD x 8 (by omega)];rw[show(2:Nat)^8=256 from rfl];have hq:x/256<256:=by omega
  generalize x/256=q at hq⊢;refine bl ?_
  ·have hb:=(Go.Sort.bitsLen_le_iff q 8).2 (by omega);refine FC.mk (S3 (by omega) (by omega)) ?_;conv=>whnf
   refine sI (u:=q) (by kernel_rfl) rfl (by omega) (by kernel_rfl) ?_;conv=>whnf
   refine bl ?_;refine oF ?_;omega
 ·have hb:=(Go.Sort.bitsLen_le_iff x 8).2 (by omega);refine FC.mk (S3 (by omega) (by omega)) ?_;conv=>whnf
  refine sI (u:=x) (by kernel_rfl) rfl (by omega) (by kernel_rfl) ?_;conv=>whnf
  refine bl ?_;refine oF ?_;omega
theorem QA(x:Nat)(hx:x<2^60):∀m,aJ Tryz.prog 161 [.d (cu x)] m (.ok (.d (ci (Go.Sort.bitsLen x)))) m:=by
 refine iC mix Tryz.func161 ?_
 repeat'(first|refine bl ?_|refine aF (aDY x hx) (bw ?_))
 exact oF rfl
theorem aNT(p:Nat)(h1:p<=62):IntKind.u64.wrap (1*2^min ((p:Int)).toNat IntKind.u64.bits)=((2^p:Nat):Int):=by
 have e:min ((p:Int)).toNat IntKind.u64.bits=p:=by
  rw[lB];exact Nat.min_eq_left (cL h1 (by decide))
 rw[e];have h2:(2:Nat)^p<=2^62:=Nat.pow_le_pow_right (by omega) h1;have h3:(1*2^p:Int)=((2^p:Nat):Int):=by push_cast;omega
 rw[h3];generalize 2^p=q at h2;unfold IntKind.wrap;simp only[IntKind.signed,IntKind.bits,c0,bY,if_false];omega
theorem NX(h:0<=n)(h':n<=18446744073709551615):MN .u64 n:=YG h h'
theorem aHY(x:Nat)(hx:x<2^60):∀m,aJ Tryz.prog 216 [.d (ci x)] m (.ok (.d (cu ((2^Go.Sort.bitsLen x:Nat):Int)))) m:=by
 have hb:=(Go.Sort.bitsLen_le_iff x 60).2 hx;refine iC mix Tryz.func216 ?_;refine bl ?_;refine FC.mk (NX (by omega) (by omega)) ?_;conv=>whnf
 repeat' refine aF (QA x hx) (bw ?_)
 refine xR.mk (decide_eq_true (show(0:Int)<=(Go.Sort.bitsLen x:Int) by omega)) ?_;conv=>whnf
 refine bl ?_;rw[aNT _ (by omega)];exact .one (.d _)
end Go.Pv
