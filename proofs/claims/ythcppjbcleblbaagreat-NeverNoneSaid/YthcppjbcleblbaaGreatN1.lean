import Derived.Test.YthcppjbcleblbaaGreatF5
import Derived.Test.YthcppjbcleblbaaGreatProg
import Derived.Sort.AssemblyPlain
import Derived.Sort.LotD5
/- Calls over maps in any order, and the law's own walk, given the run of the chapter's example. -/
set_option linter.all false
set_option maxRecDepth 100000
set_option maxHeartbeats 8000000
open Go Go.Pv Go.Proofs
namespace Go.Pv
theorem mix:Tryz.prog.follows .mixedOrders=true:=by kernel_rfl
abbrev ci(n:Int):C:=.v (.int .i64 n)
abbrev cb(b:Bool):C:=.v (.bool b)
theorem neB{a b:Nat}(h:Nat.beq a b=false):a≠b:=λe=>by subst e;simp at h
theorem lenE{a b:Nat}(h:a=b):A.d (ci (a:Int))=A.d (ci (b:Int)):=by rw[h]
theorem intE{a b:Int}(h:a=b):A.d (ci a)=A.d (ci b):=by rw[h]
theorem inI{n:Int}(h:-9223372036854775808<=n)(h':n<=9223372036854775807):inR .i64 n:=inR_i64 h h'
theorem erase_len{α:Type}(L:List α)(i:Nat)(h:i<L.length):(L.eraseIdx i).length<L.length:=by rw[List.length_eraseIdx_of_lt h];omega
theorem rdT_i{m:Mem}{a b:Int}(h:a=b):RdT m (.d (ci a)) (.d (ci b)):=by subst h;exact .one (.d _)
def isR(r:Option (List Ot×Nat))(v:A):Bool:=match r with
 |some ([(r,[])],_)=>rtEqb r (.ok v)
 |_=>false
theorem closed_call{P:Program}(hmix:P.follows .mixedOrders=true){f:FuncId}{xs:List A}{v:A}{d nx:Nat}(h:isR (evH P noCt d (.fn f) xs .nil nx) v=true)(hx:(A.hsL xs).isEmpty=true):∀m,CallT P f xs m (.ok v) m:=by
 cases he:evH P noCt d (.fn f) xs .nil nx with
 |none=>rw[he]at h;cases h
 |some p=>
  obtain⟨outs,nx'⟩:=p
  rw[he]at h
  unfold isR at h
  split at h
  ·rename_i e
   simp only[Option.some.injEq,Prod.mk.injEq]at e
   obtain⟨rfl,rfl⟩:=e
   have hr:=rtEqb_eq h
   subst hr
   exact pure_of_run (evH_ok hmix noCt_ok d) hx he
  ·cases h
def pop6(x:Int):Int:=[0,1,1,2,1,2,2,3,1,2,2,3,2,3,3,4,1,2,2,3,2,3,3,4,2,3,3,4,3,4,4,5,1,2,2,3,2,3,3,4,2,3,3,4,3,4,4,5,2,3,3,4,3,4,4,5,3,4,4,5,4,5,5,6].getD x.toNat 0
theorem pop6_all:∀k:Fin 64,0<=pop6 k.val/\pop6 k.val<=6:=by decide
theorem pop6_bd(x:Int)(h0:0<=x)(h1:x<=63):0<=pop6 x/\pop6 x<=6:=by
 have:=pop6_all ⟨x.toNat,by omega⟩
 have hx:((x.toNat:Nat):Int)=x:=by omega
 simpa only[hx]using this
theorem count_all:((List.range 64).all λk=>isR (evH Tryz.prog noCt 8 (.fn 167) [.d (.v (.int .u8 k))] .nil 1) (.d (ci (pop6 k))))=true:=by kernel_rfl
theorem count_ok(x:Int)(h0:0<=x)(h1:x<=63):∀m,CallT Tryz.prog 167 [.d (.v (.int .u8 x))] m (.ok (.d (ci (pop6 x)))) m:=by
 have hx:((x.toNat:Nat):Int)=x:=by omega
 have:=List.all_eq_true.1 count_all x.toNat (List.mem_range.2 (by omega))
 rw[hx]at this
 exact closed_call mix this rfl
structure K10 where
 a:Int
 b:Int
 c:Int
 d:Int
 e:Int
 f:Int
 g:Int
 h:Int
 i:Int
 j:Int
def K10.ky(k:K10):Ky:=.agg [.int .i64 k.a,.int .i64 k.b,.int .u8 k.c,.int .i64 k.d,.int .i64 k.e,.int .i64 k.f,.int .u8 k.g,.int .i64 k.h,.int .i64 k.i,.int .i64 k.j]
def fkv(p:K10×Int):Ky×C:=(p.1.ky,.v (.int .u8 p.2))
abbrev factsC(L:List (K10×Int)):C:=.im (L.map λp=>p.1.ky) (L.map λp=>.v (.int .u8 p.2))
def lenI:List (K10×Int)->Int
 |[]=>0
 |p::r=>1+pop6 p.2+lenI r
theorem lenI_erase:∀(L:List (K10×Int))(i:Nat)(h:i<L.length),lenI L=1+pop6 L[i].2+lenI (L.eraseIdx i)
 |[],i,h=>by simp at h
 |a::r,0,h=>rfl
 |a::r,i+1,h=>by
  simp only[lenI,List.getElem_cons_succ,List.eraseIdx_cons_succ]
  rw[lenI_erase r i (by simpa using h)];omega
def okF(L:List (K10×Int)):Prop:=∀p∈L,0<=p.2/\p.2<=63
theorem lenI_bd:∀(L:List (K10×Int)),okF L->0<=lenI L/\lenI L<=7*L.length
 |[],_=>by simp[lenI]
 |p::r,h=>by
  have h1:=pop6_bd p.2 (h p (by simp)).1 (h p (by simp)).2
  have h2:=lenI_bd r λq hq=>h q (by simp[hq])
  simp only[lenI,List.length_cons];omega
theorem there_data(gl:List C)(c:C):∀m,CallT Tryz.prog 42 [.d (.ip [.ip gl,c])] m (.ok (.d (cb true))) m:=by
 refine pure_of_rd mix Tryz.func42 rfl (by kernel_rfl) (Nat.le_of_ble_eq_true rfl) rfl ?_
 repeat'(first
  |with_reducible (first|refine w1 ?_|refine w2 ?_|refine w3 ?_|refine w4 ?_|refine w5 ?_|refine w6 ?_|refine w7 ?_|refine w8 ?_|refine w9 ?_|refine wa ?_|refine wb ?_|refine wc ?_|refine wd ?_|refine we ?_|refine wf rfl ?_|refine wj ?_|refine wk ?_|refine wl ?_|refine wm rfl ?_|refine StopK.mk ?_|refine BrK.t rfl ?_|refine BrK.f rfl ?_)
  |((with_reducible (first|refine wr ?_|refine wi ?_|refine wx ?_|refine wy ?_|refine wg ?_|refine wh ?_));(conv=>whnf))
  |((with_reducible (refine wt (by decide) (by kernel_rfl) ?_));(conv=>whnf))
  |((with_reducible (refine wu ?_));(conv=>whnf))
  |(with_reducible (refine ChkK.mk (by kernel_rfl) ?_))
  |(refine RowK.mk _ rfl ?_;(conv=>whnf))
  |((with_reducible refine InK.mk (inI (by(try dsimp only);omega) (by(try dsimp only);omega)) ?_);(conv=>whnf))
  |((with_reducible refine bK_split (λh=>?_) (λh=>?_))<;>(try rw[h])<;>(conv at h=>{simp})))
 exact .one (.d _)
theorem len_data(gl:List C)(L0:List (K10×Int))(h0:okF L0)(hl:L0.length<=2^40):∀m,CallT Tryz.prog 124 [.d (.ip [.ip gl,factsC L0])] m (.ok (.d (ci (lenI L0)))) m:=by
 refine pure_of_rd mix Tryz.func124 rfl (by kernel_rfl) (Nat.le_of_ble_eq_true rfl) rfl ?_
 repeat'(first
  |with_reducible (first|refine w1 ?_|refine w2 ?_|refine w3 ?_|refine w4 ?_|refine w5 ?_|refine w6 ?_|refine w7 ?_|refine w8 ?_|refine w9 ?_|refine wa ?_|refine wb ?_|refine wc ?_|refine wd ?_|refine we ?_|refine wf rfl ?_|refine wj ?_|refine wk ?_|refine wl ?_|refine wm rfl ?_|refine StopK.mk ?_|refine BrK.t rfl ?_|refine BrK.f rfl ?_)
  |((with_reducible (first|refine wr ?_|refine wi ?_|refine wx ?_|refine wy ?_|refine wg ?_|refine wh ?_));(conv=>whnf))
  |((with_reducible (refine wt (by decide) (by kernel_rfl) ?_));(conv=>whnf))
  |((with_reducible (refine wu ?_));(conv=>whnf))
  |(with_reducible (refine ChkK.mk (by kernel_rfl) ?_))
  |(refine RowK.mk _ rfl ?_;(conv=>whnf))
  |((with_reducible refine InK.mk (inI (by(try dsimp only);omega) (by(try dsimp only);omega)) ?_);(conv=>whnf))
  |((with_reducible refine bK_split (λh=>?_) (λh=>?_))<;>(try rw[h])<;>(conv at h=>{simp}))
  |((refine callK_pure (there_data gl _) ?_);(conv=>whnf)))
 refine rngK_map rfl ?_
 conv=>whnf
 repeat'(first
  |with_reducible (first|refine w1 ?_|refine w2 ?_|refine w3 ?_|refine w4 ?_|refine w5 ?_|refine w6 ?_|refine w7 ?_|refine w8 ?_|refine w9 ?_|refine wa ?_|refine wb ?_|refine wc ?_|refine wd ?_|refine we ?_|refine wf rfl ?_|refine wj ?_|refine wk ?_|refine wl ?_|refine wm rfl ?_|refine StopK.mk ?_|refine BrK.t rfl ?_|refine BrK.f rfl ?_)
  |((with_reducible (first|refine wr ?_|refine wi ?_|refine wx ?_|refine wy ?_|refine wg ?_|refine wh ?_));(conv=>whnf))
  |((with_reducible (refine wt (by decide) (by kernel_rfl) ?_));(conv=>whnf))
  |((with_reducible (refine wu ?_));(conv=>whnf))
  |(with_reducible (refine ChkK.mk (by kernel_rfl) ?_))
  |(refine RowK.mk _ rfl ?_;(conv=>whnf))
  |((with_reducible refine InK.mk (inI (by(try dsimp only);omega) (by(try dsimp only);omega)) ?_);(conv=>whnf))
  |((with_reducible refine bK_split (λh=>?_) (λh=>?_))<;>(try rw[h])<;>(conv at h=>{simp})))
 have hb0:=lenI_bd L0 h0
 refine loop_inv mix (λa:Option (Ky×C)×List (K10×Int)×Int=>okF a.2.1/\a.2.1.length<=L0.length/\a.2.2+lenI a.2.1=lenI L0) (I:=λa=>[(12,.h 65),(3,.d (ci a.2.2))])
  (J:=λa=>[(65,.di a.1 (a.2.1.map fkv))]) (μ:=λa=>a.2.1.length) 100 (none,L0,0) ⟨h0,by simp,by simp⟩ (by(refine Moves.swap 5000 5001 ?_ ?_ ?_ ?_ ?_<;>repeat'(first|exact True.intro|exact rfl|exact Option.some_ne_none _|exact hsIn_osD|exact hsIn_facA|exact neB rfl|exact mkosl rfl rfl|exact mkfac rfl|exact mkmt rfl rfl|exact hsIn_mtA|exact mklo rfl (by assumption)|exact hlo _ (Option.some_ne_none _) (Option.some_ne_none _) (Option.some_ne_none _) (Option.some_ne_none _) (Option.some_ne_none _)|exact hlo _ (Option.some_ne_none _) (Option.some_ne_none _)|(refine lenE ?_;simp only[List.length_map,rowsD];done)|(refine intE ?_;(try dsimp only);omega)|refine And.intro ?_ ?_))) ?_
 rintro⟨cur,L,n⟩ ⟨h1,h2,h3⟩
 dsimp only at h1 h2 h3⊢
 have hb:=lenI_bd L h1
 repeat'(first
  |with_reducible (first|refine w1 ?_|refine w2 ?_|refine w3 ?_|refine w4 ?_|refine w5 ?_|refine w6 ?_|refine w7 ?_|refine w8 ?_|refine w9 ?_|refine wa ?_|refine wb ?_|refine wc ?_|refine wd ?_|refine we ?_|refine wf rfl ?_|refine wj ?_|refine wk ?_|refine wl ?_|refine wm rfl ?_|refine StopK.mk ?_|refine BrK.t rfl ?_|refine BrK.f rfl ?_)
  |((with_reducible (first|refine wr ?_|refine wi ?_|refine wx ?_|refine wy ?_|refine wg ?_|refine wh ?_));(conv=>whnf))
  |((with_reducible (refine wt (by decide) (by kernel_rfl) ?_));(conv=>whnf))
  |((with_reducible (refine wu ?_));(conv=>whnf))
  |(with_reducible (refine ChkK.mk (by kernel_rfl) ?_))
  |(refine RowK.mk _ rfl ?_;(conv=>whnf))
  |((with_reducible refine InK.mk (inI (by(try dsimp only);omega) (by(try dsimp only);omega)) ?_);(conv=>whnf))
  |((with_reducible refine bK_split (λh=>?_) (λh=>?_))<;>(try rw[h])<;>(conv at h=>{simp})))
 refine nextK_map (λh0=>?_) (λi hi=>?_)
 ·conv=>whnf
  repeat'(first
   |with_reducible (first|refine w1 ?_|refine w2 ?_|refine w3 ?_|refine w4 ?_|refine w5 ?_|refine w6 ?_|refine w7 ?_|refine w8 ?_|refine w9 ?_|refine wa ?_|refine wb ?_|refine wc ?_|refine wd ?_|refine we ?_|refine wf rfl ?_|refine wj ?_|refine wk ?_|refine wl ?_|refine wm rfl ?_|refine StopK.mk ?_|refine BrK.t rfl ?_|refine BrK.f rfl ?_)
   |((with_reducible (first|refine wr ?_|refine wi ?_|refine wx ?_|refine wy ?_|refine wg ?_|refine wh ?_));(conv=>whnf))
   |((with_reducible (refine wt (by decide) (by kernel_rfl) ?_));(conv=>whnf))
   |((with_reducible (refine wu ?_));(conv=>whnf))
   |(with_reducible (refine ChkK.mk (by kernel_rfl) ?_))
   |(refine RowK.mk _ rfl ?_;(conv=>whnf))
   |((with_reducible refine InK.mk (inI (by(try dsimp only);omega) (by(try dsimp only);omega)) ?_);(conv=>whnf))
   |((with_reducible refine bK_split (λh=>?_) (λh=>?_))<;>(try rw[h])<;>(conv at h=>{simp})))
  refine rdT_i ?_
  subst h0
  simpa [lenI]using h3
 ·have hs:=lenI_erase L i hi
  have hm:=h1 _ (List.getElem_mem hi)
  have ht:=pop6_bd L[i].2 hm.1 hm.2
  have he:okF (L.eraseIdx i):=λp hp=>h1 p (List.mem_of_mem_eraseIdx hp)
  have hbe:=lenI_bd _ he
  have hle:=List.length_eraseIdx_of_lt hi
  conv=>whnf
  repeat'(first
   |with_reducible (first|refine w1 ?_|refine w2 ?_|refine w3 ?_|refine w4 ?_|refine w5 ?_|refine w6 ?_|refine w7 ?_|refine w8 ?_|refine w9 ?_|refine wa ?_|refine wb ?_|refine wc ?_|refine wd ?_|refine we ?_|refine wf rfl ?_|refine wj ?_|refine wk ?_|refine wl ?_|refine wm rfl ?_|refine StopK.mk ?_|refine BrK.t rfl ?_|refine BrK.f rfl ?_)
   |((with_reducible (first|refine wr ?_|refine wi ?_|refine wx ?_|refine wy ?_|refine wg ?_|refine wh ?_));(conv=>whnf))
   |((with_reducible (refine wt (by decide) (by kernel_rfl) ?_));(conv=>whnf))
   |((with_reducible (refine wu ?_));(conv=>whnf))
   |(with_reducible (refine ChkK.mk (by kernel_rfl) ?_))
   |(refine RowK.mk _ rfl ?_;(conv=>whnf))
   |((with_reducible refine InK.mk (inI (by(try dsimp only);omega) (by(try dsimp only);omega)) ?_);(conv=>whnf))
   |((with_reducible refine bK_split (λh=>?_) (λh=>?_))<;>(try rw[h])<;>(conv at h=>{simp}))
   |((refine callK_pure (count_ok L[i].2 hm.1 hm.2) ?_);(conv=>whnf)))
  refine⟨(some (fkv L[i]),L.eraseIdx i,n+(1+pop6 L[i].2)),erase_len _ _ hi,⟨he,by dsimp only;omega,by dsimp only;omega⟩,?_⟩
  (refine Moves.swap 5000 5001 ?_ ?_ ?_ ?_ ?_<;>repeat'(first|exact True.intro|exact rfl|exact Option.some_ne_none _|exact hsIn_osD|exact hsIn_facA|exact neB rfl|exact mkosl rfl rfl|exact mkfac rfl|exact mkmt rfl rfl|exact hsIn_mtA|exact mklo rfl (by assumption)|exact hlo _ (Option.some_ne_none _) (Option.some_ne_none _) (Option.some_ne_none _) (Option.some_ne_none _) (Option.some_ne_none _)|exact hlo _ (Option.some_ne_none _) (Option.some_ne_none _)|(refine lenE ?_;simp only[List.length_map,rowsD];done)|(refine intE ?_;(try dsimp only);omega)|refine And.intro ?_ ?_))
end Go.Pv
open Go Go.Pv Go.Proofs
namespace Go.Pv
theorem perm_erase{α:Type}:∀(L:List α)(i:Nat)(h:i<L.length),L.Perm (L[i]::L.eraseIdx i)
 |[],i,h=>by simp at h
 |a::r,0,h=>.refl _
 |a::r,i+1,h=>by
  have:=perm_erase r i (by simpa using h)
  simp only[List.getElem_cons_succ,List.eraseIdx_cons_succ]
  exact(this.cons a).trans (.swap _ _ _)
theorem CallT.useI{P:Program}{f:FuncId}{xs:List A}{mb u ml:List (Nat×R)}{v:A}(h:CallT P f xs (memO mb) (.ok v) (applyU (memO mb) u))(hhs:HsIn mb (A.hsL xs))(hm:SubM ml mb)(hcl:ClM mb mb)(hfr:FrU ml mb u):CallT P f xs (memO ml) (.ok v) (applyU (memO ml) u):=
 CallT.frame h hhs.at hm.at (λi r hi=>hcl.at i r hi) hfr.at
def fA(L:List (K10×Int)):List (Ky×A):=L.map λp=>(p.1.ky,A.d (.v (.int .u8 p.2)))
theorem fA_hs(L:List (K10×Int))(st:List (Ky×Nat))(hst:st=[]):(R.mp false (fA L) st).hs=[]:=by
 subst hst
 show A.hsL ((fA L).map (·.2))++[]=[]
 rw[List.append_nil]
 induction L with
 |nil=>rfl
 |cons p L ih=>exact ih
theorem fA_in{ml:List (Nat×R)}{L:List (K10×Int)}:HsIn ml (R.mp false (fA L) []).hs:=by rw[fA_hs L [] rfl];trivial
theorem fA_ren{ml:List (Nat×R)}{i:Nat}{g:Nat->Nat}{L:List (K10×Int)}(h:memO ml i=some (.mp false (fA L) [])):(memO ml i).map (R.ren g)=some (.mp false (fA L) []):=by
 rw[h]
 simp only[Option.map_some,R.ren,fA,List.map_map,List.map_nil]
 rfl
theorem fA_fit{P:Program}{kt:TypeId}{k:K10}(hk:Ky.fits P kt k.ky=true)(L:List (K10×Int)):fitK P kt k.ky (fA L)=true:=by
 unfold fitK
 rw[hk,Bool.true_and,List.all_eq_true]
 intro p hp
 obtain⟨t,_,rfl⟩:=List.mem_map.1 hp
 rfl
theorem ky_inj{a b:K10}(h:a.ky=b.ky):a=b:=by
 cases a;cases b
 simp only[K10.ky,Ky.agg.injEq,List.cons.injEq,KC.int.injEq,true_and,and_true]at h
 obtain⟨rfl,rfl,rfl,rfl,rfl,rfl,rfl,rfl,rfl,rfl⟩:=h
 rfl
theorem fA_none{k:K10}:∀{L:List (K10×Int)},k∉L.map (·.1)->kvGet k.ky (fA L)=none
 |[],_=>rfl
 |p::L,h=>by
  simp only[List.map_cons,List.mem_cons,not_or]at h
  show kvGet k.ky ((p.1.ky,A.d (.v (.int .u8 p.2)))::fA L)=none
  rw[kvGet,if_neg (λe=>h.1 (ky_inj e))]
  exact fA_none h.2
def mLd(gx:List A)(L:List (K10×Int)):List (Nat×R):=[(0,.cells true [.lp 1 0,.d (factsC L)]),(1,.cells true gx)]
def gx10:List A:=[.x,.x,.x,.x,.x,.x,.x,.x,.x,.x]
theorem there_ld(L:List (K10×Int)):CallT Tryz.prog 42 [.lp 0 0] (memO (mLd gx10 L)) (.ok (.d (cb true))) (applyU (memO (mLd gx10 L)) []):=by
 refine mem_of_vcL mix 100 Tryz.func42 rfl (by kernel_rfl) (Nat.le_of_ble_eq_true rfl) trivial trivial ?_
 repeat'(first
  |with_reducible (first|refine w1 ?_|refine w2 ?_|refine w3 ?_|refine w4 ?_|refine w5 ?_|refine w6 ?_|refine w7 ?_|refine w8 ?_|refine w9 ?_|refine wa ?_|refine wb ?_|refine wc ?_|refine wd ?_|refine we ?_|refine wf rfl ?_|refine wj ?_|refine wk ?_|refine wl ?_|refine wm rfl ?_|refine StopK.mk ?_|refine BrK.t rfl ?_|refine BrK.f rfl ?_)
  |((with_reducible (first|refine wr ?_|refine wi ?_|refine wx ?_|refine wy ?_|refine wg ?_|refine wh ?_));(conv=>whnf))
  |((with_reducible (refine wt (by decide) (by kernel_rfl) ?_));(conv=>whnf))
  |((with_reducible (refine wu ?_));(conv=>whnf))
  |(with_reducible (refine ChkK.mk (by kernel_rfl) ?_))
  |(refine RowK.mk _ rfl ?_;(conv=>whnf))
  |((with_reducible refine InK.mk (inI (by(try dsimp only);omega) (by(try dsimp only);omega)) ?_);(conv=>whnf))
  |((with_reducible refine bK_split (λh=>?_) (λh=>?_))<;>(try rw[h])<;>(conv at h=>{simp})))
 (refine endM_of rfl ?_<;>repeat'(first|exact True.intro|exact Or.inl rfl|exact Or.inr rfl|refine And.intro ?_ ?_))
def uNone:List (Nat×R):=[(140,.mp false [] []),(156,.cells false [.lp 1 0,.h 140])]
theorem none_ld(L:List (K10×Int)):CallT Tryz.prog 43 [.lp 0 0] (memO (mLd gx10 L)) (.ok (.lp 156 0)) (applyU (memO (mLd gx10 L)) uNone):=by
 refine mem_of_vcL mix 100 Tryz.func43 rfl (by kernel_rfl) (Nat.le_of_ble_eq_true rfl) ⟨Option.some_ne_none _,trivial⟩ ⟨trivial,⟨Option.some_ne_none _,Option.some_ne_none _,trivial⟩,trivial⟩ ?_
 repeat'(first
  |with_reducible (first|refine w1 ?_|refine w2 ?_|refine w3 ?_|refine w4 ?_|refine w5 ?_|refine w6 ?_|refine w7 ?_|refine w8 ?_|refine w9 ?_|refine wa ?_|refine wb ?_|refine wc ?_|refine wd ?_|refine we ?_|refine wf rfl ?_|refine wj ?_|refine wk ?_|refine wl ?_|refine wm rfl ?_|refine StopK.mk ?_|refine BrK.t rfl ?_|refine BrK.f rfl ?_)
  |((with_reducible (first|refine wr ?_|refine wi ?_|refine wx ?_|refine wy ?_|refine wg ?_|refine wh ?_));(conv=>whnf))
  |((with_reducible (refine wt (by decide) (by kernel_rfl) ?_));(conv=>whnf))
  |((with_reducible (refine wu ?_));(conv=>whnf))
  |(with_reducible (refine ChkK.mk (by kernel_rfl) ?_))
  |(refine RowK.mk _ rfl ?_;(conv=>whnf))
  |((with_reducible refine InK.mk (inI (by(try dsimp only);omega) (by(try dsimp only);omega)) ?_);(conv=>whnf))
  |((with_reducible refine bK_split (λh=>?_) (λh=>?_))<;>(try rw[h])<;>(conv at h=>{simp})))
 (refine endM_of rfl ?_<;>repeat'(first|exact True.intro|exact Or.inl rfl|exact Or.inr rfl|refine And.intro ?_ ?_))
theorem fcopy_ld(L0:List (K10×Int))(hnd:(L0.map (·.1)).Nodup):CallT Tryz.prog 19 [.lp 0 0] (memO (mLd gx10 L0)) (.ok (.lp 156 0)) (applyU (memO (mLd gx10 L0)) [(140,.mp false (fA L0) []),(156,.cells false [.lp 1 0,.h 140])]):=by
 refine mem_of_vcL mix 20000 Tryz.func19 rfl (by kernel_rfl) (Nat.le_of_ble_eq_true rfl) ⟨Option.some_ne_none _,trivial⟩ ⟨fA_in,⟨Option.some_ne_none _,Option.some_ne_none _,trivial⟩,trivial⟩ ?_
 repeat'(first
  |with_reducible (first|refine w1 ?_|refine w2 ?_|refine w3 ?_|refine w4 ?_|refine w5 ?_|refine w6 ?_|refine w7 ?_|refine w8 ?_|refine w9 ?_|refine wa ?_|refine wb ?_|refine wc ?_|refine wd ?_|refine we ?_|refine wf rfl ?_|refine wj ?_|refine wk ?_|refine wl ?_|refine wm rfl ?_|refine StopK.mk ?_|refine BrK.t rfl ?_|refine BrK.f rfl ?_)
  |((with_reducible (first|refine wr ?_|refine wi ?_|refine wx ?_|refine wy ?_|refine wg ?_|refine wh ?_));(conv=>whnf))
  |((with_reducible (refine wt (by decide) (by kernel_rfl) ?_));(conv=>whnf))
  |((with_reducible (refine wu ?_));(conv=>whnf))
  |(with_reducible (refine ChkK.mk (by kernel_rfl) ?_))
  |(refine RowK.mk _ rfl ?_;(conv=>whnf))
  |((with_reducible refine InK.mk (inI (by(try dsimp only);omega) (by(try dsimp only);omega)) ?_);(conv=>whnf))
  |((with_reducible refine bK_split (λh=>?_) (λh=>?_))<;>(try rw[h])<;>(conv at h=>{simp}))
  |((refine CallK.mk _ _ (CallT.useI (there_ld L0) ⟨Option.some_ne_none _,trivial⟩ ⟨rfl,rfl,trivial⟩ ⟨⟨Option.some_ne_none _,trivial⟩,trivial,trivial⟩ trivial) ?_);(conv=>whnf))
  |((refine CallK.mk _ _ (CallT.useI (none_ld L0) ⟨Option.some_ne_none _,trivial⟩ ⟨rfl,rfl,trivial⟩ ⟨⟨Option.some_ne_none _,trivial⟩,trivial,trivial⟩ ⟨.inr rfl,.inr rfl,trivial⟩) ?_);(conv=>whnf)))
 refine rngK_map rfl ?_
 conv=>whnf
 repeat'(first
  |with_reducible (first|refine w1 ?_|refine w2 ?_|refine w3 ?_|refine w4 ?_|refine w5 ?_|refine w6 ?_|refine w7 ?_|refine w8 ?_|refine w9 ?_|refine wa ?_|refine wb ?_|refine wc ?_|refine wd ?_|refine we ?_|refine wf rfl ?_|refine wj ?_|refine wk ?_|refine wl ?_|refine wm rfl ?_|refine StopK.mk ?_|refine BrK.t rfl ?_|refine BrK.f rfl ?_)
  |((with_reducible (first|refine wr ?_|refine wi ?_|refine wx ?_|refine wy ?_|refine wg ?_|refine wh ?_));(conv=>whnf))
  |((with_reducible (refine wt (by decide) (by kernel_rfl) ?_));(conv=>whnf))
  |((with_reducible (refine wu ?_));(conv=>whnf))
  |(with_reducible (refine ChkK.mk (by kernel_rfl) ?_))
  |(refine RowK.mk _ rfl ?_;(conv=>whnf))
  |((with_reducible refine InK.mk (inI (by(try dsimp only);omega) (by(try dsimp only);omega)) ?_);(conv=>whnf))
  |((with_reducible refine bK_split (λh=>?_) (λh=>?_))<;>(try rw[h])<;>(conv at h=>{simp})))
 refine loop_cut mix (λa:Option (Ky×C)×List (K10×Int)×List (K10×Int)=>(a.2.2++a.2.1).Perm L0) (I:=λa=>[(3,.lp 156 0),(15,.h 20088)])
  (J:=λa=>[(156,.cells false [.lp 1 0,.h 140]),(140,.mp false (fA a.2.2) []),(0,.cells true [.lp 1 0,.d (factsC L0)]),(1,.cells true gx10),(20088,.di a.1 (a.2.1.map fkv))]) (μ:=λa=>a.2.1.length) 30000 (none,L0,[]) 0
  (λ_:Unit=>True) (λ_=>[(3,.lp 156 0)]) (λ_=>[(140,.mp false (fA L0) []),(156,.cells false [.lp 1 0,.h 140]),(0,.cells true [.lp 1 0,.d (factsC L0)]),(1,.cells true gx10)]) 40000 (.refl _) ?_ ?_ ?_
 ·skip
  (refine Moves.swap 5000 5001 ?_ ?_ ?_ ?_ ?_<;>repeat'(first|exact True.intro|exact rfl|exact Option.some_ne_none _|exact hsIn_osD|exact hsIn_facA|exact neB rfl|exact mkosl rfl rfl|exact mkfac rfl|exact mkmt rfl rfl|exact hsIn_mtA|exact mklo rfl (by assumption)|exact hlo _ (Option.some_ne_none _) (Option.some_ne_none _) (Option.some_ne_none _) (Option.some_ne_none _) (Option.some_ne_none _)|exact hlo _ (Option.some_ne_none _) (Option.some_ne_none _)|(refine lenE ?_;simp only[List.length_map,rowsD];done)|(refine intE ?_;(try dsimp only);omega)|refine And.intro ?_ ?_))
 ·rintro⟨cur,L,D⟩ hp
  dsimp only at hp⊢
  repeat'(first
   |with_reducible (first|refine w1 ?_|refine w2 ?_|refine w3 ?_|refine w4 ?_|refine w5 ?_|refine w6 ?_|refine w7 ?_|refine w8 ?_|refine w9 ?_|refine wa ?_|refine wb ?_|refine wc ?_|refine wd ?_|refine we ?_|refine wf rfl ?_|refine wj ?_|refine wk ?_|refine wl ?_|refine wm rfl ?_|refine StopK.mk ?_|refine BrK.t rfl ?_|refine BrK.f rfl ?_)
   |((with_reducible (first|refine wr ?_|refine wi ?_|refine wx ?_|refine wy ?_|refine wg ?_|refine wh ?_));(conv=>whnf))
   |((with_reducible (refine wt (by decide) (by kernel_rfl) ?_));(conv=>whnf))
   |((with_reducible (refine wu ?_));(conv=>whnf))
   |(with_reducible (refine ChkK.mk (by kernel_rfl) ?_))
   |(refine RowK.mk _ rfl ?_;(conv=>whnf))
   |((with_reducible refine InK.mk (inI (by(try dsimp only);omega) (by(try dsimp only);omega)) ?_);(conv=>whnf))
   |((with_reducible refine bK_split (λh=>?_) (λh=>?_))<;>(try rw[h])<;>(conv at h=>{simp})))
  refine nextK_map (λh0=>?_) (λi hi=>?_)
  ·conv=>whnf
   repeat'(first
    |with_reducible (first|refine w1 ?_|refine w2 ?_|refine w3 ?_|refine w4 ?_|refine w5 ?_|refine w6 ?_|refine w7 ?_|refine w8 ?_|refine w9 ?_|refine wa ?_|refine wb ?_|refine wc ?_|refine wd ?_|refine we ?_|refine wf rfl ?_|refine wj ?_|refine wk ?_|refine wl ?_|refine wm rfl ?_|refine StopK.mk ?_|refine BrK.t rfl ?_|refine BrK.f rfl ?_)
    |((with_reducible (first|refine wr ?_|refine wi ?_|refine wx ?_|refine wy ?_|refine wg ?_|refine wh ?_));(conv=>whnf))
    |((with_reducible (refine wt (by decide) (by kernel_rfl) ?_));(conv=>whnf))
    |((with_reducible (refine wu ?_));(conv=>whnf))
    |(with_reducible (refine ChkK.mk (by kernel_rfl) ?_))
    |(refine RowK.mk _ rfl ?_;(conv=>whnf))
    |((with_reducible refine InK.mk (inI (by(try dsimp only);omega) (by(try dsimp only);omega)) ?_);(conv=>whnf))
    |((with_reducible refine bK_split (λh=>?_) (λh=>?_))<;>(try rw[h])<;>(conv at h=>{simp})))
   subst h0
   have hD:D.Perm L0:=by simpa using hp
   have e1:(fA D).Perm (fA L0):=hD.map _
   refine⟨(),trivial,?_⟩
   refine Moves.trans (l':=[(3,.lp 156 0)]) (ml':=[(140,.mp false (fA D) []),(156,.cells false [.lp 1 0,.h 140]),(0,.cells true [.lp 1 0,.d (factsC L0)]),(1,.cells true gx10)]) ?_ (Moves.perm 140 e1)
   (refine Moves.swap 5000 5001 ?_ ?_ ?_ ?_ ?_<;>repeat'(first|exact True.intro|exact rfl|exact Option.some_ne_none _|exact hsIn_osD|exact hsIn_facA|exact neB rfl|exact mkosl rfl rfl|exact mkfac rfl|exact mkmt rfl rfl|exact hsIn_mtA|exact mklo rfl (by assumption)|exact hlo _ (Option.some_ne_none _) (Option.some_ne_none _) (Option.some_ne_none _) (Option.some_ne_none _) (Option.some_ne_none _)|exact hlo _ (Option.some_ne_none _) (Option.some_ne_none _)|(refine lenE ?_;simp only[List.length_map,rowsD];done)|(refine intE ?_;(try dsimp only);omega)|refine And.intro ?_ ?_))
   all_goals first|exact fA_ren rfl|exact fA_in
  ·conv=>whnf
   have hnd2:=hp.symm.map (·.1)|>.nodup_iff.1 hnd
   rw[List.map_append,List.nodup_append]at hnd2
   have hD:L[i].1∉D.map (·.1):=λh=>hnd2.2.2 _ h _ (List.mem_map.2 ⟨L[i],List.getElem_mem hi,rfl⟩) rfl
   repeat'(first
    |with_reducible (first|refine w1 ?_|refine w2 ?_|refine w3 ?_|refine w4 ?_|refine w5 ?_|refine w6 ?_|refine w7 ?_|refine w8 ?_|refine w9 ?_|refine wa ?_|refine wb ?_|refine wc ?_|refine wd ?_|refine we ?_|refine wf rfl ?_|refine wj ?_|refine wk ?_|refine wl ?_|refine wm rfl ?_|refine StopK.mk ?_|refine BrK.t rfl ?_|refine BrK.f rfl ?_)
    |((with_reducible (first|refine wr ?_|refine wi ?_|refine wx ?_|refine wy ?_|refine wg ?_|refine wh ?_));(conv=>whnf))
    |((with_reducible (refine wu ?_));(conv=>whnf))
    |(with_reducible (refine ChkK.mk (by kernel_rfl) ?_))
    |(refine RowK.mk _ rfl ?_;(conv=>whnf))
    |((with_reducible refine InK.mk (inI (by(try dsimp only);omega) (by(try dsimp only);omega)) ?_);(conv=>whnf))
    |((with_reducible refine bK_split (λh=>?_) (λh=>?_))<;>(try rw[h])<;>(conv at h=>{simp})))
   refine SetK.miss (fA_fit (k:=L[i].1) (by kernel_rfl) D) (fA_none hD) ?_
   conv=>whnf
   repeat'(first
    |with_reducible (first|refine w1 ?_|refine w2 ?_|refine w3 ?_|refine w4 ?_|refine w5 ?_|refine w6 ?_|refine w7 ?_|refine w8 ?_|refine w9 ?_|refine wa ?_|refine wb ?_|refine wc ?_|refine wd ?_|refine we ?_|refine wf rfl ?_|refine wj ?_|refine wk ?_|refine wl ?_|refine wm rfl ?_|refine StopK.mk ?_|refine BrK.t rfl ?_|refine BrK.f rfl ?_)
    |((with_reducible (first|refine wr ?_|refine wi ?_|refine wx ?_|refine wy ?_|refine wg ?_|refine wh ?_));(conv=>whnf))
    |((with_reducible (refine wt (by decide) (by kernel_rfl) ?_));(conv=>whnf))
    |((with_reducible (refine wu ?_));(conv=>whnf))
    |(with_reducible (refine ChkK.mk (by kernel_rfl) ?_))
    |(refine RowK.mk _ rfl ?_;(conv=>whnf))
    |((with_reducible refine InK.mk (inI (by(try dsimp only);omega) (by(try dsimp only);omega)) ?_);(conv=>whnf))
    |((with_reducible refine bK_split (λh=>?_) (λh=>?_))<;>(try rw[h])<;>(conv at h=>{simp})))
   have hpe:((D++[L[i]])++L.eraseIdx i).Perm L0:=by
    refine List.Perm.trans ?_ hp
    rw[List.append_assoc]
    exact List.Perm.append_left _ (perm_erase L i hi).symm
   refine⟨(some (fkv L[i]),L.eraseIdx i,D++[L[i]]),erase_len _ _ hi,hpe,?_⟩
   have e:fA (D++[L[i]])=fA D++[(L[i].1.ky,A.d (.v (.int .u8 L[i].2)))]:=by unfold fA;rw[List.map_append];rfl
   have key:∀{ml:List (Nat×R)}{g:Nat->Nat},memO ml 140=some (.mp false (fA D++[(L[i].1.ky,A.d (.v (.int .u8 L[i].2)))]) [])->(memO ml 140).map (R.ren g)=some (.mp false (fA (D++[L[i]])) []):=λh=>fA_ren (by rw[h,e])
   (refine Moves.swap 5000 5001 ?_ ?_ ?_ ?_ ?_<;>repeat'(first|exact True.intro|exact rfl|exact Option.some_ne_none _|exact hsIn_osD|exact hsIn_facA|exact neB rfl|exact mkosl rfl rfl|exact mkfac rfl|exact mkmt rfl rfl|exact hsIn_mtA|exact mklo rfl (by assumption)|exact hlo _ (Option.some_ne_none _) (Option.some_ne_none _) (Option.some_ne_none _) (Option.some_ne_none _) (Option.some_ne_none _)|exact hlo _ (Option.some_ne_none _) (Option.some_ne_none _)|(refine lenE ?_;simp only[List.length_map,rowsD];done)|(refine intE ?_;(try dsimp only);omega)|refine And.intro ?_ ?_))
   all_goals first|exact key rfl|exact fA_ren rfl|exact fA_in
 rintro _ _
 repeat'(first
  |with_reducible (first|refine w1 ?_|refine w2 ?_|refine w3 ?_|refine w4 ?_|refine w5 ?_|refine w6 ?_|refine w7 ?_|refine w8 ?_|refine w9 ?_|refine wa ?_|refine wb ?_|refine wc ?_|refine wd ?_|refine we ?_|refine wf rfl ?_|refine wj ?_|refine wk ?_|refine wl ?_|refine wm rfl ?_|refine StopK.mk ?_|refine BrK.t rfl ?_|refine BrK.f rfl ?_)
  |((with_reducible (first|refine wr ?_|refine wi ?_|refine wx ?_|refine wy ?_|refine wg ?_|refine wh ?_));(conv=>whnf))
  |((with_reducible (refine wt (by decide) (by kernel_rfl) ?_));(conv=>whnf))
  |((with_reducible (refine wu ?_));(conv=>whnf))
  |(with_reducible (refine ChkK.mk (by kernel_rfl) ?_))
  |(refine RowK.mk _ rfl ?_;(conv=>whnf))
  |((with_reducible refine InK.mk (inI (by(try dsimp only);omega) (by(try dsimp only);omega)) ?_);(conv=>whnf))
  |((with_reducible refine bK_split (λh=>?_) (λh=>?_))<;>(try rw[h])<;>(conv at h=>{simp})))
 (refine endM_of rfl ?_<;>repeat'(first|exact True.intro|exact Or.inl rfl|exact Or.inr rfl|refine And.intro ?_ ?_))
end Go.Pv
open Go Go.Pv Go.Proofs
namespace Go.Pv
def kyD:Ky->Option K10
 |.agg [.int .i64 a,.int .i64 b,.int .u8 c,.int .i64 d,.int .i64 e,.int .i64 f,.int .u8 g,.int .i64 h,.int .i64 i,.int .i64 j]=>some ⟨a,b,c,d,e,f,g,h,i,j⟩
 |_=>none
theorem kyD_ok{k:Ky}{q:K10}(h:kyD k=some q):k=q.ky:=by
 unfold kyD at h
 split at h
 ·simp only[Option.some.injEq]at h;subst h;rfl
 ·cases h
def decL:List Ky->List C->Option (List (K10×Int))
 |[],[]=>some []
 |k::ks,c::vs=>match c with
  |.v (.int .u8 (.ofNat n))=>match kyD k,decL ks vs with
   |some q,some l=>cond (Nat.ble n 63) (some ((q,.ofNat n)::l)) none
   |_,_=>none
  |_=>none
 |_,_=>none
theorem decL_ok:∀{ks:List Ky}{vs:List C}{L:List (K10×Int)},decL ks vs=some L->ks=L.map (λp=>p.1.ky)/\vs=L.map (λp=>.v (.int .u8 p.2))/\okF L
 |[],[],L,h=>by simp only[decL,Option.some.injEq]at h;subst h;exact⟨rfl,rfl,λp hp=>by simp at hp⟩
 |[],_::_,L,h=>by simp[decL]at h
 |_::_,[],L,h=>by simp[decL]at h
 |k::ks,c::vs,L,h=>by
  simp only[decL]at h
  split at h
  ·rename_i n
   split at h
   ·rename_i q l hq hl
    rw[Bool.cond_eq_ite]at h
    split at h
    ·rename_i hb
     simp only[Option.some.injEq]at h;subst h
     have hb:=Nat.le_of_ble_eq_true hb
     obtain⟨e1,e2,e3⟩:=decL_ok hl
     refine⟨by rw[kyD_ok hq,e1];rfl,by rw[e2];rfl,λp hp=>?_⟩
     simp only[List.mem_cons]at hp
     rcases hp with rfl|hp
     ·exact⟨Int.natCast_nonneg _,by simp only[Int.ofNat_eq_natCast];omega⟩
     ·exact e3 p hp
    ·cases h
   ·cases h
  ·cases h
def lenR(t:Tr R)(xs:List A):Option Int:=match xs with
 |[a]=>match rdA t 40 a with
  |some (.ip [.ip _,.im ks vs])=>match decL ks vs with
   |some L=>cond (Nat.ble L.length 1099511627776) (some (lenI L)) none
   |none=>none
  |_=>none
 |_=>none
def hitL(f0:Nat)(g:Hd):Hd:=λc xs t nx=>match c with
 |.fn f=>cond (Nat.beq f f0) (match lenR t xs with
   |some n=>some ([(.ok (.d (.v (.int .i64 n))),[])],nx)
   |none=>g c xs t nx) (g c xs t nx)
 |_=>g c xs t nx
theorem hitL_ok{g:Hd}(hg:HdOk Tryz.prog g):HdOk Tryz.prog (hitL 124 g):=by
 refine⟨λf xs t nx outs nx' h=>?_,λi xs t nx outs nx' h'=>hg.yl _ _ _ _ _ _ h',λf xs t nx outs nx' h'=>hg.ex _ _ _ _ _ _ h'⟩
 replace h:cond (Nat.beq f 124) (match lenR t xs with
  |some n=>some ([(.ok (.d (.v (.int .i64 n))),[])],nx)
  |none=>g (.fn f) xs t nx) (g (.fn f) xs t nx)=some (outs,nx'):=h
 cases hf:Nat.beq f 124 with
 |false=>rw[hf]at h;exact hg.fn _ _ _ _ _ _ h
 |true=>
  rw[hf]at h
  simp only[cond_true]at h
  have hf:=Nat.eq_of_beq_eq_true hf;subst hf
  split at h
  ·rename_i n hn
   simp only[Option.some.injEq,Prod.mk.injEq]at h
   obtain⟨rfl,rfl⟩:=h
   unfold lenR at hn
   split at hn
   ·rename_i a
    split at hn
    ·rename_i gl ks vs hr
     split at hn
     ·rename_i L hL
      rw[Bool.cond_eq_ite]at hn
      split at hn
      ·rename_i hb
       simp only[Option.some.injEq]at hn;subst hn
       obtain⟨rfl,rfl,h0⟩:=decL_ok hL
       exact⟨_,_,rfl,CallT.viewG (cs:=[.ip [.ip gl,factsC L]]) (len_data gl L h0 (Nat.le_of_ble_eq_true hb)) rfl (.cons (rdA_ok 40 _ _ hr) .nil)⟩
      ·cases hn
     ·cases hn
    ·cases hn
   ·cases hn
  ·exact hg.fn _ _ _ _ _ _ h
theorem fcopy_ld'(L0:List (K10×Int)):CallT Tryz.prog 19 [.lp 0 0] (memO (mLd gx10 L0)) (.ok (.lp 156 0)) (applyU (memO (mLd gx10 L0)) [(140,.mp false (fA L0) []),(156,.cells false [.lp 1 0,.h 140])]):=by
 by_cases hnd:(L0.map (·.1)).Nodup
 ·exact fcopy_ld L0 hnd
 ·refine⟨by kernel_rfl,λN T M0 S0 w0 ρ a w hs hlt vs hvs=>?_⟩
  exfalso
  obtain⟨b,cs,t,e,h1,h2,_⟩:=hs.res 0 (.cells true [.lp 1 0,.d (factsC L0)]) rfl
  simp only[A.DenL,A.Den,C.Den]at h2
  obtain⟨y,yr,_,_,y2,yr2,_,⟨b',es,cl,l,_,_,_,hm,_⟩,_⟩:=h2
  have:=hm.nodup
  apply hnd
  rw[List.Nodup,List.pairwise_map]at this⊢
  exact this.imp λh e=>h (by rw[e])
def kvC(kv:List (Ky×A)):Option (List C):=optM (λp:Ky×A=>match p.2 with
 |.d c=>some c
 |_=>none) kv
theorem kvC_ok{m:Mem}:∀{kv:List (Ky×A)}{vs:List C},kvC kv=some vs->RdL m (kv.map (·.2)) vs
 |[],vs,h=>by simp only[kvC,optM,Option.some.injEq]at h;subst h;exact .nil
 |(k,a)::kv,vs,h=>by
  unfold kvC at h
  rw[optM]at h
  split at h
  ·rename_i y l h1 h2
   simp only[Option.some.injEq]at h;subst h
   split at h1
   ·rename_i c ha
    simp only[Option.some.injEq]at h1;subst h1
    replace ha:a=.d c:=ha
    subst ha
    exact .cons (.d _) (kvC_ok h2)
   ·cases h1
  ·cases h
def fcM(t:Tr R)(x:A):Option (List (K10×Int)):=match x with
 |.h k=>match t.get k with
  |some (.mp _ kv _)=>match kvC kv with
   |some vs=>decL (kv.map (·.1)) vs
   |none=>none
  |_=>none
 |.d (.im ks vs)=>decL ks vs
 |_=>none
def mFx(t:Tr R)(x:A):Mem:=λi=>match x with
 |.h k=>cond (Nat.beq i k) (match t.get k with
  |some (.mp fz kv st)=>some (.mp fz kv st)
  |_=>none) none
 |_=>none
theorem fcM_ok{t:Tr R}{x:A}{L:List (K10×Int)}(h:fcM t x=some L):Cv (mFx t x) x (.d (factsC L))/\(∀i r,mFx t x i=some r->t.get i=some r/\∃fz kv st,r=.mp fz kv st):=by
 unfold fcM at h
 split at h
 ·rename_i k
  split at h
  ·rename_i fz kv st hk
   split at h
   ·rename_i vs hv
    obtain⟨e1,e2,_⟩:=decL_ok h
    have hm:mFx t (.h k) k=some (.mp fz kv st):=by simp[mFx,hk]
    refine⟨.rd ?_,λi r hi=>?_⟩
    ·have:=Rd.mp hm (kvC_ok hv)
     rw[e1,e2]at this
     exact this
    ·unfold mFx at hi
     simp only[hk]at hi
     rw[Bool.cond_eq_ite]at hi
     split at hi
     ·rename_i hb
      have:=Nat.eq_of_beq_eq_true hb;subst this
      simp only[Option.some.injEq]at hi;subst hi
      exact⟨hk,_,_,_,rfl⟩
     ·cases hi
   ·cases h
  ·cases h
 ·rename_i ks vs
  obtain⟨rfl,rfl,_⟩:=decL_ok h
  exact⟨.same _,λi r hi=>by simp[mFx]at hi⟩
 ·cases h
def isTen:List A->Bool
 |[_,_,_,_,_,_,_,_,_,_]=>true
 |_=>false
def fcR(t:Tr R)(xs:List A)(nx:Nat):Option (List (Nat×R)):=match xs with
 |[.lp d 0]=>match t.get d with
  |some (.cells false [.lp g 0,x])=>match t.get g with
   |some (.cells false gl)=>match fcM t x with
    |some L=>cond (isTen gl&&(!(Nat.beq d g)&&(freeB t.get nx&&freeB t.get (nx+1)))) (some [(nx,.mp false (fA L) []),(nx+1,.cells false [.lp g 0,.h nx])]) none
    |none=>none
   |_=>none
  |_=>none
 |_=>none
theorem renL_one{g:Nat->Nat}{i:Nat}:A.renL g [.lp i 0]=[.lp (g i) 0]:=rfl
theorem fcR_ok{t:Tr R}{xs:List A}{nx:Nat}{u:List (Nat×R)}(h:fcR t xs nx=some u):CallT Tryz.prog 19 xs t.get (.ok (.lp (nx+1) 0)) (applyU t.get u):=by
 unfold fcR at h
 split at h
 ·rename_i d
  split at h
  ·rename_i g x hd
   split at h
   ·rename_i gl hg
    split at h
    ·rename_i L hL
     rw[Bool.cond_eq_ite]at h
     split at h
     ·rename_i hb
      simp only[Option.some.injEq]at h;subst h
      simp only[Bool.and_eq_true,Bool.not_eq_true']at hb
      obtain⟨ht,hdg,hf1,hf2⟩:=hb
      have hf1:=freeB_eq hf1
      have hf2:=freeB_eq hf2
      have hdg:d≠g:=λe=>by subst e;simp at hdg
      have n1:d≠nx:=λe=>by subst e;rw[hd]at hf1;cases hf1
      have n2:d≠nx+1:=λe=>by subst e;rw[hd]at hf2;cases hf2
      have n3:g≠nx:=λe=>by subst e;rw[hg]at hf1;cases hf1
      have n4:g≠nx+1:=λe=>by subst e;rw[hg]at hf2;cases hf2
      obtain⟨s,si,s1,s2,s3,_⟩:=exists_perm [(0,d),(1,g),(140,nx),(156,nx+1)] (by simp) (by simp;omega)
      have g0:s 0=d:=s3 (0,d) (by simp)
      have g1:s 1=g:=s3 (1,g) (by simp)
      have g2:s 140=nx:=s3 (140,nx) (by simp)
      have g3:s 156=nx+1:=s3 (156,nx+1) (by simp)
      have k:=CallT.ren (fcopy_ld' L) s1 s2
      rw[applyU_ren s1 s2,renM_memO s1 s2,renL_one]at k
      have e1:renP s (mLd gx10 L)=[(d,.cells true [.lp g 0,.d (factsC L)]),(g,.cells true gx10)]:=by
       simp only[renP,mLd,List.map_cons,List.map_nil,R.ren,A.renL,A.ren,gx10,g0,g1]
      have e2:renP s [(140,.mp false (fA L) []),(156,.cells false [.lp 1 0,.h 140])]=[(nx,.mp false (fA L) []),(nx+1,.cells false [.lp g 0,.h nx])]:=by
       simp only[renP,List.map_cons,List.map_nil,R.ren,A.renL,A.ren,g1,g2,g3]
       have:(fA L).map (λp=>(p.1,p.2.ren s))=fA L:=by simp only[fA,List.map_map];rfl
       rw[this]
      have e3:(Rt.ok (.lp 156 0)).ren s=.ok (.lp (nx+1) 0):=by simp only[Rt.ren,A.ren,g3]
      rw[e1,e2,e3,g0]at k
      obtain⟨hcv,hmf⟩:=fcM_ok hL
      have hcase:∀i r,memO [(d,.cells true [.lp g 0,.d (factsC L)]),(g,.cells true gx10)] i=some r->(i=d/\r=.cells true [.lp g 0,.d (factsC L)])\/(i=g/\r=.cells true gx10):=by
       intro i r hi
       simp only[memO]at hi
       cases hb:Nat.beq d i with
       |true=>rw[hb]at hi;exact .inl ⟨(Nat.eq_of_beq_eq_true hb).symm,(Option.some.inj hi).symm⟩
       |false=>
        rw[hb]at hi
        cases hb2:Nat.beq g i with
        |true=>rw[hb2]at hi;exact .inr ⟨(Nat.eq_of_beq_eq_true hb2).symm,(Option.some.inj hi).symm⟩
        |false=>rw[hb2]at hi;cases hi
      have hno:∀i,i≠d->i≠g->memO [(d,R.cells true [.lp g 0,.d (factsC L)]),(g,.cells true gx10)] i=none:=by
       intro i h1 h2
       cases hq:memO [(d,R.cells true [.lp g 0,.d (factsC L)]),(g,.cells true gx10)] i with
       |none=>rfl
       |some r=>rcases hcase i r hq with⟨e,_⟩|⟨e,_⟩<;>contradiction
      have hd1:memO [(d,R.cells true [.lp g 0,.d (factsC L)]),(g,.cells true gx10)] d≠none:=by simp[memO]
      have hg1:memO [(d,R.cells true [.lp g 0,.d (factsC L)]),(g,.cells true gx10)] g≠none:=by
       simp only[memO];cases Nat.beq d g<;>simp
      refine CallT.lend k rfl (mF:=mFx t x) (λi r hi=>?_) (λi r hi=>?_) (λi hi=>?_) (λi r hi j hj=>?_) (λp hp=>?_) (λp hp=>?_)
      ·obtain⟨q1,fz,kv,st,rfl⟩:=hmf i r hi
       refine⟨q1,hno i (λe=>?_) (λe=>?_)⟩
       ·subst e;rw[hd]at q1;cases q1
       ·subst e;rw[hg]at q1;cases q1
      ·rcases hcase i r hi with⟨rfl,rfl⟩|⟨rfl,rfl⟩
       ·exact⟨_,_,rfl,hd,.cv (.same _) (.cv hcv .nil)⟩
       ·refine⟨_,_,rfl,hg,?_⟩
        unfold isTen at ht
        split at ht
        ·exact LdL.allX _ _
        ·cases ht
      ·simp only[A.hsL,A.hs,List.append_nil,List.mem_singleton]at hi
       subst hi;exact hd1
      ·rcases hcase i r hi with⟨rfl,rfl⟩|⟨rfl,rfl⟩
       ·simp only[R.hs,A.hsL,A.hs,List.append_nil,List.mem_singleton]at hj
        subst hj;exact hg1
       ·simp[R.hs,A.hsL,A.hs,gx10]at hj
      ·simp only[List.mem_cons,List.not_mem_nil,or_false]at hp
       rcases hp with rfl|rfl
       ·exact⟨hno _ (Ne.symm n1) (Ne.symm n3),hf1⟩
       ·exact⟨hno _ (Ne.symm n2) (Ne.symm n4),hf2⟩
      ·simp only[List.mem_cons,List.not_mem_nil,or_false]at hp
       rcases hp with rfl|rfl
       ·refine⟨rfl,rfl,λa ha=>?_⟩
        simp only[fA,List.map_map,List.mem_map]at ha
        obtain⟨p,_,rfl⟩:=ha
        rfl
       ·refine⟨rfl,λa ha=>?_⟩
        simp only[List.mem_cons,List.not_mem_nil,or_false]at ha
        rcases ha with rfl|rfl<;>rfl
     ·cases h
    ·cases h
   ·cases h
  ·cases h
 ·cases h
def hitC(f0:Nat)(g:Hd):Hd:=λc xs t nx=>match c with
 |.fn f=>cond (Nat.beq f f0) (match fcR t xs nx with
   |some u=>some ([(.ok (.lp (nx+1) 0),u)],nx+2)
   |none=>g c xs t nx) (g c xs t nx)
 |_=>g c xs t nx
theorem hitC_ok{g:Hd}(hg:HdOk Tryz.prog g):HdOk Tryz.prog (hitC 19 g):=by
 refine⟨λf xs t nx outs nx' h=>?_,λi xs t nx outs nx' h'=>hg.yl _ _ _ _ _ _ h',λf xs t nx outs nx' h'=>hg.ex _ _ _ _ _ _ h'⟩
 replace h:cond (Nat.beq f 19) (match fcR t xs nx with
  |some u=>some ([(.ok (.lp (nx+1) 0),u)],nx+2)
  |none=>g (.fn f) xs t nx) (g (.fn f) xs t nx)=some (outs,nx'):=h
 cases hf:Nat.beq f 19 with
 |false=>rw[hf]at h;exact hg.fn _ _ _ _ _ _ h
 |true=>
  rw[hf]at h
  simp only[cond_true]at h
  have hf:=Nat.eq_of_beq_eq_true hf;subst hf
  split at h
  ·rename_i u hu
   simp only[Option.some.injEq,Prod.mk.injEq]at h
   obtain⟨rfl,rfl⟩:=h
   exact⟨_,_,rfl,fcR_ok hu⟩
  ·exact hg.fn _ _ _ _ _ _ h
end Go.Pv
open Go Go.Pv Go.Proofs
namespace Go.Pv
structure T5 where
 ref:Int
 k:Int
 vk:Int
 r:Int
 of:Int
 set:Int
 e:Nat
def T5.cells(t:T5):List C:=[.v (.int .u8 t.k),ci 0,.v (.int .u8 t.vk),ci 0,.v (.string (bs [])),.nl t.e,ci t.r,.nl 5,ci 0,ci 0,ci t.of,ci 0,.v (.int .u8 t.set),cb false,.nl 17,.nl 6]
def T5.own(t:T5):T5:={t with e:=0}
def kI(r:Int):Ky:=.one (.int .i64 r)
def kF(r s:Int):Ky:=.agg [.int .i64 r,.int .u8 s]
def T5.kv(t:T5):Ky×C:=(kI t.ref,.ip t.cells)
def thA(D:List T5):List (Ky×A):=D.map λt=>(kI t.ref,A.d (.ip t.cells))
def facA(F:List ((Int×Int)×Int)):List (Ky×A):=F.map λf=>(kF f.1.1 f.1.2,.d (ci f.2))
def facL(L:List T5):List ((Int×Int)×Int):=(L.filter λt=>decide (t.k=14)).map λt=>((t.of,t.set),t.ref)
def th7:List T5:=[⟨1,1,0,0,0,0,0⟩,⟨2,2,0,0,0,0,0⟩,⟨3,2,0,0,0,0,0⟩,⟨4,5,0,0,0,0,0⟩,⟨5,7,4,3,4,0,0⟩,⟨6,14,0,0,1,2,5⟩,⟨7,14,0,0,1,1,5⟩]
def wD(L:List T5)(F:List ((Int×Int)×Int)):List C:=[.nl 1,.sl 1 [[cb false]],.im (L.map λt=>kI t.ref) (L.map λt=>.ip t.cells),.im (F.map λf=>kF f.1.1 f.1.2) (F.map λf=>ci f.2),ci 7,.sl 1 [[ci 5]]]
def fac7:List ((Int×Int)×Int):=[((1,1),7),((1,2),6)]
theorem none7:∀m,CallT Tryz.prog 57 [.d (.ip (wD th7 fac7))] m (.ok (.d (cb false))) m:=closed_call (d:=8) (nx:=1) mix (by kernel_rfl) rfl
theorem own7:∀t∈th7,∀m,CallT Tryz.prog 65 [.d (.agg t.cells)] m (.ok (.d (.agg t.own.cells))) m:=by
 have h:(th7.all λt=>isD (evH Tryz.prog noCt 40 (.fn 65) [.d (.agg t.cells)] .nil 1) (.agg t.own.cells))=true:=by kernel_rfl
 exact λt ht=>data_of_run (evH_ok mix noCt_ok 40) (List.all_eq_true.1 h t ht) rfl
theorem clS7:∀m,CallT Tryz.prog 23 [.d (.nl 1)] m (.ok (.d (.nl 1))) m:=data_of_run (nx0:=1) (evH_ok mix noCt_ok 8) (by kernel_rfl) rfl
theorem clB7:∀m,CallT Tryz.prog 135 [.d (.sl 1 [[cb false]])] m (.ok (.d (.sl 1 [[cb false]]))) m:=data_of_run (nx0:=1) (evH_ok mix noCt_ok 8) (by kernel_rfl) rfl
theorem clI7:∀m,CallT Tryz.prog 136 [.d (.sl 1 [[ci 5]])] m (.ok (.d (.sl 1 [[ci 5]]))) m:=data_of_run (nx0:=1) (evH_ok mix noCt_ok 8) (by kernel_rfl) rfl
theorem facA_hs(F:List ((Int×Int)×Int)):A.hsL ((facA F).map (·.2))=[]:=by
 induction F with
 |nil=>rfl
 |cons p L ih=>exact ih
theorem hsIn_facA{ml:List (Nat×R)}{F:List ((Int×Int)×Int)}{fz:Bool}:HsIn ml (R.mp fz (facA F) []).hs:=by
 show HsIn _ (A.hsL ((facA F).map (·.2))++[])
 rw[facA_hs];trivial
theorem mkfac{ml:List (Nat×R)}{i:Nat}{g:Nat->Nat}{fz:Bool}{F:List ((Int×Int)×Int)}(h:memO ml i=some (.mp fz (facA F) [])):(memO ml i).map (R.ren g)=some (.mp fz (facA F) []):=by
 rw[h]
 show some (R.mp fz ((facA F).map λp=>(p.1,p.2.ren g)) [])=_
 congr 2
 unfold facA
 rw[List.map_map]
 rfl
theorem facA_fit{P:Program}{kt:TypeId}{r s:Int}(hk:Ky.fits P kt (kF r s)=true)(F:List ((Int×Int)×Int)):fitK P kt (kF r s) (facA F)=true:=by
 unfold fitK
 rw[hk,Bool.true_and,List.all_eq_true]
 intro p hp
 obtain⟨t,_,rfl⟩:=List.mem_map.1 hp
 rfl
theorem facA_none{r s:Int}:∀{F:List ((Int×Int)×Int)},(r,s)∉F.map (·.1)->kvGet (kF r s) (facA F)=none
 |[],_=>rfl
 |p::F,h=>by
  simp only[List.map_cons,List.mem_cons,not_or]at h
  show kvGet (kF r s) ((kF p.1.1 p.1.2,A.d (ci p.2))::facA F)=none
  rw[kvGet,if_neg (λe=>?_)]
  ·exact facA_none h.2
  ·simp only[kF,Ky.agg.injEq,List.cons.injEq,KC.int.injEq,true_and,and_true]at e
   exact h.1 (Prod.ext e.1 e.2)
theorem facA_app(F G:List ((Int×Int)×Int)):facA (F++G)=facA F++facA G:=by simp only[facA,List.map_append]
theorem thA_hsL(T:List T5):A.hsL ((thA T).map (·.2))=[]:=by
 induction T with
 |nil=>rfl
 |cons p L ih=>exact ih
theorem thA_hs{ml:List (Nat×R)}(T:List T5):HsIn ml (A.hsL ((thA T).map (·.2))++[]):=by
 rw[thA_hsL];trivial
theorem mkth{ml:List (Nat×R)}{i:Nat}{g:Nat->Nat}{D:List T5}(h:memO ml i=some (.mp false (thA D) [])):(memO ml i).map (R.ren g)=some (.mp false (thA D) []):=by
 rw[h]
 simp only[Option.map_some,R.ren,thA,List.map_map,List.map_nil]
 rfl
theorem thA_fit{P:Program}{kt:TypeId}{q:Int}(hk:Ky.fits P kt (kI q)=true)(D:List T5):fitK P kt (kI q) (thA D)=true:=by
 unfold fitK
 rw[hk,Bool.true_and,List.all_eq_true]
 intro p hp
 obtain⟨t,_,rfl⟩:=List.mem_map.1 hp
 rfl
theorem th_none{r:Int}:∀{D:List T5},r∉D.map (·.ref)->kvGet (kI r) (thA D)=none
 |[],_=>rfl
 |p::D,h=>by
  simp only[List.map_cons,List.mem_cons,not_or]at h
  show kvGet (kI r) ((kI p.ref,A.d (.ip p.cells))::thA D)=none
  rw[kvGet,if_neg (by simp[kI];exact h.1)]
  exact th_none h.2
def thP(D:List T5)(r:Int):List (Ky×A):=thA D++[(kI r,.lp 1088 0)]
theorem thP_get{D:List T5}{r:Int}(h:r∉D.map (·.ref)):kvGet (kI r) (thP D r)=some (.lp 1088 0):=by
 have key:∀D:List T5,r∉D.map (·.ref)->kvGet (kI r) (thA D++[(kI r,.lp 1088 0)])=some (.lp 1088 0):=by
  intro D
  induction D with
  |nil=>intro _;show kvGet (kI r) [(kI r,.lp 1088 0)]=_;rw[kvGet,if_pos rfl]
  |cons t D ih=>
   intro h
   simp only[List.map_cons,List.mem_cons,not_or]at h
   show kvGet (kI r) ((kI t.ref,A.d (.ip t.cells))::(thA D++[(kI r,.lp 1088 0)]))=_
   rw[kvGet,if_neg (by simp[kI];exact h.1)]
   exact ih h.2
 exact key D h
theorem thP_fit{kt:TypeId}{r q:Int}(hk:Ky.fits Tryz.prog kt (kI q)=true)(D:List T5):fitK Tryz.prog kt (kI q) (thP D r)=true:=by
 have h1:=thA_fit hk D
 unfold fitK at h1⊢
 rw[Bool.and_eq_true]at h1⊢
 refine⟨h1.1,?_⟩
 unfold thP
 rw[List.all_append,Bool.and_eq_true]
 exact⟨h1.2,by simp only[List.all_cons,List.all_nil,Bool.and_true];rfl⟩
def wCp:R:=.cells false [.d (.nl 1),.d (.sl 1 [[cb false]]),.h 177,.h 185,.d (ci 7),.d (.sl 1 [[ci 5]])]
def mIx(D:List T5)(t:T5)(F:List ((Int×Int)×Int)):List (Nat×R):=[(201,wCp),(177,.mp false (thP D t.ref) []),(185,.mp false (facA F) []),(1088,.cells false (t.cells.map A.d))]
theorem thP_hs{ml:List (Nat×R)}{D:List T5}{r:Int}(h:memO ml 1088≠none):HsIn ml (R.mp false (thP D r) []).hs:=by
 have e:(R.mp false (thP D r) []).hs=[1088]:=by
  show A.hsL ((thP D r).map (·.2))++[]=_
  have key:∀D:List T5,A.hsL ((thA D++[(kI r,A.lp 1088 0)]).map (·.2))=[1088]:=by
   intro D
   induction D with
   |nil=>rfl
   |cons t D ih=>exact ih
  rw[List.append_nil]
  exact key D
 rw[e]
 exact⟨h,trivial⟩
theorem index_no(D:List T5)(t:T5)(F:List ((Int×Int)×Int))(hD:t.ref∉D.map (·.ref))(hk:¬t.k=14):CallT Tryz.prog 117 [.lp 201 0,.d (ci t.ref)] (memO (mIx D t F)) (.ok (.tup [])) (applyU (memO (mIx D t F)) []):=by
 refine mem_of_vcL mix 20000 Tryz.func117 rfl (by kernel_rfl) (Nat.le_of_ble_eq_true rfl) trivial trivial ?_
 repeat'(first
  |with_reducible (first|refine w1 ?_|refine w2 ?_|refine w3 ?_|refine w4 ?_|refine w5 ?_|refine w6 ?_|refine w7 ?_|refine w8 ?_|refine w9 ?_|refine wa ?_|refine wb ?_|refine wc ?_|refine wd ?_|refine we ?_|refine wf rfl ?_|refine wj ?_|refine wk ?_|refine wl ?_|refine wm rfl ?_|refine StopK.mk ?_|refine BrK.t rfl ?_|refine BrK.f rfl ?_)
  |((with_reducible (first|refine wr ?_|refine wi ?_|refine wx ?_|refine wy ?_|refine wg ?_|refine wh ?_));(conv=>whnf))
  |((with_reducible (refine wt (by decide) (by kernel_rfl) ?_));(conv=>whnf))
  |((with_reducible (refine wu ?_));(conv=>whnf))
  |(with_reducible (refine ChkK.mk (by kernel_rfl) ?_))
  |(refine RowK.mk _ rfl ?_;(conv=>whnf))
  |((with_reducible refine InK.mk (inI (by(try dsimp only);omega) (by(try dsimp only);omega)) ?_);(conv=>whnf))
  |((with_reducible refine bK_split (λh=>?_) (λh=>?_))<;>(try rw[h])<;>(conv at h=>{simp}))
  |((refine LkK.hit (.lp 1088 0) (thP_fit (by kernel_rfl) D) (thP_get hD) ?_);(conv=>whnf)))
 ·exact absurd (by assumption) hk
 ·skip
  (refine endM_of rfl ?_<;>repeat'(first|exact True.intro|exact Or.inl rfl|exact Or.inr rfl|refine And.intro ?_ ?_))
theorem index_yes(D:List T5)(t:T5)(F:List ((Int×Int)×Int))(hD:t.ref∉D.map (·.ref))(hk:t.k=14)(hF:(t.of,t.set)∉F.map (·.1)):CallT Tryz.prog 117 [.lp 201 0,.d (ci t.ref)] (memO (mIx D t F)) (.ok (.tup [])) (applyU (memO (mIx D t F)) [(185,.mp false (facA (F++[((t.of,t.set),t.ref)])) [])]):=by
 refine mem_of_vcL mix 20000 Tryz.func117 rfl (by kernel_rfl) (Nat.le_of_ble_eq_true rfl) trivial ⟨hsIn_facA,trivial⟩ ?_
 repeat'(first
  |with_reducible (first|refine w1 ?_|refine w2 ?_|refine w3 ?_|refine w4 ?_|refine w5 ?_|refine w6 ?_|refine w7 ?_|refine w8 ?_|refine w9 ?_|refine wa ?_|refine wb ?_|refine wc ?_|refine wd ?_|refine we ?_|refine wf rfl ?_|refine wj ?_|refine wk ?_|refine wl ?_|refine wm rfl ?_|refine StopK.mk ?_|refine BrK.t rfl ?_|refine BrK.f rfl ?_)
  |((with_reducible (first|refine wr ?_|refine wi ?_|refine wx ?_|refine wy ?_|refine wg ?_|refine wh ?_));(conv=>whnf))
  |((with_reducible (refine wt (by decide) (by kernel_rfl) ?_));(conv=>whnf))
  |((with_reducible (refine wu ?_));(conv=>whnf))
  |(with_reducible (refine ChkK.mk (by kernel_rfl) ?_))
  |(refine RowK.mk _ rfl ?_;(conv=>whnf))
  |((with_reducible refine InK.mk (inI (by(try dsimp only);omega) (by(try dsimp only);omega)) ?_);(conv=>whnf))
  |((with_reducible refine bK_split (λh=>?_) (λh=>?_))<;>(try rw[h])<;>(conv at h=>{simp}))
  |((refine LkK.hit (.lp 1088 0) (thP_fit (by kernel_rfl) D) (thP_get hD) ?_);(conv=>whnf)))
 ·refine .miss (facA_fit (by kernel_rfl) F) (facA_none hF) ?_
  conv=>whnf
  repeat'(first
   |with_reducible (first|refine w1 ?_|refine w2 ?_|refine w3 ?_|refine w4 ?_|refine w5 ?_|refine w6 ?_|refine w7 ?_|refine w8 ?_|refine w9 ?_|refine wa ?_|refine wb ?_|refine wc ?_|refine wd ?_|refine we ?_|refine wf rfl ?_|refine wj ?_|refine wk ?_|refine wl ?_|refine wm rfl ?_|refine StopK.mk ?_|refine BrK.t rfl ?_|refine BrK.f rfl ?_)
   |((with_reducible (first|refine wr ?_|refine wi ?_|refine wx ?_|refine wy ?_|refine wg ?_|refine wh ?_));(conv=>whnf))
   |((with_reducible (refine wt (by decide) (by kernel_rfl) ?_));(conv=>whnf))
   |((with_reducible (refine wu ?_));(conv=>whnf))
   |(with_reducible (refine ChkK.mk (by kernel_rfl) ?_))
   |(refine RowK.mk _ rfl ?_;(conv=>whnf))
   |((with_reducible refine InK.mk (inI (by(try dsimp only);omega) (by(try dsimp only);omega)) ?_);(conv=>whnf))
   |((with_reducible refine bK_split (λh=>?_) (λh=>?_))<;>(try rw[h])<;>(conv at h=>{simp})))
  refine endM_of rfl ⟨.inr ?_,.inr rfl,.inr rfl,.inl rfl,.inr rfl,trivial⟩
  rw[facA_app];rfl
 ·exact absurd hk (by assumption)
theorem cvTh{ml:List (Nat×R)}{D:List T5}{t:T5}(h:memO ml 177=some (.mp false (thP D t.ref) []))(h2:memO ml 1088=some (.cells false (t.cells.map A.d))):∃q,memO ml 177=some q/\CvR (memF [1088] ml) q (.mp false (thA (D++[t])) []):=by
 refine⟨_,h,.mp ?_ ?_⟩
 ·unfold thP thA;simp
 ·have hr:Cv (memF [1088] ml) (.lp 1088 0) (.d (.ip t.cells)):=.rd (.lp (memF_some rfl h2) (RdL.data _ _))
  have key:∀D:List T5,CvL (memF [1088] ml) ((thA D++[(kI t.ref,A.lp 1088 0)]).map (·.2)) ((thA (D++[t])).map (·.2)):=by
   intro D
   induction D with
   |nil=>exact .cons hr (.same _)
   |cons d D ih=>exact .cons (.same _) ih
  exact key D
theorem facL_app(D:List T5)(t:T5):facL (D++[t])=facL D++(if t.k=14 then [((t.of,t.set),t.ref)]else []):=by
 unfold facL
 rw[List.filter_append,List.map_append]
 congr 1
 by_cases h:t.k=14
 ·rw[if_pos h,List.filter_cons_of_pos (by simpa using h)];rfl
 ·rw[if_neg h,List.filter_cons_of_neg (by simpa using h)];rfl
theorem facL_perm{L M:List T5}(h:L.Perm M):(facL L).Perm (facL M):=(h.filter _).map _
theorem rdThG{m:Mem}{i:Nat}{T:List T5}{st:List (Ky×Nat)}(h:m i=some (.mp false (thA T) st)):Rd m (.h i) (.im (T.map λt=>kI t.ref) (T.map λt=>.ip t.cells)):=by
 have:=Rd.mp (m:=m) (vs:=T.map λt=>.ip t.cells) h (by
  have e:(thA T).map (·.2)=(T.map λt=>Go.Pv.C.ip t.cells).map A.d:=by unfold thA;rw[List.map_map,List.map_map];rfl
  rw[e];exact RdL.data _ _)
 have e:(thA T).map (·.1)=T.map λt=>kI t.ref:=by unfold thA;rw[List.map_map];rfl
 rw[e]at this
 exact this
theorem rdFaG{m:Mem}{i:Nat}{F:List ((Int×Int)×Int)}{st:List (Ky×Nat)}(h:m i=some (.mp false (facA F) st)):Rd m (.h i) (.im (F.map λf=>kF f.1.1 f.1.2) (F.map λf=>ci f.2)):=by
 have:=Rd.mp (m:=m) (vs:=F.map λf=>ci f.2) h (by
  have e:(facA F).map (·.2)=(F.map λf=>ci f.2).map A.d:=by unfold facA;rw[List.map_map,List.map_map];rfl
  rw[e];exact RdL.data _ _)
 have e:(facA F).map (·.1)=F.map λf=>kF f.1.1 f.1.2:=by unfold facA;rw[List.map_map];rfl
 rw[e]at this
 exact this
def own7L:List T5:=th7.map T5.own
def fac7':List ((Int×Int)×Int):=[((1,2),6),((1,1),7)]
def wD':List C:=[.nl 1,.sl 1 [[cb false]],.im (own7L.map λt=>kI t.ref) (own7L.map λt=>.ip t.cells),.im (fac7'.map λf=>kF f.1.1 f.1.2) (fac7'.map λf=>ci f.2),ci 7,.sl 1 [[ci 5]]]
theorem wcopy7:∀m,CallT Tryz.prog 77 [.d (.ip (wD th7 fac7))] m (.ok (.d (.ip wD'))) m:=by
 refine pure_of_rd mix Tryz.func77 rfl (by kernel_rfl) (Nat.le_of_ble_eq_true rfl) rfl ?_
 repeat'(first
  |with_reducible (first|refine w1 ?_|refine w2 ?_|refine w3 ?_|refine w4 ?_|refine w5 ?_|refine w6 ?_|refine w7 ?_|refine w8 ?_|refine w9 ?_|refine wa ?_|refine wb ?_|refine wc ?_|refine wd ?_|refine we ?_|refine wf rfl ?_|refine wj ?_|refine wk ?_|refine wl ?_|refine wm rfl ?_|refine StopK.mk ?_|refine BrK.t rfl ?_|refine BrK.f rfl ?_)
  |((with_reducible (first|refine wr ?_|refine wi ?_|refine wx ?_|refine wy ?_|refine wg ?_|refine wh ?_));(conv=>whnf))
  |((with_reducible (refine wu ?_));(conv=>whnf))
  |(with_reducible (refine ChkK.mk (by kernel_rfl) ?_))
  |(refine RowK.mk _ rfl ?_;(conv=>whnf))
  |((with_reducible refine InK.mk (inI (by(try dsimp only);omega) (by(try dsimp only);omega)) ?_);(conv=>whnf))
  |((with_reducible refine bK_split (λh=>?_) (λh=>?_))<;>(try rw[h])<;>(conv at h=>{simp}))
  |((refine callK_pure none7 ?_);(conv=>whnf))
  |((refine DCallK.pure _ clS7 ?_);(conv=>whnf))
  |((refine DCallK.pure _ clB7 ?_);(conv=>whnf))
  |((refine DCallK.pure _ clI7 ?_);(conv=>whnf)))
 refine rngK_map (L:=th7) (f:=λt=>kI t.ref) (g:=λt=>.ip t.cells) rfl ?_
 conv=>whnf
 repeat'(first
  |with_reducible (first|refine w1 ?_|refine w2 ?_|refine w3 ?_|refine w4 ?_|refine w5 ?_|refine w6 ?_|refine w7 ?_|refine w8 ?_|refine w9 ?_|refine wa ?_|refine wb ?_|refine wc ?_|refine wd ?_|refine we ?_|refine wf rfl ?_|refine wj ?_|refine wk ?_|refine wl ?_|refine wm rfl ?_|refine StopK.mk ?_|refine BrK.t rfl ?_|refine BrK.f rfl ?_)
  |((with_reducible (first|refine wr ?_|refine wi ?_|refine wx ?_|refine wy ?_|refine wg ?_|refine wh ?_));(conv=>whnf))
  |((with_reducible (refine wt (by decide) (by kernel_rfl) ?_));(conv=>whnf))
  |((with_reducible (refine wu ?_));(conv=>whnf))
  |(with_reducible (refine ChkK.mk (by kernel_rfl) ?_))
  |(refine RowK.mk _ rfl ?_;(conv=>whnf))
  |((with_reducible refine InK.mk (inI (by(try dsimp only);omega) (by(try dsimp only);omega)) ?_);(conv=>whnf))
  |((with_reducible refine bK_split (λh=>?_) (λh=>?_))<;>(try rw[h])<;>(conv at h=>{simp})))
 refine loop_cut mix (λa:Option (Ky×C)×List T5×List T5=>(a.2.2++a.2.1.map T5.own).Perm own7L/\∀t∈a.2.1,t∈th7) (I:=λa=>[(3,.lp 201 0),(36,.h 249)])
  (J:=λa=>[(201,wCp),(177,.mp false (thA a.2.2) []),(185,.mp false (facA (facL a.2.2)) []),(249,.di a.1 (a.2.1.map T5.kv))]) (μ:=λa=>a.2.1.length) 1000 (none,th7,[]) 0
  (λ_:Unit=>True) (λ_=>[(3,.lp 201 0)]) (λ_=>[(185,.mp false (facA fac7') []),(177,.mp false (thA own7L) []),(201,wCp)]) 3000 ⟨.refl _,λt h=>h⟩ (by(refine Moves.swap 5000 5001 ?_ ?_ ?_ ?_ ?_<;>repeat'(first|exact True.intro|exact rfl|exact Option.some_ne_none _|exact hsIn_osD|exact hsIn_facA|exact neB rfl|exact mkosl rfl rfl|exact mkfac rfl|exact mkmt rfl rfl|exact hsIn_mtA|exact mklo rfl (by assumption)|exact hlo _ (Option.some_ne_none _) (Option.some_ne_none _) (Option.some_ne_none _) (Option.some_ne_none _) (Option.some_ne_none _)|exact hlo _ (Option.some_ne_none _) (Option.some_ne_none _)|(refine lenE ?_;simp only[List.length_map,rowsD];done)|(refine intE ?_;(try dsimp only);omega)|refine And.intro ?_ ?_))) ?_ ?_
 ·rintro⟨cur,L,D⟩ ⟨hp,hL⟩
  dsimp only at hp hL⊢
  repeat'(first
   |with_reducible (first|refine w1 ?_|refine w2 ?_|refine w3 ?_|refine w4 ?_|refine w5 ?_|refine w6 ?_|refine w7 ?_|refine w8 ?_|refine w9 ?_|refine wa ?_|refine wb ?_|refine wc ?_|refine wd ?_|refine we ?_|refine wf rfl ?_|refine wj ?_|refine wk ?_|refine wl ?_|refine wm rfl ?_|refine StopK.mk ?_|refine BrK.t rfl ?_|refine BrK.f rfl ?_)
   |((with_reducible (first|refine wr ?_|refine wi ?_|refine wx ?_|refine wy ?_|refine wg ?_|refine wh ?_));(conv=>whnf))
   |((with_reducible (refine wt (by decide) (by kernel_rfl) ?_));(conv=>whnf))
   |((with_reducible (refine wu ?_));(conv=>whnf))
   |(with_reducible (refine ChkK.mk (by kernel_rfl) ?_))
   |(refine RowK.mk _ rfl ?_;(conv=>whnf))
   |((with_reducible refine InK.mk (inI (by(try dsimp only);omega) (by(try dsimp only);omega)) ?_);(conv=>whnf))
   |((with_reducible refine bK_split (λh=>?_) (λh=>?_))<;>(try rw[h])<;>(conv at h=>{simp})))
  refine nextK_map (λh0=>?_) (λi hi=>?_)
  ·conv=>whnf
   repeat'(first
    |with_reducible (first|refine w1 ?_|refine w2 ?_|refine w3 ?_|refine w4 ?_|refine w5 ?_|refine w6 ?_|refine w7 ?_|refine w8 ?_|refine w9 ?_|refine wa ?_|refine wb ?_|refine wc ?_|refine wd ?_|refine we ?_|refine wf rfl ?_|refine wj ?_|refine wk ?_|refine wl ?_|refine wm rfl ?_|refine StopK.mk ?_|refine BrK.t rfl ?_|refine BrK.f rfl ?_)
    |((with_reducible (first|refine wr ?_|refine wi ?_|refine wx ?_|refine wy ?_|refine wg ?_|refine wh ?_));(conv=>whnf))
    |((with_reducible (refine wt (by decide) (by kernel_rfl) ?_));(conv=>whnf))
    |((with_reducible (refine wu ?_));(conv=>whnf))
    |(with_reducible (refine ChkK.mk (by kernel_rfl) ?_))
    |(refine RowK.mk _ rfl ?_;(conv=>whnf))
    |((with_reducible refine InK.mk (inI (by(try dsimp only);omega) (by(try dsimp only);omega)) ?_);(conv=>whnf))
    |((with_reducible refine bK_split (λh=>?_) (λh=>?_))<;>(try rw[h])<;>(conv at h=>{simp})))
   subst h0
   have hD:D.Perm own7L:=by simpa using hp
   have e1:(thA D).Perm (thA own7L):=hD.map _
   have e2:(facA (facL D)).Perm (facA fac7'):=(facL_perm hD).map _
   refine⟨(),trivial,?_⟩
   refine Moves.trans (l':=[(3,.lp 201 0)]) (ml':=[(177,.mp false (thA D) []),(185,.mp false (facA (facL D)) []),(201,wCp)]) ?_ (Moves.trans (Moves.perm 177 e1) (Moves.trans (l':=[(3,.lp 201 0)]) (ml':=[(185,.mp false (facA (facL D)) []),(177,.mp false (thA own7L) []),(201,wCp)]) ?_ (Moves.perm 185 e2)))
   ·skip
    (refine Moves.swap 5000 5001 ?_ ?_ ?_ ?_ ?_<;>repeat'(first|exact True.intro|exact rfl|exact Option.some_ne_none _|exact hsIn_osD|exact hsIn_facA|exact neB rfl|exact mkosl rfl rfl|exact mkfac rfl|exact mkmt rfl rfl|exact hsIn_mtA|exact mklo rfl (by assumption)|exact hlo _ (Option.some_ne_none _) (Option.some_ne_none _) (Option.some_ne_none _) (Option.some_ne_none _) (Option.some_ne_none _)|exact hlo _ (Option.some_ne_none _) (Option.some_ne_none _)|(refine lenE ?_;simp only[List.length_map,rowsD];done)|(refine intE ?_;(try dsimp only);omega)|refine And.intro ?_ ?_))
    all_goals first|exact mkth rfl|exact thA_hs _
   ·skip
    (refine Moves.swap 5000 5001 ?_ ?_ ?_ ?_ ?_<;>repeat'(first|exact True.intro|exact rfl|exact Option.some_ne_none _|exact hsIn_osD|exact hsIn_facA|exact neB rfl|exact mkosl rfl rfl|exact mkfac rfl|exact mkmt rfl rfl|exact hsIn_mtA|exact mklo rfl (by assumption)|exact hlo _ (Option.some_ne_none _) (Option.some_ne_none _) (Option.some_ne_none _) (Option.some_ne_none _) (Option.some_ne_none _)|exact hlo _ (Option.some_ne_none _) (Option.some_ne_none _)|(refine lenE ?_;simp only[List.length_map,rowsD];done)|(refine intE ?_;(try dsimp only);omega)|refine And.intro ?_ ?_))
    all_goals first|exact mkth rfl|exact thA_hs _
  ·conv=>whnf
   have hwo:=own7 L[i] (hL _ (List.getElem_mem hi))
   have hnd:(own7L.map (·.ref)).Nodup:=by decide
   have hnf:((facL own7L).map (·.1)).Nodup:=by decide
   have hnd:=hp.symm.map (·.ref)|>.nodup_iff.1 hnd
   rw[List.map_append,List.nodup_append]at hnd
   have hrD:L[i].own.ref∉D.map (·.ref):=λh=>hnd.2.2 _ h _ (List.mem_map.2 ⟨L[i].own,List.mem_map.2 ⟨_,List.getElem_mem hi,rfl⟩,rfl⟩) rfl
   repeat'(first
    |with_reducible (first|refine w1 ?_|refine w2 ?_|refine w3 ?_|refine w4 ?_|refine w5 ?_|refine w6 ?_|refine w7 ?_|refine w8 ?_|refine w9 ?_|refine wa ?_|refine wb ?_|refine wc ?_|refine wd ?_|refine we ?_|refine wf rfl ?_|refine wj ?_|refine wk ?_|refine wl ?_|refine wm rfl ?_|refine StopK.mk ?_|refine BrK.t rfl ?_|refine BrK.f rfl ?_)
    |((with_reducible (first|refine wr ?_|refine wi ?_|refine wx ?_|refine wy ?_|refine wg ?_|refine wh ?_));(conv=>whnf))
    |((with_reducible (refine wt (by decide) (by kernel_rfl) ?_));(conv=>whnf))
    |((with_reducible (refine wu ?_));(conv=>whnf))
    |(with_reducible (refine ChkK.mk (by kernel_rfl) ?_))
    |(refine RowK.mk _ rfl ?_;(conv=>whnf))
    |((with_reducible refine InK.mk (inI (by(try dsimp only);omega) (by(try dsimp only);omega)) ?_);(conv=>whnf))
    |((with_reducible refine bK_split (λh=>?_) (λh=>?_))<;>(try rw[h])<;>(conv at h=>{simp}))
    |((refine callK_pure hwo ?_);(conv=>whnf)))
   refine SetK.miss (thA_fit (by kernel_rfl) D) (th_none hrD) ?_
   conv=>whnf
   have hhs:HsIn (mIx D L[i].own (facL D)) (A.hsL [.lp 201 0,.d (ci L[i].own.ref)]):=⟨Option.some_ne_none _,trivial⟩
   have hcl:ClM (mIx D L[i].own (facL D)) (mIx D L[i].own (facL D)):=⟨⟨Option.some_ne_none _,Option.some_ne_none _,trivial⟩,thP_hs (Option.some_ne_none _),hsIn_facA,trivial,trivial⟩
   have hpe:((D++[L[i].own])++(L.eraseIdx i).map T5.own).Perm own7L:=by
    refine List.Perm.trans ?_ hp
    rw[List.append_assoc]
    exact List.Perm.append_left _ ((perm_erase L i hi).map T5.own).symm
   have hLe:∀t∈L.eraseIdx i,t∈th7:=λt h=>hL t (List.mem_of_mem_eraseIdx h)
   have hfl:=facL_app D L[i].own
   by_cases hk:L[i].own.k=14
   ·rw[if_pos hk]at hfl
    have hF:(L[i].own.of,L[i].own.set)∉(facL D).map (·.1):=by
     have h1:=((facL_perm hpe).map (·.1)).nodup_iff.2 hnf
     have h2:facL ((D++[L[i].own])++(L.eraseIdx i).map T5.own)=(facL D++[((L[i].own.of,L[i].own.set),L[i].own.ref)])++facL ((L.eraseIdx i).map T5.own):=by
      rw[<-hfl];unfold facL;rw[List.filter_append,List.map_append]
     rw[h2,List.map_append,List.map_append,List.nodup_append]at h1
     have h3:=(List.nodup_append.1 h1.1).2.2
     exact λhm=>h3 _ hm _ (by simp) rfl
    repeat'(first
     |with_reducible (first|refine w1 ?_|refine w2 ?_|refine w3 ?_|refine w4 ?_|refine w5 ?_|refine w6 ?_|refine w7 ?_|refine w8 ?_|refine w9 ?_|refine wa ?_|refine wb ?_|refine wc ?_|refine wd ?_|refine we ?_|refine wf rfl ?_|refine wj ?_|refine wk ?_|refine wl ?_|refine wm rfl ?_|refine StopK.mk ?_|refine BrK.t rfl ?_|refine BrK.f rfl ?_)
     |((with_reducible (first|refine wr ?_|refine wi ?_|refine wx ?_|refine wy ?_|refine wg ?_|refine wh ?_));(conv=>whnf))
     |((with_reducible (refine wt (by decide) (by kernel_rfl) ?_));(conv=>whnf))
     |((with_reducible (refine wu ?_));(conv=>whnf))
     |(with_reducible (refine ChkK.mk (by kernel_rfl) ?_))
     |(refine RowK.mk _ rfl ?_;(conv=>whnf))
     |((with_reducible refine InK.mk (inI (by(try dsimp only);omega) (by(try dsimp only);omega)) ?_);(conv=>whnf))
     |((with_reducible refine bK_split (λh=>?_) (λh=>?_))<;>(try rw[h])<;>(conv at h=>{simp}))
     |((refine CallK.mk _ _ (CallT.useI (index_yes D L[i].own (facL D) hrD hk hF) hhs ⟨rfl,rfl,rfl,rfl,trivial⟩ hcl ⟨.inl (Option.some_ne_none _),trivial⟩) ?_);(conv=>whnf)))
    refine⟨(some (T5.kv L[i]),L.eraseIdx i,D++[L[i].own]),erase_len _ _ hi,⟨hpe,hLe⟩,?_⟩
    dsimp only
    rw[hfl]
    exact Moves.freeze [1088] trivial ⟨.same _,.same _,trivial⟩ ⟨⟨rfl,_,rfl,.cells (.same _)⟩,⟨rfl,cvTh rfl rfl⟩,⟨rfl,_,rfl,.mp rfl (.same _)⟩,⟨rfl,_,rfl,.plain rfl⟩,trivial⟩ ⟨⟨Option.some_ne_none _,trivial⟩,⟨Option.some_ne_none _,trivial⟩,trivial⟩ ⟨⟨Option.some_ne_none _,Option.some_ne_none _,trivial⟩,thA_hs _,hsIn_facA,trivial,trivial⟩
   ·rw[if_neg hk,List.append_nil]at hfl
    repeat'(first
     |with_reducible (first|refine w1 ?_|refine w2 ?_|refine w3 ?_|refine w4 ?_|refine w5 ?_|refine w6 ?_|refine w7 ?_|refine w8 ?_|refine w9 ?_|refine wa ?_|refine wb ?_|refine wc ?_|refine wd ?_|refine we ?_|refine wf rfl ?_|refine wj ?_|refine wk ?_|refine wl ?_|refine wm rfl ?_|refine StopK.mk ?_|refine BrK.t rfl ?_|refine BrK.f rfl ?_)
     |((with_reducible (first|refine wr ?_|refine wi ?_|refine wx ?_|refine wy ?_|refine wg ?_|refine wh ?_));(conv=>whnf))
     |((with_reducible (refine wt (by decide) (by kernel_rfl) ?_));(conv=>whnf))
     |((with_reducible (refine wu ?_));(conv=>whnf))
     |(with_reducible (refine ChkK.mk (by kernel_rfl) ?_))
     |(refine RowK.mk _ rfl ?_;(conv=>whnf))
     |((with_reducible refine InK.mk (inI (by(try dsimp only);omega) (by(try dsimp only);omega)) ?_);(conv=>whnf))
     |((with_reducible refine bK_split (λh=>?_) (λh=>?_))<;>(try rw[h])<;>(conv at h=>{simp}))
     |((refine CallK.mk _ _ (CallT.useI (index_no D L[i].own (facL D) hrD hk) hhs ⟨rfl,rfl,rfl,rfl,trivial⟩ hcl trivial) ?_);(conv=>whnf)))
    refine⟨(some (T5.kv L[i]),L.eraseIdx i,D++[L[i].own]),erase_len _ _ hi,⟨hpe,hLe⟩,?_⟩
    dsimp only
    rw[hfl]
    exact Moves.freeze [1088] trivial ⟨.same _,.same _,trivial⟩ ⟨⟨rfl,_,rfl,.cells (.same _)⟩,⟨rfl,cvTh rfl rfl⟩,⟨rfl,_,rfl,.mp rfl (.same _)⟩,⟨rfl,_,rfl,.plain rfl⟩,trivial⟩ ⟨⟨Option.some_ne_none _,trivial⟩,⟨Option.some_ne_none _,trivial⟩,trivial⟩ ⟨⟨Option.some_ne_none _,Option.some_ne_none _,trivial⟩,thA_hs _,hsIn_facA,trivial,trivial⟩
 rintro _ _
 repeat'(first
  |with_reducible (first|refine w1 ?_|refine w2 ?_|refine w3 ?_|refine w4 ?_|refine w5 ?_|refine w6 ?_|refine w7 ?_|refine w8 ?_|refine w9 ?_|refine wa ?_|refine wb ?_|refine wc ?_|refine wd ?_|refine we ?_|refine wf rfl ?_|refine wj ?_|refine wk ?_|refine wl ?_|refine wm rfl ?_|refine StopK.mk ?_|refine BrK.t rfl ?_|refine BrK.f rfl ?_)
  |((with_reducible (first|refine wr ?_|refine wi ?_|refine wx ?_|refine wy ?_|refine wg ?_|refine wh ?_));(conv=>whnf))
  |((with_reducible (refine wt (by decide) (by kernel_rfl) ?_));(conv=>whnf))
  |((with_reducible (refine wu ?_));(conv=>whnf))
  |(with_reducible (refine ChkK.mk (by kernel_rfl) ?_))
  |(refine RowK.mk _ rfl ?_;(conv=>whnf))
  |((with_reducible refine InK.mk (inI (by(try dsimp only);omega) (by(try dsimp only);omega)) ?_);(conv=>whnf))
  |((with_reducible refine bK_split (λh=>?_) (λh=>?_))<;>(try rw[h])<;>(conv at h=>{simp})))
 exact .one (.lp rfl (.cons (.d _) (.cons (.d _) (.cons (rdThG rfl) (.cons (rdFaG rfl) (.cons (.d _) (.cons (.d _) .nil)))))))
end Go.Pv
open Go Go.Pv Go.Proofs
namespace Go.Pv
theorem rdT_b{m:Mem}{a b:Bool}(h:a=b):RdT m (.d (cb a)) (.d (cb b)):=by subst h;exact .one (.d _)
abbrev iR(L:List Int):List (List C):=L.map λx=>[ci x]
theorem rowsD_get(L:List (List C))(i:Nat)(r:List C)(h:L[i]?=some r):(rowsD L)[i]?=some (r.map A.d):=by
 simp[rowsD,h]
theorem rowsD_set(L:List (List C))(i:Nat)(r:List C):(rowsD L).set i (r.map A.d)=rowsD (L.set i r):=by
 simp[rowsD,List.map_set]
theorem iR_app(a b:List Int):iR (a++b)=iR a++iR b:=List.map_append
theorem rows_app1(a b:List Int):rowsD (iR a)++(iR b).map (λx=>x.map A.d)=rowsD (iR (a++b)):=by rw[iR_app,rowsD_append];rfl
theorem szk{n b:Nat}{X:Prop}(h:n<=2^38)(hb:Nat.ble b 512=true)(hx:X):SzK n b X:=
 ⟨Nat.le_trans (Nat.mul_le_mul h (Nat.le_of_ble_eq_true hb)) (by decide),hx⟩
theorem isNaN_ok(a:Int):∀m,CallT Tryz.prog 213 [.d (ci a)] m (.ok (.d (cb false))) m:=by
 refine pure_of_rd mix Tryz.func213 rfl (by kernel_rfl) (Nat.le_of_ble_eq_true rfl) rfl ?_
 repeat'(first
  |with_reducible (first|refine w1 ?_|refine w2 ?_|refine w3 ?_|refine w4 ?_|refine w5 ?_|refine w6 ?_|refine w7 ?_|refine w8 ?_|refine w9 ?_|refine wa ?_|refine wb ?_|refine wc ?_|refine wd ?_|refine we ?_|refine wf rfl ?_|refine wj ?_|refine wk ?_|refine wl ?_|refine wm rfl ?_|refine StopK.mk ?_|refine BrK.t rfl ?_|refine BrK.f rfl ?_)
  |((with_reducible (first|refine wr ?_|refine wi ?_|refine wx ?_|refine wy ?_|refine wg ?_|refine wh ?_));(conv=>whnf))
  |((with_reducible (refine wt (by decide) (by kernel_rfl) ?_));(conv=>whnf))
  |((with_reducible (refine wu ?_));(conv=>whnf))
  |(with_reducible (refine ChkK.mk (by kernel_rfl) ?_))
  |(refine RowK.mk _ rfl ?_;(conv=>whnf))
  |((with_reducible refine InK.mk (inI (by(try dsimp only);omega) (by(try dsimp only);omega)) ?_);(conv=>whnf))
  |((with_reducible refine bK_split (λh=>?_) (λh=>?_))<;>(try rw[h])<;>(conv at h=>{simp})))
 refine rdT_b ?_;simp
theorem less_ok(a b:Int):∀m,CallT Tryz.prog 197 [.d (ci a),.d (ci b)] m (.ok (.d (cb (decide (a<b))))) m:=by
 refine pure_of_rd mix Tryz.func197 rfl (by kernel_rfl) (Nat.le_of_ble_eq_true rfl) rfl ?_
 repeat'(first
  |with_reducible (first|refine w1 ?_|refine w2 ?_|refine w3 ?_|refine w4 ?_|refine w5 ?_|refine w6 ?_|refine w7 ?_|refine w8 ?_|refine w9 ?_|refine wa ?_|refine wb ?_|refine wc ?_|refine wd ?_|refine we ?_|refine wf rfl ?_|refine wj ?_|refine wk ?_|refine wl ?_|refine wm rfl ?_|refine StopK.mk ?_|refine BrK.t rfl ?_|refine BrK.f rfl ?_)
  |((with_reducible (first|refine wr ?_|refine wi ?_|refine wx ?_|refine wy ?_|refine wg ?_|refine wh ?_));(conv=>whnf))
  |((with_reducible (refine wt (by decide) (by kernel_rfl) ?_));(conv=>whnf))
  |((with_reducible (refine wu ?_));(conv=>whnf))
  |(with_reducible (refine ChkK.mk (by kernel_rfl) ?_))
  |(refine RowK.mk _ rfl ?_;(conv=>whnf))
  |((with_reducible refine InK.mk (inI (by(try dsimp only);omega) (by(try dsimp only);omega)) ?_);(conv=>whnf))
  |((with_reducible refine bK_split (λh=>?_) (λh=>?_))<;>(try rw[h])<;>(conv at h=>{simp}))
  |((refine callK_pure (isNaN_ok _) ?_);(conv=>whnf)))
 all_goals(refine rdT_b ?_;try simp_all)
abbrev arR(d:Array Int):R:=osD 23 1 (iR d.toList)
abbrev ltZ(a b:Int):Bool:=decide (a<b)
theorem arR_get(d:Array Int)(i:Nat)(h:i<d.size):(rowsD (iR d.toList))[i]?=some [.d (ci d[i]!)]:=by
 refine rowsD_get _ _ [ci d[i]!] ?_
 rw[List.getElem?_map]
 simp[h]
theorem arR_set(d:Array Int)(i:Nat)(v:Int):(rowsD (iR d.toList)).set i [.d (ci v)]=rowsD (iR (d.setIfInBounds i v).toList):=by
 refine(rowsD_set _ i [ci v]).trans ?_
 rw[Array.toList_setIfInBounds,iR,iR,List.map_set]
theorem insInner_stop(a j:Nat)(f:Array Int)(h:¬(a<j/\f[j]! <f[j -1]!)):Go.Sort.insInner ltZ a j f=f:=by
 cases j with
 |zero=>rfl
 |succ k=>
  rw[Go.Sort.insInner,if_neg]
  simpa using h
theorem insInner_go(a j:Nat)(f:Array Int)(h:a<j)(h2:f[j]! <f[j -1]!):Go.Sort.insInner ltZ a j f=Go.Sort.insInner ltZ a (j -1) (Go.Sort.swp f j (j -1)):=by
 cases j with
 |zero=>omega
 |succ k=>
  rw[Go.Sort.insInner,if_pos];·rfl
  simpa using⟨h,h2⟩
theorem arR_swp(f:Array Int)(i j:Nat):((rowsD (iR f.toList)).set i [.d (ci f[j]!)]).set j [.d (ci f[i]!)]=rowsD (iR (Go.Sort.swp f i j).toList):=by
 rw[arR_set,arR_set];rfl
theorem insSort_ok(d:Array Int)(a b:Nat)(ha:a<=b)(hb:b<=d.size)(hd:d.size<=2^40):CallT Tryz.prog 191 [.h 0,.d (ci a),.d (ci b)] (memO [(0,arR d)]) (.ok (.tup [])) (applyU (memO [(0,arR d)]) [(0,arR (Go.Sort.insertionSort ltZ d a b))]):=by
 refine mem_of_vcL mix 100 Tryz.func191 rfl (by kernel_rfl) (Nat.le_of_ble_eq_true rfl) trivial ⟨hsIn_osD,trivial⟩ ?_
 repeat'(first
  |with_reducible (first|refine w1 ?_|refine w2 ?_|refine w3 ?_|refine w4 ?_|refine w5 ?_|refine w6 ?_|refine w7 ?_|refine w8 ?_|refine w9 ?_|refine wa ?_|refine wb ?_|refine wc ?_|refine wd ?_|refine we ?_|refine wf rfl ?_|refine wj ?_|refine wk ?_|refine wl ?_|refine wm rfl ?_|refine StopK.mk ?_|refine BrK.t rfl ?_|refine BrK.f rfl ?_)
  |((with_reducible (first|refine wr ?_|refine wi ?_|refine wx ?_|refine wy ?_|refine wg ?_|refine wh ?_));(conv=>whnf))
  |((with_reducible (refine wt (by decide) (by kernel_rfl) ?_));(conv=>whnf))
  |((with_reducible (refine wu ?_));(conv=>whnf))
  |(with_reducible (refine ChkK.mk (by kernel_rfl) ?_))
  |(refine RowK.mk _ rfl ?_;(conv=>whnf))
  |((with_reducible refine InK.mk (inI (by(try dsimp only);omega) (by(try dsimp only);omega)) ?_);(conv=>whnf))
  |((with_reducible refine bK_split (λh=>?_) (λh=>?_))<;>(try rw[h])<;>(conv at h=>{simp})))
 refine loop_inv mix (λs:Nat×Array Int=>a+1<=s.1/\s.1<=b+1/\s.2.size=d.size/\Go.Sort.insOuter ltZ a b s.1 s.2=Go.Sort.insertionSort ltZ d a b) (I:=λs=>[(0,.h 0),(1,.d (ci a)),(2,.d (ci b)),(6,.d (ci s.1))])
  (J:=λs=>[(0,arR s.2)]) (μ:=λs=>b+1 -s.1) 200 (a+1,d) ⟨by simp,by simpa using ha,rfl,rfl⟩ (by(refine Moves.swap 5000 5001 ?_ ?_ ?_ ?_ ?_<;>repeat'(first|exact True.intro|exact rfl|exact Option.some_ne_none _|exact hsIn_osD|exact hsIn_facA|exact neB rfl|exact mkosl rfl rfl|exact mkfac rfl|exact mkmt rfl rfl|exact hsIn_mtA|exact mklo rfl (by assumption)|exact hlo _ (Option.some_ne_none _) (Option.some_ne_none _) (Option.some_ne_none _) (Option.some_ne_none _) (Option.some_ne_none _)|exact hlo _ (Option.some_ne_none _) (Option.some_ne_none _)|(refine lenE ?_;simp only[List.length_map,rowsD];done)|(refine intE ?_;(try dsimp only);omega)|refine And.intro ?_ ?_))) ?_
 rintro⟨i,e⟩ ⟨h1,h2,h3,h4⟩
 dsimp only at h1 h2 h3 h4⊢
 repeat'(first
  |with_reducible (first|refine w1 ?_|refine w2 ?_|refine w3 ?_|refine w4 ?_|refine w5 ?_|refine w6 ?_|refine w7 ?_|refine w8 ?_|refine w9 ?_|refine wa ?_|refine wb ?_|refine wc ?_|refine wd ?_|refine we ?_|refine wf rfl ?_|refine wj ?_|refine wk ?_|refine wl ?_|refine wm rfl ?_|refine StopK.mk ?_|refine BrK.t rfl ?_|refine BrK.f rfl ?_)
  |((with_reducible (first|refine wr ?_|refine wi ?_|refine wx ?_|refine wy ?_|refine wg ?_|refine wh ?_));(conv=>whnf))
  |((with_reducible (refine wt (by decide) (by kernel_rfl) ?_));(conv=>whnf))
  |((with_reducible (refine wu ?_));(conv=>whnf))
  |(with_reducible (refine ChkK.mk (by kernel_rfl) ?_))
  |(refine RowK.mk _ rfl ?_;(conv=>whnf))
  |((with_reducible refine InK.mk (inI (by(try dsimp only);omega) (by(try dsimp only);omega)) ?_);(conv=>whnf))
  |((with_reducible refine bK_split (λh=>?_) (λh=>?_))<;>(try rw[h])<;>(conv at h=>{simp})))
 ·refine loop_inv mix (λs:Nat×Array Int=>s.1<=i/\s.2.size=d.size/\Go.Sort.insInner ltZ a s.1 s.2=Go.Sort.insInner ltZ a i e) (I:=λs=>[(0,.h 0),(1,.d (ci a)),(2,.d (ci b)),(6,.d (ci i)),(7,.d (ci s.1))])
   (J:=λs=>[(0,arR s.2)]) (μ:=λs=>s.1) 300 (i,e) ⟨by simp,h3,rfl⟩ (by(refine Moves.swap 5000 5001 ?_ ?_ ?_ ?_ ?_<;>repeat'(first|exact True.intro|exact rfl|exact Option.some_ne_none _|exact hsIn_osD|exact hsIn_facA|exact neB rfl|exact mkosl rfl rfl|exact mkfac rfl|exact mkmt rfl rfl|exact hsIn_mtA|exact mklo rfl (by assumption)|exact hlo _ (Option.some_ne_none _) (Option.some_ne_none _) (Option.some_ne_none _) (Option.some_ne_none _) (Option.some_ne_none _)|exact hlo _ (Option.some_ne_none _) (Option.some_ne_none _)|(refine lenE ?_;simp only[List.length_map,rowsD];done)|(refine intE ?_;(try dsimp only);omega)|refine And.intro ?_ ?_))) ?_
  rintro⟨j,f⟩ ⟨g1,g2,g3⟩
  dsimp only at g1 g2 g3⊢
  repeat'(first
   |with_reducible (first|refine w1 ?_|refine w2 ?_|refine w3 ?_|refine w4 ?_|refine w5 ?_|refine w6 ?_|refine w7 ?_|refine w8 ?_|refine w9 ?_|refine wa ?_|refine wb ?_|refine wc ?_|refine wd ?_|refine we ?_|refine wf rfl ?_|refine wj ?_|refine wk ?_|refine wl ?_|refine wm rfl ?_|refine StopK.mk ?_|refine BrK.t rfl ?_|refine BrK.f rfl ?_)
   |((with_reducible (first|refine wr ?_|refine wi ?_|refine wx ?_|refine wy ?_|refine wg ?_|refine wh ?_));(conv=>whnf))
   |((with_reducible (refine wu ?_));(conv=>whnf))
   |(with_reducible (refine ChkK.mk (by kernel_rfl) ?_))
   |(refine RowK.mk _ rfl ?_;(conv=>whnf))
   |((with_reducible refine InK.mk (inI (by(try dsimp only);omega) (by(try dsimp only);omega)) ?_);(conv=>whnf))
   |((with_reducible refine bK_split (λh=>?_) (λh=>?_))<;>(try rw[h])<;>(conv at h=>{simp}))
   |((refine OwnK.mk j rfl (by simp only[rowsD,List.length_set,List.length_map,Array.length_toList];omega) ?_);(conv=>whnf))
   |((refine OwnK.mk (j -1) (by omega) (by simp only[rowsD,List.length_set,List.length_map,Array.length_toList];omega) ?_);(conv=>whnf))
   |((refine RowK.mk _ (arR_get f j (by omega)) ?_);(conv=>whnf))
   |((refine RowK.mk _ (arR_get f (j -1) (by omega)) ?_);(conv=>whnf))
   |((refine RowK.mk _ ((List.getElem?_set_ne (by omega)).trans (arR_get f (j -1) (by omega))) ?_);(conv=>whnf))
   |((refine dcallK_pure (less_ok _ _) ?_);(conv=>whnf)))
  ·refine⟨(j -1,Go.Sort.swp f j (j -1)),by dsimp only;omega,⟨by dsimp only;omega,by simp[Go.Sort.swp,g2],?_⟩,?_⟩
   ·dsimp only;rw[<-insInner_go a j f (by assumption) (by assumption)];exact g3
   ·(refine Moves.swap 5000 5001 ?_ ?_ ?_ ?_ ?_<;>repeat'(first|exact True.intro|exact rfl|exact Option.some_ne_none _|exact hsIn_osD|exact hsIn_facA|exact neB rfl|exact mkosl rfl rfl|exact mkfac rfl|exact mkmt rfl rfl|exact hsIn_mtA|exact mklo rfl (by assumption)|exact hlo _ (Option.some_ne_none _) (Option.some_ne_none _) (Option.some_ne_none _) (Option.some_ne_none _) (Option.some_ne_none _)|exact hlo _ (Option.some_ne_none _) (Option.some_ne_none _)|(refine lenE ?_;simp only[List.length_map,rowsD];done)|(refine intE ?_;(try dsimp only);omega)|refine And.intro ?_ ?_))
    exact mkosl rfl (arR_swp f j (j -1))
  all_goals
   have hst:Go.Sort.insInner ltZ a j f=f:=insInner_stop a j f (by omega)
   rw[hst]at g3
   refine⟨(i+1,f),by dsimp only;omega,⟨by dsimp only;omega,by dsimp only;omega,g2,?_⟩,by(refine Moves.swap 5000 5001 ?_ ?_ ?_ ?_ ?_<;>repeat'(first|exact True.intro|exact rfl|exact Option.some_ne_none _|exact hsIn_osD|exact hsIn_facA|exact neB rfl|exact mkosl rfl rfl|exact mkfac rfl|exact mkmt rfl rfl|exact hsIn_mtA|exact mklo rfl (by assumption)|exact hlo _ (Option.some_ne_none _) (Option.some_ne_none _) (Option.some_ne_none _) (Option.some_ne_none _) (Option.some_ne_none _)|exact hlo _ (Option.some_ne_none _) (Option.some_ne_none _)|(refine lenE ?_;simp only[List.length_map,rowsD];done)|(refine intE ?_;(try dsimp only);omega)|refine And.intro ?_ ?_))⟩
   dsimp only
   rw[<-h4,Go.Sort.insOuter.eq_def ltZ a b i e,if_pos (by assumption),g3]
 ·refine endM_of rfl ⟨.inr ?_,.inl rfl,trivial⟩
  rw[<-h4,Go.Sort.insOuter.eq_def ltZ a b i e,if_neg (by omega)];rfl
theorem sort_small(d:Array Int)(hd:d.size<=12):(Go.Sort.insertionSort ltZ d 0 d.size).toList=d.toList.mergeSort (λx y=>decide (x<=y)):=by
 have h:=Go.Sort.sortInt d.toList
 rw[Array.toArray_toList]at h
 have e:Go.Sort.sort ltZ d=Go.Sort.insertionSort ltZ d 0 d.size:=by
  unfold Go.Sort.sort
  rw[Go.Sort.pdq.eq_def,if_pos (by omega)]
 rw[<-e]
 exact h
theorem pdq7(d:Array Int)(hd:d.size=7):CallT Tryz.prog 177 [.h 0,.d (ci 0),.d (ci 7),.d (ci 3)] (memO [(0,arR d)]) (.ok (.tup [])) (applyU (memO [(0,arR d)]) [(0,arR (Go.Sort.insertionSort ltZ d 0 d.size))]):=by
 have h:=insSort_ok d 0 7 (by omega) (by omega) (by omega)
 rw[hd]
 refine mem_of_vcL mix 100 Tryz.func177 rfl (by kernel_rfl) (Nat.le_of_ble_eq_true rfl) trivial ⟨hsIn_osD,trivial⟩ ?_
 repeat'(first
  |with_reducible (first|refine w1 ?_|refine w2 ?_|refine w3 ?_|refine w4 ?_|refine w5 ?_|refine w6 ?_|refine w7 ?_|refine w8 ?_|refine w9 ?_|refine wa ?_|refine wb ?_|refine wc ?_|refine wd ?_|refine we ?_|refine wf rfl ?_|refine wj ?_|refine wk ?_|refine wl ?_|refine wm rfl ?_|refine StopK.mk ?_|refine BrK.t rfl ?_|refine BrK.f rfl ?_)
  |((with_reducible (first|refine wr ?_|refine wi ?_|refine wx ?_|refine wy ?_|refine wg ?_|refine wh ?_));(conv=>whnf))
  |((with_reducible (refine wu ?_));(conv=>whnf))
  |(with_reducible (refine ChkK.mk (by kernel_rfl) ?_))
  |(refine RowK.mk _ rfl ?_;(conv=>whnf))
  |((with_reducible refine InK.mk (inI (by(try dsimp only);omega) (by(try dsimp only);omega)) ?_);(conv=>whnf))
  |((with_reducible refine bK_split (λh=>?_) (λh=>?_))<;>(try rw[h])<;>(conv at h=>{simp})))
 refine loop_inv mix (λ_:Unit=>True) (I:=λ_=>[(0,.h 0),(1,.d (ci 0)),(2,.d (ci 7))]) (J:=λ_=>[(0,arR d)]) (μ:=λ_=>0) 1000 () trivial (by(refine Moves.swap 5000 5001 ?_ ?_ ?_ ?_ ?_<;>repeat'(first|exact True.intro|exact rfl|exact Option.some_ne_none _|exact hsIn_osD|exact hsIn_facA|exact neB rfl|exact mkosl rfl rfl|exact mkfac rfl|exact mkmt rfl rfl|exact hsIn_mtA|exact mklo rfl (by assumption)|exact hlo _ (Option.some_ne_none _) (Option.some_ne_none _) (Option.some_ne_none _) (Option.some_ne_none _) (Option.some_ne_none _)|exact hlo _ (Option.some_ne_none _) (Option.some_ne_none _)|(refine lenE ?_;simp only[List.length_map,rowsD];done)|(refine intE ?_;(try dsimp only);omega)|refine And.intro ?_ ?_))) ?_
 rintro _ _
 repeat'(first
  |with_reducible (first|refine w1 ?_|refine w2 ?_|refine w3 ?_|refine w4 ?_|refine w5 ?_|refine w6 ?_|refine w7 ?_|refine w8 ?_|refine w9 ?_|refine wa ?_|refine wb ?_|refine wc ?_|refine wd ?_|refine we ?_|refine wf rfl ?_|refine wj ?_|refine wk ?_|refine wl ?_|refine wm rfl ?_|refine StopK.mk ?_|refine BrK.t rfl ?_|refine BrK.f rfl ?_)
  |((with_reducible (first|refine wr ?_|refine wi ?_|refine wx ?_|refine wy ?_|refine wg ?_|refine wh ?_));(conv=>whnf))
  |((with_reducible (refine wu ?_));(conv=>whnf))
  |(with_reducible (refine ChkK.mk (by kernel_rfl) ?_))
  |(refine RowK.mk _ rfl ?_;(conv=>whnf))
  |((with_reducible refine InK.mk (inI (by(try dsimp only);omega) (by(try dsimp only);omega)) ?_);(conv=>whnf))
  |((with_reducible refine bK_split (λh=>?_) (λh=>?_))<;>(try rw[h])<;>(conv at h=>{simp}))
  |((refine CallK.mk _ _ h ?_);(conv=>whnf)))
 (refine endM_of rfl ?_<;>repeat'(first|exact True.intro|exact Or.inl rfl|exact Or.inr rfl|refine And.intro ?_ ?_))
theorem bits7(n:Int)(hn:n=7):∀m,CallT Tryz.prog 178 [.d (.v (.int .u64 n))] m (.ok (.d (ci 3))) m:=by
 subst hn
 exact closed_call (d:=8) (nx:=1) mix (by kernel_rfl) rfl
theorem pdq7'(d:Array Int)(hd:d.size=7)(n:Int)(hn:n=7):CallT Tryz.prog 177 [.h 0,.d (ci 0),.d (ci n),.d (ci 3)] (memO [(0,arR d)]) (.ok (.tup [])) (applyU (memO [(0,arR d)]) [(0,arR (Go.Sort.insertionSort ltZ d 0 d.size))]):=by
 subst hn
 exact pdq7 d hd
theorem u64_7{n:Int}(hn:n=7):inR .u64 n:=by subst hn;decide
theorem sort7(d:Array Int)(hd:d.size=7):CallT Tryz.prog 132 [.h 0] (memO [(0,arR d)]) (.ok (.tup [])) (applyU (memO [(0,arR d)]) [(0,arR (Go.Sort.insertionSort ltZ d 0 d.size))]):=by
 have hl:(((rowsD (iR d.toList)).length:Nat):Int)=7:=by simp[rowsD,hd]
 refine mem_of_vcL mix 100 Tryz.func132 rfl (by kernel_rfl) (Nat.le_of_ble_eq_true rfl) trivial ⟨hsIn_osD,trivial⟩ ?_
 repeat'(first
  |with_reducible (first|refine w1 ?_|refine w2 ?_|refine w3 ?_|refine w4 ?_|refine w5 ?_|refine w6 ?_|refine w7 ?_|refine w8 ?_|refine w9 ?_|refine wa ?_|refine wb ?_|refine wc ?_|refine wd ?_|refine we ?_|refine wf rfl ?_|refine wj ?_|refine wk ?_|refine wl ?_|refine wm rfl ?_|refine StopK.mk ?_|refine BrK.t rfl ?_|refine BrK.f rfl ?_)
  |((with_reducible (first|refine wr ?_|refine wi ?_|refine wx ?_|refine wy ?_|refine wg ?_|refine wh ?_));(conv=>whnf))
  |((with_reducible (refine wu ?_));(conv=>whnf))
  |(with_reducible (refine ChkK.mk (by kernel_rfl) ?_))
  |(refine RowK.mk _ rfl ?_;(conv=>whnf))
  |((with_reducible refine InK.mk (inI (by(try dsimp only);omega) (by(try dsimp only);omega)) ?_);(conv=>whnf))
  |((with_reducible refine bK_split (λh=>?_) (λh=>?_))<;>(try rw[h])<;>(conv at h=>{simp}))
  |((refine InK.mk (u64_7 hl) ?_);(conv=>whnf))
  |((refine callK_pure (bits7 _ hl) ?_);(conv=>whnf))
  |((refine CallK.mk _ _ (pdq7' d hd _ hl) ?_);(conv=>whnf)))
 (refine endM_of rfl ?_<;>repeat'(first|exact True.intro|exact Or.inl rfl|exact Or.inr rfl|refine And.intro ?_ ?_))
theorem sort_of{L M:List Int}(hM:M.Pairwise (· <·))(hp:L.Perm M)(hl:L.length=7):Go.Sort.insertionSort ltZ L.toArray 0 L.toArray.size=M.toArray:=by
 have h:(Go.Sort.insertionSort ltZ L.toArray 0 L.toArray.size).toList=M:=by
  rw[sort_small _ (by simp[hl])]
  have h1:(L.mergeSort λx y=>decide (x<=y)).Perm M:=(List.mergeSort_perm _ _).trans hp
  have h2:(L.mergeSort λx y=>decide (x<=y)).Pairwise λa b=>decide (a<=b)=true:=List.pairwise_mergeSort (λa b c h1 h2=>by simp only[decide_eq_true_eq]at*;omega) (λa b=>by simp only[Bool.or_eq_true,decide_eq_true_eq];omega) L
  have h3:M.Pairwise λa b=>decide (a<=b)=true:=hM.imp λh=>by simp only[decide_eq_true_eq];omega
  exact h1.eq_of_pairwise (λa b _ _ h1 h2=>by simp only[decide_eq_true_eq]at*;omega) h2 h3
 exact Array.ext' (by rw[h])
def refs7L:List Int:=[1,2,3,4,5,6,7]
theorem refs7:∀(m:Mem)(d:Nat),m d=none->CallT Tryz.prog 141 [.d (.ip wD')] m (.ok (.h d)) (setM m d (osD 23 1 (iR refs7L))):=by
 refine fresh_of_vc mix (F:=A.h) (r:=osD 23 1 (iR refs7L)) Tryz.func141 rfl (by kernel_rfl) (Nat.le_of_ble_eq_true rfl) rfl (osD_hs _ _ _) (λ_ _=>rfl) (λi j hj=>by simpa [A.hs]using hj) (λg=>osD_ren g _ _ _) ?_
 repeat'(first
  |with_reducible (first|refine w1 ?_|refine w2 ?_|refine w3 ?_|refine w4 ?_|refine w5 ?_|refine w6 ?_|refine w7 ?_|refine w8 ?_|refine w9 ?_|refine wa ?_|refine wb ?_|refine wc ?_|refine wd ?_|refine we ?_|refine wf rfl ?_|refine wj ?_|refine wk ?_|refine wl ?_|refine wm rfl ?_|refine StopK.mk ?_|refine BrK.t rfl ?_|refine BrK.f rfl ?_)
  |((with_reducible (first|refine wr ?_|refine wi ?_|refine wx ?_|refine wy ?_|refine wg ?_|refine wh ?_));(conv=>whnf))
  |((with_reducible (refine wt (by decide) (by kernel_rfl) ?_));(conv=>whnf))
  |((with_reducible (refine wu ?_));(conv=>whnf))
  |(with_reducible (refine ChkK.mk (by kernel_rfl) ?_))
  |(refine RowK.mk _ rfl ?_;(conv=>whnf))
  |((with_reducible refine InK.mk (inI (by(try dsimp only);omega) (by(try dsimp only);omega)) ?_);(conv=>whnf))
  |((with_reducible refine bK_split (λh=>?_) (λh=>?_))<;>(try rw[h])<;>(conv at h=>{simp})))
 refine PreK.mk (by kernel_rfl) ?_
 conv=>whnf
 repeat'(first
  |with_reducible (first|refine w1 ?_|refine w2 ?_|refine w3 ?_|refine w4 ?_|refine w5 ?_|refine w6 ?_|refine w7 ?_|refine w8 ?_|refine w9 ?_|refine wa ?_|refine wb ?_|refine wc ?_|refine wd ?_|refine we ?_|refine wf rfl ?_|refine wj ?_|refine wk ?_|refine wl ?_|refine wm rfl ?_|refine StopK.mk ?_|refine BrK.t rfl ?_|refine BrK.f rfl ?_)
  |((with_reducible (first|refine wr ?_|refine wi ?_|refine wx ?_|refine wy ?_|refine wg ?_|refine wh ?_));(conv=>whnf))
  |((with_reducible (refine wt (by decide) (by kernel_rfl) ?_));(conv=>whnf))
  |((with_reducible (refine wu ?_));(conv=>whnf))
  |(with_reducible (refine ChkK.mk (by kernel_rfl) ?_))
  |(refine RowK.mk _ rfl ?_;(conv=>whnf))
  |((with_reducible refine InK.mk (inI (by(try dsimp only);omega) (by(try dsimp only);omega)) ?_);(conv=>whnf))
  |((with_reducible refine bK_split (λh=>?_) (λh=>?_))<;>(try rw[h])<;>(conv at h=>{simp})))
 refine rngK_map (L:=own7L) (f:=λt=>kI t.ref) (g:=λt=>.ip t.cells) rfl ?_
 conv=>whnf
 repeat'(first
  |with_reducible (first|refine w1 ?_|refine w2 ?_|refine w3 ?_|refine w4 ?_|refine w5 ?_|refine w6 ?_|refine w7 ?_|refine w8 ?_|refine w9 ?_|refine wa ?_|refine wb ?_|refine wc ?_|refine wd ?_|refine we ?_|refine wf rfl ?_|refine wj ?_|refine wk ?_|refine wl ?_|refine wm rfl ?_|refine StopK.mk ?_|refine BrK.t rfl ?_|refine BrK.f rfl ?_)
  |((with_reducible (first|refine wr ?_|refine wi ?_|refine wx ?_|refine wy ?_|refine wg ?_|refine wh ?_));(conv=>whnf))
  |((with_reducible (refine wt (by decide) (by kernel_rfl) ?_));(conv=>whnf))
  |((with_reducible (refine wu ?_));(conv=>whnf))
  |(with_reducible (refine ChkK.mk (by kernel_rfl) ?_))
  |(refine RowK.mk _ rfl ?_;(conv=>whnf))
  |((with_reducible refine InK.mk (inI (by(try dsimp only);omega) (by(try dsimp only);omega)) ?_);(conv=>whnf))
  |((with_reducible refine bK_split (λh=>?_) (λh=>?_))<;>(try rw[h])<;>(conv at h=>{simp})))
 refine loop_cut mix (λa:Option (Ky×C)×List T5×List Int=>(a.2.2++a.2.1.map (·.ref)).Perm refs7L) (I:=λa=>[(3,.h 900),(15,.h 97)])
  (J:=λa=>[(900,osD 23 1 (iR a.2.2)),(97,.di a.1 (a.2.1.map T5.kv))]) (μ:=λa=>a.2.1.length) 1000 (none,own7L,[]) 0
  (λQ:List Int=>Q.Perm refs7L) (λQ=>[(3,.h 900)]) (λQ=>[(900,osD 23 1 (iR Q))]) 2000 (.refl _) (by(refine Moves.swap 49 900 ?_ ?_ ?_ ?_ ?_<;>repeat'(first|exact True.intro|exact rfl|exact Option.some_ne_none _|exact hsIn_osD|exact hsIn_facA|exact neB rfl|exact mkosl rfl rfl|exact mkfac rfl|exact mkmt rfl rfl|exact hsIn_mtA|exact mklo rfl (by assumption)|exact hlo _ (Option.some_ne_none _) (Option.some_ne_none _) (Option.some_ne_none _) (Option.some_ne_none _) (Option.some_ne_none _)|exact hlo _ (Option.some_ne_none _) (Option.some_ne_none _)|(refine lenE ?_;simp only[List.length_map,rowsD];done)|(refine intE ?_;(try dsimp only);omega)|refine And.intro ?_ ?_))) ?_ ?_
 ·rintro⟨cur,L,Q⟩ hp
  dsimp only at hp⊢
  have hlen:=hp.length_eq
  simp only[List.length_append,List.length_map,refs7L,List.length_cons,List.length_nil]at hlen
  repeat'(first
   |with_reducible (first|refine w1 ?_|refine w2 ?_|refine w3 ?_|refine w4 ?_|refine w5 ?_|refine w6 ?_|refine w7 ?_|refine w8 ?_|refine w9 ?_|refine wa ?_|refine wb ?_|refine wc ?_|refine wd ?_|refine we ?_|refine wf rfl ?_|refine wj ?_|refine wk ?_|refine wl ?_|refine wm rfl ?_|refine StopK.mk ?_|refine BrK.t rfl ?_|refine BrK.f rfl ?_)
   |((with_reducible (first|refine wr ?_|refine wi ?_|refine wx ?_|refine wy ?_|refine wg ?_|refine wh ?_));(conv=>whnf))
   |((with_reducible (refine wt (by decide) (by kernel_rfl) ?_));(conv=>whnf))
   |((with_reducible (refine wu ?_));(conv=>whnf))
   |(with_reducible (refine ChkK.mk (by kernel_rfl) ?_))
   |(refine RowK.mk _ rfl ?_;(conv=>whnf))
   |((with_reducible refine InK.mk (inI (by(try dsimp only);omega) (by(try dsimp only);omega)) ?_);(conv=>whnf))
   |((with_reducible refine bK_split (λh=>?_) (λh=>?_))<;>(try rw[h])<;>(conv at h=>{simp})))
  refine nextK_map (λh0=>?_) (λi hi=>?_)
  ·conv=>whnf
   repeat'(first
    |with_reducible (first|refine w1 ?_|refine w2 ?_|refine w3 ?_|refine w4 ?_|refine w5 ?_|refine w6 ?_|refine w7 ?_|refine w8 ?_|refine w9 ?_|refine wa ?_|refine wb ?_|refine wc ?_|refine wd ?_|refine we ?_|refine wf rfl ?_|refine wj ?_|refine wk ?_|refine wl ?_|refine wm rfl ?_|refine StopK.mk ?_|refine BrK.t rfl ?_|refine BrK.f rfl ?_)
    |((with_reducible (first|refine wr ?_|refine wi ?_|refine wx ?_|refine wy ?_|refine wg ?_|refine wh ?_));(conv=>whnf))
    |((with_reducible (refine wt (by decide) (by kernel_rfl) ?_));(conv=>whnf))
    |((with_reducible (refine wu ?_));(conv=>whnf))
    |(with_reducible (refine ChkK.mk (by kernel_rfl) ?_))
    |(refine RowK.mk _ rfl ?_;(conv=>whnf))
    |((with_reducible refine InK.mk (inI (by(try dsimp only);omega) (by(try dsimp only);omega)) ?_);(conv=>whnf))
    |((with_reducible refine bK_split (λh=>?_) (λh=>?_))<;>(try rw[h])<;>(conv at h=>{simp})))
   subst h0
   refine⟨Q,by simpa using hp,?_⟩
   (refine Moves.swap 5000 5001 ?_ ?_ ?_ ?_ ?_<;>repeat'(first|exact True.intro|exact rfl|exact Option.some_ne_none _|exact hsIn_osD|exact hsIn_facA|exact neB rfl|exact mkosl rfl rfl|exact mkfac rfl|exact mkmt rfl rfl|exact hsIn_mtA|exact mklo rfl (by assumption)|exact hlo _ (Option.some_ne_none _) (Option.some_ne_none _) (Option.some_ne_none _) (Option.some_ne_none _) (Option.some_ne_none _)|exact hlo _ (Option.some_ne_none _) (Option.some_ne_none _)|(refine lenE ?_;simp only[List.length_map,rowsD];done)|(refine intE ?_;(try dsimp only);omega)|refine And.intro ?_ ?_))
  ·conv=>whnf
   repeat'(first
    |with_reducible (first|refine w1 ?_|refine w2 ?_|refine w3 ?_|refine w4 ?_|refine w5 ?_|refine w6 ?_|refine w7 ?_|refine w8 ?_|refine w9 ?_|refine wa ?_|refine wb ?_|refine wc ?_|refine wd ?_|refine we ?_|refine wf rfl ?_|refine wj ?_|refine wk ?_|refine wl ?_|refine wm rfl ?_|refine StopK.mk ?_|refine BrK.t rfl ?_|refine BrK.f rfl ?_)
    |((with_reducible (first|refine wr ?_|refine wi ?_|refine wx ?_|refine wy ?_|refine wg ?_|refine wh ?_));(conv=>whnf))
    |((with_reducible (refine wt (by decide) (by kernel_rfl) ?_));(conv=>whnf))
    |((with_reducible (refine wu ?_));(conv=>whnf))
    |(with_reducible (refine ChkK.mk (by kernel_rfl) ?_))
    |(refine RowK.mk _ rfl ?_;(conv=>whnf))
    |((with_reducible refine InK.mk (inI (by(try dsimp only);omega) (by(try dsimp only);omega)) ?_);(conv=>whnf))
    |((with_reducible refine bK_split (λh=>?_) (λh=>?_))<;>(try rw[h])<;>(conv at h=>{simp})))
   refine szk (by simp only[List.length_map,rowsD,List.length_set,List.length_replicate];omega) (by kernel_rfl) ?_
   conv=>whnf
   repeat'(first
    |with_reducible (first|refine w1 ?_|refine w2 ?_|refine w3 ?_|refine w4 ?_|refine w5 ?_|refine w6 ?_|refine w7 ?_|refine w8 ?_|refine w9 ?_|refine wa ?_|refine wb ?_|refine wc ?_|refine wd ?_|refine we ?_|refine wf rfl ?_|refine wj ?_|refine wk ?_|refine wl ?_|refine wm rfl ?_|refine StopK.mk ?_|refine BrK.t rfl ?_|refine BrK.f rfl ?_)
    |((with_reducible (first|refine wr ?_|refine wi ?_|refine wx ?_|refine wy ?_|refine wg ?_|refine wh ?_));(conv=>whnf))
    |((with_reducible (refine wt (by decide) (by kernel_rfl) ?_));(conv=>whnf))
    |((with_reducible (refine wu ?_));(conv=>whnf))
    |(with_reducible (refine ChkK.mk (by kernel_rfl) ?_))
    |(refine RowK.mk _ rfl ?_;(conv=>whnf))
    |((with_reducible refine InK.mk (inI (by(try dsimp only);omega) (by(try dsimp only);omega)) ?_);(conv=>whnf))
    |((with_reducible refine bK_split (λh=>?_) (λh=>?_))<;>(try rw[h])<;>(conv at h=>{simp})))
   refine⟨(some (T5.kv L[i]),L.eraseIdx i,Q++[L[i].ref]),erase_len _ _ hi,?_,?_⟩
   ·dsimp only
    refine List.Perm.trans ?_ hp
    rw[List.append_assoc]
    refine List.Perm.append_left _ ?_
    have:=(perm_erase L i hi).map (λt:T5=>t.ref)
    exact this.symm
   ·skip
    (refine Moves.swap 1064 900 ?_ ?_ ?_ ?_ ?_<;>repeat'(first|exact True.intro|exact rfl|exact Option.some_ne_none _|exact hsIn_osD|exact hsIn_facA|exact neB rfl|exact mkosl rfl rfl|exact mkfac rfl|exact mkmt rfl rfl|exact hsIn_mtA|exact mklo rfl (by assumption)|exact hlo _ (Option.some_ne_none _) (Option.some_ne_none _) (Option.some_ne_none _) (Option.some_ne_none _) (Option.some_ne_none _)|exact hlo _ (Option.some_ne_none _) (Option.some_ne_none _)|(refine lenE ?_;simp only[List.length_map,rowsD];done)|(refine intE ?_;(try dsimp only);omega)|refine And.intro ?_ ?_))
    all_goals exact mkosl rfl (rows_app1 Q [L[i].ref])
 rintro Q hQ
 have hlen:=hQ.length_eq
 simp only[refs7L,List.length_cons,List.length_nil]at hlen
 have hs:=sort_of (by decide) hQ hlen
 repeat'(first
  |with_reducible (first|refine w1 ?_|refine w2 ?_|refine w3 ?_|refine w4 ?_|refine w5 ?_|refine w6 ?_|refine w7 ?_|refine w8 ?_|refine w9 ?_|refine wa ?_|refine wb ?_|refine wc ?_|refine wd ?_|refine we ?_|refine wf rfl ?_|refine wj ?_|refine wk ?_|refine wl ?_|refine wm rfl ?_|refine StopK.mk ?_|refine BrK.t rfl ?_|refine BrK.f rfl ?_)
  |((with_reducible (first|refine wr ?_|refine wi ?_|refine wx ?_|refine wy ?_|refine wg ?_|refine wh ?_));(conv=>whnf))
  |((with_reducible (refine wt (by decide) (by kernel_rfl) ?_));(conv=>whnf))
  |((with_reducible (refine wu ?_));(conv=>whnf))
  |(with_reducible (refine ChkK.mk (by kernel_rfl) ?_))
  |(refine RowK.mk _ rfl ?_;(conv=>whnf))
  |((with_reducible refine InK.mk (inI (by(try dsimp only);omega) (by(try dsimp only);omega)) ?_);(conv=>whnf))
  |((with_reducible refine bK_split (λh=>?_) (λh=>?_))<;>(try rw[h])<;>(conv at h=>{simp}))
  |((refine callK_upd 900 (arR (Go.Sort.insertionSort ltZ Q.toArray 0 Q.toArray.size)) ((sort7 Q.toArray (by simp[hlen])).lift1 (osD_hs _ _ _) (λg=>osD_ren g _ _ _) (λg=>osD_ren g _ _ _) rfl (by simp[A.hsL,A.hs]) (memO _) 900 rfl) ?_);(conv=>whnf)))
 rw[hs]
 exact⟨_,rfl,rfl⟩
end Go.Pv
open Go Go.Pv Go.Proofs
namespace Go.Pv
def wA:A:=.d (.ip (wD th7 fac7))
def lA:A:=.d (.sl 4 [[ci 0,.nl 17,.sl 6 [[.v (.string (bs [97])),.v (.int .u8 4),ci 0,.v (.string (bs [])),.nl 5,ci 6],[.v (.string (bs [98])),.v (.int .u8 4),ci 0,.v (.string (bs [])),.nl 5,ci 2]],.sl 1 [[ci 6],[ci 2]]],[ci 0,.nl 17,.sl 6 [[.v (.string (bs [97])),.v (.int .u8 4),ci 0,.v (.string (bs [])),.nl 5,ci 7],[.v (.string (bs [98])),.v (.int .u8 4),ci 0,.v (.string (bs [])),.nl 5,ci 5]],.sl 1 [[ci 7],[ci 5]]]])
def qA(by_ able thing:Int):A:=.d (.agg [ci by_,.v (.int .u8 able),ci thing])
def cert:ByteArray:=bs [78,69,86,1,0,0,1,0,0,0,3,0,0,0,31,0,0,0,0,0,0,1,0,0,0,1,0,0,0,0,0,3,0,0,0,0,0,0,1,0,0,0,2,0,0,0,0,0,9,0,0,0,0,0,0,1,0,0,0,5,0,0,0,0,0,0,0,0,0,0,0,0,2,0,0,0,0,0,0,0,0,0,63,0,0,0,0,0,0,2,0,0,0,0,0,0,0,0,1,63,0,0,0,0,0,1,1,0,0,0,1,0,0,0,0,0,3,0,0,0,0,0,1,1,0,0,0,2,0,0,0,0,0,9,0,0,0,0,0,1,1,0,0,0,5,0,0,0,0,0,0,0,0,0,0,0,1,2,0,0,0,0,0,0,0,0,0,63,0,0,0,0,0,1,2,0,0,0,0,0,0,0,0,1,63,1,1,0,0,0,1,0,0,0,0,0,1,0,0,0,1,0,0,0,0,0,3,1,1,0,0,0,1,0,0,0,0,0,1,0,0,0,2,0,0,0,0,0,9,1,1,0,0,0,1,0,0,0,0,0,1,0,0,0,5,0,0,0,0,0,0,1,1,0,0,0,1,0,0,0,0,0,2,0,0,0,0,0,0,0,0,0,63,1,1,0,0,0,1,0,0,0,0,0,2,0,0,0,0,0,0,0,0,1,63,1,1,0,0,0,2,0,0,0,0,0,1,0,0,0,1,0,0,0,0,0,3,1,1,0,0,0,2,0,0,0,0,0,1,0,0,0,2,0,0,0,0,0,9,1,1,0,0,0,2,0,0,0,0,0,1,0,0,0,5,0,0,0,0,0,0,1,1,0,0,0,2,0,0,0,0,0,2,0,0,0,0,0,0,0,0,0,63,1,1,0,0,0,2,0,0,0,0,0,2,0,0,0,0,0,0,0,0,1,63,1,1,0,0,0,5,0,0,0,0,0,1,0,0,0,3,0,0,0,0,0,9,1,2,0,0,0,0,0,0,0,0,0,1,0,0,0,1,0,0,0,0,0,3,1,2,0,0,0,0,0,0,0,0,0,1,0,0,0,2,0,0,0,0,0,9,1,2,0,0,0,0,0,0,0,0,0,1,0,0,0,5,0,0,0,0,0,0,1,2,0,0,0,0,0,0,0,0,0,2,0,0,0,0,0,0,0,0,0,63,1,2,0,0,0,0,0,0,0,0,0,2,0,0,0,0,0,0,0,0,1,63,1,2,0,0,0,0,0,0,0,0,1,1,0,0,0,1,0,0,0,0,0,3,1,2,0,0,0,0,0,0,0,0,1,1,0,0,0,2,0,0,0,0,0,9,1,2,0,0,0,0,0,0,0,0,1,1,0,0,0,5,0,0,0,0,0,0,1,2,0,0,0,0,0,0,0,0,1,2,0,0,0,0,0,0,0,0,0,63,1,2,0,0,0,0,0,0,0,0,1,2,0,0,0,0,0,0,0,0,1,63]
def cA:A:=.d (.v (.string cert))
def ctB:Hd:=hitD 77 [wA] (.ok (.d (.ip wD'))) [] 1 1 (hitD 141 [.d (.ip wD')] (.ok (.h 1)) [(1,osD 23 1 (iR refs7L))] 1 2 (hitL 124 (hitC 19 noCt)))
theorem ctB_ok:HdOk Tryz.prog ctB:=
 hitD_ok (hitD_ok (hitL_ok (hitC_ok noCt_ok)) (refs7 _ 1 rfl) (by kernel_rfl)) (wcopy7 _) (by kernel_rfl)
end Go.Pv
open Go Go.Pv Go.Proofs
namespace Go.Pv
inductive WaX:List A->List A->Prop
 |nil:WaX [] []
 |x {a:A} {l r:List A}:WaX l r->WaX (a::l) (.x::r)
 |same {a:A} {l r:List A}:WaX l r->WaX (a::l) (a::r)
theorem WaX.den{w:World}{M:Nat->Prop}{m:Mem}{ρ:Nat->Value}:∀{l r:List A}{ys:List Value},WaX l r->A.DenL w M m ρ l ys->A.DenL w M m ρ r ys
 |_,_,ys,.nil,h=>h
 |_,_,ys,.x h2,h=>by
  simp only[A.DenL]at h⊢
  obtain⟨y,yr,e,_,k2⟩:=h
  exact⟨y,yr,e,by simp only[A.Den],h2.den k2⟩
 |_,_,ys,.same h2,h=>by
  simp only[A.DenL]at h⊢
  obtain⟨y,yr,e,k1,k2⟩:=h
  exact⟨y,yr,e,k1,h2.den k2⟩
theorem CallT.wx{P:Program}{f:FuncId}{xs xs':List A}{m m':Mem}{r:Rt}(h:CallT P f xs m r m')(hw:WaX xs' xs):CallT P f xs' m r m':=h.args λw M ρ vs hv=>hw.den hv
def wZC:List C:=[.nl 1,.nl 1,.v (.map none),.v (.map none),ci 0,.nl 1]
def fZC:List C:=[.v (.pointer none),.v (.map none)]
abbrev wZ:A:=.d (.ip wZC)
abbrev fZ:A:=.d (.ip fZC)
def errA(n:Int):A:=.d (ci n)
def q0:A:=.agg [.d (ci 0),.d (.v (.int .u8 0)),.d (ci 0)]
def fact0:A:=.agg [.d (ci 0),.d (ci 0),.d (.v (.int .u8 0)),.d (ci 0),.d (ci 0),.d (ci 0),.d (.v (.int .u8 0)),.d (ci 0),.d (ci 0),.d (ci 0),.d (.v (.int .u8 0))]
abbrev nilp:A:=.d (.v (.pointer none))
abbrev qX:A:=.agg [.x,.x,.x]
abbrev noS:A:=.d (.v (.string (bs [])))
theorem askN:∀m,CallT Tryz.prog 4 [nilp,qX,.x] m (.ok (.tup [.d (cb false),errA 1])) m:=closed_call (d:=8) (nx:=1) mix (by kernel_rfl) rfl
theorem makeN:∀m,CallT Tryz.prog 5 [nilp,qX,.x] m (.ok (.tup [noS,errA 1])) m:=closed_call (d:=8) (nx:=1) mix (by kernel_rfl) rfl
theorem checkN:∀m,CallT Tryz.prog 6 [nilp,noS,.x] m (.ok (.tup [q0,errA 1])) m:=closed_call (d:=8) (nx:=1) mix (by kernel_rfl) rfl
theorem readN:∀m,CallT Tryz.prog 7 [nilp,noS,.x] m (.ok (.tup [q0,nilp,errA 1])) m:=closed_call (d:=8) (nx:=1) mix (by kernel_rfl) rfl
theorem wantN:∀m,CallT Tryz.prog 8 [nilp,noS,.x] m (.ok (.tup [fact0,errA 0,.d (cb false),errA 1])) m:=closed_call (d:=8) (nx:=1) mix (by kernel_rfl) rfl
theorem writeN:∀m,CallT Tryz.prog 9 [qX,nilp] m (.ok (.tup [noS,errA 1])) m:=closed_call (d:=8) (nx:=1) mix (by kernel_rfl) rfl
theorem sizeN:∀m,CallT Tryz.prog 10 [qX,nilp] m (.ok (.tup [errA 0,errA 0,errA 1])) m:=closed_call (d:=8) (nx:=1) mix (by kernel_rfl) rfl
theorem askZ:∀m,CallT Tryz.prog 4 [wZ,qX,.x] m (.ok (.tup [.d (cb false),errA 1])) m:=closed_call (d:=8) (nx:=1) mix (by kernel_rfl) rfl
theorem makeZ:∀m,CallT Tryz.prog 5 [wZ,qX,.x] m (.ok (.tup [noS,errA 1])) m:=closed_call (d:=8) (nx:=1) mix (by kernel_rfl) rfl
theorem checkZ:∀m,CallT Tryz.prog 6 [wZ,noS,.x] m (.ok (.tup [q0,errA 1])) m:=closed_call (d:=8) (nx:=1) mix (by kernel_rfl) rfl
theorem readZ:∀m,CallT Tryz.prog 7 [wZ,noS,.x] m (.ok (.tup [q0,nilp,errA 1])) m:=closed_call (d:=8) (nx:=1) mix (by kernel_rfl) rfl
theorem wantZ:∀m,CallT Tryz.prog 8 [wZ,noS,.x] m (.ok (.tup [fact0,errA 0,.d (cb false),errA 1])) m:=closed_call (d:=8) (nx:=1) mix (by kernel_rfl) rfl
theorem writeZ:∀m,CallT Tryz.prog 9 [qX,fZ] m (.ok (.tup [noS,errA 1])) m:=closed_call (d:=8) (nx:=1) mix (by kernel_rfl) rfl
theorem sizeZ:∀m,CallT Tryz.prog 10 [qX,fZ] m (.ok (.tup [errA 0,errA 0,errA 1])) m:=closed_call (d:=8) (nx:=1) mix (by kernel_rfl) rfl
end Go.Pv
open Go Go.Pv Go.Proofs
namespace Go.Pv
def wEC:List C:=[.nl 1,.sl 1 [[cb false]],.im [] [],.im [] [],ci 0,.sl 1 [[ci 0]]]
theorem noneE:∀m,CallT Tryz.prog 57 [.d (.ip wEC)] m (.ok (.d (cb false))) m:=closed_call (d:=8) (nx:=1) mix (by kernel_rfl) rfl
theorem clIE:∀m,CallT Tryz.prog 136 [.d (.sl 1 [[ci 0]])] m (.ok (.d (.sl 1 [[ci 0]]))) m:=data_of_run (nx0:=1) (evH_ok mix noCt_ok 8) (by kernel_rfl) rfl
theorem newE:∀m,CallT Tryz.prog 11 [.d (.nl 0)] m (.ok (.tup [.d (.ip wEC),.d (ci 0)])) m:=dataT_of_run (cs:=[.ip wEC,ci 0]) (nx0:=1) (evH_ok mix noCt_ok 20) (by kernel_rfl) rfl
theorem sortE:∀m,CallT Tryz.prog 132 [.d (.sl 1 [])] m (.ok (.tup [])) m:=closed_call (d:=20) (nx:=1) mix (by kernel_rfl) rfl
theorem copyE:∀m,CallT Tryz.prog 77 [.d (.ip wEC)] m (.ok (.d (.ip wEC))) m:=by
 refine pure_of_rd mix Tryz.func77 rfl (by kernel_rfl) (Nat.le_of_ble_eq_true rfl) rfl ?_
 repeat'(first
  |with_reducible (first|refine w1 ?_|refine w2 ?_|refine w3 ?_|refine w4 ?_|refine w5 ?_|refine w6 ?_|refine w7 ?_|refine w8 ?_|refine w9 ?_|refine wa ?_|refine wb ?_|refine wc ?_|refine wd ?_|refine we ?_|refine wf rfl ?_|refine wj ?_|refine wk ?_|refine wl ?_|refine wm rfl ?_|refine StopK.mk ?_|refine BrK.t rfl ?_|refine BrK.f rfl ?_)
  |((with_reducible (first|refine wr ?_|refine wi ?_|refine wx ?_|refine wy ?_|refine wg ?_|refine wh ?_));(conv=>whnf))
  |((with_reducible (refine wu ?_));(conv=>whnf))
  |(with_reducible (refine ChkK.mk (by kernel_rfl) ?_))
  |(refine RowK.mk _ rfl ?_;(conv=>whnf))
  |((with_reducible refine InK.mk (inI (by(try dsimp only);omega) (by(try dsimp only);omega)) ?_);(conv=>whnf))
  |((with_reducible refine bK_split (λh=>?_) (λh=>?_))<;>(try rw[h])<;>(conv at h=>{simp}))
  |((refine callK_pure noneE ?_);(conv=>whnf))
  |((refine DCallK.pure _ clS7 ?_);(conv=>whnf))
  |((refine DCallK.pure _ clB7 ?_);(conv=>whnf))
  |((refine DCallK.pure _ clIE ?_);(conv=>whnf)))
 refine rngK_map (L:=([]:List T5)) (f:=λt=>kI t.ref) (g:=λt=>.ip t.cells) rfl ?_
 conv=>whnf
 repeat'(first
  |with_reducible (first|refine w1 ?_|refine w2 ?_|refine w3 ?_|refine w4 ?_|refine w5 ?_|refine w6 ?_|refine w7 ?_|refine w8 ?_|refine w9 ?_|refine wa ?_|refine wb ?_|refine wc ?_|refine wd ?_|refine we ?_|refine wf rfl ?_|refine wj ?_|refine wk ?_|refine wl ?_|refine wm rfl ?_|refine StopK.mk ?_|refine BrK.t rfl ?_|refine BrK.f rfl ?_)
  |((with_reducible (first|refine wr ?_|refine wi ?_|refine wx ?_|refine wy ?_|refine wg ?_|refine wh ?_));(conv=>whnf))
  |((with_reducible (refine wt (by decide) (by kernel_rfl) ?_));(conv=>whnf))
  |((with_reducible (refine wu ?_));(conv=>whnf))
  |(with_reducible (refine ChkK.mk (by kernel_rfl) ?_))
  |(refine RowK.mk _ rfl ?_;(conv=>whnf))
  |((with_reducible refine InK.mk (inI (by(try dsimp only);omega) (by(try dsimp only);omega)) ?_);(conv=>whnf))
  |((with_reducible refine bK_split (λh=>?_) (λh=>?_))<;>(try rw[h])<;>(conv at h=>{simp})))
 refine loop_inv mix (λ_:Unit=>True) (I:=λ_=>[(3,.lp 201 0),(36,.h 249)])
  (J:=λ_=>[(201,.cells false [.d (.nl 1),.d (.sl 1 [[cb false]]),.h 177,.h 185,.d (ci 0),.d (.sl 1 [[ci 0]])]),(177,.mp false [] []),(185,.mp false [] []),(249,.di none [])]) (μ:=λ_=>0) 1000 () trivial (by(refine Moves.swap 5000 5001 ?_ ?_ ?_ ?_ ?_<;>repeat'(first|exact True.intro|exact rfl|exact Option.some_ne_none _|exact hsIn_osD|exact hsIn_facA|exact neB rfl|exact mkosl rfl rfl|exact mkfac rfl|exact mkmt rfl rfl|exact hsIn_mtA|exact mklo rfl (by assumption)|exact hlo _ (Option.some_ne_none _) (Option.some_ne_none _) (Option.some_ne_none _) (Option.some_ne_none _) (Option.some_ne_none _)|exact hlo _ (Option.some_ne_none _) (Option.some_ne_none _)|(refine lenE ?_;simp only[List.length_map,rowsD];done)|(refine intE ?_;(try dsimp only);omega)|refine And.intro ?_ ?_))) ?_
 rintro _ _
 repeat'(first
  |with_reducible (first|refine w1 ?_|refine w2 ?_|refine w3 ?_|refine w4 ?_|refine w5 ?_|refine w6 ?_|refine w7 ?_|refine w8 ?_|refine w9 ?_|refine wa ?_|refine wb ?_|refine wc ?_|refine wd ?_|refine we ?_|refine wf rfl ?_|refine wj ?_|refine wk ?_|refine wl ?_|refine wm rfl ?_|refine StopK.mk ?_|refine BrK.t rfl ?_|refine BrK.f rfl ?_)
  |((with_reducible (first|refine wr ?_|refine wi ?_|refine wx ?_|refine wy ?_|refine wg ?_|refine wh ?_));(conv=>whnf))
  |((with_reducible (refine wt (by decide) (by kernel_rfl) ?_));(conv=>whnf))
  |((with_reducible (refine wu ?_));(conv=>whnf))
  |(with_reducible (refine ChkK.mk (by kernel_rfl) ?_))
  |(refine RowK.mk _ rfl ?_;(conv=>whnf))
  |((with_reducible refine InK.mk (inI (by(try dsimp only);omega) (by(try dsimp only);omega)) ?_);(conv=>whnf))
  |((with_reducible refine bK_split (λh=>?_) (λh=>?_))<;>(try rw[h])<;>(conv at h=>{simp})))
 refine nextK_map (L:=([]:List T5)) (f:=T5.kv) (λ_=>?_) (λi hi=>absurd hi (by simp))
 conv=>whnf
 repeat'(first
  |with_reducible (first|refine w1 ?_|refine w2 ?_|refine w3 ?_|refine w4 ?_|refine w5 ?_|refine w6 ?_|refine w7 ?_|refine w8 ?_|refine w9 ?_|refine wa ?_|refine wb ?_|refine wc ?_|refine wd ?_|refine we ?_|refine wf rfl ?_|refine wj ?_|refine wk ?_|refine wl ?_|refine wm rfl ?_|refine StopK.mk ?_|refine BrK.t rfl ?_|refine BrK.f rfl ?_)
  |((with_reducible (first|refine wr ?_|refine wi ?_|refine wx ?_|refine wy ?_|refine wg ?_|refine wh ?_));(conv=>whnf))
  |((with_reducible (refine wt (by decide) (by kernel_rfl) ?_));(conv=>whnf))
  |((with_reducible (refine wu ?_));(conv=>whnf))
  |(with_reducible (refine ChkK.mk (by kernel_rfl) ?_))
  |(refine RowK.mk _ rfl ?_;(conv=>whnf))
  |((with_reducible refine InK.mk (inI (by(try dsimp only);omega) (by(try dsimp only);omega)) ?_);(conv=>whnf))
  |((with_reducible refine bK_split (λh=>?_) (λh=>?_))<;>(try rw[h])<;>(conv at h=>{simp})))
 exact .one (.lp rfl (.cons (.d _) (.cons (.d _) (.cons (.mp (kv:=[]) (st:=[]) (fz:=false) (vs:=[]) rfl .nil) (.cons (.mp (kv:=[]) (st:=[]) (fz:=false) (vs:=[]) rfl .nil) (.cons (.d _) (.cons (.d _) .nil)))))))
theorem refsE:∀m,CallT Tryz.prog 141 [.d (.ip wEC)] m (.ok (.d (.sl 1 []))) m:=by
 refine pure_of_rd mix Tryz.func141 rfl (by kernel_rfl) (Nat.le_of_ble_eq_true rfl) rfl ?_
 repeat'(first
  |with_reducible (first|refine w1 ?_|refine w2 ?_|refine w3 ?_|refine w4 ?_|refine w5 ?_|refine w6 ?_|refine w7 ?_|refine w8 ?_|refine w9 ?_|refine wa ?_|refine wb ?_|refine wc ?_|refine wd ?_|refine we ?_|refine wf rfl ?_|refine wj ?_|refine wk ?_|refine wl ?_|refine wm rfl ?_|refine StopK.mk ?_|refine BrK.t rfl ?_|refine BrK.f rfl ?_)
  |((with_reducible (first|refine wr ?_|refine wi ?_|refine wx ?_|refine wy ?_|refine wg ?_|refine wh ?_));(conv=>whnf))
  |((with_reducible (refine wt (by decide) (by kernel_rfl) ?_));(conv=>whnf))
  |((with_reducible (refine wu ?_));(conv=>whnf))
  |(with_reducible (refine ChkK.mk (by kernel_rfl) ?_))
  |(refine RowK.mk _ rfl ?_;(conv=>whnf))
  |((with_reducible refine InK.mk (inI (by(try dsimp only);omega) (by(try dsimp only);omega)) ?_);(conv=>whnf))
  |((with_reducible refine bK_split (λh=>?_) (λh=>?_))<;>(try rw[h])<;>(conv at h=>{simp})))
 refine PreK.mk (by kernel_rfl) ?_
 conv=>whnf
 repeat'(first
  |with_reducible (first|refine w1 ?_|refine w2 ?_|refine w3 ?_|refine w4 ?_|refine w5 ?_|refine w6 ?_|refine w7 ?_|refine w8 ?_|refine w9 ?_|refine wa ?_|refine wb ?_|refine wc ?_|refine wd ?_|refine we ?_|refine wf rfl ?_|refine wj ?_|refine wk ?_|refine wl ?_|refine wm rfl ?_|refine StopK.mk ?_|refine BrK.t rfl ?_|refine BrK.f rfl ?_)
  |((with_reducible (first|refine wr ?_|refine wi ?_|refine wx ?_|refine wy ?_|refine wg ?_|refine wh ?_));(conv=>whnf))
  |((with_reducible (refine wt (by decide) (by kernel_rfl) ?_));(conv=>whnf))
  |((with_reducible (refine wu ?_));(conv=>whnf))
  |(with_reducible (refine ChkK.mk (by kernel_rfl) ?_))
  |(refine RowK.mk _ rfl ?_;(conv=>whnf))
  |((with_reducible refine InK.mk (inI (by(try dsimp only);omega) (by(try dsimp only);omega)) ?_);(conv=>whnf))
  |((with_reducible refine bK_split (λh=>?_) (λh=>?_))<;>(try rw[h])<;>(conv at h=>{simp})))
 refine rngK_map (L:=([]:List T5)) (f:=λt=>kI t.ref) (g:=λt=>.ip t.cells) rfl ?_
 conv=>whnf
 repeat'(first
  |with_reducible (first|refine w1 ?_|refine w2 ?_|refine w3 ?_|refine w4 ?_|refine w5 ?_|refine w6 ?_|refine w7 ?_|refine w8 ?_|refine w9 ?_|refine wa ?_|refine wb ?_|refine wc ?_|refine wd ?_|refine we ?_|refine wf rfl ?_|refine wj ?_|refine wk ?_|refine wl ?_|refine wm rfl ?_|refine StopK.mk ?_|refine BrK.t rfl ?_|refine BrK.f rfl ?_)
  |((with_reducible (first|refine wr ?_|refine wi ?_|refine wx ?_|refine wy ?_|refine wg ?_|refine wh ?_));(conv=>whnf))
  |((with_reducible (refine wt (by decide) (by kernel_rfl) ?_));(conv=>whnf))
  |((with_reducible (refine wu ?_));(conv=>whnf))
  |(with_reducible (refine ChkK.mk (by kernel_rfl) ?_))
  |(refine RowK.mk _ rfl ?_;(conv=>whnf))
  |((with_reducible refine InK.mk (inI (by(try dsimp only);omega) (by(try dsimp only);omega)) ?_);(conv=>whnf))
  |((with_reducible refine bK_split (λh=>?_) (λh=>?_))<;>(try rw[h])<;>(conv at h=>{simp})))
 refine loop_inv mix (λ_:Unit=>True) (I:=λ_=>[(3,.h 49),(15,.h 97)])
  (J:=λ_=>[(49,.osl false 23 1 []),(97,.di none [])]) (μ:=λ_=>0) 1000 () trivial (by(refine Moves.swap 5000 5001 ?_ ?_ ?_ ?_ ?_<;>repeat'(first|exact True.intro|exact rfl|exact Option.some_ne_none _|exact hsIn_osD|exact hsIn_facA|exact neB rfl|exact mkosl rfl rfl|exact mkfac rfl|exact mkmt rfl rfl|exact hsIn_mtA|exact mklo rfl (by assumption)|exact hlo _ (Option.some_ne_none _) (Option.some_ne_none _) (Option.some_ne_none _) (Option.some_ne_none _) (Option.some_ne_none _)|exact hlo _ (Option.some_ne_none _) (Option.some_ne_none _)|(refine lenE ?_;simp only[List.length_map,rowsD];done)|(refine intE ?_;(try dsimp only);omega)|refine And.intro ?_ ?_))) ?_
 rintro _ _
 repeat'(first
  |with_reducible (first|refine w1 ?_|refine w2 ?_|refine w3 ?_|refine w4 ?_|refine w5 ?_|refine w6 ?_|refine w7 ?_|refine w8 ?_|refine w9 ?_|refine wa ?_|refine wb ?_|refine wc ?_|refine wd ?_|refine we ?_|refine wf rfl ?_|refine wj ?_|refine wk ?_|refine wl ?_|refine wm rfl ?_|refine StopK.mk ?_|refine BrK.t rfl ?_|refine BrK.f rfl ?_)
  |((with_reducible (first|refine wr ?_|refine wi ?_|refine wx ?_|refine wy ?_|refine wg ?_|refine wh ?_));(conv=>whnf))
  |((with_reducible (refine wt (by decide) (by kernel_rfl) ?_));(conv=>whnf))
  |((with_reducible (refine wu ?_));(conv=>whnf))
  |(with_reducible (refine ChkK.mk (by kernel_rfl) ?_))
  |(refine RowK.mk _ rfl ?_;(conv=>whnf))
  |((with_reducible refine InK.mk (inI (by(try dsimp only);omega) (by(try dsimp only);omega)) ?_);(conv=>whnf))
  |((with_reducible refine bK_split (λh=>?_) (λh=>?_))<;>(try rw[h])<;>(conv at h=>{simp})))
 refine nextK_map (L:=([]:List T5)) (f:=T5.kv) (λ_=>?_) (λi hi=>absurd hi (by simp))
 conv=>whnf
 repeat'(first
  |with_reducible (first|refine w1 ?_|refine w2 ?_|refine w3 ?_|refine w4 ?_|refine w5 ?_|refine w6 ?_|refine w7 ?_|refine w8 ?_|refine w9 ?_|refine wa ?_|refine wb ?_|refine wc ?_|refine wd ?_|refine we ?_|refine wf rfl ?_|refine wj ?_|refine wk ?_|refine wl ?_|refine wm rfl ?_|refine StopK.mk ?_|refine BrK.t rfl ?_|refine BrK.f rfl ?_)
  |((with_reducible (first|refine wr ?_|refine wi ?_|refine wx ?_|refine wy ?_|refine wg ?_|refine wh ?_));(conv=>whnf))
  |((with_reducible (refine wt (by decide) (by kernel_rfl) ?_));(conv=>whnf))
  |((with_reducible (refine wu ?_));(conv=>whnf))
  |(with_reducible (refine ChkK.mk (by kernel_rfl) ?_))
  |(refine RowK.mk _ rfl ?_;(conv=>whnf))
  |((with_reducible refine InK.mk (inI (by(try dsimp only);omega) (by(try dsimp only);omega)) ?_);(conv=>whnf))
  |((with_reducible refine bK_split (λh=>?_) (λh=>?_))<;>(try rw[h])<;>(conv at h=>{simp}))
  |((refine callK_view (cs:=[.sl 1 []]) sortE (.tup []) (.cons (.os rfl .nil) .nil) ?_);(conv=>whnf)))
 exact .one (.os rfl .nil)
def ctE:Hd:=hitD 77 [.d (.ip wEC)] (.ok (.d (.ip wEC))) [] 1 1 (hitD 141 [.d (.ip wEC)] (.ok (.d (.sl 1 []))) [] 1 1 noCt)
theorem ctE_ok:HdOk Tryz.prog ctE:=hitD_ok (hitD_ok noCt_ok (refsE _) (by kernel_rfl)) (copyE _) (by kernel_rfl)
def isE(r:Option (List Ot×Nat)):Bool:=match r with
 |some ([(.ok (.tup l),u)],_)=>match optM (rdA (trU u) 40) l with
  |some [.ip _,.v (.int .i64 0)]=>true
  |_=>false
 |_=>false
theorem emptyE:∃l,∀m,CallT Tryz.prog 15 [.d (.ip wEC),.d (.nl 0)] m (.ok (.tup [.d (.ip l),.d (ci 0)])) m:=by
 have h:isE (evH Tryz.prog ctE 40 (.fn 15) [.d (.ip wEC),.d (.nl 0)] .nil 1)=true:=by kernel_rfl
 unfold isE at h
 split at h
 ·rename_i l u n he
  split at h
  ·rename_i c hc
   refine⟨c,CallT.toDataT (cs:=[.ip c,ci 0]) (dat_of (evH_ok mix ctE_ok 40) he) rfl ?_⟩
   rw[<-trU_get]
   exact optM_rd (rdA_ok 40) hc
  ·cases h
 ·cases h
theorem readL(S:ByteArray)(hS:(S.size:Int)=4194305):∀m,CallT Tryz.prog 7 [.d (.ip wEC),.d (.v (.string S)),.d (.nl 0)] m (.ok (.tup [.d (.agg [ci 0,.v (.int .u8 0),ci 0]),nilp,errA 4])) m:=by
 obtain⟨c,hc⟩:=emptyE
 refine pure_of_rd mix Tryz.func7 rfl (by kernel_rfl) (Nat.le_of_ble_eq_true rfl) rfl ?_
 repeat'(first
  |with_reducible (first|refine w1 ?_|refine w2 ?_|refine w3 ?_|refine w4 ?_|refine w5 ?_|refine w6 ?_|refine w7 ?_|refine w8 ?_|refine w9 ?_|refine wa ?_|refine wb ?_|refine wc ?_|refine wd ?_|refine we ?_|refine wf rfl ?_|refine wj ?_|refine wk ?_|refine wl ?_|refine wm rfl ?_|refine StopK.mk ?_|refine BrK.t rfl ?_|refine BrK.f rfl ?_)
  |((with_reducible (first|refine wr ?_|refine wi ?_|refine wx ?_|refine wy ?_|refine wg ?_|refine wh ?_));(conv=>whnf))
  |((with_reducible (refine wt (by decide) (by kernel_rfl) ?_));(conv=>whnf))
  |((with_reducible (refine wu ?_));(conv=>whnf))
  |(with_reducible (refine ChkK.mk (by kernel_rfl) ?_))
  |(refine RowK.mk _ rfl ?_;(conv=>whnf))
  |((with_reducible refine InK.mk (inI (by(try dsimp only);omega) (by(try dsimp only);omega)) ?_);(conv=>whnf))
  |((with_reducible refine bK_split (λh=>?_) (λh=>?_))<;>(try rw[h])<;>(conv at h=>{simp}))
  |((refine callK_pure hc ?_);(conv=>whnf)))
 ·exact .tup (.cons (.agg (RdL.data _ [ci 0,.v (.int .u8 0),ci 0])) (.cons (.d _) (.cons (.d _) .nil)))
 ·omega
theorem wantL(S:ByteArray)(hS:(S.size:Int)=4194305):∀m,CallT Tryz.prog 8 [.d (.ip wEC),.d (.v (.string S)),.d (.nl 0)] m (.ok (.tup [.d (.agg [ci 0,ci 0,.v (.int .u8 0),ci 0,ci 0,ci 0,.v (.int .u8 0),ci 0,ci 0,ci 0,.v (.int .u8 0)]),errA 0,.d (cb false),errA 4])) m:=by
 refine pure_of_rd mix Tryz.func8 rfl (by kernel_rfl) (Nat.le_of_ble_eq_true rfl) rfl ?_
 repeat'(first
  |with_reducible (first|refine w1 ?_|refine w2 ?_|refine w3 ?_|refine w4 ?_|refine w5 ?_|refine w6 ?_|refine w7 ?_|refine w8 ?_|refine w9 ?_|refine wa ?_|refine wb ?_|refine wc ?_|refine wd ?_|refine we ?_|refine wf rfl ?_|refine wj ?_|refine wk ?_|refine wl ?_|refine wm rfl ?_|refine StopK.mk ?_|refine BrK.t rfl ?_|refine BrK.f rfl ?_)
  |((with_reducible (first|refine wr ?_|refine wi ?_|refine wx ?_|refine wy ?_|refine wg ?_|refine wh ?_));(conv=>whnf))
  |((with_reducible (refine wt (by decide) (by kernel_rfl) ?_));(conv=>whnf))
  |((with_reducible (refine wu ?_));(conv=>whnf))
  |(with_reducible (refine ChkK.mk (by kernel_rfl) ?_))
  |(refine RowK.mk _ rfl ?_;(conv=>whnf))
  |((with_reducible refine InK.mk (inI (by(try dsimp only);omega) (by(try dsimp only);omega)) ?_);(conv=>whnf))
  |((with_reducible refine bK_split (λh=>?_) (λh=>?_))<;>(try rw[h])<;>(conv at h=>{simp}))
  |((refine callK_pure (readL S hS) ?_);(conv=>whnf)))
 exact .tup (.cons (.agg (RdL.data _ [ci 0,ci 0,.v (.int .u8 0),ci 0,ci 0,ci 0,.v (.int .u8 0),ci 0,ci 0,ci 0,.v (.int .u8 0)])) (.cons (.d _) (.cons (.d _) (.cons (.d _) .nil))))
theorem checkL(S:ByteArray)(hS:(S.size:Int)=4194305):∀m,CallT Tryz.prog 6 [.d (.ip wEC),.d (.v (.string S)),.d (.nl 0)] m (.ok (.tup [.d (.agg [ci 0,.v (.int .u8 0),ci 0]),errA 4])) m:=by
 refine pure_of_rd mix Tryz.func6 rfl (by kernel_rfl) (Nat.le_of_ble_eq_true rfl) rfl ?_
 repeat'(first
  |with_reducible (first|refine w1 ?_|refine w2 ?_|refine w3 ?_|refine w4 ?_|refine w5 ?_|refine w6 ?_|refine w7 ?_|refine w8 ?_|refine w9 ?_|refine wa ?_|refine wb ?_|refine wc ?_|refine wd ?_|refine we ?_|refine wf rfl ?_|refine wj ?_|refine wk ?_|refine wl ?_|refine wm rfl ?_|refine StopK.mk ?_|refine BrK.t rfl ?_|refine BrK.f rfl ?_)
  |((with_reducible (first|refine wr ?_|refine wi ?_|refine wx ?_|refine wy ?_|refine wg ?_|refine wh ?_));(conv=>whnf))
  |((with_reducible (refine wt (by decide) (by kernel_rfl) ?_));(conv=>whnf))
  |((with_reducible (refine wu ?_));(conv=>whnf))
  |(with_reducible (refine ChkK.mk (by kernel_rfl) ?_))
  |(refine RowK.mk _ rfl ?_;(conv=>whnf))
  |((with_reducible refine InK.mk (inI (by(try dsimp only);omega) (by(try dsimp only);omega)) ?_);(conv=>whnf))
  |((with_reducible refine bK_split (λh=>?_) (λh=>?_))<;>(try rw[h])<;>(conv at h=>{simp}))
  |((refine callK_pure (readL S hS) ?_);(conv=>whnf)))
 exact .tup (.cons (.agg (RdL.data _ [ci 0,.v (.int .u8 0),ci 0])) (.cons (.d _) .nil))
theorem zeros_bytes:∀n:Nat,bytesOf (List.replicate n [A.d (.v (.int .u8 0))])=some (List.replicate n 0)
 |0=>rfl
 |n+1=>by rw[List.replicate_succ,bytesOf,zeros_bytes n];rfl
theorem bsI_size(ns:List Int):(bsI ns).size=ns.length:=by
 show(ns.map λn=>UInt8.ofNat n.toNat).toArray.size=_
 simp
theorem zeros_op(n:Nat){l:List (Nat×A)}{ml:List (Nat×R)}{o:Oper}{s t:TypeId}{x:Operand}{i:Nat}{te:TypeId}(ho:o.op=.convert s t x)(hx:evT (lT l) x=.h i)(hm:memO ml i=some (.osl false te 1 (List.replicate n [A.d (.v (.int .u8 0))])))(h1:(elemOf' Tryz.prog t).isNone=true)(h2:isStrT Tryz.prog t=true)(h3:((elemOf' Tryz.prog s).map λe=>isByteT Tryz.prog e)=some true):
 ∃S:ByteArray,S.size=n/\OpN Tryz.prog o (lT l) (memO ml) [(.ok (.d (.v (.string S))),[])]:=by
 obtain⟨e,he,hb⟩:=Option.map_eq_some_iff.1 h3
 refine⟨bsI (List.replicate n 0),by rw[bsI_size,List.length_replicate],?_⟩
 refine OpN.one (OpT.of_new (d:=0) (pre:=true) ?_ rfl)
 have e1:elemOf' Tryz.prog t=none:=by simpa using h1
 have e2:effMore Tryz.prog (memO ml) (lT l) 0 o=some (true,.d (.v (.string (bsI (List.replicate n 0)))),[]):=by
  unfold effMore
  simp only[ho,hx,e1]
  unfold effBytesStr
  have hs:srcRows (memO ml) (.h i)=some (List.replicate n [A.d (.v (.int .u8 0))]):=by simp only[srcRows,hm]
  rw[hs,he]
  simp only[zeros_bytes,hb,h2,Bool.and_self]
 unfold effNew effPre effAll effOp
 simp only[ho,hx,effConvert]
 exact e2
theorem opk_zeros(n:Nat){l:List (Nat×A)}{ml:List (Nat×R)}{o:Oper}{k:A->List (Nat×R)->Prop}{s t:TypeId}{x:Operand}{i:Nat}{te:TypeId}(ho:o.op=.convert s t x)(hx:evT (lT l) x=.h i)(hm:memO ml i=some (.osl false te 1 (List.replicate n [A.d (.v (.int .u8 0))])))(h1:(elemOf' Tryz.prog t).isNone=true)(h2:isStrT Tryz.prog t=true)(h3:((elemOf' Tryz.prog s).map λe=>isByteT Tryz.prog e)=some true)
 (hk:∀S:ByteArray,(S.size:Int)=n->k (.d (.v (.string S))) []):OpK Tryz.prog o l ml k:=by
 obtain⟨S,hS,hop⟩:=zeros_op n ho hx hm h1 h2 h3
 exact .mk _ _ hop (hk S (by rw[hS]))
end Go.Pv
open Go Go.Pv Go.Proofs
namespace Go.Pv
abbrev sX:A:=.agg [.x,.x,.x,.x]
def qR:R:=.cells false [.x,.x,.x]
def sR:R:=.cells false [.x,.x,.x,.x]
theorem main_ok(hl:∀m,CallT Tryz.prog 12 [] m (.ok (.d (cb true))) m):CallT Tryz.prog 3 [qX,sX] (memO []) (.ok (.d (cb true))) (applyU (memO []) []):=by
 refine mem_of_vcL mix 10 Tryz.func3 rfl (by kernel_rfl) (Nat.le_of_ble_eq_true rfl) trivial trivial ?_
 repeat'(first
  |with_reducible (first|refine w1 ?_|refine w2 ?_|refine w3 ?_|refine w4 ?_|refine w5 ?_|refine w6 ?_|refine w7 ?_|refine w8 ?_|refine w9 ?_|refine wa ?_|refine wb ?_|refine wc ?_|refine wd ?_|refine we ?_|refine wf rfl ?_|refine wj ?_|refine wk ?_|refine wl ?_|refine wm rfl ?_|refine StopK.mk ?_|refine BrK.t rfl ?_|refine BrK.f rfl ?_)
  |((with_reducible (first|refine wr ?_|refine wi ?_|refine wx ?_|refine wy ?_|refine wg ?_|refine wh ?_));(conv=>whnf))
  |((with_reducible (refine wu ?_));(conv=>whnf))
  |(with_reducible (refine ChkK.mk (by kernel_rfl) ?_))
  |(refine RowK.mk _ rfl ?_;(conv=>whnf))
  |((with_reducible refine InK.mk (inI (by(try dsimp only);omega) (by(try dsimp only);omega)) ?_);(conv=>whnf))
  |((with_reducible refine bK_split (λh=>?_) (λh=>?_))<;>(try rw[h])<;>(conv at h=>{simp})))
 refine loop_cut mix (λi:Nat=>i<=2) (I:=λi=>[(6,.d (ci i)),(5,.lp 58 0),(3,.lp 18 0),(2,.lp 10 0)]) (J:=λ_=>[(58,.cells false [nilp,wZ]),(18,sR),(10,qR)]) (μ:=λi=>2 -i) 1000 0 0
  (λ_:Unit=>True) (λ_=>[(3,.lp 18 0),(2,.lp 10 0)]) (λ_=>[(18,sR),(10,qR)]) 2000 (by omega) (Moves.freeze [42] trivial ⟨.same _,.same _,.same _,.same _,trivial⟩ ⟨⟨rfl,_,rfl,.cells (.cons (.same _) (.cons (.rd (.lp (memF_some rfl rfl) (RdL.data _ wZC))) (.same _)))⟩,⟨rfl,_,rfl,.cells (.same _)⟩,⟨rfl,_,rfl,.cells (.same _)⟩,trivial⟩ ⟨trivial,⟨Option.some_ne_none _,trivial⟩,⟨Option.some_ne_none _,trivial⟩,⟨Option.some_ne_none _,trivial⟩,trivial⟩ ⟨trivial,trivial,trivial,trivial⟩) ?_ ?_
 ·intro i hi
  rcases(by omega:i=0\/i=1\/i=2)with rfl|rfl|rfl
  ·skip
   repeat'(first
    |with_reducible (first|refine w1 ?_|refine w2 ?_|refine w3 ?_|refine w4 ?_|refine w5 ?_|refine w6 ?_|refine w7 ?_|refine w8 ?_|refine w9 ?_|refine wa ?_|refine wb ?_|refine wc ?_|refine wd ?_|refine we ?_|refine wf rfl ?_|refine wj ?_|refine wk ?_|refine wl ?_|refine wm rfl ?_|refine StopK.mk ?_|refine BrK.t rfl ?_|refine BrK.f rfl ?_)
    |((with_reducible (first|refine wr ?_|refine wi ?_|refine wx ?_|refine wy ?_|refine wg ?_|refine wh ?_));(conv=>whnf))
    |((with_reducible (refine wu ?_));(conv=>whnf))
    |(with_reducible (refine ChkK.mk (by kernel_rfl) ?_))
    |(refine RowK.mk _ rfl ?_;(conv=>whnf))
    |((with_reducible refine InK.mk (inI (by(try dsimp only);omega) (by(try dsimp only);omega)) ?_);(conv=>whnf))
    |((with_reducible refine bK_split (λh=>?_) (λh=>?_))<;>(try rw[h])<;>(conv at h=>{simp}))
    |((refine DCallK.pure _ (λm=>(askN m).wx (.same (.same (.x .nil)))) ?_);(conv=>whnf))
    |((refine DCallK.pure _ (λm=>(makeN m).wx (.same (.same (.x .nil)))) ?_);(conv=>whnf))
    |((refine DCallK.pure _ (λm=>(checkN m).wx (.same (.same (.x .nil)))) ?_);(conv=>whnf))
    |((refine DCallK.pure _ (λm=>(readN m).wx (.same (.same (.x .nil)))) ?_);(conv=>whnf))
    |((refine DCallK.pure _ (λm=>(wantN m).wx (.same (.same (.x .nil)))) ?_);(conv=>whnf)))
   split
   rotate_left
   ·rename_i heq
    exact Bool.noConfusion (heq.symm.trans (by kernel_rfl:_=true))
   conv=>whnf
   repeat'(first
    |with_reducible (first|refine w1 ?_|refine w2 ?_|refine w3 ?_|refine w4 ?_|refine w5 ?_|refine w6 ?_|refine w7 ?_|refine w8 ?_|refine w9 ?_|refine wa ?_|refine wb ?_|refine wc ?_|refine wd ?_|refine we ?_|refine wf rfl ?_|refine wj ?_|refine wk ?_|refine wl ?_|refine wm rfl ?_|refine StopK.mk ?_|refine BrK.t rfl ?_|refine BrK.f rfl ?_)
    |((with_reducible (first|refine wr ?_|refine wi ?_|refine wx ?_|refine wy ?_|refine wg ?_|refine wh ?_));(conv=>whnf))
    |((with_reducible (refine wu ?_));(conv=>whnf))
    |(with_reducible (refine ChkK.mk (by kernel_rfl) ?_))
    |(refine RowK.mk _ rfl ?_;(conv=>whnf))
    |((with_reducible refine InK.mk (inI (by(try dsimp only);omega) (by(try dsimp only);omega)) ?_);(conv=>whnf))
    |((with_reducible refine bK_split (λh=>?_) (λh=>?_))<;>(try rw[h])<;>(conv at h=>{simp})))
   split
   rotate_left
   ·rename_i heq
    exact Bool.noConfusion (heq.symm.trans (by kernel_rfl:_=true))
   conv=>whnf
   repeat'(first
    |with_reducible (first|refine w1 ?_|refine w2 ?_|refine w3 ?_|refine w4 ?_|refine w5 ?_|refine w6 ?_|refine w7 ?_|refine w8 ?_|refine w9 ?_|refine wa ?_|refine wb ?_|refine wc ?_|refine wd ?_|refine we ?_|refine wf rfl ?_|refine wj ?_|refine wk ?_|refine wl ?_|refine wm rfl ?_|refine StopK.mk ?_|refine BrK.t rfl ?_|refine BrK.f rfl ?_)
    |((with_reducible (first|refine wr ?_|refine wi ?_|refine wx ?_|refine wy ?_|refine wg ?_|refine wh ?_));(conv=>whnf))
    |((with_reducible (refine wu ?_));(conv=>whnf))
    |(with_reducible (refine ChkK.mk (by kernel_rfl) ?_))
    |(refine RowK.mk _ rfl ?_;(conv=>whnf))
    |((with_reducible refine InK.mk (inI (by(try dsimp only);omega) (by(try dsimp only);omega)) ?_);(conv=>whnf))
    |((with_reducible refine bK_split (λh=>?_) (λh=>?_))<;>(try rw[h])<;>(conv at h=>{simp})))
   split
   rotate_left
   ·rename_i heq
    exact Bool.noConfusion (heq.symm.trans (by kernel_rfl:_=true))
   conv=>whnf
   repeat'(first
    |with_reducible (first|refine w1 ?_|refine w2 ?_|refine w3 ?_|refine w4 ?_|refine w5 ?_|refine w6 ?_|refine w7 ?_|refine w8 ?_|refine w9 ?_|refine wa ?_|refine wb ?_|refine wc ?_|refine wd ?_|refine we ?_|refine wf rfl ?_|refine wj ?_|refine wk ?_|refine wl ?_|refine wm rfl ?_|refine StopK.mk ?_|refine BrK.t rfl ?_|refine BrK.f rfl ?_)
    |((with_reducible (first|refine wr ?_|refine wi ?_|refine wx ?_|refine wy ?_|refine wg ?_|refine wh ?_));(conv=>whnf))
    |((with_reducible (refine wu ?_));(conv=>whnf))
    |(with_reducible (refine ChkK.mk (by kernel_rfl) ?_))
    |(refine RowK.mk _ rfl ?_;(conv=>whnf))
    |((with_reducible refine InK.mk (inI (by(try dsimp only);omega) (by(try dsimp only);omega)) ?_);(conv=>whnf))
    |((with_reducible refine bK_split (λh=>?_) (λh=>?_))<;>(try rw[h])<;>(conv at h=>{simp})))
   refine⟨1,by omega,by omega,?_⟩
   (refine Moves.swap 5000 5001 ?_ ?_ ?_ ?_ ?_<;>repeat'(first|exact True.intro|exact rfl|exact Option.some_ne_none _|exact hsIn_osD|exact hsIn_facA|exact neB rfl|exact mkosl rfl rfl|exact mkfac rfl|exact mkmt rfl rfl|exact hsIn_mtA|exact mklo rfl (by assumption)|exact hlo _ (Option.some_ne_none _) (Option.some_ne_none _) (Option.some_ne_none _) (Option.some_ne_none _) (Option.some_ne_none _)|exact hlo _ (Option.some_ne_none _) (Option.some_ne_none _)|(refine lenE ?_;simp only[List.length_map,rowsD];done)|(refine intE ?_;(try dsimp only);omega)|refine And.intro ?_ ?_))
  ·skip
   repeat'(first
    |with_reducible (first|refine w1 ?_|refine w2 ?_|refine w3 ?_|refine w4 ?_|refine w5 ?_|refine w6 ?_|refine w7 ?_|refine w8 ?_|refine w9 ?_|refine wa ?_|refine wb ?_|refine wc ?_|refine wd ?_|refine we ?_|refine wf rfl ?_|refine wj ?_|refine wk ?_|refine wl ?_|refine wm rfl ?_|refine StopK.mk ?_|refine BrK.t rfl ?_|refine BrK.f rfl ?_)
    |((with_reducible (first|refine wr ?_|refine wi ?_|refine wx ?_|refine wy ?_|refine wg ?_|refine wh ?_));(conv=>whnf))
    |((with_reducible (refine wu ?_));(conv=>whnf))
    |(with_reducible (refine ChkK.mk (by kernel_rfl) ?_))
    |(refine RowK.mk _ rfl ?_;(conv=>whnf))
    |((with_reducible refine InK.mk (inI (by(try dsimp only);omega) (by(try dsimp only);omega)) ?_);(conv=>whnf))
    |((with_reducible refine bK_split (λh=>?_) (λh=>?_))<;>(try rw[h])<;>(conv at h=>{simp}))
    |((refine DCallK.pure _ (λm=>(askZ m).wx (.same (.same (.x .nil)))) ?_);(conv=>whnf))
    |((refine DCallK.pure _ (λm=>(makeZ m).wx (.same (.same (.x .nil)))) ?_);(conv=>whnf))
    |((refine DCallK.pure _ (λm=>(checkZ m).wx (.same (.same (.x .nil)))) ?_);(conv=>whnf))
    |((refine DCallK.pure _ (λm=>(readZ m).wx (.same (.same (.x .nil)))) ?_);(conv=>whnf))
    |((refine DCallK.pure _ (λm=>(wantZ m).wx (.same (.same (.x .nil)))) ?_);(conv=>whnf)))
   split
   rotate_left
   ·rename_i heq
    exact Bool.noConfusion (heq.symm.trans (by kernel_rfl:_=true))
   conv=>whnf
   repeat'(first
    |with_reducible (first|refine w1 ?_|refine w2 ?_|refine w3 ?_|refine w4 ?_|refine w5 ?_|refine w6 ?_|refine w7 ?_|refine w8 ?_|refine w9 ?_|refine wa ?_|refine wb ?_|refine wc ?_|refine wd ?_|refine we ?_|refine wf rfl ?_|refine wj ?_|refine wk ?_|refine wl ?_|refine wm rfl ?_|refine StopK.mk ?_|refine BrK.t rfl ?_|refine BrK.f rfl ?_)
    |((with_reducible (first|refine wr ?_|refine wi ?_|refine wx ?_|refine wy ?_|refine wg ?_|refine wh ?_));(conv=>whnf))
    |((with_reducible (refine wu ?_));(conv=>whnf))
    |(with_reducible (refine ChkK.mk (by kernel_rfl) ?_))
    |(refine RowK.mk _ rfl ?_;(conv=>whnf))
    |((with_reducible refine InK.mk (inI (by(try dsimp only);omega) (by(try dsimp only);omega)) ?_);(conv=>whnf))
    |((with_reducible refine bK_split (λh=>?_) (λh=>?_))<;>(try rw[h])<;>(conv at h=>{simp})))
   split
   rotate_left
   ·rename_i heq
    exact Bool.noConfusion (heq.symm.trans (by kernel_rfl:_=true))
   conv=>whnf
   repeat'(first
    |with_reducible (first|refine w1 ?_|refine w2 ?_|refine w3 ?_|refine w4 ?_|refine w5 ?_|refine w6 ?_|refine w7 ?_|refine w8 ?_|refine w9 ?_|refine wa ?_|refine wb ?_|refine wc ?_|refine wd ?_|refine we ?_|refine wf rfl ?_|refine wj ?_|refine wk ?_|refine wl ?_|refine wm rfl ?_|refine StopK.mk ?_|refine BrK.t rfl ?_|refine BrK.f rfl ?_)
    |((with_reducible (first|refine wr ?_|refine wi ?_|refine wx ?_|refine wy ?_|refine wg ?_|refine wh ?_));(conv=>whnf))
    |((with_reducible (refine wu ?_));(conv=>whnf))
    |(with_reducible (refine ChkK.mk (by kernel_rfl) ?_))
    |(refine RowK.mk _ rfl ?_;(conv=>whnf))
    |((with_reducible refine InK.mk (inI (by(try dsimp only);omega) (by(try dsimp only);omega)) ?_);(conv=>whnf))
    |((with_reducible refine bK_split (λh=>?_) (λh=>?_))<;>(try rw[h])<;>(conv at h=>{simp})))
   split
   rotate_left
   ·rename_i heq
    exact Bool.noConfusion (heq.symm.trans (by kernel_rfl:_=true))
   conv=>whnf
   repeat'(first
    |with_reducible (first|refine w1 ?_|refine w2 ?_|refine w3 ?_|refine w4 ?_|refine w5 ?_|refine w6 ?_|refine w7 ?_|refine w8 ?_|refine w9 ?_|refine wa ?_|refine wb ?_|refine wc ?_|refine wd ?_|refine we ?_|refine wf rfl ?_|refine wj ?_|refine wk ?_|refine wl ?_|refine wm rfl ?_|refine StopK.mk ?_|refine BrK.t rfl ?_|refine BrK.f rfl ?_)
    |((with_reducible (first|refine wr ?_|refine wi ?_|refine wx ?_|refine wy ?_|refine wg ?_|refine wh ?_));(conv=>whnf))
    |((with_reducible (refine wu ?_));(conv=>whnf))
    |(with_reducible (refine ChkK.mk (by kernel_rfl) ?_))
    |(refine RowK.mk _ rfl ?_;(conv=>whnf))
    |((with_reducible refine InK.mk (inI (by(try dsimp only);omega) (by(try dsimp only);omega)) ?_);(conv=>whnf))
    |((with_reducible refine bK_split (λh=>?_) (λh=>?_))<;>(try rw[h])<;>(conv at h=>{simp})))
   refine⟨2,by omega,by omega,?_⟩
   (refine Moves.swap 5000 5001 ?_ ?_ ?_ ?_ ?_<;>repeat'(first|exact True.intro|exact rfl|exact Option.some_ne_none _|exact hsIn_osD|exact hsIn_facA|exact neB rfl|exact mkosl rfl rfl|exact mkfac rfl|exact mkmt rfl rfl|exact hsIn_mtA|exact mklo rfl (by assumption)|exact hlo _ (Option.some_ne_none _) (Option.some_ne_none _) (Option.some_ne_none _) (Option.some_ne_none _) (Option.some_ne_none _)|exact hlo _ (Option.some_ne_none _) (Option.some_ne_none _)|(refine lenE ?_;simp only[List.length_map,rowsD];done)|(refine intE ?_;(try dsimp only);omega)|refine And.intro ?_ ?_))
  ·skip
   repeat'(first
    |with_reducible (first|refine w1 ?_|refine w2 ?_|refine w3 ?_|refine w4 ?_|refine w5 ?_|refine w6 ?_|refine w7 ?_|refine w8 ?_|refine w9 ?_|refine wa ?_|refine wb ?_|refine wc ?_|refine wd ?_|refine we ?_|refine wf rfl ?_|refine wj ?_|refine wk ?_|refine wl ?_|refine wm rfl ?_|refine StopK.mk ?_|refine BrK.t rfl ?_|refine BrK.f rfl ?_)
    |((with_reducible (first|refine wr ?_|refine wi ?_|refine wx ?_|refine wy ?_|refine wg ?_|refine wh ?_));(conv=>whnf))
    |((with_reducible (refine wu ?_));(conv=>whnf))
    |(with_reducible (refine ChkK.mk (by kernel_rfl) ?_))
    |(refine RowK.mk _ rfl ?_;(conv=>whnf))
    |((with_reducible refine InK.mk (inI (by(try dsimp only);omega) (by(try dsimp only);omega)) ?_);(conv=>whnf))
    |((with_reducible refine bK_split (λh=>?_) (λh=>?_))<;>(try rw[h])<;>(conv at h=>{simp})))
   refine⟨(),trivial,?_⟩
   (refine Moves.swap 5000 5001 ?_ ?_ ?_ ?_ ?_<;>repeat'(first|exact True.intro|exact rfl|exact Option.some_ne_none _|exact hsIn_osD|exact hsIn_facA|exact neB rfl|exact mkosl rfl rfl|exact mkfac rfl|exact mkmt rfl rfl|exact hsIn_mtA|exact mklo rfl (by assumption)|exact hlo _ (Option.some_ne_none _) (Option.some_ne_none _) (Option.some_ne_none _) (Option.some_ne_none _) (Option.some_ne_none _)|exact hlo _ (Option.some_ne_none _) (Option.some_ne_none _)|(refine lenE ?_;simp only[List.length_map,rowsD];done)|(refine intE ?_;(try dsimp only);omega)|refine And.intro ?_ ?_))
 rintro _ _
 repeat'(first
  |with_reducible (first|refine w1 ?_|refine w2 ?_|refine w3 ?_|refine w4 ?_|refine w5 ?_|refine w6 ?_|refine w7 ?_|refine w8 ?_|refine w9 ?_|refine wa ?_|refine wb ?_|refine wc ?_|refine wd ?_|refine we ?_|refine wf rfl ?_|refine wj ?_|refine wk ?_|refine wl ?_|refine wm rfl ?_|refine StopK.mk ?_|refine BrK.t rfl ?_|refine BrK.f rfl ?_)
  |((with_reducible (first|refine wr ?_|refine wi ?_|refine wx ?_|refine wy ?_|refine wg ?_|refine wh ?_));(conv=>whnf))
  |((with_reducible (refine wu ?_));(conv=>whnf))
  |(with_reducible (refine ChkK.mk (by kernel_rfl) ?_))
  |(refine RowK.mk _ rfl ?_;(conv=>whnf))
  |((with_reducible refine InK.mk (inI (by(try dsimp only);omega) (by(try dsimp only);omega)) ?_);(conv=>whnf))
  |((with_reducible refine bK_split (λh=>?_) (λh=>?_))<;>(try rw[h])<;>(conv at h=>{simp})))
 refine loop_cut mix (λi:Nat=>i<=2) (I:=λi=>[(21,.d (ci i)),(20,.lp 2024 0),(2,.lp 10 0)]) (J:=λ_=>[(2024,.cells false [nilp,fZ]),(10,qR)]) (μ:=λi=>2 -i) 3000 0 2
  (λ_:Unit=>True) (λ_=>[]) (λ_=>[]) 4000 (by omega) (Moves.freeze [2008] trivial ⟨.same _,.same _,.same _,trivial⟩ ⟨⟨rfl,_,rfl,.cells (.cons (.same _) (.cons (.rd (.lp (memF_some rfl rfl) (RdL.data _ fZC))) (.same _)))⟩,⟨rfl,_,rfl,.cells (.same _)⟩,trivial⟩ ⟨trivial,⟨Option.some_ne_none _,trivial⟩,⟨Option.some_ne_none _,trivial⟩,trivial⟩ ⟨trivial,trivial,trivial⟩) ?_ ?_
 ·intro i hi
  rcases(by omega:i=0\/i=1\/i=2)with rfl|rfl|rfl
  ·skip
   repeat'(first
    |with_reducible (first|refine w1 ?_|refine w2 ?_|refine w3 ?_|refine w4 ?_|refine w5 ?_|refine w6 ?_|refine w7 ?_|refine w8 ?_|refine w9 ?_|refine wa ?_|refine wb ?_|refine wc ?_|refine wd ?_|refine we ?_|refine wf rfl ?_|refine wj ?_|refine wk ?_|refine wl ?_|refine wm rfl ?_|refine StopK.mk ?_|refine BrK.t rfl ?_|refine BrK.f rfl ?_)
    |((with_reducible (first|refine wr ?_|refine wi ?_|refine wx ?_|refine wy ?_|refine wg ?_|refine wh ?_));(conv=>whnf))
    |((with_reducible (refine wu ?_));(conv=>whnf))
    |(with_reducible (refine ChkK.mk (by kernel_rfl) ?_))
    |(refine RowK.mk _ rfl ?_;(conv=>whnf))
    |((with_reducible refine InK.mk (inI (by(try dsimp only);omega) (by(try dsimp only);omega)) ?_);(conv=>whnf))
    |((with_reducible refine bK_split (λh=>?_) (λh=>?_))<;>(try rw[h])<;>(conv at h=>{simp}))
    |((refine DCallK.pure _ writeN ?_);(conv=>whnf))
    |((refine DCallK.pure _ sizeN ?_);(conv=>whnf)))
   refine⟨1,by omega,by omega,?_⟩
   (refine Moves.swap 5000 5001 ?_ ?_ ?_ ?_ ?_<;>repeat'(first|exact True.intro|exact rfl|exact Option.some_ne_none _|exact hsIn_osD|exact hsIn_facA|exact neB rfl|exact mkosl rfl rfl|exact mkfac rfl|exact mkmt rfl rfl|exact hsIn_mtA|exact mklo rfl (by assumption)|exact hlo _ (Option.some_ne_none _) (Option.some_ne_none _) (Option.some_ne_none _) (Option.some_ne_none _) (Option.some_ne_none _)|exact hlo _ (Option.some_ne_none _) (Option.some_ne_none _)|(refine lenE ?_;simp only[List.length_map,rowsD];done)|(refine intE ?_;(try dsimp only);omega)|refine And.intro ?_ ?_))
  ·skip
   repeat'(first
    |with_reducible (first|refine w1 ?_|refine w2 ?_|refine w3 ?_|refine w4 ?_|refine w5 ?_|refine w6 ?_|refine w7 ?_|refine w8 ?_|refine w9 ?_|refine wa ?_|refine wb ?_|refine wc ?_|refine wd ?_|refine we ?_|refine wf rfl ?_|refine wj ?_|refine wk ?_|refine wl ?_|refine wm rfl ?_|refine StopK.mk ?_|refine BrK.t rfl ?_|refine BrK.f rfl ?_)
    |((with_reducible (first|refine wr ?_|refine wi ?_|refine wx ?_|refine wy ?_|refine wg ?_|refine wh ?_));(conv=>whnf))
    |((with_reducible (refine wu ?_));(conv=>whnf))
    |(with_reducible (refine ChkK.mk (by kernel_rfl) ?_))
    |(refine RowK.mk _ rfl ?_;(conv=>whnf))
    |((with_reducible refine InK.mk (inI (by(try dsimp only);omega) (by(try dsimp only);omega)) ?_);(conv=>whnf))
    |((with_reducible refine bK_split (λh=>?_) (λh=>?_))<;>(try rw[h])<;>(conv at h=>{simp}))
    |((refine DCallK.pure _ writeZ ?_);(conv=>whnf))
    |((refine DCallK.pure _ sizeZ ?_);(conv=>whnf)))
   refine⟨2,by omega,by omega,?_⟩
   (refine Moves.swap 5000 5001 ?_ ?_ ?_ ?_ ?_<;>repeat'(first|exact True.intro|exact rfl|exact Option.some_ne_none _|exact hsIn_osD|exact hsIn_facA|exact neB rfl|exact mkosl rfl rfl|exact mkfac rfl|exact mkmt rfl rfl|exact hsIn_mtA|exact mklo rfl (by assumption)|exact hlo _ (Option.some_ne_none _) (Option.some_ne_none _) (Option.some_ne_none _) (Option.some_ne_none _) (Option.some_ne_none _)|exact hlo _ (Option.some_ne_none _) (Option.some_ne_none _)|(refine lenE ?_;simp only[List.length_map,rowsD];done)|(refine intE ?_;(try dsimp only);omega)|refine And.intro ?_ ?_))
  ·skip
   repeat'(first
    |with_reducible (first|refine w1 ?_|refine w2 ?_|refine w3 ?_|refine w4 ?_|refine w5 ?_|refine w6 ?_|refine w7 ?_|refine w8 ?_|refine w9 ?_|refine wa ?_|refine wb ?_|refine wc ?_|refine wd ?_|refine we ?_|refine wf rfl ?_|refine wj ?_|refine wk ?_|refine wl ?_|refine wm rfl ?_|refine StopK.mk ?_|refine BrK.t rfl ?_|refine BrK.f rfl ?_)
    |((with_reducible (first|refine wr ?_|refine wi ?_|refine wx ?_|refine wy ?_|refine wg ?_|refine wh ?_));(conv=>whnf))
    |((with_reducible (refine wu ?_));(conv=>whnf))
    |(with_reducible (refine ChkK.mk (by kernel_rfl) ?_))
    |(refine RowK.mk _ rfl ?_;(conv=>whnf))
    |((with_reducible refine InK.mk (inI (by(try dsimp only);omega) (by(try dsimp only);omega)) ?_);(conv=>whnf))
    |((with_reducible refine bK_split (λh=>?_) (λh=>?_))<;>(try rw[h])<;>(conv at h=>{simp})))
   refine⟨(),trivial,?_⟩
   (refine Moves.swap 5000 5001 ?_ ?_ ?_ ?_ ?_<;>repeat'(first|exact True.intro|exact rfl|exact Option.some_ne_none _|exact hsIn_osD|exact hsIn_facA|exact neB rfl|exact mkosl rfl rfl|exact mkfac rfl|exact mkmt rfl rfl|exact hsIn_mtA|exact mklo rfl (by assumption)|exact hlo _ (Option.some_ne_none _) (Option.some_ne_none _) (Option.some_ne_none _) (Option.some_ne_none _) (Option.some_ne_none _)|exact hlo _ (Option.some_ne_none _) (Option.some_ne_none _)|(refine lenE ?_;simp only[List.length_map,rowsD];done)|(refine intE ?_;(try dsimp only);omega)|refine And.intro ?_ ?_))
 rintro _ _
 repeat'(first
  |with_reducible (first|refine w1 ?_|refine w2 ?_|refine w3 ?_|refine w4 ?_|refine w5 ?_|refine w6 ?_|refine w7 ?_|refine w8 ?_|refine w9 ?_|refine wa ?_|refine wb ?_|refine wc ?_|refine wd ?_|refine we ?_|refine wf rfl ?_|refine wj ?_|refine wk ?_|refine wl ?_|refine wm rfl ?_|refine StopK.mk ?_|refine BrK.t rfl ?_|refine BrK.f rfl ?_)
  |((with_reducible (first|refine wr ?_|refine wi ?_|refine wx ?_|refine wy ?_|refine wg ?_|refine wh ?_));(conv=>whnf))
  |((with_reducible (refine wu ?_));(conv=>whnf))
  |(with_reducible (refine ChkK.mk (by kernel_rfl) ?_))
  |(refine RowK.mk _ rfl ?_;(conv=>whnf))
  |((with_reducible refine InK.mk (inI (by(try dsimp only);omega) (by(try dsimp only);omega)) ?_);(conv=>whnf))
  |((with_reducible refine bK_split (λh=>?_) (λh=>?_))<;>(try rw[h])<;>(conv at h=>{simp}))
  |((refine callK_pure newE ?_);(conv=>whnf)))
 refine PreK.mk (by kernel_rfl) ?_
 conv=>whnf
 refine opk_zeros 4194305 (te:=5) (i:=4048) rfl rfl (by kernel_rfl) (by kernel_rfl) (by kernel_rfl) (by kernel_rfl) (λS hS=>?_)
 conv=>whnf
 repeat'(first
  |with_reducible (first|refine w1 ?_|refine w2 ?_|refine w3 ?_|refine w4 ?_|refine w5 ?_|refine w6 ?_|refine w7 ?_|refine w8 ?_|refine w9 ?_|refine wa ?_|refine wb ?_|refine wc ?_|refine wd ?_|refine we ?_|refine wf rfl ?_|refine wj ?_|refine wk ?_|refine wl ?_|refine wm rfl ?_|refine StopK.mk ?_|refine BrK.t rfl ?_|refine BrK.f rfl ?_)
  |((with_reducible (first|refine wr ?_|refine wi ?_|refine wx ?_|refine wy ?_|refine wg ?_|refine wh ?_));(conv=>whnf))
  |((with_reducible (refine wu ?_));(conv=>whnf))
  |(with_reducible (refine ChkK.mk (by kernel_rfl) ?_))
  |(refine RowK.mk _ rfl ?_;(conv=>whnf))
  |((with_reducible refine InK.mk (inI (by(try dsimp only);omega) (by(try dsimp only);omega)) ?_);(conv=>whnf))
  |((with_reducible refine bK_split (λh=>?_) (λh=>?_))<;>(try rw[h])<;>(conv at h=>{simp}))
  |((refine callK_pure (checkL S hS) ?_);(conv=>whnf))
  |((refine callK_pure (readL S hS) ?_);(conv=>whnf))
  |((refine callK_pure (wantL S hS) ?_);(conv=>whnf))
  |((refine callK_pure hl ?_);(conv=>whnf)))
 (refine endM_of rfl ?_<;>repeat'(first|exact True.intro|exact Or.inl rfl|exact Or.inr rfl|refine And.intro ?_ ?_))
end Go.Pv
namespace Go.Pv
def certL:List Nat:=[78,69,86,1,0,0,1,0,0,0,3,0,0,0,31,0,0,0,0,0,0,1,0,0,0,1,0,0,0,0,0,3,0,0,0,0,0,0,1,0,0,0,2,0,0,0,0,0,9,0,0,0,0,0,0,1,0,0,0,5,0,0,0,0,0,0,0,0,0,0,0,0,2,0,0,0,0,0,0,0,0,0,63,0,0,0,0,0,0,2,0,0,0,0,0,0,0,0,1,63,0,0,0,0,0,1,1,0,0,0,1,0,0,0,0,0,3,0,0,0,0,0,1,1,0,0,0,2,0,0,0,0,0,9,0,0,0,0,0,1,1,0,0,0,5,0,0,0,0,0,0,0,0,0,0,0,1,2,0,0,0,0,0,0,0,0,0,63,0,0,0,0,0,1,2,0,0,0,0,0,0,0,0,1,63,1,1,0,0,0,1,0,0,0,0,0,1,0,0,0,1,0,0,0,0,0,3,1,1,0,0,0,1,0,0,0,0,0,1,0,0,0,2,0,0,0,0,0,9,1,1,0,0,0,1,0,0,0,0,0,1,0,0,0,5,0,0,0,0,0,0,1,1,0,0,0,1,0,0,0,0,0,2,0,0,0,0,0,0,0,0,0,63,1,1,0,0,0,1,0,0,0,0,0,2,0,0,0,0,0,0,0,0,1,63,1,1,0,0,0,2,0,0,0,0,0,1,0,0,0,1,0,0,0,0,0,3,1,1,0,0,0,2,0,0,0,0,0,1,0,0,0,2,0,0,0,0,0,9,1,1,0,0,0,2,0,0,0,0,0,1,0,0,0,5,0,0,0,0,0,0,1,1,0,0,0,2,0,0,0,0,0,2,0,0,0,0,0,0,0,0,0,63,1,1,0,0,0,2,0,0,0,0,0,2,0,0,0,0,0,0,0,0,1,63,1,1,0,0,0,5,0,0,0,0,0,1,0,0,0,3,0,0,0,0,0,9,1,2,0,0,0,0,0,0,0,0,0,1,0,0,0,1,0,0,0,0,0,3,1,2,0,0,0,0,0,0,0,0,0,1,0,0,0,2,0,0,0,0,0,9,1,2,0,0,0,0,0,0,0,0,0,1,0,0,0,5,0,0,0,0,0,0,1,2,0,0,0,0,0,0,0,0,0,2,0,0,0,0,0,0,0,0,0,63,1,2,0,0,0,0,0,0,0,0,0,2,0,0,0,0,0,0,0,0,1,63,1,2,0,0,0,0,0,0,0,0,1,1,0,0,0,1,0,0,0,0,0,3,1,2,0,0,0,0,0,0,0,0,1,1,0,0,0,2,0,0,0,0,0,9,1,2,0,0,0,0,0,0,0,0,1,1,0,0,0,5,0,0,0,0,0,0,1,2,0,0,0,0,0,0,0,0,1,2,0,0,0,0,0,0,0,0,0,63,1,2,0,0,0,0,0,0,0,0,1,2,0,0,0,0,0,0,0,0,1,63]
def cx(k:Nat):ByteArray:=bs (certL.drop k)
def bR(k:Nat):List (List A):=(certL.take k).map λn=>[.d (.v (.int .u8 (.ofNat n)))]
def bC(k:Nat):List (List C):=(certL.take k).map λn=>[.v (.int .u8 (.ofNat n))]
def fk:List (K10×Int):=[(⟨0,0,0,0,0,0,1,1,0,0⟩,3),(⟨0,0,0,0,0,0,1,2,0,0⟩,9),(⟨0,0,0,0,0,0,1,5,0,0⟩,0),(⟨0,0,0,0,0,0,2,0,0,0⟩,63),(⟨0,0,0,0,0,0,2,0,1,0⟩,63),(⟨1,0,0,0,0,0,1,1,0,0⟩,3),(⟨1,0,0,0,0,0,1,2,0,0⟩,9),(⟨1,0,0,0,0,0,1,5,0,0⟩,0),(⟨1,0,0,0,0,0,2,0,0,0⟩,63),(⟨1,0,0,0,0,0,2,0,1,0⟩,63),(⟨0,0,1,1,0,0,1,1,0,0⟩,3),(⟨0,0,1,1,0,0,1,2,0,0⟩,9),(⟨0,0,1,1,0,0,1,5,0,0⟩,0),(⟨0,0,1,1,0,0,2,0,0,0⟩,63),(⟨0,0,1,1,0,0,2,0,1,0⟩,63),(⟨0,0,1,2,0,0,1,1,0,0⟩,3),(⟨0,0,1,2,0,0,1,2,0,0⟩,9),(⟨0,0,1,2,0,0,1,5,0,0⟩,0),(⟨0,0,1,2,0,0,2,0,0,0⟩,63),(⟨0,0,1,2,0,0,2,0,1,0⟩,63),(⟨0,0,1,5,0,0,1,3,0,0⟩,9),(⟨0,0,2,0,0,0,1,1,0,0⟩,3),(⟨0,0,2,0,0,0,1,2,0,0⟩,9),(⟨0,0,2,0,0,0,1,5,0,0⟩,0),(⟨0,0,2,0,0,0,2,0,0,0⟩,63),(⟨0,0,2,0,0,0,2,0,1,0⟩,63),(⟨0,0,2,0,1,0,1,1,0,0⟩,3),(⟨0,0,2,0,1,0,1,2,0,0⟩,9),(⟨0,0,2,0,1,0,1,5,0,0⟩,0),(⟨0,0,2,0,1,0,2,0,0,0⟩,63),(⟨0,0,2,0,1,0,2,0,1,0⟩,63)]
def fki:List Nat:=[0,1,2,3,4,10,11,12,13,14,15,16,17,18,19,20,21,22,23,24,25,26,27,28,29,30,5,6,7,8,9]
def K10.row(k:K10):List C:=[ci k.a,ci k.b,.v (.int .u8 k.c),ci k.d,ci k.e,ci k.f,.v (.int .u8 k.g),ci k.h,ci k.i,ci k.j]
def rC:List (List C):=fk.map λp=>p.1.row
def fks:List (K10×Int):=fki.map λi=>fk.getD i (⟨0,0,0,0,0,0,0,0,0,0⟩,0)
def sheC:C:=.agg [.sl 10 rC,.im (fks.map λp=>p.1.ky) (fks.map λp=>.v (.int .u8 p.2))]
def sheA:A:=.d sheC
def cansL(n:Int):List Int:=0::[1,2,4,8,16,32].filter λb=>Nat.beq (n.toNat/b.toNat %2) 1
def mayL(g:Nat):List (List A):=(fk.map λp=>(cansL p.2).map λc=>[A.lp g 0,.agg (p.1.row.map A.d++[.d (.v (.int .u8 c))])]).flatten
def ctP(g:Hd):Hd:=hitB 21 [sheC,.agg [ci 0,.v (.int .u8 1),ci 3]] (.sl 1 (bC 647)) g
end Go.Pv
namespace Go.Pv.NN
def j0:Ky:=.agg [(.int .i64 0),(.int .i64 0)]
def j1:Ky:=.agg [(.int .i64 1),(.int .i64 0)]
def j2:Ky:=.agg [(.int .u8 1),(.int .i64 1),(.int .i64 0),(.int .i64 0)]
def j3:Ky:=.agg [(.int .u8 1),(.int .i64 2),(.int .i64 0),(.int .i64 0)]
def j4:Ky:=.agg [(.int .u8 1),(.int .i64 3),(.int .i64 0),(.int .i64 0)]
def j5:Ky:=.agg [(.int .u8 1),(.int .i64 4),(.int .i64 0),(.int .i64 0)]
def j6:Ky:=.agg [(.int .u8 1),(.int .i64 5),(.int .i64 0),(.int .i64 0)]
def j7:Ky:=.agg [(.int .u8 2),(.int .i64 0),(.int .i64 0),(.int .i64 0)]
def j8:Ky:=.agg [(.int .u8 2),(.int .i64 0),(.int .i64 1),(.int .i64 0)]
def j9:Ky:=.agg [(.int .u8 3),(.int .i64 4),(.int .i64 0),(.int .i64 0)]
def j10:Ky:=.agg [(.int .u8 3),(.int .i64 4),(.int .i64 1),(.int .i64 0)]
def j11:Ky:=.agg [(.int .i64 1),(.int .u8 2)]
def j12:Ky:=.agg [(.int .i64 1),(.int .u8 1)]
def mMay:List (Nat×R):=[(2815,(.mp false [(j0,(.d (.v (.int .i64 0)))),(j1,(.d (.v (.int .i64 0))))] [])),(2819,(.mp false [] [])),(2811,(.mp false [((.one (.int .i64 1)),(.d (.v (.int .i64 1)))),((.one (.int .i64 2)),(.d (.v (.int .i64 2)))),((.one (.int .i64 3)),(.d (.v (.int .i64 3)))),((.one (.int .i64 4)),(.d (.v (.int .i64 4)))),((.one (.int .i64 5)),(.d (.v (.int .i64 5)))),((.one (.int .i64 6)),(.d (.v (.int .i64 1)))),((.one (.int .i64 7)),(.d (.v (.int .i64 1))))] [])),(2817,(.mp false [(j2,(.d (.v (.bool true)))),(j3,(.d (.v (.bool true)))),(j4,(.d (.v (.bool true)))),(j5,(.d (.v (.bool true)))),(j6,(.d (.v (.bool true)))),(j7,(.d (.v (.bool true)))),(j8,(.d (.v (.bool true)))),(j9,(.d (.v (.bool true)))),(j10,(.d (.v (.bool true))))] [])),(3169,(.osl false 168 6 [[(.d (.v (.string (bs [97])))),(.d (.v (.int .u8 4))),(.d (.v (.int .i64 0))),(.d (.v (.string (bs [])))),(.d (.nl 0)),(.d (.v (.int .i64 6)))],[(.d (.v (.string (bs [98])))),(.d (.v (.int .u8 4))),(.d (.v (.int .i64 0))),(.d (.v (.string (bs [])))),(.d (.nl 0)),(.d (.v (.int .i64 2)))]])),(3185,(.osl false 23 1 [[(.d (.v (.int .i64 6)))],[(.d (.v (.int .i64 2)))]])),(3641,(.osl false 52 2 [[(.d (.v (.int .i64 0))),(.d (.v (.int .i64 0)))],[(.d (.v (.int .i64 1))),(.d (.v (.int .i64 0)))]])),(2809,(.mp false [((.one (.int .i64 1)),(.agg [(.d (.v (.int .u8 1))),(.d (.v (.int .i64 0))),(.d (.v (.int .u8 0))),(.d (.v (.int .i64 0))),(.d (.v (.string (bs [])))),(.d (.nl 0)),(.d (.v (.int .i64 0))),(.d (.nl 5)),(.d (.v (.int .i64 0))),(.d (.v (.int .i64 0))),(.d (.v (.int .i64 0))),(.d (.v (.int .i64 0))),(.d (.v (.int .u8 0))),(.d (.v (.bool false))),(.d (.nl 17)),(.d (.nl 6))])),((.one (.int .i64 2)),(.agg [(.d (.v (.int .u8 2))),(.d (.v (.int .i64 0))),(.d (.v (.int .u8 0))),(.d (.v (.int .i64 0))),(.d (.v (.string (bs [])))),(.d (.nl 0)),(.d (.v (.int .i64 0))),(.d (.nl 5)),(.d (.v (.int .i64 0))),(.d (.v (.int .i64 0))),(.d (.v (.int .i64 0))),(.d (.v (.int .i64 0))),(.d (.v (.int .u8 0))),(.d (.v (.bool false))),(.d (.nl 17)),(.d (.nl 6))])),((.one (.int .i64 3)),(.agg [(.d (.v (.int .u8 2))),(.d (.v (.int .i64 0))),(.d (.v (.int .u8 0))),(.d (.v (.int .i64 0))),(.d (.v (.string (bs [])))),(.d (.nl 0)),(.d (.v (.int .i64 0))),(.d (.nl 5)),(.d (.v (.int .i64 0))),(.d (.v (.int .i64 0))),(.d (.v (.int .i64 0))),(.d (.v (.int .i64 0))),(.d (.v (.int .u8 0))),(.d (.v (.bool false))),(.d (.nl 17)),(.d (.nl 6))])),((.one (.int .i64 4)),(.agg [(.d (.v (.int .u8 5))),(.d (.v (.int .i64 0))),(.d (.v (.int .u8 0))),(.d (.v (.int .i64 0))),(.d (.v (.string (bs [])))),(.d (.nl 0)),(.d (.v (.int .i64 0))),(.d (.nl 5)),(.d (.v (.int .i64 0))),(.d (.v (.int .i64 0))),(.d (.v (.int .i64 0))),(.d (.v (.int .i64 0))),(.d (.v (.int .u8 0))),(.d (.v (.bool false))),(.d (.nl 17)),(.d (.nl 6))])),((.one (.int .i64 5)),(.agg [(.d (.v (.int .u8 7))),(.d (.v (.int .i64 0))),(.d (.v (.int .u8 4))),(.d (.v (.int .i64 0))),(.d (.v (.string (bs [])))),(.d (.nl 0)),(.d (.v (.int .i64 3))),(.d (.nl 5)),(.d (.v (.int .i64 0))),(.d (.v (.int .i64 0))),(.d (.v (.int .i64 4))),(.d (.v (.int .i64 0))),(.d (.v (.int .u8 0))),(.d (.v (.bool false))),(.d (.nl 17)),(.d (.nl 6))])),((.one (.int .i64 6)),(.agg [(.d (.v (.int .u8 14))),(.d (.v (.int .i64 0))),(.d (.v (.int .u8 0))),(.d (.v (.int .i64 0))),(.d (.v (.string (bs [])))),(.d (.nl 0)),(.d (.v (.int .i64 0))),(.d (.nl 5)),(.d (.v (.int .i64 0))),(.d (.v (.int .i64 0))),(.d (.v (.int .i64 1))),(.d (.v (.int .i64 0))),(.d (.v (.int .u8 2))),(.d (.v (.bool false))),(.d (.nl 17)),(.d (.nl 6))])),((.one (.int .i64 7)),(.agg [(.d (.v (.int .u8 14))),(.d (.v (.int .i64 0))),(.d (.v (.int .u8 0))),(.d (.v (.int .i64 0))),(.d (.v (.string (bs [])))),(.d (.nl 0)),(.d (.v (.int .i64 0))),(.d (.nl 5)),(.d (.v (.int .i64 0))),(.d (.v (.int .i64 0))),(.d (.v (.int .i64 1))),(.d (.v (.int .i64 0))),(.d (.v (.int .u8 1))),(.d (.v (.bool false))),(.d (.nl 17)),(.d (.nl 6))]))] [])),(2813,(.mp false [(j0,(.agg [(.d (.v (.int .u8 63))),(.d (.v (.bool true))),(.d (.v (.bool true)))])),(j1,(.agg [(.d (.v (.int .u8 63))),(.d (.v (.bool true))),(.d (.v (.bool true)))]))] [])),(3620,(.osl false 31 4 [[(.d (.v (.int .i64 0))),(.d (.nl 17)),(.h 3169),(.h 3185)],[(.d (.v (.int .i64 0))),(.d (.nl 17)),(.h 3586),(.h 3602)]])),(3586,(.osl false 168 6 [[(.d (.v (.string (bs [97])))),(.d (.v (.int .u8 4))),(.d (.v (.int .i64 0))),(.d (.v (.string (bs [])))),(.d (.nl 0)),(.d (.v (.int .i64 7)))],[(.d (.v (.string (bs [98])))),(.d (.v (.int .u8 4))),(.d (.v (.int .i64 0))),(.d (.v (.string (bs [])))),(.d (.nl 0)),(.d (.v (.int .i64 5)))]])),(3602,(.osl false 23 1 [[(.d (.v (.int .i64 7)))],[(.d (.v (.int .i64 5)))]])),(2822,(.cells false [(.d (.ip [(.nl 1),(.sl 1 [[(.v (.bool false))]]),(.im [(.one (.int .i64 1)),(.one (.int .i64 2)),(.one (.int .i64 3)),(.one (.int .i64 4)),(.one (.int .i64 5)),(.one (.int .i64 6)),(.one (.int .i64 7))] [(.ip [(.v (.int .u8 1)),(.v (.int .i64 0)),(.v (.int .u8 0)),(.v (.int .i64 0)),(.v (.string (bs []))),(.nl 0),(.v (.int .i64 0)),(.nl 5),(.v (.int .i64 0)),(.v (.int .i64 0)),(.v (.int .i64 0)),(.v (.int .i64 0)),(.v (.int .u8 0)),(.v (.bool false)),(.nl 17),(.nl 6)]),(.ip [(.v (.int .u8 2)),(.v (.int .i64 0)),(.v (.int .u8 0)),(.v (.int .i64 0)),(.v (.string (bs []))),(.nl 0),(.v (.int .i64 0)),(.nl 5),(.v (.int .i64 0)),(.v (.int .i64 0)),(.v (.int .i64 0)),(.v (.int .i64 0)),(.v (.int .u8 0)),(.v (.bool false)),(.nl 17),(.nl 6)]),(.ip [(.v (.int .u8 2)),(.v (.int .i64 0)),(.v (.int .u8 0)),(.v (.int .i64 0)),(.v (.string (bs []))),(.nl 0),(.v (.int .i64 0)),(.nl 5),(.v (.int .i64 0)),(.v (.int .i64 0)),(.v (.int .i64 0)),(.v (.int .i64 0)),(.v (.int .u8 0)),(.v (.bool false)),(.nl 17),(.nl 6)]),(.ip [(.v (.int .u8 5)),(.v (.int .i64 0)),(.v (.int .u8 0)),(.v (.int .i64 0)),(.v (.string (bs []))),(.nl 0),(.v (.int .i64 0)),(.nl 5),(.v (.int .i64 0)),(.v (.int .i64 0)),(.v (.int .i64 0)),(.v (.int .i64 0)),(.v (.int .u8 0)),(.v (.bool false)),(.nl 17),(.nl 6)]),(.ip [(.v (.int .u8 7)),(.v (.int .i64 0)),(.v (.int .u8 4)),(.v (.int .i64 0)),(.v (.string (bs []))),(.nl 0),(.v (.int .i64 3)),(.nl 5),(.v (.int .i64 0)),(.v (.int .i64 0)),(.v (.int .i64 4)),(.v (.int .i64 0)),(.v (.int .u8 0)),(.v (.bool false)),(.nl 17),(.nl 6)]),(.ip [(.v (.int .u8 14)),(.v (.int .i64 0)),(.v (.int .u8 0)),(.v (.int .i64 0)),(.v (.string (bs []))),(.nl 0),(.v (.int .i64 0)),(.nl 5),(.v (.int .i64 0)),(.v (.int .i64 0)),(.v (.int .i64 1)),(.v (.int .i64 0)),(.v (.int .u8 2)),(.v (.bool false)),(.nl 17),(.nl 6)]),(.ip [(.v (.int .u8 14)),(.v (.int .i64 0)),(.v (.int .u8 0)),(.v (.int .i64 0)),(.v (.string (bs []))),(.nl 0),(.v (.int .i64 0)),(.nl 5),(.v (.int .i64 0)),(.v (.int .i64 0)),(.v (.int .i64 1)),(.v (.int .i64 0)),(.v (.int .u8 1)),(.v (.bool false)),(.nl 17),(.nl 6)])]),(.im [j11,j12] [(.v (.int .i64 6)),(.v (.int .i64 7))]),(.v (.int .i64 7)),(.sl 1 [[(.v (.int .i64 5))]])])),(.h 3620),(.h 3641),(.h 6934),(.h 2809),(.h 2811),(.h 2813),(.h 2815),(.h 2817),(.h 2819)])),(6934,(.osl false 55 4 [[(.d (.v (.int .u8 1))),(.d (.v (.int .i64 1))),(.d (.v (.int .i64 0))),(.d (.v (.int .i64 0)))],[(.d (.v (.int .u8 1))),(.d (.v (.int .i64 2))),(.d (.v (.int .i64 0))),(.d (.v (.int .i64 0)))],[(.d (.v (.int .u8 1))),(.d (.v (.int .i64 3))),(.d (.v (.int .i64 0))),(.d (.v (.int .i64 0)))],[(.d (.v (.int .u8 1))),(.d (.v (.int .i64 4))),(.d (.v (.int .i64 0))),(.d (.v (.int .i64 0)))],[(.d (.v (.int .u8 1))),(.d (.v (.int .i64 5))),(.d (.v (.int .i64 0))),(.d (.v (.int .i64 0)))],[(.d (.v (.int .u8 2))),(.d (.v (.int .i64 0))),(.d (.v (.int .i64 0))),(.d (.v (.int .i64 0)))],[(.d (.v (.int .u8 2))),(.d (.v (.int .i64 0))),(.d (.v (.int .i64 1))),(.d (.v (.int .i64 0)))],[(.d (.v (.int .u8 3))),(.d (.v (.int .i64 4))),(.d (.v (.int .i64 0))),(.d (.v (.int .i64 0)))],[(.d (.v (.int .u8 3))),(.d (.v (.int .i64 4))),(.d (.v (.int .i64 1))),(.d (.v (.int .i64 0)))]]))]
def ctY(g:Hd):Hd:=hitT 90 (mayL 2822) mMay (.d (.v (.bool true))) g
end Go.Pv.NN
namespace Go.Pv.NN
open Go Go.Proofs Go.RowKit
def wC:C:=.ip (wD th7 fac7)
def lC:C:=.sl 4 [[ci 0,.nl 17,.sl 6 [[.v (.string (bs [97])),.v (.int .u8 4),ci 0,.v (.string (bs [])),.nl 5,ci 6],[.v (.string (bs [98])),.v (.int .u8 4),ci 0,.v (.string (bs [])),.nl 5,ci 2]],.sl 1 [[ci 6],[ci 2]]],[ci 0,.nl 17,.sl 6 [[.v (.string (bs [97])),.v (.int .u8 4),ci 0,.v (.string (bs [])),.nl 5,ci 7],[.v (.string (bs [98])),.v (.int .u8 4),ci 0,.v (.string (bs [])),.nl 5,ci 5]],.sl 1 [[ci 7],[ci 5]]]]
def qC(by_ able thing:Int):C:=.agg [ci by_,.v (.int .u8 able),ci thing]
def ctL:Hd:=hitV 4 [wC,qC 1 8 2,lC] (.tup [.d (cb false),.d (ci 0)]) (hitV 4 [wC,qC 0 1 3,lC] (.tup [.d (cb true),.d (ci 0)]) (hitV 5 [wC,qC 0 1 3,lC] (.tup [.d (.v (.string (cx 0))),.d (ci 0)]) (hitV 6 [wC,.v (.string (cx 0)),lC] (.tup [.agg [.d (ci 0),.d (.v (.int .u8 1)),.d (ci 3)],.d (ci 0)]) (hitV 5 [wC,qC 1 8 2,lC] (.tup [.d (.v (.string (bs []))),.d (ci 250)]) noCt))))
theorem pieceL:isTrueR (evH Tryz.prog ctL 60 (.fn 12) [] .nil 1)=true:=by kernel_rfl
end Go.Pv.NN
