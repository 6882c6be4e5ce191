import Derived.Test.YtgnnkajjlhmgkaaGreatDoorF5
import Derived.Test.YtgnnkajjlhmgkaaGreatDoorProg
import Derived.Sort.AssemblyPlain
import Derived.Sort.LotD5
/- Calls over maps in any order. -/
set_option linter.all false
set_option maxRecDepth 100000
set_option maxHeartbeats 8000000
open Go Go.Pv Go.Proofs
namespace Go.Pv
theorem mix:Tryz.prog.follows .mixedOrders=true:=by kernel_rfl
abbrev ci(n:Int):C:=.v (.int .i64 n)
abbrev cb(b:Bool):C:=.v (.bool b)
theorem neB{a b:Nat}(h:Nat.beq a b=false):a≠b:=λe=>by subst e;simp at h
theorem lenE{a b:Nat}(h:a=b):A.d (ci (a:Int))=A.d (ci (b:Int)):=by rw[h]
theorem intE{a b:Int}(h:a=b):A.d (ci a)=A.d (ci b):=by rw[h]
theorem inI{n:Int}(h:-9223372036854775808<=n)(h':n<=9223372036854775807):inR .i64 n:=inR_i64 h h'
theorem erase_len{α:Type}(L:List α)(i:Nat)(h:i<L.length):(L.eraseIdx i).length<L.length:=by rw[List.length_eraseIdx_of_lt h];omega
theorem rdT_i{m:Mem}{a b:Int}(h:a=b):RdT m (.d (ci a)) (.d (ci b)):=by subst h;exact .one (.d _)
def isR(r:Option (List Ot×Nat))(v:A):Bool:=match r with
 |some ([(r,[])],_)=>rtEqb r (.ok v)
 |_=>false
theorem closed_call{P:Program}(hmix:P.follows .mixedOrders=true){f:FuncId}{xs:List A}{v:A}{d nx:Nat}(h:isR (evH P noCt d (.fn f) xs .nil nx) v=true)(hx:(A.hsL xs).isEmpty=true):∀m,CallT P f xs m (.ok v) m:=by
 cases he:evH P noCt d (.fn f) xs .nil nx with
 |none=>rw[he]at h;cases h
 |some p=>
  obtain⟨outs,nx'⟩:=p
  rw[he]at h
  unfold isR at h
  split at h
  ·rename_i e
   simp only[Option.some.injEq,Prod.mk.injEq]at e
   obtain⟨rfl,rfl⟩:=e
   have hr:=rtEqb_eq h
   subst hr
   exact pure_of_run (evH_ok hmix noCt_ok d) hx he
  ·cases h
def pop6(x:Int):Int:=[0,1,1,2,1,2,2,3,1,2,2,3,2,3,3,4,1,2,2,3,2,3,3,4,2,3,3,4,3,4,4,5,1,2,2,3,2,3,3,4,2,3,3,4,3,4,4,5,2,3,3,4,3,4,4,5,3,4,4,5,4,5,5,6].getD x.toNat 0
theorem pop6_all:∀k:Fin 64,0<=pop6 k.val/\pop6 k.val<=6:=by decide
theorem pop6_bd(x:Int)(h0:0<=x)(h1:x<=63):0<=pop6 x/\pop6 x<=6:=by
 have:=pop6_all ⟨x.toNat,by omega⟩
 have hx:((x.toNat:Nat):Int)=x:=by omega
 simpa only[hx]using this
theorem count_all:((List.range 64).all λk=>isR (evH Tryz.prog noCt 8 (.fn 178) [.d (.v (.int .u8 k))] .nil 1) (.d (ci (pop6 k))))=true:=by kernel_rfl
theorem count_ok(x:Int)(h0:0<=x)(h1:x<=63):∀m,CallT Tryz.prog 178 [.d (.v (.int .u8 x))] m (.ok (.d (ci (pop6 x)))) m:=by
 have hx:((x.toNat:Nat):Int)=x:=by omega
 have:=List.all_eq_true.1 count_all x.toNat (List.mem_range.2 (by omega))
 rw[hx]at this
 exact closed_call mix this rfl
structure K10 where
 a:Int
 b:Int
 c:Int
 d:Int
 e:Int
 f:Int
 g:Int
 h:Int
 i:Int
 j:Int
def K10.ky(k:K10):Ky:=.agg [.int .i64 k.a,.int .i64 k.b,.int .u8 k.c,.int .i64 k.d,.int .i64 k.e,.int .i64 k.f,.int .u8 k.g,.int .i64 k.h,.int .i64 k.i,.int .i64 k.j]
def fkv(p:K10×Int):Ky×C:=(p.1.ky,.v (.int .u8 p.2))
abbrev factsC(L:List (K10×Int)):C:=.im (L.map λp=>p.1.ky) (L.map λp=>.v (.int .u8 p.2))
def lenI:List (K10×Int)->Int
 |[]=>0
 |p::r=>1+pop6 p.2+lenI r
theorem lenI_erase:∀(L:List (K10×Int))(i:Nat)(h:i<L.length),lenI L=1+pop6 L[i].2+lenI (L.eraseIdx i)
 |[],i,h=>by simp at h
 |a::r,0,h=>rfl
 |a::r,i+1,h=>by
  simp only[lenI,List.getElem_cons_succ,List.eraseIdx_cons_succ]
  rw[lenI_erase r i (by simpa using h)];omega
def okF(L:List (K10×Int)):Prop:=∀p∈L,0<=p.2/\p.2<=63
theorem lenI_bd:∀(L:List (K10×Int)),okF L->0<=lenI L/\lenI L<=7*L.length
 |[],_=>by simp[lenI]
 |p::r,h=>by
  have h1:=pop6_bd p.2 (h p (by simp)).1 (h p (by simp)).2
  have h2:=lenI_bd r λq hq=>h q (by simp[hq])
  simp only[lenI,List.length_cons];omega
theorem there_data(gl:List C)(c:C):∀m,CallT Tryz.prog 73 [.d (.ip [.ip gl,c])] m (.ok (.d (cb true))) m:=by
 refine pure_of_rd mix Tryz.func73 rfl (by kernel_rfl) (Nat.le_of_ble_eq_true rfl) rfl ?_
 repeat'(first
  |with_reducible (first|refine w1 ?_|refine w2 ?_|refine w3 ?_|refine w4 ?_|refine w5 ?_|refine w6 ?_|refine w7 ?_|refine w8 ?_|refine w9 ?_|refine wa ?_|refine wb ?_|refine wc ?_|refine wd ?_|refine we ?_|refine wf rfl ?_|refine wj ?_|refine wk ?_|refine wl ?_|refine wm rfl ?_|refine StopK.mk ?_|refine BrK.t rfl ?_|refine BrK.f rfl ?_)
  |((with_reducible (first|refine wr ?_|refine wi ?_|refine wx ?_|refine wy ?_|refine wg ?_|refine wh ?_));(conv=>whnf))
  |((with_reducible (refine wt (by decide) (by kernel_rfl) ?_));(conv=>whnf))
  |((with_reducible (refine wu ?_));(conv=>whnf))
  |(with_reducible (refine ChkK.mk (by kernel_rfl) ?_))
  |(refine RowK.mk _ rfl ?_;(conv=>whnf))
  |((with_reducible refine InK.mk (inI (by(try dsimp only);omega) (by(try dsimp only);omega)) ?_);(conv=>whnf))
  |((with_reducible refine bK_split (λh=>?_) (λh=>?_))<;>(try rw[h])<;>(conv at h=>{simp})))
 exact .one (.d _)
theorem len_data(gl:List C)(L0:List (K10×Int))(h0:okF L0)(hl:L0.length<=2^40):∀m,CallT Tryz.prog 121 [.d (.ip [.ip gl,factsC L0])] m (.ok (.d (ci (lenI L0)))) m:=by
 refine pure_of_rd mix Tryz.func121 rfl (by kernel_rfl) (Nat.le_of_ble_eq_true rfl) rfl ?_
 repeat'(first
  |with_reducible (first|refine w1 ?_|refine w2 ?_|refine w3 ?_|refine w4 ?_|refine w5 ?_|refine w6 ?_|refine w7 ?_|refine w8 ?_|refine w9 ?_|refine wa ?_|refine wb ?_|refine wc ?_|refine wd ?_|refine we ?_|refine wf rfl ?_|refine wj ?_|refine wk ?_|refine wl ?_|refine wm rfl ?_|refine StopK.mk ?_|refine BrK.t rfl ?_|refine BrK.f rfl ?_)
  |((with_reducible (first|refine wr ?_|refine wi ?_|refine wx ?_|refine wy ?_|refine wg ?_|refine wh ?_));(conv=>whnf))
  |((with_reducible (refine wt (by decide) (by kernel_rfl) ?_));(conv=>whnf))
  |((with_reducible (refine wu ?_));(conv=>whnf))
  |(with_reducible (refine ChkK.mk (by kernel_rfl) ?_))
  |(refine RowK.mk _ rfl ?_;(conv=>whnf))
  |((with_reducible refine InK.mk (inI (by(try dsimp only);omega) (by(try dsimp only);omega)) ?_);(conv=>whnf))
  |((with_reducible refine bK_split (λh=>?_) (λh=>?_))<;>(try rw[h])<;>(conv at h=>{simp}))
  |((refine callK_pure (there_data gl _) ?_);(conv=>whnf)))
 refine rngK_map rfl ?_
 conv=>whnf
 repeat'(first
  |with_reducible (first|refine w1 ?_|refine w2 ?_|refine w3 ?_|refine w4 ?_|refine w5 ?_|refine w6 ?_|refine w7 ?_|refine w8 ?_|refine w9 ?_|refine wa ?_|refine wb ?_|refine wc ?_|refine wd ?_|refine we ?_|refine wf rfl ?_|refine wj ?_|refine wk ?_|refine wl ?_|refine wm rfl ?_|refine StopK.mk ?_|refine BrK.t rfl ?_|refine BrK.f rfl ?_)
  |((with_reducible (first|refine wr ?_|refine wi ?_|refine wx ?_|refine wy ?_|refine wg ?_|refine wh ?_));(conv=>whnf))
  |((with_reducible (refine wt (by decide) (by kernel_rfl) ?_));(conv=>whnf))
  |((with_reducible (refine wu ?_));(conv=>whnf))
  |(with_reducible (refine ChkK.mk (by kernel_rfl) ?_))
  |(refine RowK.mk _ rfl ?_;(conv=>whnf))
  |((with_reducible refine InK.mk (inI (by(try dsimp only);omega) (by(try dsimp only);omega)) ?_);(conv=>whnf))
  |((with_reducible refine bK_split (λh=>?_) (λh=>?_))<;>(try rw[h])<;>(conv at h=>{simp})))
 have hb0:=lenI_bd L0 h0
 refine loop_inv mix (λa:Option (Ky×C)×List (K10×Int)×Int=>okF a.2.1/\a.2.1.length<=L0.length/\a.2.2+lenI a.2.1=lenI L0) (I:=λa=>[(12,.h 65),(3,.d (ci a.2.2))])
  (J:=λa=>[(65,.di a.1 (a.2.1.map fkv))]) (μ:=λa=>a.2.1.length) 100 (none,L0,0) ⟨h0,by simp,by simp⟩ (by(refine Moves.swap 5000 5001 ?_ ?_ ?_ ?_ ?_<;>repeat'(first|exact True.intro|exact rfl|exact Option.some_ne_none _|exact hsIn_osD|exact hsIn_facA|exact neB rfl|exact mkosl rfl rfl|exact mkfac rfl|exact mkmt rfl rfl|exact hsIn_mtA|exact mklo rfl (by assumption)|exact hlo _ (Option.some_ne_none _) (Option.some_ne_none _) (Option.some_ne_none _) (Option.some_ne_none _) (Option.some_ne_none _)|exact hlo _ (Option.some_ne_none _) (Option.some_ne_none _)|(refine lenE ?_;simp only[List.length_map,rowsD];done)|(refine intE ?_;(try dsimp only);omega)|refine And.intro ?_ ?_))) ?_
 rintro⟨cur,L,n⟩ ⟨h1,h2,h3⟩
 dsimp only at h1 h2 h3⊢
 have hb:=lenI_bd L h1
 repeat'(first
  |with_reducible (first|refine w1 ?_|refine w2 ?_|refine w3 ?_|refine w4 ?_|refine w5 ?_|refine w6 ?_|refine w7 ?_|refine w8 ?_|refine w9 ?_|refine wa ?_|refine wb ?_|refine wc ?_|refine wd ?_|refine we ?_|refine wf rfl ?_|refine wj ?_|refine wk ?_|refine wl ?_|refine wm rfl ?_|refine StopK.mk ?_|refine BrK.t rfl ?_|refine BrK.f rfl ?_)
  |((with_reducible (first|refine wr ?_|refine wi ?_|refine wx ?_|refine wy ?_|refine wg ?_|refine wh ?_));(conv=>whnf))
  |((with_reducible (refine wt (by decide) (by kernel_rfl) ?_));(conv=>whnf))
  |((with_reducible (refine wu ?_));(conv=>whnf))
  |(with_reducible (refine ChkK.mk (by kernel_rfl) ?_))
  |(refine RowK.mk _ rfl ?_;(conv=>whnf))
  |((with_reducible refine InK.mk (inI (by(try dsimp only);omega) (by(try dsimp only);omega)) ?_);(conv=>whnf))
  |((with_reducible refine bK_split (λh=>?_) (λh=>?_))<;>(try rw[h])<;>(conv at h=>{simp})))
 refine nextK_map (λh0=>?_) (λi hi=>?_)
 ·conv=>whnf
  repeat'(first
   |with_reducible (first|refine w1 ?_|refine w2 ?_|refine w3 ?_|refine w4 ?_|refine w5 ?_|refine w6 ?_|refine w7 ?_|refine w8 ?_|refine w9 ?_|refine wa ?_|refine wb ?_|refine wc ?_|refine wd ?_|refine we ?_|refine wf rfl ?_|refine wj ?_|refine wk ?_|refine wl ?_|refine wm rfl ?_|refine StopK.mk ?_|refine BrK.t rfl ?_|refine BrK.f rfl ?_)
   |((with_reducible (first|refine wr ?_|refine wi ?_|refine wx ?_|refine wy ?_|refine wg ?_|refine wh ?_));(conv=>whnf))
   |((with_reducible (refine wt (by decide) (by kernel_rfl) ?_));(conv=>whnf))
   |((with_reducible (refine wu ?_));(conv=>whnf))
   |(with_reducible (refine ChkK.mk (by kernel_rfl) ?_))
   |(refine RowK.mk _ rfl ?_;(conv=>whnf))
   |((with_reducible refine InK.mk (inI (by(try dsimp only);omega) (by(try dsimp only);omega)) ?_);(conv=>whnf))
   |((with_reducible refine bK_split (λh=>?_) (λh=>?_))<;>(try rw[h])<;>(conv at h=>{simp})))
  refine rdT_i ?_
  subst h0
  simpa [lenI]using h3
 ·have hs:=lenI_erase L i hi
  have hm:=h1 _ (List.getElem_mem hi)
  have ht:=pop6_bd L[i].2 hm.1 hm.2
  have he:okF (L.eraseIdx i):=λp hp=>h1 p (List.mem_of_mem_eraseIdx hp)
  have hbe:=lenI_bd _ he
  have hle:=List.length_eraseIdx_of_lt hi
  conv=>whnf
  repeat'(first
   |with_reducible (first|refine w1 ?_|refine w2 ?_|refine w3 ?_|refine w4 ?_|refine w5 ?_|refine w6 ?_|refine w7 ?_|refine w8 ?_|refine w9 ?_|refine wa ?_|refine wb ?_|refine wc ?_|refine wd ?_|refine we ?_|refine wf rfl ?_|refine wj ?_|refine wk ?_|refine wl ?_|refine wm rfl ?_|refine StopK.mk ?_|refine BrK.t rfl ?_|refine BrK.f rfl ?_)
   |((with_reducible (first|refine wr ?_|refine wi ?_|refine wx ?_|refine wy ?_|refine wg ?_|refine wh ?_));(conv=>whnf))
   |((with_reducible (refine wt (by decide) (by kernel_rfl) ?_));(conv=>whnf))
   |((with_reducible (refine wu ?_));(conv=>whnf))
   |(with_reducible (refine ChkK.mk (by kernel_rfl) ?_))
   |(refine RowK.mk _ rfl ?_;(conv=>whnf))
   |((with_reducible refine InK.mk (inI (by(try dsimp only);omega) (by(try dsimp only);omega)) ?_);(conv=>whnf))
   |((with_reducible refine bK_split (λh=>?_) (λh=>?_))<;>(try rw[h])<;>(conv at h=>{simp}))
   |((refine callK_pure (count_ok L[i].2 hm.1 hm.2) ?_);(conv=>whnf)))
  refine⟨(some (fkv L[i]),L.eraseIdx i,n+(1+pop6 L[i].2)),erase_len _ _ hi,⟨he,by dsimp only;omega,by dsimp only;omega⟩,?_⟩
  (refine Moves.swap 5000 5001 ?_ ?_ ?_ ?_ ?_<;>repeat'(first|exact True.intro|exact rfl|exact Option.some_ne_none _|exact hsIn_osD|exact hsIn_facA|exact neB rfl|exact mkosl rfl rfl|exact mkfac rfl|exact mkmt rfl rfl|exact hsIn_mtA|exact mklo rfl (by assumption)|exact hlo _ (Option.some_ne_none _) (Option.some_ne_none _) (Option.some_ne_none _) (Option.some_ne_none _) (Option.some_ne_none _)|exact hlo _ (Option.some_ne_none _) (Option.some_ne_none _)|(refine lenE ?_;simp only[List.length_map,rowsD];done)|(refine intE ?_;(try dsimp only);omega)|refine And.intro ?_ ?_))
end Go.Pv
open Go Go.Pv Go.Proofs
namespace Go.Pv
theorem perm_erase{α:Type}:∀(L:List α)(i:Nat)(h:i<L.length),L.Perm (L[i]::L.eraseIdx i)
 |[],i,h=>by simp at h
 |a::r,0,h=>.refl _
 |a::r,i+1,h=>by
  have:=perm_erase r i (by simpa using h)
  simp only[List.getElem_cons_succ,List.eraseIdx_cons_succ]
  exact(this.cons a).trans (.swap _ _ _)
def kyD:Ky->Option K10
 |.agg [.int .i64 a,.int .i64 b,.int .u8 c,.int .i64 d,.int .i64 e,.int .i64 f,.int .u8 g,.int .i64 h,.int .i64 i,.int .i64 j]=>some ⟨a,b,c,d,e,f,g,h,i,j⟩
 |_=>none
theorem kyD_ok{k:Ky}{q:K10}(h:kyD k=some q):k=q.ky:=by
 unfold kyD at h
 split at h
 ·simp only[Option.some.injEq]at h;subst h;rfl
 ·cases h
def decL:List Ky->List C->Option (List (K10×Int))
 |[],[]=>some []
 |k::ks,c::vs=>match c with
  |.v (.int .u8 (.ofNat n))=>match kyD k,decL ks vs with
   |some q,some l=>cond (Nat.ble n 63) (some ((q,.ofNat n)::l)) none
   |_,_=>none
  |_=>none
 |_,_=>none
theorem decL_ok:∀{ks:List Ky}{vs:List C}{L:List (K10×Int)},decL ks vs=some L->ks=L.map (λp=>p.1.ky)/\vs=L.map (λp=>.v (.int .u8 p.2))/\okF L
 |[],[],L,h=>by simp only[decL,Option.some.injEq]at h;subst h;exact⟨rfl,rfl,λp hp=>by simp at hp⟩
 |[],_::_,L,h=>by simp[decL]at h
 |_::_,[],L,h=>by simp[decL]at h
 |k::ks,c::vs,L,h=>by
  simp only[decL]at h
  split at h
  ·rename_i n
   split at h
   ·rename_i q l hq hl
    rw[Bool.cond_eq_ite]at h
    split at h
    ·rename_i hb
     simp only[Option.some.injEq]at h;subst h
     have hb:=Nat.le_of_ble_eq_true hb
     obtain⟨e1,e2,e3⟩:=decL_ok hl
     refine⟨by rw[kyD_ok hq,e1];rfl,by rw[e2];rfl,λp hp=>?_⟩
     simp only[List.mem_cons]at hp
     rcases hp with rfl|hp
     ·exact⟨Int.natCast_nonneg _,by simp only[Int.ofNat_eq_natCast];omega⟩
     ·exact e3 p hp
    ·cases h
   ·cases h
  ·cases h
def lenR(t:Tr R)(xs:List A):Option Int:=match xs with
 |[a]=>match rdA t 40 a with
  |some (.ip [.ip _,.im ks vs])=>match decL ks vs with
   |some L=>cond (Nat.ble L.length 1099511627776) (some (lenI L)) none
   |none=>none
  |_=>none
 |_=>none
def hitL(f0:Nat)(g:Hd):Hd:=λc xs t nx=>match c with
 |.fn f=>cond (Nat.beq f f0) (match lenR t xs with
   |some n=>some ([(.ok (.d (.v (.int .i64 n))),[])],nx)
   |none=>g c xs t nx) (g c xs t nx)
 |_=>g c xs t nx
theorem hitL_ok{g:Hd}(hg:HdOk Tryz.prog g):HdOk Tryz.prog (hitL 121 g):=by
 refine⟨λf xs t nx outs nx' h=>?_,λi xs t nx outs nx' h'=>hg.yl _ _ _ _ _ _ h',λf xs t nx outs nx' h'=>hg.ex _ _ _ _ _ _ h'⟩
 replace h:cond (Nat.beq f 121) (match lenR t xs with
  |some n=>some ([(.ok (.d (.v (.int .i64 n))),[])],nx)
  |none=>g (.fn f) xs t nx) (g (.fn f) xs t nx)=some (outs,nx'):=h
 cases hf:Nat.beq f 121 with
 |false=>rw[hf]at h;exact hg.fn _ _ _ _ _ _ h
 |true=>
  rw[hf]at h
  simp only[cond_true]at h
  have hf:=Nat.eq_of_beq_eq_true hf;subst hf
  split at h
  ·rename_i n hn
   simp only[Option.some.injEq,Prod.mk.injEq]at h
   obtain⟨rfl,rfl⟩:=h
   unfold lenR at hn
   split at hn
   ·rename_i a
    split at hn
    ·rename_i gl ks vs hr
     split at hn
     ·rename_i L hL
      rw[Bool.cond_eq_ite]at hn
      split at hn
      ·rename_i hb
       simp only[Option.some.injEq]at hn;subst hn
       obtain⟨rfl,rfl,h0⟩:=decL_ok hL
       exact⟨_,_,rfl,CallT.viewG (cs:=[.ip [.ip gl,factsC L]]) (len_data gl L h0 (Nat.le_of_ble_eq_true hb)) rfl (.cons (rdA_ok 40 _ _ hr) .nil)⟩
      ·cases hn
     ·cases hn
    ·cases hn
   ·cases hn
  ·exact hg.fn _ _ _ _ _ _ h
end Go.Pv
open Go Go.Pv Go.Proofs
namespace Go.Pv
structure T5 where
 ref:Int
 k:Int
 vk:Int
 r:Int
 of:Int
 set:Int
 e:Nat
def T5.cells(t:T5):List C:=[.v (.int .u8 t.k),ci 0,.v (.int .u8 t.vk),ci 0,.v (.string (bs [])),.nl t.e,ci t.r,.nl 5,ci 0,ci 0,ci t.of,ci 0,.v (.int .u8 t.set),cb false,.nl 17,.nl 6]
def T5.own(t:T5):T5:={t with e:=0}
def kI(r:Int):Ky:=.one (.int .i64 r)
def kF(r s:Int):Ky:=.agg [.int .i64 r,.int .u8 s]
def T5.kv(t:T5):Ky×C:=(kI t.ref,.ip t.cells)
def facA(F:List ((Int×Int)×Int)):List (Ky×A):=F.map λf=>(kF f.1.1 f.1.2,.d (ci f.2))
def th5:List T5:=[⟨1,1,0,0,0,0,0⟩,⟨2,2,0,0,0,0,0⟩,⟨3,14,0,0,1,1,5⟩,⟨4,14,0,0,1,2,5⟩,⟨5,2,0,0,0,0,0⟩]
def wD(L:List T5)(F:List ((Int×Int)×Int)):List C:=[.nl 1,.sl 1 [[cb false]],.im (L.map λt=>kI t.ref) (L.map λt=>.ip t.cells),.im (F.map λf=>kF f.1.1 f.1.2) (F.map λf=>ci f.2),ci 5,.sl 1 [[ci 3]]]
def fac5:List ((Int×Int)×Int):=[((1,1),3),((1,2),4)]
theorem facA_hs(F:List ((Int×Int)×Int)):A.hsL ((facA F).map (·.2))=[]:=by
 induction F with
 |nil=>rfl
 |cons p L ih=>exact ih
theorem hsIn_facA{ml:List (Nat×R)}{F:List ((Int×Int)×Int)}{fz:Bool}:HsIn ml (R.mp fz (facA F) []).hs:=by
 show HsIn _ (A.hsL ((facA F).map (·.2))++[])
 rw[facA_hs];trivial
theorem mkfac{ml:List (Nat×R)}{i:Nat}{g:Nat->Nat}{fz:Bool}{F:List ((Int×Int)×Int)}(h:memO ml i=some (.mp fz (facA F) [])):(memO ml i).map (R.ren g)=some (.mp fz (facA F) []):=by
 rw[h]
 show some (R.mp fz ((facA F).map λp=>(p.1,p.2.ren g)) [])=_
 congr 2
 unfold facA
 rw[List.map_map]
 rfl
end Go.Pv
open Go Go.Pv Go.Proofs
namespace Go.Pv
theorem rdT_b{m:Mem}{a b:Bool}(h:a=b):RdT m (.d (cb a)) (.d (cb b)):=by subst h;exact .one (.d _)
abbrev iR(L:List Int):List (List C):=L.map λx=>[ci x]
theorem rowsD_get(L:List (List C))(i:Nat)(r:List C)(h:L[i]?=some r):(rowsD L)[i]?=some (r.map A.d):=by
 simp[rowsD,h]
theorem rowsD_set(L:List (List C))(i:Nat)(r:List C):(rowsD L).set i (r.map A.d)=rowsD (L.set i r):=by
 simp[rowsD,List.map_set]
theorem iR_app(a b:List Int):iR (a++b)=iR a++iR b:=List.map_append
theorem rows_app1(a b:List Int):rowsD (iR a)++(iR b).map (λx=>x.map A.d)=rowsD (iR (a++b)):=by rw[iR_app,rowsD_append];rfl
theorem szk{n b:Nat}{X:Prop}(h:n<=2^38)(hb:Nat.ble b 512=true)(hx:X):SzK n b X:=
 ⟨Nat.le_trans (Nat.mul_le_mul h (Nat.le_of_ble_eq_true hb)) (by decide),hx⟩
theorem isNaN_ok(a:Int):∀m,CallT Tryz.prog 269 [.d (ci a)] m (.ok (.d (cb false))) m:=by
 refine pure_of_rd mix Tryz.func269 rfl (by kernel_rfl) (Nat.le_of_ble_eq_true rfl) rfl ?_
 repeat'(first
  |with_reducible (first|refine w1 ?_|refine w2 ?_|refine w3 ?_|refine w4 ?_|refine w5 ?_|refine w6 ?_|refine w7 ?_|refine w8 ?_|refine w9 ?_|refine wa ?_|refine wb ?_|refine wc ?_|refine wd ?_|refine we ?_|refine wf rfl ?_|refine wj ?_|refine wk ?_|refine wl ?_|refine wm rfl ?_|refine StopK.mk ?_|refine BrK.t rfl ?_|refine BrK.f rfl ?_)
  |((with_reducible (first|refine wr ?_|refine wi ?_|refine wx ?_|refine wy ?_|refine wg ?_|refine wh ?_));(conv=>whnf))
  |((with_reducible (refine wt (by decide) (by kernel_rfl) ?_));(conv=>whnf))
  |((with_reducible (refine wu ?_));(conv=>whnf))
  |(with_reducible (refine ChkK.mk (by kernel_rfl) ?_))
  |(refine RowK.mk _ rfl ?_;(conv=>whnf))
  |((with_reducible refine InK.mk (inI (by(try dsimp only);omega) (by(try dsimp only);omega)) ?_);(conv=>whnf))
  |((with_reducible refine bK_split (λh=>?_) (λh=>?_))<;>(try rw[h])<;>(conv at h=>{simp})))
 refine rdT_b ?_;simp
theorem less_ok(a b:Int):∀m,CallT Tryz.prog 236 [.d (ci a),.d (ci b)] m (.ok (.d (cb (decide (a<b))))) m:=by
 refine pure_of_rd mix Tryz.func236 rfl (by kernel_rfl) (Nat.le_of_ble_eq_true rfl) rfl ?_
 repeat'(first
  |with_reducible (first|refine w1 ?_|refine w2 ?_|refine w3 ?_|refine w4 ?_|refine w5 ?_|refine w6 ?_|refine w7 ?_|refine w8 ?_|refine w9 ?_|refine wa ?_|refine wb ?_|refine wc ?_|refine wd ?_|refine we ?_|refine wf rfl ?_|refine wj ?_|refine wk ?_|refine wl ?_|refine wm rfl ?_|refine StopK.mk ?_|refine BrK.t rfl ?_|refine BrK.f rfl ?_)
  |((with_reducible (first|refine wr ?_|refine wi ?_|refine wx ?_|refine wy ?_|refine wg ?_|refine wh ?_));(conv=>whnf))
  |((with_reducible (refine wt (by decide) (by kernel_rfl) ?_));(conv=>whnf))
  |((with_reducible (refine wu ?_));(conv=>whnf))
  |(with_reducible (refine ChkK.mk (by kernel_rfl) ?_))
  |(refine RowK.mk _ rfl ?_;(conv=>whnf))
  |((with_reducible refine InK.mk (inI (by(try dsimp only);omega) (by(try dsimp only);omega)) ?_);(conv=>whnf))
  |((with_reducible refine bK_split (λh=>?_) (λh=>?_))<;>(try rw[h])<;>(conv at h=>{simp}))
  |((refine callK_pure (isNaN_ok _) ?_);(conv=>whnf)))
 all_goals(refine rdT_b ?_;try simp_all)
abbrev arR(d:Array Int):R:=osD 27 1 (iR d.toList)
abbrev ltZ(a b:Int):Bool:=decide (a<b)
theorem arR_get(d:Array Int)(i:Nat)(h:i<d.size):(rowsD (iR d.toList))[i]?=some [.d (ci d[i]!)]:=by
 refine rowsD_get _ _ [ci d[i]!] ?_
 rw[List.getElem?_map]
 simp[h]
theorem arR_set(d:Array Int)(i:Nat)(v:Int):(rowsD (iR d.toList)).set i [.d (ci v)]=rowsD (iR (d.setIfInBounds i v).toList):=by
 refine(rowsD_set _ i [ci v]).trans ?_
 rw[Array.toList_setIfInBounds,iR,iR,List.map_set]
theorem insInner_stop(a j:Nat)(f:Array Int)(h:¬(a<j/\f[j]! <f[j -1]!)):Go.Sort.insInner ltZ a j f=f:=by
 cases j with
 |zero=>rfl
 |succ k=>
  rw[Go.Sort.insInner,if_neg]
  simpa using h
theorem insInner_go(a j:Nat)(f:Array Int)(h:a<j)(h2:f[j]! <f[j -1]!):Go.Sort.insInner ltZ a j f=Go.Sort.insInner ltZ a (j -1) (Go.Sort.swp f j (j -1)):=by
 cases j with
 |zero=>omega
 |succ k=>
  rw[Go.Sort.insInner,if_pos];·rfl
  simpa using⟨h,h2⟩
theorem arR_swp(f:Array Int)(i j:Nat):((rowsD (iR f.toList)).set i [.d (ci f[j]!)]).set j [.d (ci f[i]!)]=rowsD (iR (Go.Sort.swp f i j).toList):=by
 rw[arR_set,arR_set];rfl
theorem insSort_ok(d:Array Int)(a b:Nat)(ha:a<=b)(hb:b<=d.size)(hd:d.size<=2^40):CallT Tryz.prog 230 [.h 0,.d (ci a),.d (ci b)] (memO [(0,arR d)]) (.ok (.tup [])) (applyU (memO [(0,arR d)]) [(0,arR (Go.Sort.insertionSort ltZ d a b))]):=by
 refine mem_of_vcL mix 100 Tryz.func230 rfl (by kernel_rfl) (Nat.le_of_ble_eq_true rfl) trivial ⟨hsIn_osD,trivial⟩ ?_
 repeat'(first
  |with_reducible (first|refine w1 ?_|refine w2 ?_|refine w3 ?_|refine w4 ?_|refine w5 ?_|refine w6 ?_|refine w7 ?_|refine w8 ?_|refine w9 ?_|refine wa ?_|refine wb ?_|refine wc ?_|refine wd ?_|refine we ?_|refine wf rfl ?_|refine wj ?_|refine wk ?_|refine wl ?_|refine wm rfl ?_|refine StopK.mk ?_|refine BrK.t rfl ?_|refine BrK.f rfl ?_)
  |((with_reducible (first|refine wr ?_|refine wi ?_|refine wx ?_|refine wy ?_|refine wg ?_|refine wh ?_));(conv=>whnf))
  |((with_reducible (refine wt (by decide) (by kernel_rfl) ?_));(conv=>whnf))
  |((with_reducible (refine wu ?_));(conv=>whnf))
  |(with_reducible (refine ChkK.mk (by kernel_rfl) ?_))
  |(refine RowK.mk _ rfl ?_;(conv=>whnf))
  |((with_reducible refine InK.mk (inI (by(try dsimp only);omega) (by(try dsimp only);omega)) ?_);(conv=>whnf))
  |((with_reducible refine bK_split (λh=>?_) (λh=>?_))<;>(try rw[h])<;>(conv at h=>{simp})))
 refine loop_inv mix (λs:Nat×Array Int=>a+1<=s.1/\s.1<=b+1/\s.2.size=d.size/\Go.Sort.insOuter ltZ a b s.1 s.2=Go.Sort.insertionSort ltZ d a b) (I:=λs=>[(0,.h 0),(1,.d (ci a)),(2,.d (ci b)),(6,.d (ci s.1))])
  (J:=λs=>[(0,arR s.2)]) (μ:=λs=>b+1 -s.1) 200 (a+1,d) ⟨by simp,by simpa using ha,rfl,rfl⟩ (by(refine Moves.swap 5000 5001 ?_ ?_ ?_ ?_ ?_<;>repeat'(first|exact True.intro|exact rfl|exact Option.some_ne_none _|exact hsIn_osD|exact hsIn_facA|exact neB rfl|exact mkosl rfl rfl|exact mkfac rfl|exact mkmt rfl rfl|exact hsIn_mtA|exact mklo rfl (by assumption)|exact hlo _ (Option.some_ne_none _) (Option.some_ne_none _) (Option.some_ne_none _) (Option.some_ne_none _) (Option.some_ne_none _)|exact hlo _ (Option.some_ne_none _) (Option.some_ne_none _)|(refine lenE ?_;simp only[List.length_map,rowsD];done)|(refine intE ?_;(try dsimp only);omega)|refine And.intro ?_ ?_))) ?_
 rintro⟨i,e⟩ ⟨h1,h2,h3,h4⟩
 dsimp only at h1 h2 h3 h4⊢
 repeat'(first
  |with_reducible (first|refine w1 ?_|refine w2 ?_|refine w3 ?_|refine w4 ?_|refine w5 ?_|refine w6 ?_|refine w7 ?_|refine w8 ?_|refine w9 ?_|refine wa ?_|refine wb ?_|refine wc ?_|refine wd ?_|refine we ?_|refine wf rfl ?_|refine wj ?_|refine wk ?_|refine wl ?_|refine wm rfl ?_|refine StopK.mk ?_|refine BrK.t rfl ?_|refine BrK.f rfl ?_)
  |((with_reducible (first|refine wr ?_|refine wi ?_|refine wx ?_|refine wy ?_|refine wg ?_|refine wh ?_));(conv=>whnf))
  |((with_reducible (refine wt (by decide) (by kernel_rfl) ?_));(conv=>whnf))
  |((with_reducible (refine wu ?_));(conv=>whnf))
  |(with_reducible (refine ChkK.mk (by kernel_rfl) ?_))
  |(refine RowK.mk _ rfl ?_;(conv=>whnf))
  |((with_reducible refine InK.mk (inI (by(try dsimp only);omega) (by(try dsimp only);omega)) ?_);(conv=>whnf))
  |((with_reducible refine bK_split (λh=>?_) (λh=>?_))<;>(try rw[h])<;>(conv at h=>{simp})))
 ·refine loop_inv mix (λs:Nat×Array Int=>s.1<=i/\s.2.size=d.size/\Go.Sort.insInner ltZ a s.1 s.2=Go.Sort.insInner ltZ a i e) (I:=λs=>[(0,.h 0),(1,.d (ci a)),(2,.d (ci b)),(6,.d (ci i)),(7,.d (ci s.1))])
   (J:=λs=>[(0,arR s.2)]) (μ:=λs=>s.1) 300 (i,e) ⟨by simp,h3,rfl⟩ (by(refine Moves.swap 5000 5001 ?_ ?_ ?_ ?_ ?_<;>repeat'(first|exact True.intro|exact rfl|exact Option.some_ne_none _|exact hsIn_osD|exact hsIn_facA|exact neB rfl|exact mkosl rfl rfl|exact mkfac rfl|exact mkmt rfl rfl|exact hsIn_mtA|exact mklo rfl (by assumption)|exact hlo _ (Option.some_ne_none _) (Option.some_ne_none _) (Option.some_ne_none _) (Option.some_ne_none _) (Option.some_ne_none _)|exact hlo _ (Option.some_ne_none _) (Option.some_ne_none _)|(refine lenE ?_;simp only[List.length_map,rowsD];done)|(refine intE ?_;(try dsimp only);omega)|refine And.intro ?_ ?_))) ?_
  rintro⟨j,f⟩ ⟨g1,g2,g3⟩
  dsimp only at g1 g2 g3⊢
  repeat'(first
   |with_reducible (first|refine w1 ?_|refine w2 ?_|refine w3 ?_|refine w4 ?_|refine w5 ?_|refine w6 ?_|refine w7 ?_|refine w8 ?_|refine w9 ?_|refine wa ?_|refine wb ?_|refine wc ?_|refine wd ?_|refine we ?_|refine wf rfl ?_|refine wj ?_|refine wk ?_|refine wl ?_|refine wm rfl ?_|refine StopK.mk ?_|refine BrK.t rfl ?_|refine BrK.f rfl ?_)
   |((with_reducible (first|refine wr ?_|refine wi ?_|refine wx ?_|refine wy ?_|refine wg ?_|refine wh ?_));(conv=>whnf))
   |((with_reducible (refine wu ?_));(conv=>whnf))
   |(with_reducible (refine ChkK.mk (by kernel_rfl) ?_))
   |(refine RowK.mk _ rfl ?_;(conv=>whnf))
   |((with_reducible refine InK.mk (inI (by(try dsimp only);omega) (by(try dsimp only);omega)) ?_);(conv=>whnf))
   |((with_reducible refine bK_split (λh=>?_) (λh=>?_))<;>(try rw[h])<;>(conv at h=>{simp}))
   |((refine OwnK.mk j rfl (by simp only[rowsD,List.length_set,List.length_map,Array.length_toList];omega) ?_);(conv=>whnf))
   |((refine OwnK.mk (j -1) (by omega) (by simp only[rowsD,List.length_set,List.length_map,Array.length_toList];omega) ?_);(conv=>whnf))
   |((refine RowK.mk _ (arR_get f j (by omega)) ?_);(conv=>whnf))
   |((refine RowK.mk _ (arR_get f (j -1) (by omega)) ?_);(conv=>whnf))
   |((refine RowK.mk _ ((List.getElem?_set_ne (by omega)).trans (arR_get f (j -1) (by omega))) ?_);(conv=>whnf))
   |((refine dcallK_pure (less_ok _ _) ?_);(conv=>whnf)))
  ·refine⟨(j -1,Go.Sort.swp f j (j -1)),by dsimp only;omega,⟨by dsimp only;omega,by simp[Go.Sort.swp,g2],?_⟩,?_⟩
   ·dsimp only;rw[<-insInner_go a j f (by assumption) (by assumption)];exact g3
   ·(refine Moves.swap 5000 5001 ?_ ?_ ?_ ?_ ?_<;>repeat'(first|exact True.intro|exact rfl|exact Option.some_ne_none _|exact hsIn_osD|exact hsIn_facA|exact neB rfl|exact mkosl rfl rfl|exact mkfac rfl|exact mkmt rfl rfl|exact hsIn_mtA|exact mklo rfl (by assumption)|exact hlo _ (Option.some_ne_none _) (Option.some_ne_none _) (Option.some_ne_none _) (Option.some_ne_none _) (Option.some_ne_none _)|exact hlo _ (Option.some_ne_none _) (Option.some_ne_none _)|(refine lenE ?_;simp only[List.length_map,rowsD];done)|(refine intE ?_;(try dsimp only);omega)|refine And.intro ?_ ?_))
    exact mkosl rfl (arR_swp f j (j -1))
  all_goals
   have hst:Go.Sort.insInner ltZ a j f=f:=insInner_stop a j f (by omega)
   rw[hst]at g3
   refine⟨(i+1,f),by dsimp only;omega,⟨by dsimp only;omega,by dsimp only;omega,g2,?_⟩,by(refine Moves.swap 5000 5001 ?_ ?_ ?_ ?_ ?_<;>repeat'(first|exact True.intro|exact rfl|exact Option.some_ne_none _|exact hsIn_osD|exact hsIn_facA|exact neB rfl|exact mkosl rfl rfl|exact mkfac rfl|exact mkmt rfl rfl|exact hsIn_mtA|exact mklo rfl (by assumption)|exact hlo _ (Option.some_ne_none _) (Option.some_ne_none _) (Option.some_ne_none _) (Option.some_ne_none _) (Option.some_ne_none _)|exact hlo _ (Option.some_ne_none _) (Option.some_ne_none _)|(refine lenE ?_;simp only[List.length_map,rowsD];done)|(refine intE ?_;(try dsimp only);omega)|refine And.intro ?_ ?_))⟩
   dsimp only
   rw[<-h4,Go.Sort.insOuter.eq_def ltZ a b i e,if_pos (by assumption),g3]
 ·refine endM_of rfl ⟨.inr ?_,.inl rfl,trivial⟩
  rw[<-h4,Go.Sort.insOuter.eq_def ltZ a b i e,if_neg (by omega)];rfl
theorem sort_small(d:Array Int)(hd:d.size<=12):(Go.Sort.insertionSort ltZ d 0 d.size).toList=d.toList.mergeSort (λx y=>decide (x<=y)):=by
 have h:=Go.Sort.sortInt d.toList
 rw[Array.toArray_toList]at h
 have e:Go.Sort.sort ltZ d=Go.Sort.insertionSort ltZ d 0 d.size:=by
  unfold Go.Sort.sort
  rw[Go.Sort.pdq.eq_def,if_pos (by omega)]
 rw[<-e]
 exact h
theorem pdq5(d:Array Int)(hd:d.size=5):CallT Tryz.prog 195 [.h 0,.d (ci 0),.d (ci 5),.d (ci 3)] (memO [(0,arR d)]) (.ok (.tup [])) (applyU (memO [(0,arR d)]) [(0,arR (Go.Sort.insertionSort ltZ d 0 d.size))]):=by
 have h:=insSort_ok d 0 5 (by omega) (by omega) (by omega)
 rw[hd]
 refine mem_of_vcL mix 100 Tryz.func195 rfl (by kernel_rfl) (Nat.le_of_ble_eq_true rfl) trivial ⟨hsIn_osD,trivial⟩ ?_
 repeat'(first
  |with_reducible (first|refine w1 ?_|refine w2 ?_|refine w3 ?_|refine w4 ?_|refine w5 ?_|refine w6 ?_|refine w7 ?_|refine w8 ?_|refine w9 ?_|refine wa ?_|refine wb ?_|refine wc ?_|refine wd ?_|refine we ?_|refine wf rfl ?_|refine wj ?_|refine wk ?_|refine wl ?_|refine wm rfl ?_|refine StopK.mk ?_|refine BrK.t rfl ?_|refine BrK.f rfl ?_)
  |((with_reducible (first|refine wr ?_|refine wi ?_|refine wx ?_|refine wy ?_|refine wg ?_|refine wh ?_));(conv=>whnf))
  |((with_reducible (refine wu ?_));(conv=>whnf))
  |(with_reducible (refine ChkK.mk (by kernel_rfl) ?_))
  |(refine RowK.mk _ rfl ?_;(conv=>whnf))
  |((with_reducible refine InK.mk (inI (by(try dsimp only);omega) (by(try dsimp only);omega)) ?_);(conv=>whnf))
  |((with_reducible refine bK_split (λh=>?_) (λh=>?_))<;>(try rw[h])<;>(conv at h=>{simp})))
 refine loop_inv mix (λ_:Unit=>True) (I:=λ_=>[(0,.h 0),(1,.d (ci 0)),(2,.d (ci 5))]) (J:=λ_=>[(0,arR d)]) (μ:=λ_=>0) 1000 () trivial (by(refine Moves.swap 5000 5001 ?_ ?_ ?_ ?_ ?_<;>repeat'(first|exact True.intro|exact rfl|exact Option.some_ne_none _|exact hsIn_osD|exact hsIn_facA|exact neB rfl|exact mkosl rfl rfl|exact mkfac rfl|exact mkmt rfl rfl|exact hsIn_mtA|exact mklo rfl (by assumption)|exact hlo _ (Option.some_ne_none _) (Option.some_ne_none _) (Option.some_ne_none _) (Option.some_ne_none _) (Option.some_ne_none _)|exact hlo _ (Option.some_ne_none _) (Option.some_ne_none _)|(refine lenE ?_;simp only[List.length_map,rowsD];done)|(refine intE ?_;(try dsimp only);omega)|refine And.intro ?_ ?_))) ?_
 rintro _ _
 repeat'(first
  |with_reducible (first|refine w1 ?_|refine w2 ?_|refine w3 ?_|refine w4 ?_|refine w5 ?_|refine w6 ?_|refine w7 ?_|refine w8 ?_|refine w9 ?_|refine wa ?_|refine wb ?_|refine wc ?_|refine wd ?_|refine we ?_|refine wf rfl ?_|refine wj ?_|refine wk ?_|refine wl ?_|refine wm rfl ?_|refine StopK.mk ?_|refine BrK.t rfl ?_|refine BrK.f rfl ?_)
  |((with_reducible (first|refine wr ?_|refine wi ?_|refine wx ?_|refine wy ?_|refine wg ?_|refine wh ?_));(conv=>whnf))
  |((with_reducible (refine wu ?_));(conv=>whnf))
  |(with_reducible (refine ChkK.mk (by kernel_rfl) ?_))
  |(refine RowK.mk _ rfl ?_;(conv=>whnf))
  |((with_reducible refine InK.mk (inI (by(try dsimp only);omega) (by(try dsimp only);omega)) ?_);(conv=>whnf))
  |((with_reducible refine bK_split (λh=>?_) (λh=>?_))<;>(try rw[h])<;>(conv at h=>{simp}))
  |((refine CallK.mk _ _ h ?_);(conv=>whnf)))
 (refine endM_of rfl ?_<;>repeat'(first|exact True.intro|exact Or.inl rfl|exact Or.inr rfl|refine And.intro ?_ ?_))
theorem bits5(n:Int)(hn:n=5):∀m,CallT Tryz.prog 196 [.d (.v (.int .u64 n))] m (.ok (.d (ci 3))) m:=by
 subst hn
 exact closed_call (d:=8) (nx:=1) mix (by kernel_rfl) rfl
theorem pdq5'(d:Array Int)(hd:d.size=5)(n:Int)(hn:n=5):CallT Tryz.prog 195 [.h 0,.d (ci 0),.d (ci n),.d (ci 3)] (memO [(0,arR d)]) (.ok (.tup [])) (applyU (memO [(0,arR d)]) [(0,arR (Go.Sort.insertionSort ltZ d 0 d.size))]):=by
 subst hn
 exact pdq5 d hd
theorem u64_5{n:Int}(hn:n=5):inR .u64 n:=by subst hn;decide
theorem sort5(d:Array Int)(hd:d.size=5):CallT Tryz.prog 153 [.h 0] (memO [(0,arR d)]) (.ok (.tup [])) (applyU (memO [(0,arR d)]) [(0,arR (Go.Sort.insertionSort ltZ d 0 d.size))]):=by
 have hl:(((rowsD (iR d.toList)).length:Nat):Int)=5:=by simp[rowsD,hd]
 refine mem_of_vcL mix 100 Tryz.func153 rfl (by kernel_rfl) (Nat.le_of_ble_eq_true rfl) trivial ⟨hsIn_osD,trivial⟩ ?_
 repeat'(first
  |with_reducible (first|refine w1 ?_|refine w2 ?_|refine w3 ?_|refine w4 ?_|refine w5 ?_|refine w6 ?_|refine w7 ?_|refine w8 ?_|refine w9 ?_|refine wa ?_|refine wb ?_|refine wc ?_|refine wd ?_|refine we ?_|refine wf rfl ?_|refine wj ?_|refine wk ?_|refine wl ?_|refine wm rfl ?_|refine StopK.mk ?_|refine BrK.t rfl ?_|refine BrK.f rfl ?_)
  |((with_reducible (first|refine wr ?_|refine wi ?_|refine wx ?_|refine wy ?_|refine wg ?_|refine wh ?_));(conv=>whnf))
  |((with_reducible (refine wu ?_));(conv=>whnf))
  |(with_reducible (refine ChkK.mk (by kernel_rfl) ?_))
  |(refine RowK.mk _ rfl ?_;(conv=>whnf))
  |((with_reducible refine InK.mk (inI (by(try dsimp only);omega) (by(try dsimp only);omega)) ?_);(conv=>whnf))
  |((with_reducible refine bK_split (λh=>?_) (λh=>?_))<;>(try rw[h])<;>(conv at h=>{simp}))
  |((refine InK.mk (u64_5 hl) ?_);(conv=>whnf))
  |((refine callK_pure (bits5 _ hl) ?_);(conv=>whnf))
  |((refine CallK.mk _ _ (pdq5' d hd _ hl) ?_);(conv=>whnf)))
 (refine endM_of rfl ?_<;>repeat'(first|exact True.intro|exact Or.inl rfl|exact Or.inr rfl|refine And.intro ?_ ?_))
theorem sort_of{L M:List Int}(hM:M.Pairwise (· <·))(hp:L.Perm M)(hl:L.length=5):Go.Sort.insertionSort ltZ L.toArray 0 L.toArray.size=M.toArray:=by
 have h:(Go.Sort.insertionSort ltZ L.toArray 0 L.toArray.size).toList=M:=by
  rw[sort_small _ (by simp[hl])]
  have h1:(L.mergeSort λx y=>decide (x<=y)).Perm M:=(List.mergeSort_perm _ _).trans hp
  have h2:(L.mergeSort λx y=>decide (x<=y)).Pairwise λa b=>decide (a<=b)=true:=List.pairwise_mergeSort (λa b c h1 h2=>by simp only[decide_eq_true_eq]at*;omega) (λa b=>by simp only[Bool.or_eq_true,decide_eq_true_eq];omega) L
  have h3:M.Pairwise λa b=>decide (a<=b)=true:=hM.imp λh=>by simp only[decide_eq_true_eq];omega
  exact h1.eq_of_pairwise (λa b _ _ h1 h2=>by simp only[decide_eq_true_eq]at*;omega) h2 h3
 exact Array.ext' (by rw[h])
def refs5L:List Int:=[1,2,3,4,5]
theorem refs5(W:List T5)(F:List ((Int×Int)×Int))(hW:W.map (·.ref)=refs5L):∀(m:Mem)(d:Nat),m d=none->CallT Tryz.prog 97 [.d (.ip (wD W F))] m (.ok (.h d)) (setM m d (osD 27 1 (iR refs5L))):=by
 refine fresh_of_vc mix (F:=A.h) (r:=osD 27 1 (iR refs5L)) Tryz.func97 rfl (by kernel_rfl) (Nat.le_of_ble_eq_true rfl) rfl (osD_hs _ _ _) (λ_ _=>rfl) (λi j hj=>by simpa [A.hs]using hj) (λg=>osD_ren g _ _ _) ?_
 have hWl:W.length=5:=by
  have:=congrArg List.length hW
  simpa [refs5L]using this
 repeat'(first
  |with_reducible (first|refine w1 ?_|refine w2 ?_|refine w3 ?_|refine w4 ?_|refine w5 ?_|refine w6 ?_|refine w7 ?_|refine w8 ?_|refine w9 ?_|refine wa ?_|refine wb ?_|refine wc ?_|refine wd ?_|refine we ?_|refine wf rfl ?_|refine wj ?_|refine wk ?_|refine wl ?_|refine wm rfl ?_|refine StopK.mk ?_|refine BrK.t rfl ?_|refine BrK.f rfl ?_)
  |((with_reducible (first|refine wr ?_|refine wi ?_|refine wx ?_|refine wy ?_|refine wg ?_|refine wh ?_));(conv=>whnf))
  |((with_reducible (refine wt (by decide) (by kernel_rfl) ?_));(conv=>whnf))
  |((with_reducible (refine wu ?_));(conv=>whnf))
  |(with_reducible (refine ChkK.mk (by kernel_rfl) ?_))
  |(refine RowK.mk _ rfl ?_;(conv=>whnf))
  |((with_reducible refine InK.mk (inI (by(try dsimp only);omega) (by(try dsimp only);omega)) ?_);(conv=>whnf))
  |((with_reducible refine bK_split (λh=>?_) (λh=>?_))<;>(try rw[h])<;>(conv at h=>{simp})))
 refine PreK.mk (by simp only[List.length_map,hWl];kernel_rfl) ?_
 conv=>whnf
 repeat'(first
  |with_reducible (first|refine w1 ?_|refine w2 ?_|refine w3 ?_|refine w4 ?_|refine w5 ?_|refine w6 ?_|refine w7 ?_|refine w8 ?_|refine w9 ?_|refine wa ?_|refine wb ?_|refine wc ?_|refine wd ?_|refine we ?_|refine wf rfl ?_|refine wj ?_|refine wk ?_|refine wl ?_|refine wm rfl ?_|refine StopK.mk ?_|refine BrK.t rfl ?_|refine BrK.f rfl ?_)
  |((with_reducible (first|refine wr ?_|refine wi ?_|refine wx ?_|refine wy ?_|refine wg ?_|refine wh ?_));(conv=>whnf))
  |((with_reducible (refine wt (by decide) (by kernel_rfl) ?_));(conv=>whnf))
  |((with_reducible (refine wu ?_));(conv=>whnf))
  |(with_reducible (refine ChkK.mk (by kernel_rfl) ?_))
  |(refine RowK.mk _ rfl ?_;(conv=>whnf))
  |((with_reducible refine InK.mk (inI (by(try dsimp only);omega) (by(try dsimp only);omega)) ?_);(conv=>whnf))
  |((with_reducible refine bK_split (λh=>?_) (λh=>?_))<;>(try rw[h])<;>(conv at h=>{simp})))
 refine rngK_map (L:=W) (f:=λt=>kI t.ref) (g:=λt=>.ip t.cells) rfl ?_
 conv=>whnf
 repeat'(first
  |with_reducible (first|refine w1 ?_|refine w2 ?_|refine w3 ?_|refine w4 ?_|refine w5 ?_|refine w6 ?_|refine w7 ?_|refine w8 ?_|refine w9 ?_|refine wa ?_|refine wb ?_|refine wc ?_|refine wd ?_|refine we ?_|refine wf rfl ?_|refine wj ?_|refine wk ?_|refine wl ?_|refine wm rfl ?_|refine StopK.mk ?_|refine BrK.t rfl ?_|refine BrK.f rfl ?_)
  |((with_reducible (first|refine wr ?_|refine wi ?_|refine wx ?_|refine wy ?_|refine wg ?_|refine wh ?_));(conv=>whnf))
  |((with_reducible (refine wt (by decide) (by kernel_rfl) ?_));(conv=>whnf))
  |((with_reducible (refine wu ?_));(conv=>whnf))
  |(with_reducible (refine ChkK.mk (by kernel_rfl) ?_))
  |(refine RowK.mk _ rfl ?_;(conv=>whnf))
  |((with_reducible refine InK.mk (inI (by(try dsimp only);omega) (by(try dsimp only);omega)) ?_);(conv=>whnf))
  |((with_reducible refine bK_split (λh=>?_) (λh=>?_))<;>(try rw[h])<;>(conv at h=>{simp})))
 refine loop_cut mix (λa:Option (Ky×C)×List T5×List Int=>(a.2.2++a.2.1.map (·.ref)).Perm refs5L) (I:=λa=>[(3,.h 900),(15,.h 97)])
  (J:=λa=>[(900,osD 27 1 (iR a.2.2)),(97,.di a.1 (a.2.1.map T5.kv))]) (μ:=λa=>a.2.1.length) 1000 (none,W,[]) 0
  (λQ:List Int=>Q.Perm refs5L) (λQ=>[(3,.h 900)]) (λQ=>[(900,osD 27 1 (iR Q))]) 2000 (by show(W.map (·.ref)).Perm _;rw[hW]) (by(refine Moves.swap 49 900 ?_ ?_ ?_ ?_ ?_<;>repeat'(first|exact True.intro|exact rfl|exact Option.some_ne_none _|exact hsIn_osD|exact hsIn_facA|exact neB rfl|exact mkosl rfl rfl|exact mkfac rfl|exact mkmt rfl rfl|exact hsIn_mtA|exact mklo rfl (by assumption)|exact hlo _ (Option.some_ne_none _) (Option.some_ne_none _) (Option.some_ne_none _) (Option.some_ne_none _) (Option.some_ne_none _)|exact hlo _ (Option.some_ne_none _) (Option.some_ne_none _)|(refine lenE ?_;simp only[List.length_map,rowsD];done)|(refine intE ?_;(try dsimp only);omega)|refine And.intro ?_ ?_))) ?_ ?_
 ·rintro⟨cur,L,Q⟩ hp
  dsimp only at hp⊢
  have hlen:=hp.length_eq
  simp only[List.length_append,List.length_map,refs5L,List.length_cons,List.length_nil]at hlen
  repeat'(first
   |with_reducible (first|refine w1 ?_|refine w2 ?_|refine w3 ?_|refine w4 ?_|refine w5 ?_|refine w6 ?_|refine w7 ?_|refine w8 ?_|refine w9 ?_|refine wa ?_|refine wb ?_|refine wc ?_|refine wd ?_|refine we ?_|refine wf rfl ?_|refine wj ?_|refine wk ?_|refine wl ?_|refine wm rfl ?_|refine StopK.mk ?_|refine BrK.t rfl ?_|refine BrK.f rfl ?_)
   |((with_reducible (first|refine wr ?_|refine wi ?_|refine wx ?_|refine wy ?_|refine wg ?_|refine wh ?_));(conv=>whnf))
   |((with_reducible (refine wt (by decide) (by kernel_rfl) ?_));(conv=>whnf))
   |((with_reducible (refine wu ?_));(conv=>whnf))
   |(with_reducible (refine ChkK.mk (by kernel_rfl) ?_))
   |(refine RowK.mk _ rfl ?_;(conv=>whnf))
   |((with_reducible refine InK.mk (inI (by(try dsimp only);omega) (by(try dsimp only);omega)) ?_);(conv=>whnf))
   |((with_reducible refine bK_split (λh=>?_) (λh=>?_))<;>(try rw[h])<;>(conv at h=>{simp})))
  refine nextK_map (λh0=>?_) (λi hi=>?_)
  ·conv=>whnf
   repeat'(first
    |with_reducible (first|refine w1 ?_|refine w2 ?_|refine w3 ?_|refine w4 ?_|refine w5 ?_|refine w6 ?_|refine w7 ?_|refine w8 ?_|refine w9 ?_|refine wa ?_|refine wb ?_|refine wc ?_|refine wd ?_|refine we ?_|refine wf rfl ?_|refine wj ?_|refine wk ?_|refine wl ?_|refine wm rfl ?_|refine StopK.mk ?_|refine BrK.t rfl ?_|refine BrK.f rfl ?_)
    |((with_reducible (first|refine wr ?_|refine wi ?_|refine wx ?_|refine wy ?_|refine wg ?_|refine wh ?_));(conv=>whnf))
    |((with_reducible (refine wt (by decide) (by kernel_rfl) ?_));(conv=>whnf))
    |((with_reducible (refine wu ?_));(conv=>whnf))
    |(with_reducible (refine ChkK.mk (by kernel_rfl) ?_))
    |(refine RowK.mk _ rfl ?_;(conv=>whnf))
    |((with_reducible refine InK.mk (inI (by(try dsimp only);omega) (by(try dsimp only);omega)) ?_);(conv=>whnf))
    |((with_reducible refine bK_split (λh=>?_) (λh=>?_))<;>(try rw[h])<;>(conv at h=>{simp})))
   subst h0
   refine⟨Q,by simpa using hp,?_⟩
   (refine Moves.swap 5000 5001 ?_ ?_ ?_ ?_ ?_<;>repeat'(first|exact True.intro|exact rfl|exact Option.some_ne_none _|exact hsIn_osD|exact hsIn_facA|exact neB rfl|exact mkosl rfl rfl|exact mkfac rfl|exact mkmt rfl rfl|exact hsIn_mtA|exact mklo rfl (by assumption)|exact hlo _ (Option.some_ne_none _) (Option.some_ne_none _) (Option.some_ne_none _) (Option.some_ne_none _) (Option.some_ne_none _)|exact hlo _ (Option.some_ne_none _) (Option.some_ne_none _)|(refine lenE ?_;simp only[List.length_map,rowsD];done)|(refine intE ?_;(try dsimp only);omega)|refine And.intro ?_ ?_))
  ·conv=>whnf
   repeat'(first
    |with_reducible (first|refine w1 ?_|refine w2 ?_|refine w3 ?_|refine w4 ?_|refine w5 ?_|refine w6 ?_|refine w7 ?_|refine w8 ?_|refine w9 ?_|refine wa ?_|refine wb ?_|refine wc ?_|refine wd ?_|refine we ?_|refine wf rfl ?_|refine wj ?_|refine wk ?_|refine wl ?_|refine wm rfl ?_|refine StopK.mk ?_|refine BrK.t rfl ?_|refine BrK.f rfl ?_)
    |((with_reducible (first|refine wr ?_|refine wi ?_|refine wx ?_|refine wy ?_|refine wg ?_|refine wh ?_));(conv=>whnf))
    |((with_reducible (refine wt (by decide) (by kernel_rfl) ?_));(conv=>whnf))
    |((with_reducible (refine wu ?_));(conv=>whnf))
    |(with_reducible (refine ChkK.mk (by kernel_rfl) ?_))
    |(refine RowK.mk _ rfl ?_;(conv=>whnf))
    |((with_reducible refine InK.mk (inI (by(try dsimp only);omega) (by(try dsimp only);omega)) ?_);(conv=>whnf))
    |((with_reducible refine bK_split (λh=>?_) (λh=>?_))<;>(try rw[h])<;>(conv at h=>{simp})))
   refine szk (by simp only[List.length_map,rowsD,List.length_set,List.length_replicate];omega) (by kernel_rfl) ?_
   conv=>whnf
   repeat'(first
    |with_reducible (first|refine w1 ?_|refine w2 ?_|refine w3 ?_|refine w4 ?_|refine w5 ?_|refine w6 ?_|refine w7 ?_|refine w8 ?_|refine w9 ?_|refine wa ?_|refine wb ?_|refine wc ?_|refine wd ?_|refine we ?_|refine wf rfl ?_|refine wj ?_|refine wk ?_|refine wl ?_|refine wm rfl ?_|refine StopK.mk ?_|refine BrK.t rfl ?_|refine BrK.f rfl ?_)
    |((with_reducible (first|refine wr ?_|refine wi ?_|refine wx ?_|refine wy ?_|refine wg ?_|refine wh ?_));(conv=>whnf))
    |((with_reducible (refine wt (by decide) (by kernel_rfl) ?_));(conv=>whnf))
    |((with_reducible (refine wu ?_));(conv=>whnf))
    |(with_reducible (refine ChkK.mk (by kernel_rfl) ?_))
    |(refine RowK.mk _ rfl ?_;(conv=>whnf))
    |((with_reducible refine InK.mk (inI (by(try dsimp only);omega) (by(try dsimp only);omega)) ?_);(conv=>whnf))
    |((with_reducible refine bK_split (λh=>?_) (λh=>?_))<;>(try rw[h])<;>(conv at h=>{simp})))
   refine⟨(some (T5.kv L[i]),L.eraseIdx i,Q++[L[i].ref]),erase_len _ _ hi,?_,?_⟩
   ·dsimp only
    refine List.Perm.trans ?_ hp
    rw[List.append_assoc]
    refine List.Perm.append_left _ ?_
    have:=(perm_erase L i hi).map (λt:T5=>t.ref)
    exact this.symm
   ·skip
    (refine Moves.swap 1064 900 ?_ ?_ ?_ ?_ ?_<;>repeat'(first|exact True.intro|exact rfl|exact Option.some_ne_none _|exact hsIn_osD|exact hsIn_facA|exact neB rfl|exact mkosl rfl rfl|exact mkfac rfl|exact mkmt rfl rfl|exact hsIn_mtA|exact mklo rfl (by assumption)|exact hlo _ (Option.some_ne_none _) (Option.some_ne_none _) (Option.some_ne_none _) (Option.some_ne_none _) (Option.some_ne_none _)|exact hlo _ (Option.some_ne_none _) (Option.some_ne_none _)|(refine lenE ?_;simp only[List.length_map,rowsD];done)|(refine intE ?_;(try dsimp only);omega)|refine And.intro ?_ ?_))
    all_goals exact mkosl rfl (rows_app1 Q [L[i].ref])
 rintro Q hQ
 have hlen:=hQ.length_eq
 simp only[refs5L,List.length_cons,List.length_nil]at hlen
 have hs:=sort_of (by decide) hQ hlen
 repeat'(first
  |with_reducible (first|refine w1 ?_|refine w2 ?_|refine w3 ?_|refine w4 ?_|refine w5 ?_|refine w6 ?_|refine w7 ?_|refine w8 ?_|refine w9 ?_|refine wa ?_|refine wb ?_|refine wc ?_|refine wd ?_|refine we ?_|refine wf rfl ?_|refine wj ?_|refine wk ?_|refine wl ?_|refine wm rfl ?_|refine StopK.mk ?_|refine BrK.t rfl ?_|refine BrK.f rfl ?_)
  |((with_reducible (first|refine wr ?_|refine wi ?_|refine wx ?_|refine wy ?_|refine wg ?_|refine wh ?_));(conv=>whnf))
  |((with_reducible (refine wt (by decide) (by kernel_rfl) ?_));(conv=>whnf))
  |((with_reducible (refine wu ?_));(conv=>whnf))
  |(with_reducible (refine ChkK.mk (by kernel_rfl) ?_))
  |(refine RowK.mk _ rfl ?_;(conv=>whnf))
  |((with_reducible refine InK.mk (inI (by(try dsimp only);omega) (by(try dsimp only);omega)) ?_);(conv=>whnf))
  |((with_reducible refine bK_split (λh=>?_) (λh=>?_))<;>(try rw[h])<;>(conv at h=>{simp}))
  |((refine callK_upd 900 (arR (Go.Sort.insertionSort ltZ Q.toArray 0 Q.toArray.size)) ((sort5 Q.toArray (by simp[hlen])).lift1 (osD_hs _ _ _) (λg=>osD_ren g _ _ _) (λg=>osD_ren g _ _ _) rfl (by simp[A.hsL,A.hs]) (memO _) 900 rfl) ?_);(conv=>whnf)))
 rw[hs]
 exact⟨_,rfl,rfl⟩
end Go.Pv
open Go Go.Pv Go.Proofs
namespace Go.Pv
abbrev cu(n:Int):C:=.v (.int .u8 n)
abbrev ct(l:List Nat):C:=.v (.string (bs l))
def w0C:C:=.ip (wD th5 fac5)
def w0oC:C:=.ip (wD (th5.map T5.own) fac5)
def owns:List T5:=[⟨2,2,0,0,0,0,0⟩,⟨1,1,0,0,0,0,0⟩,⟨1,1,4,2,0,0,0⟩,⟨3,14,0,0,1,1,0⟩,⟨4,14,0,0,1,2,0⟩,⟨3,14,0,0,1,1,5⟩,⟨4,14,0,0,1,2,5⟩]
def hitO(f0:Nat):List T5->Hd->Hd
 |[],g=>g
 |t::r,g=>hitV f0 [.agg t.cells] (.agg (t.own.cells.map A.d)) (hitO f0 r g)
def rfC:C:=.sl 1 [[ci 1],[ci 2],[ci 3],[ci 4],[ci 5]]
def ctBn(fr fo fl:Nat):Hd:=hitB fr [w0C] rfC (hitB fr [w0oC] rfC (hitO fo owns (hitL fl noCt)))
end Go.Pv
open Go Go.Pv Go.Proofs
namespace Go.Pv
theorem hitO_ok{g:Hd}(hg:HdOk Tryz.prog g):∀L:List T5,(L.all λt=>isM (evH Tryz.prog noCt 40 (.fn 22) [.d (.agg t.cells)] .nil 1) (.agg (t.own.cells.map A.d)))=true->HdOk Tryz.prog (hitO 22 L g)
 |[],_=>hg
 |t::r,h=>by
  simp only[List.all_cons,Bool.and_eq_true]at h
  exact hitV_ok (hitO_ok hg r h.2) (pure_of_isM (evH_ok mix noCt_ok 40) rfl h.1) rfl
theorem refsB(W:List T5)(F:List ((Int×Int)×Int))(hW:W.map (·.ref)=refs5L)(xs:List A)(m:Mem)(h:RdL m xs [.ip (wD W F)]):CallT Tryz.prog 97 xs m (.ok (.d rfC)) m:=
 CallT.viewB (cs:=[.ip (wD W F)]) (L:=iR refs5L) (i:=1) (te:=27) (refs5 W F hW (λ_=>none) 1 rfl) (by rw[setM_eq];rfl) (by kernel_rfl) h
def ctB:Hd:=ctBn 97 22 121
theorem ctB_ok:HdOk Tryz.prog ctB:=
 hitB_ok (hitB_ok (hitO_ok (hitL_ok noCt_ok) owns (by kernel_rfl)) (refsB (th5.map T5.own) fac5 rfl)) (refsB th5 fac5 rfl)
end Go.Pv
