import Derived.Test.YtefgfnbifbkanaaGreatDoorF5
import Derived.Test.YtefgfnbifbkanaaGreatDoorProg
/- Contracts of the program's functions. -/
set_option linter.all false
set_option maxRecDepth 100000
set_option maxHeartbeats 8000000
open Go Go.Pv Go.Proofs
namespace Go.Pv
theorem mix:Tryz.prog.follows .mixedOrders=true:=by kernel_rfl
abbrev ci(n:Int):C:=.v (.int .i64 n)
abbrev cb(b:Bool):C:=.v (.bool b)
theorem neB{a b:Nat}(h:Nat.beq a b=false):a≠b:=λe=>by subst e;simp at h
theorem lenE{a b:Nat}(h:a=b):A.d (ci (a:Int))=A.d (ci (b:Int)):=by rw[h]
theorem intE{a b:Int}(h:a=b):A.d (ci a)=A.d (ci b):=by rw[h]
theorem inI{n:Int}(h:-9223372036854775808<=n)(h':n<=9223372036854775807):inR .i64 n:=inR_i64 h h'
theorem erase_len{α:Type}(L:List α)(i:Nat)(h:i<L.length):(L.eraseIdx i).length<L.length:=by rw[List.length_eraseIdx_of_lt h];omega
def isR(r:Option (List Ot×Nat))(v:A):Bool:=match r with
 |some ([(r,[])],_)=>rtEqb r (.ok v)
 |_=>false
theorem closed_call{P:Program}(hmix:P.follows .mixedOrders=true){f:FuncId}{xs:List A}{v:A}{d nx:Nat}(h:isR (evH P noCt d (.fn f) xs .nil nx) v=true)(hx:(A.hsL xs).isEmpty=true):∀m,CallT P f xs m (.ok v) m:=by
 cases he:evH P noCt d (.fn f) xs .nil nx with
 |none=>rw[he]at h;cases h
 |some p=>
  obtain⟨outs,nx'⟩:=p
  rw[he]at h
  unfold isR at h
  split at h
  ·rename_i e
   simp only[Option.some.injEq,Prod.mk.injEq]at e
   obtain⟨rfl,rfl⟩:=e
   have hr:=rtEqb_eq h
   subst hr
   exact pure_of_run (evH_ok hmix noCt_ok d) hx he
  ·cases h
theorem rowsD_get(L:List (List C))(i:Nat)(r:List C)(h:L[i]?=some r):(rowsD L)[i]?=some (r.map A.d):=by
 simp[rowsD,h]
theorem rowsD_set(L:List (List C))(i:Nat)(r:List C):(rowsD L).set i (r.map A.d)=rowsD (L.set i r):=by
 simp[rowsD,List.map_set]
theorem szk{n b:Nat}{X:Prop}(h:n<=2^38)(hb:Nat.ble b 512=true)(hx:X):SzK n b X:=
 ⟨Nat.le_trans (Nat.mul_le_mul h (Nat.le_of_ble_eq_true hb)) (by decide),hx⟩
theorem CallT.useI{P:Program}{f:FuncId}{xs:List A}{mb u ml:List (Nat×R)}{v:A}(h:CallT P f xs (memO mb) (.ok v) (applyU (memO mb) u))(hhs:HsIn mb (A.hsL xs))(hm:SubM ml mb)(hcl:ClM mb mb)(hfr:FrU ml mb u):CallT P f xs (memO ml) (.ok v) (applyU (memO ml) u):=
 CallT.frame h hhs.at hm.at (λi r hi=>hcl.at i r hi) hfr.at
end Go.Pv
namespace Go.Pv
open Go Go.Proofs Go.RowKit
def ctE:Hd:=λc xs t nx=>match c with
 |.ex f=>cond (Nat.beq f 21) (match xs with
   |[a]=>match ifcOf a with
    |some (k,_)=>cond (Nat.beq k 40) (some ([(.ok (.d (.ifc 135 (.agg [.v (.pointer (some ⟨1,40,none⟩))]))),[])],nx)) none
    |none=>none
   |_=>none) (cond (Nat.beq f 281) (match xs with
   |[.d (.agg [.v (.pointer (some ⟨1,40,none⟩))])]=>some ([(.ok (.d (.v (.bool true))),[])],nx)
   |_=>none) none)
 |_=>none
def cmpE:Array Value->Sem Value:=Extern.ReflectliteType.method λt=>do Extern.Rtype.noPackHeld "Comparable" t;pure (.bool (<-typeInfo t).comparable)
theorem typeOf40(v:Value)(w:World):(Extern.ReflectliteType.typeOf #[.iface 40 v]).run Tryz.prog w=.ok (.iface 135 (.agg #[.pointer (some ⟨1,40,none⟩)])) w:=by kernel_rfl
theorem comp40(w:World):(cmpE #[.agg #[.pointer (some ⟨1,40,none⟩)]]).run Tryz.prog w=.ok (.bool true) w:=by kernel_rfl
theorem ext21{a:A}{x:A}(ha:ifcOf a=some (40,x)):ExT Tryz.prog 21 [a] (.d (.ifc 135 (.agg [.v (.pointer (some ⟨1,40,none⟩))]))):=by
 intro w M m ρ vs hd
 simp only[A.DenL]at hd
 obtain⟨y,yr,rfl,hy,rfl⟩:=hd
 obtain⟨v,rfl,_⟩:=ifcOf_den ha hy
 have h:=run_ext (P:=Tryz.prog) (f:=21) (e:=Extern.ReflectliteType.typeOf) (by kernel_rfl) (by kernel_rfl) (by kernel_rfl) (by kernel_rfl) #[.iface 40 v] w
 refine⟨.iface 135 (.agg #[.pointer (some ⟨1,40,none⟩)]),?_,?_⟩
 ·show(callFunc 21 #[.iface 40 v]).run Tryz.prog w=_
  rw[h,typeOf40];rfl
 ·simp only[A.Den,C.Den]
  exact⟨_,rfl,#[.pointer (some ⟨1,40,none⟩)],rfl,by simp[Value.oneCell'],by simp[C.DenL,C.Den]⟩
theorem ext281:ExT Tryz.prog 281 [.d (.agg [.v (.pointer (some ⟨1,40,none⟩))])] (.d (.v (.bool true))):=by
 intro w M m ρ vs hd
 simp only[A.DenL]at hd
 obtain⟨y,yr,rfl,hy,rfl⟩:=hd
 simp only[A.Den,C.Den]at hy
 obtain⟨l,rfl,_,hl⟩:=hy
 simp only[C.DenL,C.Den]at hl
 obtain⟨z,zr,hz,rfl,rfl⟩:=hl
 have e:l= #[.pointer (some ⟨1,40,none⟩)]:=by apply Array.ext';simpa using hz
 subst e
 have h:=run_ext (P:=Tryz.prog) (f:=281) (e:=cmpE) (by kernel_rfl) (by kernel_rfl) (by kernel_rfl) (by kernel_rfl) #[.agg #[.pointer (some ⟨1,40,none⟩)]] w
 refine⟨.bool true,?_,by simp only[A.Den,C.Den]⟩
 show(callFunc 281 #[.agg #[.pointer (some ⟨1,40,none⟩)]]).run Tryz.prog w=_
 rw[h,comp40];rfl
theorem ctE_ok:HdOk Tryz.prog ctE:=by
 refine⟨λf xs t nx outs nx' h=>(by cases h),λi xs t nx outs nx' h=>(by cases h),λf xs t nx outs nx' h=>?_⟩
 replace h:cond (Nat.beq f 21) (match xs with
  |[a]=>match ifcOf a with
   |some (k,_)=>cond (Nat.beq k 40) (some ([(.ok (.d (.ifc 135 (.agg [.v (.pointer (some ⟨1,40,none⟩))]))),[])],nx)) none
   |none=>none
  |_=>none) (cond (Nat.beq f 281) (match xs with
  |[.d (.agg [.v (.pointer (some ⟨1,40,none⟩))])]=>some ([(.ok (.d (.v (.bool true))),[])],nx)
  |_=>none) none)=some (outs,nx'):=h
 cases h1:Nat.beq f 21 with
 |true=>
  rw[h1]at h
  have e:=Nat.eq_of_beq_eq_true h1;subst e
  simp only[cond_true]at h
  split at h
  ·split at h
   ·rename_i k x hk
    replace h:=cond_none h
    have e:=Nat.eq_of_beq_eq_true h.1
    replace h:=h.2
    subst e
    simp only[Option.some.injEq,Prod.mk.injEq]at h
    obtain⟨rfl,_⟩:=h
    exact⟨_,_,rfl,(ext21 hk).up _⟩
   ·cases h
  ·cases h
 |false=>
  rw[h1]at h
  simp only[cond_false]at h
  replace h:=cond_none h
  have e:=Nat.eq_of_beq_eq_true h.1
  replace h:=h.2
  subst e
  split at h
  ·simp only[Option.some.injEq,Prod.mk.injEq]at h
   obtain⟨rfl,_⟩:=h
   exact⟨_,_,rfl,ext281.up _⟩
  ·cases h
end Go.Pv
open Go Go.Pv Go.Proofs
namespace Go.Pv
mutual
inductive Wa:A->A->Prop
 |x (a:A):Wa a .x
 |same (a:A):Wa a a
 |agg (cs:List C):Wa (.agg (cs.map A.d)) (.d (.agg cs))
 |nl (e e':Nat):Wa (.d (.nl e)) (.d (.sl e' []))
 |fn {f:Fn} {u v u' v':List A}:WaL u u'->WaL v v'->Wa (.fn f u v) (.fn f u' v')
inductive WaL:List A->List A->Prop
 |nil:WaL [] []
 |cons {a b:A} {l r:List A}:Wa a b->WaL l r->WaL (a::l) (b::r)
end
mutual
theorem Wa.den{w:World}{M:Nat->Prop}{m:Mem}{ρ:Nat->Value}:∀{a b:A}{y:Value},Wa a b->a.Den w M m ρ y->b.Den w M m ρ y
 |_,_,y,.x a,h=>by simp only[A.Den]
 |_,_,y,.same a,h=>h
 |_,_,y,.agg cs,h=>agg_d h
 |_,_,y,.nl e e',h=>by
  simp only[A.Den,C.Den]at h⊢
  exact⟨none,0,by rw[h];rfl,Nat.le_refl _,.inl trivial⟩
 |_,_,y,.fn h1 h2,h=>by
  simp only[A.Den]at h⊢
  obtain⟨us,vs,e,k1,k2⟩:=h
  exact⟨us,vs,e,h1.den k1,h2.den k2⟩
theorem WaL.den{w:World}{M:Nat->Prop}{m:Mem}{ρ:Nat->Value}:∀{l r:List A}{ys:List Value},WaL l r->A.DenL w M m ρ l ys->A.DenL w M m ρ r ys
 |_,_,ys,.nil,h=>h
 |_,_,ys,.cons h1 h2,h=>by
  simp only[A.DenL]at h⊢
  obtain⟨y,yr,e,k1,k2⟩:=h
  exact⟨y,yr,e,h1.den k1,h2.den k2⟩
end
theorem CallT.wargs{P:Program}{f:FuncId}{xs xs':List A}{m m':Mem}{r:Rt}(h:CallT P f xs m r m')(hw:WaL xs' xs):CallT P f xs' m r m':=h.args λw M ρ vs hv=>hw.den hv
theorem callK_w{P:Program}{f:FuncId}{xs xs':List A}{ml:List (Nat×R)}{k:A->List (Nat×R)->Prop}{v:A}(h:∀m,CallT P f xs m (.ok v) m)(hw:WaL xs' xs)(hk:k v []):CallK P f xs' ml k:=callK_pure (λm=>(h m).wargs hw) hk
theorem dcallK_w{P:Program}{f:FuncId}{xs xs':List A}{ml:List (Nat×R)}{nx:Nat}{k:A->List (Nat×R)->Bool->Prop}{v:A}(h:∀m,CallT P f xs m (.ok v) m)(hw:WaL xs' xs)(hk:k v [] false):DCallK P f xs' ml nx k:=dcallK_pure (λm=>(h m).wargs hw) hk
abbrev cu(n:Int):C:=.v (.int .u8 n)
abbrev ct(l:List Nat):C:=.v (.string (bs l))
def sL:List C:=[cu 1,ct [120],ct [],cu 0,cu 0,cu 4,ci 0,ct [105,116],.nl 4,cu 0,ci 0,ct [],.nl 4,.nl 17,.nl 17,.nl 17,.nl 1]
def lets(k:Nat):List (List C):=List.replicate k sL
theorem lets_len(k:Nat):(lets k).length=k:=by simp[lets]
theorem lets_get(k i:Nat)(h:i<k):(lets k)[i]?=some sL:=by simp[lets,h]
theorem lets_getD(k i:Nat)(h:i<k):(lets k).getD i []=sL:=by rw[List.getD_eq_getElem?_getD,lets_get k i h];rfl
theorem lets_ne(k:Nat)(h:0<k):lets k≠[]:=λe=>by have:=lets_len k;rw[e]at this;simp at this;omega
theorem lets_rows(k i:Nat)(h:i<k):(rowsD (lets k))[i]?=some (sL.map A.d):=rowsD_get _ _ _ (lets_get k i h)
theorem lets_set(k i:Nat):(rowsD (lets k)).set i (sL.map A.d)=rowsD (lets k):=by
 rw[rowsD_set];congr 1;rw[lets,List.set_replicate_self]
theorem cloneStmt_new(L:List (List C))(hL:L.length<=2^38)(hne:L≠[]):∀(m:Mem)(d:Nat),m d=none->CallT Tryz.prog 105 [.d (.sl 17 L)] m (.ok (.h d)) (setM m d (osD 60 17 L)):=by
 refine fresh_of_vc mix (F:=A.h) (r:=osD 60 17 L) Tryz.func105 rfl (by kernel_rfl) (Nat.le_of_ble_eq_true rfl) rfl (osD_hs _ _ _) (λ_ _=>rfl) (λi j hj=>by simpa [A.hs]using hj) (λg=>osD_ren g _ _ _) ?_
 repeat'(first
  |with_reducible (first|refine w1 ?_|refine w2 ?_|refine w3 ?_|refine w4 ?_|refine w5 ?_|refine w6 ?_|refine w7 ?_|refine w8 ?_|refine w9 ?_|refine wa ?_|refine wb ?_|refine wc ?_|refine wd ?_|refine we ?_|refine wf rfl ?_|refine wj ?_|refine wk ?_|refine wl ?_|refine wm rfl ?_|refine StopK.mk ?_|refine BrK.t rfl ?_|refine BrK.f rfl ?_)
  |((with_reducible (first|refine wr ?_|refine wi ?_|refine wx ?_|refine wy ?_|refine wg ?_|refine wh ?_));(conv=>whnf))
  |((with_reducible (refine wt (by decide) (by kernel_rfl) ?_));(conv=>whnf))
  |((with_reducible (refine wu ?_));(conv=>whnf))
  |(with_reducible (refine ChkK.mk (by kernel_rfl) ?_))
  |(refine RowK.mk _ rfl ?_;(conv=>whnf))
  |((with_reducible refine InK.mk (inI (by(try dsimp only);omega) (by(try dsimp only);omega)) ?_);(conv=>whnf))
  |((with_reducible refine bK_split (λh=>?_) (λh=>?_))<;>(try rw[h])<;>(conv at h=>{simp})))
 refine NilK.mk (λh0=>absurd h0 hne) ?_
 conv=>whnf
 repeat'(first
  |with_reducible (first|refine w1 ?_|refine w2 ?_|refine w3 ?_|refine w4 ?_|refine w5 ?_|refine w6 ?_|refine w7 ?_|refine w8 ?_|refine w9 ?_|refine wa ?_|refine wb ?_|refine wc ?_|refine wd ?_|refine we ?_|refine wf rfl ?_|refine wj ?_|refine wk ?_|refine wl ?_|refine wm rfl ?_|refine StopK.mk ?_|refine BrK.t rfl ?_|refine BrK.f rfl ?_)
  |((with_reducible (first|refine wr ?_|refine wi ?_|refine wx ?_|refine wy ?_|refine wg ?_|refine wh ?_));(conv=>whnf))
  |((with_reducible (refine wt (by decide) (by kernel_rfl) ?_));(conv=>whnf))
  |((with_reducible (refine wu ?_));(conv=>whnf))
  |(with_reducible (refine ChkK.mk (by kernel_rfl) ?_))
  |(refine RowK.mk _ rfl ?_;(conv=>whnf))
  |((with_reducible refine InK.mk (inI (by(try dsimp only);omega) (by(try dsimp only);omega)) ?_);(conv=>whnf))
  |((with_reducible refine bK_split (λh=>?_) (λh=>?_))<;>(try rw[h])<;>(conv at h=>{simp})))
 refine szk (by simp only[List.length_map,List.length_replicate];omega) (by kernel_rfl) ?_
 conv=>whnf
 repeat'(first
  |with_reducible (first|refine w1 ?_|refine w2 ?_|refine w3 ?_|refine w4 ?_|refine w5 ?_|refine w6 ?_|refine w7 ?_|refine w8 ?_|refine w9 ?_|refine wa ?_|refine wb ?_|refine wc ?_|refine wd ?_|refine we ?_|refine wf rfl ?_|refine wj ?_|refine wk ?_|refine wl ?_|refine wm rfl ?_|refine StopK.mk ?_|refine BrK.t rfl ?_|refine BrK.f rfl ?_)
  |((with_reducible (first|refine wr ?_|refine wi ?_|refine wx ?_|refine wy ?_|refine wg ?_|refine wh ?_));(conv=>whnf))
  |((with_reducible (refine wt (by decide) (by kernel_rfl) ?_));(conv=>whnf))
  |((with_reducible (refine wu ?_));(conv=>whnf))
  |(with_reducible (refine ChkK.mk (by kernel_rfl) ?_))
  |(refine RowK.mk _ rfl ?_;(conv=>whnf))
  |((with_reducible refine InK.mk (inI (by(try dsimp only);omega) (by(try dsimp only);omega)) ?_);(conv=>whnf))
  |((with_reducible refine bK_split (λh=>?_) (λh=>?_))<;>(try rw[h])<;>(conv at h=>{simp})))
 exact⟨_,rfl,rfl⟩
abbrev eC:C:=.agg [cu 4,ci 0,ct [105,116],.nl 4]
abbrev eN:C:=.agg [cu 0,ci 0,ct [],.nl 4]
theorem ownE1:∀m,CallT Tryz.prog 106 [.d eC] m (.ok (.agg [.d (cu 4),.d (ci 0),.d (ct [105,116]),.d (.nl 4)])) m:=closed_call mix (d:=20) (nx:=1) (by kernel_rfl) rfl
theorem ownE0:∀m,CallT Tryz.prog 106 [.d eN] m (.ok (.agg [.d (cu 0),.d (ci 0),.d (ct []),.d (.nl 4)])) m:=closed_call mix (d:=20) (nx:=1) (by kernel_rfl) rfl
theorem ownC0:∀m,CallT Tryz.prog 78 [.d (.nl 17)] m (.ok (.d (.nl 17))) m:=closed_call mix (d:=20) (nx:=1) (by kernel_rfl) rfl
theorem cloneS0:∀m,CallT Tryz.prog 107 [.d (.nl 1)] m (.ok (.d (.nl 1))) m:=closed_call mix (d:=20) (nx:=1) (by kernel_rfl) rfl
theorem ownLets(k:Nat)(hk:k<=2^38)(h0:0<k):∀m,CallT Tryz.prog 78 [.d (.sl 17 (lets k))] m (.ok (.d (.sl 17 (lets k)))) m:=by
 refine pure_of_rd mix Tryz.func78 rfl (by kernel_rfl) (Nat.le_of_ble_eq_true rfl) rfl ?_
 repeat'(first
  |with_reducible (first|refine w1 ?_|refine w2 ?_|refine w3 ?_|refine w4 ?_|refine w5 ?_|refine w6 ?_|refine w7 ?_|refine w8 ?_|refine w9 ?_|refine wa ?_|refine wb ?_|refine wc ?_|refine wd ?_|refine we ?_|refine wf rfl ?_|refine wj ?_|refine wk ?_|refine wl ?_|refine wm rfl ?_|refine StopK.mk ?_|refine BrK.t rfl ?_|refine BrK.f rfl ?_)
  |((with_reducible (first|refine wr ?_|refine wi ?_|refine wx ?_|refine wy ?_|refine wg ?_|refine wh ?_));(conv=>whnf))
  |((with_reducible (refine wt (by decide) (by kernel_rfl) ?_));(conv=>whnf))
  |((with_reducible (refine wu ?_));(conv=>whnf))
  |(with_reducible (refine ChkK.mk (by kernel_rfl) ?_))
  |(refine RowK.mk _ rfl ?_;(conv=>whnf))
  |((with_reducible refine InK.mk (inI (by(try dsimp only);omega) (by(try dsimp only);omega)) ?_);(conv=>whnf))
  |((with_reducible refine bK_split (λh=>?_) (λh=>?_))<;>(try rw[h])<;>(conv at h=>{simp})))
 refine callK_fresh (cloneStmt_new _ (by rw[lets_len];exact hk) (lets_ne k h0)) 1000 rfl ?_
 conv=>whnf
 repeat'(first
  |with_reducible (first|refine w1 ?_|refine w2 ?_|refine w3 ?_|refine w4 ?_|refine w5 ?_|refine w6 ?_|refine w7 ?_|refine w8 ?_|refine w9 ?_|refine wa ?_|refine wb ?_|refine wc ?_|refine wd ?_|refine we ?_|refine wf rfl ?_|refine wj ?_|refine wk ?_|refine wl ?_|refine wm rfl ?_|refine StopK.mk ?_|refine BrK.t rfl ?_|refine BrK.f rfl ?_)
  |((with_reducible (first|refine wr ?_|refine wi ?_|refine wx ?_|refine wy ?_|refine wg ?_|refine wh ?_));(conv=>whnf))
  |((with_reducible (refine wt (by decide) (by kernel_rfl) ?_));(conv=>whnf))
  |((with_reducible (refine wu ?_));(conv=>whnf))
  |(with_reducible (refine ChkK.mk (by kernel_rfl) ?_))
  |(refine RowK.mk _ rfl ?_;(conv=>whnf))
  |((with_reducible refine InK.mk (inI (by(try dsimp only);omega) (by(try dsimp only);omega)) ?_);(conv=>whnf))
  |((with_reducible refine bK_split (λh=>?_) (λh=>?_))<;>(try rw[h])<;>(conv at h=>{simp})))
 refine loop_inv mix (λi:Nat=>i<=k) (I:=λi=>[(0,.h 1000),(7,.h 1000),(8,.d (ci ((lets k).length:Nat))),(9,.d (ci i))])
  (J:=λi=>[(1000,osD 60 17 (lets k))]) (μ:=λi=>k -i) 100 0 (by omega) ?_ ?_
 ·(refine Moves.swap 5000 5001 ?_ ?_ ?_ ?_ ?_<;>repeat'(first|exact True.intro|exact rfl|exact Option.some_ne_none _|exact hsIn_osD|exact hsIn_facA|exact neB rfl|exact mkosl rfl rfl|exact mkfac rfl|exact mkmt rfl rfl|exact hsIn_mtA|exact mklo rfl (by assumption)|exact hlo _ (Option.some_ne_none _) (Option.some_ne_none _) (Option.some_ne_none _) (Option.some_ne_none _) (Option.some_ne_none _)|exact hlo _ (Option.some_ne_none _) (Option.some_ne_none _)|(refine lenE ?_;simp only[List.length_map,rowsD];done)|(refine intE ?_;(try dsimp only);omega)|refine And.intro ?_ ?_))
 intro i hi
 repeat'(first
  |with_reducible (first|refine w1 ?_|refine w2 ?_|refine w3 ?_|refine w4 ?_|refine w5 ?_|refine w6 ?_|refine w7 ?_|refine w8 ?_|refine w9 ?_|refine wa ?_|refine wb ?_|refine wc ?_|refine wd ?_|refine we ?_|refine wf rfl ?_|refine wj ?_|refine wk ?_|refine wl ?_|refine wm rfl ?_|refine StopK.mk ?_|refine BrK.t rfl ?_|refine BrK.f rfl ?_)
  |((with_reducible (first|refine wr ?_|refine wi ?_|refine wx ?_|refine wy ?_|refine wg ?_|refine wh ?_));(conv=>whnf))
  |((with_reducible (refine wt (by decide) (by kernel_rfl) ?_));(conv=>whnf))
  |((with_reducible (refine wu ?_));(conv=>whnf))
  |(with_reducible (refine ChkK.mk (by kernel_rfl) ?_))
  |(refine RowK.mk _ rfl ?_;(conv=>whnf))
  |((with_reducible refine InK.mk (inI (by(try dsimp only);omega) (by(try dsimp only);omega)) ?_);(conv=>whnf))
  |((with_reducible refine bK_split (λh=>?_) (λh=>?_))<;>(try rw[h])<;>(conv at h=>{simp})))
 ·have h:i<k:=by rw[<-lets_len k];exact h
  refine OwnK.mk i rfl (by simp only[rowsD,List.length_map,lets_len];exact h) ?_
  conv=>whnf
  refine RowK.mk (sL.map A.d) (lets_rows k i h) ?_
  conv=>whnf
  repeat'(first
   |with_reducible (first|refine w1 ?_|refine w2 ?_|refine w3 ?_|refine w4 ?_|refine w5 ?_|refine w6 ?_|refine w7 ?_|refine w8 ?_|refine w9 ?_|refine wa ?_|refine wb ?_|refine wc ?_|refine wd ?_|refine we ?_|refine wf rfl ?_|refine wj ?_|refine wk ?_|refine wl ?_|refine wm rfl ?_|refine StopK.mk ?_|refine BrK.t rfl ?_|refine BrK.f rfl ?_)
   |((with_reducible (first|refine wr ?_|refine wi ?_|refine wx ?_|refine wy ?_|refine wg ?_|refine wh ?_));(conv=>whnf))
   |((with_reducible (refine wt (by decide) (by kernel_rfl) ?_));(conv=>whnf))
   |((with_reducible (refine wu ?_));(conv=>whnf))
   |(with_reducible (refine ChkK.mk (by kernel_rfl) ?_))
   |(refine RowK.mk _ rfl ?_;(conv=>whnf))
   |((with_reducible refine InK.mk (inI (by(try dsimp only);omega) (by(try dsimp only);omega)) ?_);(conv=>whnf))
   |((with_reducible refine bK_split (λh=>?_) (λh=>?_))<;>(try rw[h])<;>(conv at h=>{simp})))
  refine dcallK_pure ownE1 ?_
  conv=>whnf
  repeat'(first
   |with_reducible (first|refine w1 ?_|refine w2 ?_|refine w3 ?_|refine w4 ?_|refine w5 ?_|refine w6 ?_|refine w7 ?_|refine w8 ?_|refine w9 ?_|refine wa ?_|refine wb ?_|refine wc ?_|refine wd ?_|refine we ?_|refine wf rfl ?_|refine wj ?_|refine wk ?_|refine wl ?_|refine wm rfl ?_|refine StopK.mk ?_|refine BrK.t rfl ?_|refine BrK.f rfl ?_)
   |((with_reducible (first|refine wr ?_|refine wi ?_|refine wx ?_|refine wy ?_|refine wg ?_|refine wh ?_));(conv=>whnf))
   |((with_reducible (refine wt (by decide) (by kernel_rfl) ?_));(conv=>whnf))
   |((with_reducible (refine wu ?_));(conv=>whnf))
   |(with_reducible (refine ChkK.mk (by kernel_rfl) ?_))
   |(refine RowK.mk _ rfl ?_;(conv=>whnf))
   |((with_reducible refine InK.mk (inI (by(try dsimp only);omega) (by(try dsimp only);omega)) ?_);(conv=>whnf))
   |((with_reducible refine bK_split (λh=>?_) (λh=>?_))<;>(try rw[h])<;>(conv at h=>{simp})))
  refine dcallK_pure ownE0 ?_
  conv=>whnf
  repeat'(first
   |with_reducible (first|refine w1 ?_|refine w2 ?_|refine w3 ?_|refine w4 ?_|refine w5 ?_|refine w6 ?_|refine w7 ?_|refine w8 ?_|refine w9 ?_|refine wa ?_|refine wb ?_|refine wc ?_|refine wd ?_|refine we ?_|refine wf rfl ?_|refine wj ?_|refine wk ?_|refine wl ?_|refine wm rfl ?_|refine StopK.mk ?_|refine BrK.t rfl ?_|refine BrK.f rfl ?_)
   |((with_reducible (first|refine wr ?_|refine wi ?_|refine wx ?_|refine wy ?_|refine wg ?_|refine wh ?_));(conv=>whnf))
   |((with_reducible (refine wt (by decide) (by kernel_rfl) ?_));(conv=>whnf))
   |((with_reducible (refine wu ?_));(conv=>whnf))
   |(with_reducible (refine ChkK.mk (by kernel_rfl) ?_))
   |(refine RowK.mk _ rfl ?_;(conv=>whnf))
   |((with_reducible refine InK.mk (inI (by(try dsimp only);omega) (by(try dsimp only);omega)) ?_);(conv=>whnf))
   |((with_reducible refine bK_split (λh=>?_) (λh=>?_))<;>(try rw[h])<;>(conv at h=>{simp})))
  refine dcallK_pure ownC0 ?_
  conv=>whnf
  repeat'(first
   |with_reducible (first|refine w1 ?_|refine w2 ?_|refine w3 ?_|refine w4 ?_|refine w5 ?_|refine w6 ?_|refine w7 ?_|refine w8 ?_|refine w9 ?_|refine wa ?_|refine wb ?_|refine wc ?_|refine wd ?_|refine we ?_|refine wf rfl ?_|refine wj ?_|refine wk ?_|refine wl ?_|refine wm rfl ?_|refine StopK.mk ?_|refine BrK.t rfl ?_|refine BrK.f rfl ?_)
   |((with_reducible (first|refine wr ?_|refine wi ?_|refine wx ?_|refine wy ?_|refine wg ?_|refine wh ?_));(conv=>whnf))
   |((with_reducible (refine wt (by decide) (by kernel_rfl) ?_));(conv=>whnf))
   |((with_reducible (refine wu ?_));(conv=>whnf))
   |(with_reducible (refine ChkK.mk (by kernel_rfl) ?_))
   |(refine RowK.mk _ rfl ?_;(conv=>whnf))
   |((with_reducible refine InK.mk (inI (by(try dsimp only);omega) (by(try dsimp only);omega)) ?_);(conv=>whnf))
   |((with_reducible refine bK_split (λh=>?_) (λh=>?_))<;>(try rw[h])<;>(conv at h=>{simp})))
  refine dcallK_pure ownC0 ?_
  conv=>whnf
  repeat'(first
   |with_reducible (first|refine w1 ?_|refine w2 ?_|refine w3 ?_|refine w4 ?_|refine w5 ?_|refine w6 ?_|refine w7 ?_|refine w8 ?_|refine w9 ?_|refine wa ?_|refine wb ?_|refine wc ?_|refine wd ?_|refine we ?_|refine wf rfl ?_|refine wj ?_|refine wk ?_|refine wl ?_|refine wm rfl ?_|refine StopK.mk ?_|refine BrK.t rfl ?_|refine BrK.f rfl ?_)
   |((with_reducible (first|refine wr ?_|refine wi ?_|refine wx ?_|refine wy ?_|refine wg ?_|refine wh ?_));(conv=>whnf))
   |((with_reducible (refine wt (by decide) (by kernel_rfl) ?_));(conv=>whnf))
   |((with_reducible (refine wu ?_));(conv=>whnf))
   |(with_reducible (refine ChkK.mk (by kernel_rfl) ?_))
   |(refine RowK.mk _ rfl ?_;(conv=>whnf))
   |((with_reducible refine InK.mk (inI (by(try dsimp only);omega) (by(try dsimp only);omega)) ?_);(conv=>whnf))
   |((with_reducible refine bK_split (λh=>?_) (λh=>?_))<;>(try rw[h])<;>(conv at h=>{simp})))
  refine dcallK_pure ownC0 ?_
  conv=>whnf
  repeat'(first
   |with_reducible (first|refine w1 ?_|refine w2 ?_|refine w3 ?_|refine w4 ?_|refine w5 ?_|refine w6 ?_|refine w7 ?_|refine w8 ?_|refine w9 ?_|refine wa ?_|refine wb ?_|refine wc ?_|refine wd ?_|refine we ?_|refine wf rfl ?_|refine wj ?_|refine wk ?_|refine wl ?_|refine wm rfl ?_|refine StopK.mk ?_|refine BrK.t rfl ?_|refine BrK.f rfl ?_)
   |((with_reducible (first|refine wr ?_|refine wi ?_|refine wx ?_|refine wy ?_|refine wg ?_|refine wh ?_));(conv=>whnf))
   |((with_reducible (refine wt (by decide) (by kernel_rfl) ?_));(conv=>whnf))
   |((with_reducible (refine wu ?_));(conv=>whnf))
   |(with_reducible (refine ChkK.mk (by kernel_rfl) ?_))
   |(refine RowK.mk _ rfl ?_;(conv=>whnf))
   |((with_reducible refine InK.mk (inI (by(try dsimp only);omega) (by(try dsimp only);omega)) ?_);(conv=>whnf))
   |((with_reducible refine bK_split (λh=>?_) (λh=>?_))<;>(try rw[h])<;>(conv at h=>{simp})))
  refine callK_pure cloneS0 ?_
  conv=>whnf
  repeat'(first
   |with_reducible (first|refine w1 ?_|refine w2 ?_|refine w3 ?_|refine w4 ?_|refine w5 ?_|refine w6 ?_|refine w7 ?_|refine w8 ?_|refine w9 ?_|refine wa ?_|refine wb ?_|refine wc ?_|refine wd ?_|refine we ?_|refine wf rfl ?_|refine wj ?_|refine wk ?_|refine wl ?_|refine wm rfl ?_|refine StopK.mk ?_|refine BrK.t rfl ?_|refine BrK.f rfl ?_)
   |((with_reducible (first|refine wr ?_|refine wi ?_|refine wx ?_|refine wy ?_|refine wg ?_|refine wh ?_));(conv=>whnf))
   |((with_reducible (refine wt (by decide) (by kernel_rfl) ?_));(conv=>whnf))
   |((with_reducible (refine wu ?_));(conv=>whnf))
   |(with_reducible (refine ChkK.mk (by kernel_rfl) ?_))
   |(refine RowK.mk _ rfl ?_;(conv=>whnf))
   |((with_reducible refine InK.mk (inI (by(try dsimp only);omega) (by(try dsimp only);omega)) ?_);(conv=>whnf))
   |((with_reducible refine bK_split (λh=>?_) (λh=>?_))<;>(try rw[h])<;>(conv at h=>{simp})))
  refine OwnK.mk i rfl (by simp only[rowsD,List.length_map,lets_len];exact h) ?_
  conv=>whnf
  refine RowK.mk (sL.map A.d) (lets_rows k i h) ?_
  conv=>whnf
  repeat'(first
   |with_reducible (first|refine w1 ?_|refine w2 ?_|refine w3 ?_|refine w4 ?_|refine w5 ?_|refine w6 ?_|refine w7 ?_|refine w8 ?_|refine w9 ?_|refine wa ?_|refine wb ?_|refine wc ?_|refine wd ?_|refine we ?_|refine wf rfl ?_|refine wj ?_|refine wk ?_|refine wl ?_|refine wm rfl ?_|refine StopK.mk ?_|refine BrK.t rfl ?_|refine BrK.f rfl ?_)
   |((with_reducible (first|refine wr ?_|refine wi ?_|refine wx ?_|refine wy ?_|refine wg ?_|refine wh ?_));(conv=>whnf))
   |((with_reducible (refine wt (by decide) (by kernel_rfl) ?_));(conv=>whnf))
   |((with_reducible (refine wu ?_));(conv=>whnf))
   |(with_reducible (refine ChkK.mk (by kernel_rfl) ?_))
   |(refine RowK.mk _ rfl ?_;(conv=>whnf))
   |((with_reducible refine InK.mk (inI (by(try dsimp only);omega) (by(try dsimp only);omega)) ?_);(conv=>whnf))
   |((with_reducible refine bK_split (λh=>?_) (λh=>?_))<;>(try rw[h])<;>(conv at h=>{simp})))
  refine⟨i+1,by omega,by omega,?_⟩
  (refine Moves.swap 5000 5001 ?_ ?_ ?_ ?_ ?_<;>repeat'(first|exact True.intro|exact rfl|exact Option.some_ne_none _|exact hsIn_osD|exact hsIn_facA|exact neB rfl|exact mkosl rfl rfl|exact mkfac rfl|exact mkmt rfl rfl|exact hsIn_mtA|exact mklo rfl (by assumption)|exact hlo _ (Option.some_ne_none _) (Option.some_ne_none _) (Option.some_ne_none _) (Option.some_ne_none _) (Option.some_ne_none _)|exact hlo _ (Option.some_ne_none _) (Option.some_ne_none _)|(refine lenE ?_;simp only[List.length_map,rowsD];done)|(refine intE ?_;(try dsimp only);omega)|refine And.intro ?_ ?_))
  exact mkosl rfl (lets_set k i)
 ·exact .one (show Rd _ (.h 1000) (.sl 17 (lets k))from .osD (t:=60) rfl)
end Go.Pv
open Go Go.Pv Go.Proofs
namespace Go.Pv
abbrev one1(n:Int):R:=.cells false [.d (ci n)]
theorem littleE:CallT Tryz.prog 101 [.d eC,.lp 0 0,.d (ci 16)] (memO [(0,one1 0)]) (.ok (.d (cb true))) (applyU (memO [(0,one1 0)]) [(0,one1 1)]):=by
 refine mem_of_vcL mix 100 Tryz.func101 rfl (by kernel_rfl) (Nat.le_of_ble_eq_true rfl) trivial ⟨trivial,trivial⟩ ?_
 repeat'(first
  |with_reducible (first|refine w1 ?_|refine w2 ?_|refine w3 ?_|refine w4 ?_|refine w5 ?_|refine w6 ?_|refine w7 ?_|refine w8 ?_|refine w9 ?_|refine wa ?_|refine wb ?_|refine wc ?_|refine wd ?_|refine we ?_|refine wf rfl ?_|refine wj ?_|refine wk ?_|refine wl ?_|refine wm rfl ?_|refine StopK.mk ?_|refine BrK.t rfl ?_|refine BrK.f rfl ?_)
  |((with_reducible (first|refine wr ?_|refine wi ?_|refine wx ?_|refine wy ?_|refine wg ?_|refine wh ?_));(conv=>whnf))
  |((with_reducible (refine wt (by decide) (by kernel_rfl) ?_));(conv=>whnf))
  |((with_reducible (refine wu ?_));(conv=>whnf))
  |(with_reducible (refine ChkK.mk (by kernel_rfl) ?_))
  |(refine RowK.mk _ rfl ?_;(conv=>whnf))
  |((with_reducible refine InK.mk (inI (by(try dsimp only);omega) (by(try dsimp only);omega)) ?_);(conv=>whnf))
  |((with_reducible refine bK_split (λh=>?_) (λh=>?_))<;>(try rw[h])<;>(conv at h=>{simp})))
 (refine endM_of rfl ?_<;>repeat'(first|exact True.intro|exact Or.inl rfl|exact Or.inr rfl|refine And.intro ?_ ?_))
theorem little0:CallT Tryz.prog 101 [.d eN,.lp 0 0,.d (ci 16)] (memO [(0,one1 0)]) (.ok (.d (cb true))) (applyU (memO [(0,one1 0)]) [(0,one1 1)]):=by
 refine mem_of_vcL mix 100 Tryz.func101 rfl (by kernel_rfl) (Nat.le_of_ble_eq_true rfl) trivial ⟨trivial,trivial⟩ ?_
 repeat'(first
  |with_reducible (first|refine w1 ?_|refine w2 ?_|refine w3 ?_|refine w4 ?_|refine w5 ?_|refine w6 ?_|refine w7 ?_|refine w8 ?_|refine w9 ?_|refine wa ?_|refine wb ?_|refine wc ?_|refine wd ?_|refine we ?_|refine wf rfl ?_|refine wj ?_|refine wk ?_|refine wl ?_|refine wm rfl ?_|refine StopK.mk ?_|refine BrK.t rfl ?_|refine BrK.f rfl ?_)
  |((with_reducible (first|refine wr ?_|refine wi ?_|refine wx ?_|refine wy ?_|refine wg ?_|refine wh ?_));(conv=>whnf))
  |((with_reducible (refine wt (by decide) (by kernel_rfl) ?_));(conv=>whnf))
  |((with_reducible (refine wu ?_));(conv=>whnf))
  |(with_reducible (refine ChkK.mk (by kernel_rfl) ?_))
  |(refine RowK.mk _ rfl ?_;(conv=>whnf))
  |((with_reducible refine InK.mk (inI (by(try dsimp only);omega) (by(try dsimp only);omega)) ?_);(conv=>whnf))
  |((with_reducible refine bK_split (λh=>?_) (λh=>?_))<;>(try rw[h])<;>(conv at h=>{simp})))
 (refine endM_of rfl ?_<;>repeat'(first|exact True.intro|exact Or.inl rfl|exact Or.inr rfl|refine And.intro ?_ ?_))
theorem small0(n:Int):CallT Tryz.prog 66 [.d (.nl 17),.lp 0 0] (memO [(0,one1 n)]) (.ok (.d (cb true))) (applyU (memO [(0,one1 n)]) [(0,one1 n)]):=by
 refine mem_of_vcL mix 100 Tryz.func66 rfl (by kernel_rfl) (Nat.le_of_ble_eq_true rfl) trivial ⟨trivial,trivial⟩ ?_
 repeat'(first
  |with_reducible (first|refine w1 ?_|refine w2 ?_|refine w3 ?_|refine w4 ?_|refine w5 ?_|refine w6 ?_|refine w7 ?_|refine w8 ?_|refine w9 ?_|refine wa ?_|refine wb ?_|refine wc ?_|refine wd ?_|refine we ?_|refine wf rfl ?_|refine wj ?_|refine wk ?_|refine wl ?_|refine wm rfl ?_|refine StopK.mk ?_|refine BrK.t rfl ?_|refine BrK.f rfl ?_)
  |((with_reducible (first|refine wr ?_|refine wi ?_|refine wx ?_|refine wy ?_|refine wg ?_|refine wh ?_));(conv=>whnf))
  |((with_reducible (refine wt (by decide) (by kernel_rfl) ?_));(conv=>whnf))
  |((with_reducible (refine wu ?_));(conv=>whnf))
  |(with_reducible (refine ChkK.mk (by kernel_rfl) ?_))
  |(refine RowK.mk _ rfl ?_;(conv=>whnf))
  |((with_reducible refine InK.mk (inI (by(try dsimp only);omega) (by(try dsimp only);omega)) ?_);(conv=>whnf))
  |((with_reducible refine bK_split (λh=>?_) (λh=>?_))<;>(try rw[h])<;>(conv at h=>{simp})))
 refine loop_inv mix (λi:Nat=>True) (I:=λi=>[(1,.lp 0 0),(9,.d (.nl 17)),(10,.d (ci 0)),(11,.d (ci 0))])
  (J:=λi=>[(0,one1 n)]) (μ:=λi=>0) 100 0 trivial (by(refine Moves.swap 5000 5001 ?_ ?_ ?_ ?_ ?_<;>repeat'(first|exact True.intro|exact rfl|exact Option.some_ne_none _|exact hsIn_osD|exact hsIn_facA|exact neB rfl|exact mkosl rfl rfl|exact mkfac rfl|exact mkmt rfl rfl|exact hsIn_mtA|exact mklo rfl (by assumption)|exact hlo _ (Option.some_ne_none _) (Option.some_ne_none _) (Option.some_ne_none _) (Option.some_ne_none _) (Option.some_ne_none _)|exact hlo _ (Option.some_ne_none _) (Option.some_ne_none _)|(refine lenE ?_;simp only[List.length_map,rowsD];done)|(refine intE ?_;(try dsimp only);omega)|refine And.intro ?_ ?_))) ?_
 intro _ _
 repeat'(first
  |with_reducible (first|refine w1 ?_|refine w2 ?_|refine w3 ?_|refine w4 ?_|refine w5 ?_|refine w6 ?_|refine w7 ?_|refine w8 ?_|refine w9 ?_|refine wa ?_|refine wb ?_|refine wc ?_|refine wd ?_|refine we ?_|refine wf rfl ?_|refine wj ?_|refine wk ?_|refine wl ?_|refine wm rfl ?_|refine StopK.mk ?_|refine BrK.t rfl ?_|refine BrK.f rfl ?_)
  |((with_reducible (first|refine wr ?_|refine wi ?_|refine wx ?_|refine wy ?_|refine wg ?_|refine wh ?_));(conv=>whnf))
  |((with_reducible (refine wt (by decide) (by kernel_rfl) ?_));(conv=>whnf))
  |((with_reducible (refine wu ?_));(conv=>whnf))
  |(with_reducible (refine ChkK.mk (by kernel_rfl) ?_))
  |(refine RowK.mk _ rfl ?_;(conv=>whnf))
  |((with_reducible refine InK.mk (inI (by(try dsimp only);omega) (by(try dsimp only);omega)) ?_);(conv=>whnf))
  |((with_reducible refine bK_split (λh=>?_) (λh=>?_))<;>(try rw[h])<;>(conv at h=>{simp})))
 (refine endM_of rfl ?_<;>repeat'(first|exact True.intro|exact Or.inl rfl|exact Or.inr rfl|refine And.intro ?_ ?_))
theorem smallLets(k:Nat)(n:Int)(h0:0<=n)(h1:n+k<=512):CallT Tryz.prog 66 [.d (.sl 17 (lets k)),.lp 0 0] (memO [(0,one1 n)]) (.ok (.d (cb true))) (applyU (memO [(0,one1 n)]) [(0,one1 (n+k))]):=by
 refine mem_of_vcL mix 100 Tryz.func66 rfl (by kernel_rfl) (Nat.le_of_ble_eq_true rfl) trivial ⟨trivial,trivial⟩ ?_
 repeat'(first
  |with_reducible (first|refine w1 ?_|refine w2 ?_|refine w3 ?_|refine w4 ?_|refine w5 ?_|refine w6 ?_|refine w7 ?_|refine w8 ?_|refine w9 ?_|refine wa ?_|refine wb ?_|refine wc ?_|refine wd ?_|refine we ?_|refine wf rfl ?_|refine wj ?_|refine wk ?_|refine wl ?_|refine wm rfl ?_|refine StopK.mk ?_|refine BrK.t rfl ?_|refine BrK.f rfl ?_)
  |((with_reducible (first|refine wr ?_|refine wi ?_|refine wx ?_|refine wy ?_|refine wg ?_|refine wh ?_));(conv=>whnf))
  |((with_reducible (refine wt (by decide) (by kernel_rfl) ?_));(conv=>whnf))
  |((with_reducible (refine wu ?_));(conv=>whnf))
  |(with_reducible (refine ChkK.mk (by kernel_rfl) ?_))
  |(refine RowK.mk _ rfl ?_;(conv=>whnf))
  |((with_reducible refine InK.mk (inI (by(try dsimp only);omega) (by(try dsimp only);omega)) ?_);(conv=>whnf))
  |((with_reducible refine bK_split (λh=>?_) (λh=>?_))<;>(try rw[h])<;>(conv at h=>{simp})))
 refine loop_inv mix (λi:Nat=>i<=k) (I:=λi=>[(1,.lp 0 0),(9,.d (.sl 17 (lets k))),(10,.d (ci ((lets k).length:Nat))),(11,.d (ci i))])
  (J:=λi=>[(0,one1 (n+i))]) (μ:=λi=>k -i) 100 0 (by omega) (by rw[show(n+((0:Nat):Int))=n by omega];(refine Moves.swap 5000 5001 ?_ ?_ ?_ ?_ ?_<;>repeat'(first|exact True.intro|exact rfl|exact Option.some_ne_none _|exact hsIn_osD|exact hsIn_facA|exact neB rfl|exact mkosl rfl rfl|exact mkfac rfl|exact mkmt rfl rfl|exact hsIn_mtA|exact mklo rfl (by assumption)|exact hlo _ (Option.some_ne_none _) (Option.some_ne_none _) (Option.some_ne_none _) (Option.some_ne_none _) (Option.some_ne_none _)|exact hlo _ (Option.some_ne_none _) (Option.some_ne_none _)|(refine lenE ?_;simp only[List.length_map,rowsD];done)|(refine intE ?_;(try dsimp only);omega)|refine And.intro ?_ ?_))) ?_
 intro i hi
 have hlk:=lets_len k
 repeat'(first
  |with_reducible (first|refine w1 ?_|refine w2 ?_|refine w3 ?_|refine w4 ?_|refine w5 ?_|refine w6 ?_|refine w7 ?_|refine w8 ?_|refine w9 ?_|refine wa ?_|refine wb ?_|refine wc ?_|refine wd ?_|refine we ?_|refine wf rfl ?_|refine wj ?_|refine wk ?_|refine wl ?_|refine wm rfl ?_|refine StopK.mk ?_|refine BrK.t rfl ?_|refine BrK.f rfl ?_)
  |((with_reducible (first|refine wr ?_|refine wi ?_|refine wx ?_|refine wy ?_|refine wg ?_|refine wh ?_));(conv=>whnf))
  |((with_reducible (refine wt (by decide) (by kernel_rfl) ?_));(conv=>whnf))
  |((with_reducible (refine wu ?_));(conv=>whnf))
  |(with_reducible (refine ChkK.mk (by kernel_rfl) ?_))
  |(refine RowK.mk _ rfl ?_;(conv=>whnf))
  |((with_reducible refine InK.mk (inI (by(try dsimp only);omega) (by(try dsimp only);omega)) ?_);(conv=>whnf))
  |((with_reducible refine bK_split (λh=>?_) (λh=>?_))<;>(try rw[h])<;>(conv at h=>{simp}))
  |((refine idxK_row rfl (by decide) (by assumption) (lets_getD k i (by rw[<-lets_len k];assumption)) ?_);(conv=>whnf)))
 ·exfalso;omega
 ·have hs:i<k:=by omega
  refine callK_upd 188 (one1 1) (CallT.wargs (CallT.lift1 littleE rfl (λg=>rfl) (λg=>rfl) rfl (by simp[A.hsL,A.hs]) (memO _) 188 rfl) (.cons (.agg [cu 4,ci 0,ct [105,116],.nl 4]) (.cons (.same _) (.cons (.same _) .nil)))) ?_
  conv=>whnf
  repeat'(first
   |with_reducible (first|refine w1 ?_|refine w2 ?_|refine w3 ?_|refine w4 ?_|refine w5 ?_|refine w6 ?_|refine w7 ?_|refine w8 ?_|refine w9 ?_|refine wa ?_|refine wb ?_|refine wc ?_|refine wd ?_|refine we ?_|refine wf rfl ?_|refine wj ?_|refine wk ?_|refine wl ?_|refine wm rfl ?_|refine StopK.mk ?_|refine BrK.t rfl ?_|refine BrK.f rfl ?_)
   |((with_reducible (first|refine wr ?_|refine wi ?_|refine wx ?_|refine wy ?_|refine wg ?_|refine wh ?_));(conv=>whnf))
   |((with_reducible (refine wt (by decide) (by kernel_rfl) ?_));(conv=>whnf))
   |((with_reducible (refine wu ?_));(conv=>whnf))
   |(with_reducible (refine ChkK.mk (by kernel_rfl) ?_))
   |(refine RowK.mk _ rfl ?_;(conv=>whnf))
   |((with_reducible refine InK.mk (inI (by(try dsimp only);omega) (by(try dsimp only);omega)) ?_);(conv=>whnf))
   |((with_reducible refine bK_split (λh=>?_) (λh=>?_))<;>(try rw[h])<;>(conv at h=>{simp})))
  refine callK_upd 196 (one1 1) (CallT.wargs (CallT.lift1 little0 rfl (λg=>rfl) (λg=>rfl) rfl (by simp[A.hsL,A.hs]) (memO _) 196 rfl) (.cons (.agg [cu 0,ci 0,ct [],.nl 4]) (.cons (.same _) (.cons (.same _) .nil)))) ?_
  conv=>whnf
  repeat'(first
   |with_reducible (first|refine w1 ?_|refine w2 ?_|refine w3 ?_|refine w4 ?_|refine w5 ?_|refine w6 ?_|refine w7 ?_|refine w8 ?_|refine w9 ?_|refine wa ?_|refine wb ?_|refine wc ?_|refine wd ?_|refine we ?_|refine wf rfl ?_|refine wj ?_|refine wk ?_|refine wl ?_|refine wm rfl ?_|refine StopK.mk ?_|refine BrK.t rfl ?_|refine BrK.f rfl ?_)
   |((with_reducible (first|refine wr ?_|refine wi ?_|refine wx ?_|refine wy ?_|refine wg ?_|refine wh ?_));(conv=>whnf))
   |((with_reducible (refine wt (by decide) (by kernel_rfl) ?_));(conv=>whnf))
   |((with_reducible (refine wu ?_));(conv=>whnf))
   |(with_reducible (refine ChkK.mk (by kernel_rfl) ?_))
   |(refine RowK.mk _ rfl ?_;(conv=>whnf))
   |((with_reducible refine InK.mk (inI (by(try dsimp only);omega) (by(try dsimp only);omega)) ?_);(conv=>whnf))
   |((with_reducible refine bK_split (λh=>?_) (λh=>?_))<;>(try rw[h])<;>(conv at h=>{simp})))
  refine CallK.mk (.d (cb true)) [(0,one1 (n+i+1))] (CallT.useI (small0 (n+i+1)) ⟨Option.some_ne_none _,trivial⟩ ⟨rfl,trivial⟩ ⟨trivial,trivial⟩ ⟨.inl (Option.some_ne_none _),trivial⟩) ?_
  conv=>whnf
  repeat'(first
   |with_reducible (first|refine w1 ?_|refine w2 ?_|refine w3 ?_|refine w4 ?_|refine w5 ?_|refine w6 ?_|refine w7 ?_|refine w8 ?_|refine w9 ?_|refine wa ?_|refine wb ?_|refine wc ?_|refine wd ?_|refine we ?_|refine wf rfl ?_|refine wj ?_|refine wk ?_|refine wl ?_|refine wm rfl ?_|refine StopK.mk ?_|refine BrK.t rfl ?_|refine BrK.f rfl ?_)
   |((with_reducible (first|refine wr ?_|refine wi ?_|refine wx ?_|refine wy ?_|refine wg ?_|refine wh ?_));(conv=>whnf))
   |((with_reducible (refine wt (by decide) (by kernel_rfl) ?_));(conv=>whnf))
   |((with_reducible (refine wu ?_));(conv=>whnf))
   |(with_reducible (refine ChkK.mk (by kernel_rfl) ?_))
   |(refine RowK.mk _ rfl ?_;(conv=>whnf))
   |((with_reducible refine InK.mk (inI (by(try dsimp only);omega) (by(try dsimp only);omega)) ?_);(conv=>whnf))
   |((with_reducible refine bK_split (λh=>?_) (λh=>?_))<;>(try rw[h])<;>(conv at h=>{simp})))
  refine CallK.mk (.d (cb true)) [(0,one1 (n+i+1))] (CallT.useI (small0 (n+i+1)) ⟨Option.some_ne_none _,trivial⟩ ⟨rfl,trivial⟩ ⟨trivial,trivial⟩ ⟨.inl (Option.some_ne_none _),trivial⟩) ?_
  conv=>whnf
  repeat'(first
   |with_reducible (first|refine w1 ?_|refine w2 ?_|refine w3 ?_|refine w4 ?_|refine w5 ?_|refine w6 ?_|refine w7 ?_|refine w8 ?_|refine w9 ?_|refine wa ?_|refine wb ?_|refine wc ?_|refine wd ?_|refine we ?_|refine wf rfl ?_|refine wj ?_|refine wk ?_|refine wl ?_|refine wm rfl ?_|refine StopK.mk ?_|refine BrK.t rfl ?_|refine BrK.f rfl ?_)
   |((with_reducible (first|refine wr ?_|refine wi ?_|refine wx ?_|refine wy ?_|refine wg ?_|refine wh ?_));(conv=>whnf))
   |((with_reducible (refine wt (by decide) (by kernel_rfl) ?_));(conv=>whnf))
   |((with_reducible (refine wu ?_));(conv=>whnf))
   |(with_reducible (refine ChkK.mk (by kernel_rfl) ?_))
   |(refine RowK.mk _ rfl ?_;(conv=>whnf))
   |((with_reducible refine InK.mk (inI (by(try dsimp only);omega) (by(try dsimp only);omega)) ?_);(conv=>whnf))
   |((with_reducible refine bK_split (λh=>?_) (λh=>?_))<;>(try rw[h])<;>(conv at h=>{simp})))
  refine CallK.mk (.d (cb true)) [(0,one1 (n+i+1))] (CallT.useI (small0 (n+i+1)) ⟨Option.some_ne_none _,trivial⟩ ⟨rfl,trivial⟩ ⟨trivial,trivial⟩ ⟨.inl (Option.some_ne_none _),trivial⟩) ?_
  conv=>whnf
  repeat'(first
   |with_reducible (first|refine w1 ?_|refine w2 ?_|refine w3 ?_|refine w4 ?_|refine w5 ?_|refine w6 ?_|refine w7 ?_|refine w8 ?_|refine w9 ?_|refine wa ?_|refine wb ?_|refine wc ?_|refine wd ?_|refine we ?_|refine wf rfl ?_|refine wj ?_|refine wk ?_|refine wl ?_|refine wm rfl ?_|refine StopK.mk ?_|refine BrK.t rfl ?_|refine BrK.f rfl ?_)
   |((with_reducible (first|refine wr ?_|refine wi ?_|refine wx ?_|refine wy ?_|refine wg ?_|refine wh ?_));(conv=>whnf))
   |((with_reducible (refine wt (by decide) (by kernel_rfl) ?_));(conv=>whnf))
   |((with_reducible (refine wu ?_));(conv=>whnf))
   |(with_reducible (refine ChkK.mk (by kernel_rfl) ?_))
   |(refine RowK.mk _ rfl ?_;(conv=>whnf))
   |((with_reducible refine InK.mk (inI (by(try dsimp only);omega) (by(try dsimp only);omega)) ?_);(conv=>whnf))
   |((with_reducible refine bK_split (λh=>?_) (λh=>?_))<;>(try rw[h])<;>(conv at h=>{simp})))
  refine⟨i+1,by omega,by omega,?_⟩
  rw[show n+(i:Int)+1=n+((i+1:Nat):Int) by omega]
  (refine Moves.swap 5000 5001 ?_ ?_ ?_ ?_ ?_<;>repeat'(first|exact True.intro|exact rfl|exact Option.some_ne_none _|exact hsIn_osD|exact hsIn_facA|exact neB rfl|exact mkosl rfl rfl|exact mkfac rfl|exact mkmt rfl rfl|exact hsIn_mtA|exact mklo rfl (by assumption)|exact hlo _ (Option.some_ne_none _) (Option.some_ne_none _) (Option.some_ne_none _) (Option.some_ne_none _) (Option.some_ne_none _)|exact hlo _ (Option.some_ne_none _) (Option.some_ne_none _)|(refine lenE ?_;simp only[List.length_map,rowsD];done)|(refine intE ?_;(try dsimp only);omega)|refine And.intro ?_ ?_))
 ·have:i=k:=by omega
  subst this
  (refine endM_of rfl ?_<;>repeat'(first|exact True.intro|exact Or.inl rfl|exact Or.inr rfl|refine And.intro ?_ ?_))
end Go.Pv
open Go Go.Pv Go.Proofs
namespace Go.Pv
theorem mayL:∀m,CallT Tryz.prog 59 [.d (.agg sL)] m (.ok (.d (cb true))) m:=closed_call mix (d:=20) (nx:=1) (by kernel_rfl) rfl
def mWk(n a e:Int):List (Nat×R):=[(0,one1 n),(1,one1 a),(2,one1 e)]
abbrev clW:A:=.fn (.func 58) [] [.lp 1 0,.lp 2 0]
theorem check1(q n d:Int)(hn:n<512):CallT Tryz.prog 58 [.d (ci n),.d (ci d),.d (.agg sL),.lp 1 0,.lp 2 0] (memO (mWk q 0 0)) (.ok (.d (cb true))) (applyU (memO (mWk q 0 0)) [(1,one1 0),(2,one1 0)]):=by
 refine mem_of_vcL mix 100 Tryz.func58 rfl (by kernel_rfl) (Nat.le_of_ble_eq_true rfl) trivial ⟨trivial,trivial,trivial⟩ ?_
 repeat'(first
  |with_reducible (first|refine w1 ?_|refine w2 ?_|refine w3 ?_|refine w4 ?_|refine w5 ?_|refine w6 ?_|refine w7 ?_|refine w8 ?_|refine w9 ?_|refine wa ?_|refine wb ?_|refine wc ?_|refine wd ?_|refine we ?_|refine wf rfl ?_|refine wj ?_|refine wk ?_|refine wl ?_|refine wm rfl ?_|refine StopK.mk ?_|refine BrK.t rfl ?_|refine BrK.f rfl ?_)
  |((with_reducible (first|refine wr ?_|refine wi ?_|refine wx ?_|refine wy ?_|refine wg ?_|refine wh ?_));(conv=>whnf))
  |((with_reducible (refine wt (by decide) (by kernel_rfl) ?_));(conv=>whnf))
  |((with_reducible (refine wu ?_));(conv=>whnf))
  |(with_reducible (refine ChkK.mk (by kernel_rfl) ?_))
  |(refine RowK.mk _ rfl ?_;(conv=>whnf))
  |((with_reducible refine InK.mk (inI (by(try dsimp only);omega) (by(try dsimp only);omega)) ?_);(conv=>whnf))
  |((with_reducible refine bK_split (λh=>?_) (λh=>?_))<;>(try rw[h])<;>(conv at h=>{simp}))
  |((refine callK_w mayL (.cons (.agg sL) .nil) ?_);(conv=>whnf)))
 ·exfalso;omega
 ·(refine endM_of rfl ?_<;>repeat'(first|exact True.intro|exact Or.inl rfl|exact Or.inr rfl|refine And.intro ?_ ?_))
theorem cwalk0(d n:Int):CallT Tryz.prog 57 [.d (.nl 17),.d (ci d),.lp 0 0,clW] (memO (mWk n 0 0)) (.ok (.d (cb true))) (applyU (memO (mWk n 0 0)) [(0,one1 n),(1,one1 0),(2,one1 0)]):=by
 refine mem_of_vcL mix 100 Tryz.func57 rfl (by kernel_rfl) (Nat.le_of_ble_eq_true rfl) trivial ⟨trivial,trivial,trivial,trivial⟩ ?_
 repeat'(first
  |with_reducible (first|refine w1 ?_|refine w2 ?_|refine w3 ?_|refine w4 ?_|refine w5 ?_|refine w6 ?_|refine w7 ?_|refine w8 ?_|refine w9 ?_|refine wa ?_|refine wb ?_|refine wc ?_|refine wd ?_|refine we ?_|refine wf rfl ?_|refine wj ?_|refine wk ?_|refine wl ?_|refine wm rfl ?_|refine StopK.mk ?_|refine BrK.t rfl ?_|refine BrK.f rfl ?_)
  |((with_reducible (first|refine wr ?_|refine wi ?_|refine wx ?_|refine wy ?_|refine wg ?_|refine wh ?_));(conv=>whnf))
  |((with_reducible (refine wt (by decide) (by kernel_rfl) ?_));(conv=>whnf))
  |((with_reducible (refine wu ?_));(conv=>whnf))
  |(with_reducible (refine ChkK.mk (by kernel_rfl) ?_))
  |(refine RowK.mk _ rfl ?_;(conv=>whnf))
  |((with_reducible refine InK.mk (inI (by(try dsimp only);omega) (by(try dsimp only);omega)) ?_);(conv=>whnf))
  |((with_reducible refine bK_split (λh=>?_) (λh=>?_))<;>(try rw[h])<;>(conv at h=>{simp})))
 refine loop_inv mix (λi:Nat=>True) (I:=λi=>[(1,.d (ci d)),(2,.lp 0 0),(3,clW),(14,.d (.nl 17)),(15,.d (ci 0)),(16,.d (ci 0))])
  (J:=λi=>mWk n 0 0) (μ:=λi=>0) 100 0 trivial (by(refine Moves.swap 5000 5001 ?_ ?_ ?_ ?_ ?_<;>repeat'(first|exact True.intro|exact rfl|exact Option.some_ne_none _|exact hsIn_osD|exact hsIn_facA|exact neB rfl|exact mkosl rfl rfl|exact mkfac rfl|exact mkmt rfl rfl|exact hsIn_mtA|exact mklo rfl (by assumption)|exact hlo _ (Option.some_ne_none _) (Option.some_ne_none _) (Option.some_ne_none _) (Option.some_ne_none _) (Option.some_ne_none _)|exact hlo _ (Option.some_ne_none _) (Option.some_ne_none _)|(refine lenE ?_;simp only[List.length_map,rowsD];done)|(refine intE ?_;(try dsimp only);omega)|refine And.intro ?_ ?_))) ?_
 intro _ _
 repeat'(first
  |with_reducible (first|refine w1 ?_|refine w2 ?_|refine w3 ?_|refine w4 ?_|refine w5 ?_|refine w6 ?_|refine w7 ?_|refine w8 ?_|refine w9 ?_|refine wa ?_|refine wb ?_|refine wc ?_|refine wd ?_|refine we ?_|refine wf rfl ?_|refine wj ?_|refine wk ?_|refine wl ?_|refine wm rfl ?_|refine StopK.mk ?_|refine BrK.t rfl ?_|refine BrK.f rfl ?_)
  |((with_reducible (first|refine wr ?_|refine wi ?_|refine wx ?_|refine wy ?_|refine wg ?_|refine wh ?_));(conv=>whnf))
  |((with_reducible (refine wt (by decide) (by kernel_rfl) ?_));(conv=>whnf))
  |((with_reducible (refine wu ?_));(conv=>whnf))
  |(with_reducible (refine ChkK.mk (by kernel_rfl) ?_))
  |(refine RowK.mk _ rfl ?_;(conv=>whnf))
  |((with_reducible refine InK.mk (inI (by(try dsimp only);omega) (by(try dsimp only);omega)) ?_);(conv=>whnf))
  |((with_reducible refine bK_split (λh=>?_) (λh=>?_))<;>(try rw[h])<;>(conv at h=>{simp})))
 (refine endM_of rfl ?_<;>repeat'(first|exact True.intro|exact Or.inl rfl|exact Or.inr rfl|refine And.intro ?_ ?_))
theorem cwalk(k:Nat)(d n:Int)(hd:0<=d)(hd2:d<=2^40)(h0:0<=n)(h1:n+k<=512):CallT Tryz.prog 57 [.d (.sl 17 (lets k)),.d (ci d),.lp 0 0,clW] (memO (mWk n 0 0)) (.ok (.d (cb true))) (applyU (memO (mWk n 0 0)) [(0,one1 (n+k)),(1,one1 0),(2,one1 0)]):=by
 refine mem_of_vcL mix 100 Tryz.func57 rfl (by kernel_rfl) (Nat.le_of_ble_eq_true rfl) trivial ⟨trivial,trivial,trivial,trivial⟩ ?_
 repeat'(first
  |with_reducible (first|refine w1 ?_|refine w2 ?_|refine w3 ?_|refine w4 ?_|refine w5 ?_|refine w6 ?_|refine w7 ?_|refine w8 ?_|refine w9 ?_|refine wa ?_|refine wb ?_|refine wc ?_|refine wd ?_|refine we ?_|refine wf rfl ?_|refine wj ?_|refine wk ?_|refine wl ?_|refine wm rfl ?_|refine StopK.mk ?_|refine BrK.t rfl ?_|refine BrK.f rfl ?_)
  |((with_reducible (first|refine wr ?_|refine wi ?_|refine wx ?_|refine wy ?_|refine wg ?_|refine wh ?_));(conv=>whnf))
  |((with_reducible (refine wt (by decide) (by kernel_rfl) ?_));(conv=>whnf))
  |((with_reducible (refine wu ?_));(conv=>whnf))
  |(with_reducible (refine ChkK.mk (by kernel_rfl) ?_))
  |(refine RowK.mk _ rfl ?_;(conv=>whnf))
  |((with_reducible refine InK.mk (inI (by(try dsimp only);omega) (by(try dsimp only);omega)) ?_);(conv=>whnf))
  |((with_reducible refine bK_split (λh=>?_) (λh=>?_))<;>(try rw[h])<;>(conv at h=>{simp})))
 refine loop_inv mix (λi:Nat=>i<=k) (I:=λi=>[(1,.d (ci d)),(2,.lp 0 0),(3,clW),(14,.d (.sl 17 (lets k))),(15,.d (ci ((lets k).length:Nat))),(16,.d (ci i))])
  (J:=λi=>mWk (n+i) 0 0) (μ:=λi=>k -i) 100 0 (by omega) (by rw[show(n+((0:Nat):Int))=n by omega];(refine Moves.swap 5000 5001 ?_ ?_ ?_ ?_ ?_<;>repeat'(first|exact True.intro|exact rfl|exact Option.some_ne_none _|exact hsIn_osD|exact hsIn_facA|exact neB rfl|exact mkosl rfl rfl|exact mkfac rfl|exact mkmt rfl rfl|exact hsIn_mtA|exact mklo rfl (by assumption)|exact hlo _ (Option.some_ne_none _) (Option.some_ne_none _) (Option.some_ne_none _) (Option.some_ne_none _) (Option.some_ne_none _)|exact hlo _ (Option.some_ne_none _) (Option.some_ne_none _)|(refine lenE ?_;simp only[List.length_map,rowsD];done)|(refine intE ?_;(try dsimp only);omega)|refine And.intro ?_ ?_))) ?_
 intro i hi
 have hlk:=lets_len k
 repeat'(first
  |with_reducible (first|refine w1 ?_|refine w2 ?_|refine w3 ?_|refine w4 ?_|refine w5 ?_|refine w6 ?_|refine w7 ?_|refine w8 ?_|refine w9 ?_|refine wa ?_|refine wb ?_|refine wc ?_|refine wd ?_|refine we ?_|refine wf rfl ?_|refine wj ?_|refine wk ?_|refine wl ?_|refine wm rfl ?_|refine StopK.mk ?_|refine BrK.t rfl ?_|refine BrK.f rfl ?_)
  |((with_reducible (first|refine wr ?_|refine wi ?_|refine wx ?_|refine wy ?_|refine wg ?_|refine wh ?_));(conv=>whnf))
  |((with_reducible (refine wt (by decide) (by kernel_rfl) ?_));(conv=>whnf))
  |((with_reducible (refine wu ?_));(conv=>whnf))
  |(with_reducible (refine ChkK.mk (by kernel_rfl) ?_))
  |(refine RowK.mk _ rfl ?_;(conv=>whnf))
  |((with_reducible refine InK.mk (inI (by(try dsimp only);omega) (by(try dsimp only);omega)) ?_);(conv=>whnf))
  |((with_reducible refine bK_split (λh=>?_) (λh=>?_))<;>(try rw[h])<;>(conv at h=>{simp}))
  |((refine idxK_row rfl (by decide) (by assumption) (lets_getD k i (by rw[<-lets_len k];assumption)) ?_);(conv=>whnf)))
 ·exfalso;omega
 ·have hs:i<k:=by omega
  have hc1:=check1 (n+i+1) (n+i) d (by omega)
  refine CallK.mk (.d (cb true)) [(1,one1 0),(2,one1 0)] (CallT.wargs (CallT.useI hc1 ⟨Option.some_ne_none _,Option.some_ne_none _,trivial⟩ ⟨rfl,rfl,rfl,trivial⟩ ⟨trivial,trivial,trivial,trivial⟩ ⟨.inl (Option.some_ne_none _),.inl (Option.some_ne_none _),trivial⟩) (.cons (.same _) (.cons (.same _) (.cons (.agg sL) (.cons (.same _) (.cons (.same _) .nil)))))) ?_
  conv=>whnf
  repeat'(first
   |with_reducible (first|refine w1 ?_|refine w2 ?_|refine w3 ?_|refine w4 ?_|refine w5 ?_|refine w6 ?_|refine w7 ?_|refine w8 ?_|refine w9 ?_|refine wa ?_|refine wb ?_|refine wc ?_|refine wd ?_|refine we ?_|refine wf rfl ?_|refine wj ?_|refine wk ?_|refine wl ?_|refine wm rfl ?_|refine StopK.mk ?_|refine BrK.t rfl ?_|refine BrK.f rfl ?_)
   |((with_reducible (first|refine wr ?_|refine wi ?_|refine wx ?_|refine wy ?_|refine wg ?_|refine wh ?_));(conv=>whnf))
   |((with_reducible (refine wt (by decide) (by kernel_rfl) ?_));(conv=>whnf))
   |((with_reducible (refine wu ?_));(conv=>whnf))
   |(with_reducible (refine ChkK.mk (by kernel_rfl) ?_))
   |(refine RowK.mk _ rfl ?_;(conv=>whnf))
   |((with_reducible refine InK.mk (inI (by(try dsimp only);omega) (by(try dsimp only);omega)) ?_);(conv=>whnf))
   |((with_reducible refine bK_split (λh=>?_) (λh=>?_))<;>(try rw[h])<;>(conv at h=>{simp})))
  refine loop_cut mix (λj:Nat=>j<=3) (I:=λj=>[(1,.d (ci d)),(2,.lp 0 0),(3,clW),(14,.d (.sl 17 (lets k))),(15,.d (ci ((lets k).length:Nat))),(16,.d (ci i)),(44,.h 900),(45,.d (ci 3)),(46,.d (ci j))])
   (J:=λj=>(900,osD 57 1 [[.nl 17],[.nl 17],[.nl 17]])::mWk (n+i+1) 0 0) (μ:=λj=>3 -j) 2000 0 2
   (λ_:Unit=>True) (λ_=>[(1,.d (ci d)),(2,.lp 0 0),(3,clW),(14,.d (.sl 17 (lets k))),(15,.d (ci ((lets k).length:Nat))),(16,.d (ci i))]) (λ_=>mWk (n+i+1) 0 0) 4000 (by omega) (by(refine Moves.swap 348 900 ?_ ?_ ?_ ?_ ?_<;>repeat'(first|exact True.intro|exact rfl|exact Option.some_ne_none _|exact hsIn_osD|exact hsIn_facA|exact neB rfl|exact mkosl rfl rfl|exact mkfac rfl|exact mkmt rfl rfl|exact hsIn_mtA|exact mklo rfl (by assumption)|exact hlo _ (Option.some_ne_none _) (Option.some_ne_none _) (Option.some_ne_none _) (Option.some_ne_none _) (Option.some_ne_none _)|exact hlo _ (Option.some_ne_none _) (Option.some_ne_none _)|(refine lenE ?_;simp only[List.length_map,rowsD];done)|(refine intE ?_;(try dsimp only);omega)|refine And.intro ?_ ?_))) ?_ ?_
  ·intro j hj
   obtain rfl|rfl|rfl|rfl:j=0\/j=1\/j=2\/j=3:=by omega
   ·skip
    repeat'(first
     |with_reducible (first|refine w1 ?_|refine w2 ?_|refine w3 ?_|refine w4 ?_|refine w5 ?_|refine w6 ?_|refine w7 ?_|refine w8 ?_|refine w9 ?_|refine wa ?_|refine wb ?_|refine wc ?_|refine wd ?_|refine we ?_|refine wf rfl ?_|refine wj ?_|refine wk ?_|refine wl ?_|refine wm rfl ?_|refine StopK.mk ?_|refine BrK.t rfl ?_|refine BrK.f rfl ?_)
     |((with_reducible (first|refine wr ?_|refine wi ?_|refine wx ?_|refine wy ?_|refine wg ?_|refine wh ?_));(conv=>whnf))
     |((with_reducible (refine wt (by decide) (by kernel_rfl) ?_));(conv=>whnf))
     |((with_reducible (refine wu ?_));(conv=>whnf))
     |(with_reducible (refine ChkK.mk (by kernel_rfl) ?_))
     |(refine RowK.mk _ rfl ?_;(conv=>whnf))
     |((with_reducible refine InK.mk (inI (by(try dsimp only);omega) (by(try dsimp only);omega)) ?_);(conv=>whnf))
     |((with_reducible refine bK_split (λh=>?_) (λh=>?_))<;>(try rw[h])<;>(conv at h=>{simp}))
     |((refine OwnK.mk 0 rfl (by simp[rowsD]) ?_);(conv=>whnf))
     |((refine RowK.mk _ rfl ?_);(conv=>whnf))
     |((refine CallK.mk (.d (cb true)) [(0,one1 (n+i+1)),(1,one1 0),(2,one1 0)] (CallT.useI (cwalk0 (d+1) (n+i+1)) ⟨Option.some_ne_none _,Option.some_ne_none _,Option.some_ne_none _,trivial⟩ ⟨rfl,rfl,rfl,trivial⟩ ⟨trivial,trivial,trivial,trivial⟩ ⟨.inl (Option.some_ne_none _),.inl (Option.some_ne_none _),.inl (Option.some_ne_none _),trivial⟩) ?_);(conv=>whnf)))
    refine⟨1,by omega,by omega,?_⟩
    (refine Moves.swap 5000 5001 ?_ ?_ ?_ ?_ ?_<;>repeat'(first|exact True.intro|exact rfl|exact Option.some_ne_none _|exact hsIn_osD|exact hsIn_facA|exact neB rfl|exact mkosl rfl rfl|exact mkfac rfl|exact mkmt rfl rfl|exact hsIn_mtA|exact mklo rfl (by assumption)|exact hlo _ (Option.some_ne_none _) (Option.some_ne_none _) (Option.some_ne_none _) (Option.some_ne_none _) (Option.some_ne_none _)|exact hlo _ (Option.some_ne_none _) (Option.some_ne_none _)|(refine lenE ?_;simp only[List.length_map,rowsD];done)|(refine intE ?_;(try dsimp only);omega)|refine And.intro ?_ ?_))
   ·skip
    repeat'(first
     |with_reducible (first|refine w1 ?_|refine w2 ?_|refine w3 ?_|refine w4 ?_|refine w5 ?_|refine w6 ?_|refine w7 ?_|refine w8 ?_|refine w9 ?_|refine wa ?_|refine wb ?_|refine wc ?_|refine wd ?_|refine we ?_|refine wf rfl ?_|refine wj ?_|refine wk ?_|refine wl ?_|refine wm rfl ?_|refine StopK.mk ?_|refine BrK.t rfl ?_|refine BrK.f rfl ?_)
     |((with_reducible (first|refine wr ?_|refine wi ?_|refine wx ?_|refine wy ?_|refine wg ?_|refine wh ?_));(conv=>whnf))
     |((with_reducible (refine wt (by decide) (by kernel_rfl) ?_));(conv=>whnf))
     |((with_reducible (refine wu ?_));(conv=>whnf))
     |(with_reducible (refine ChkK.mk (by kernel_rfl) ?_))
     |(refine RowK.mk _ rfl ?_;(conv=>whnf))
     |((with_reducible refine InK.mk (inI (by(try dsimp only);omega) (by(try dsimp only);omega)) ?_);(conv=>whnf))
     |((with_reducible refine bK_split (λh=>?_) (λh=>?_))<;>(try rw[h])<;>(conv at h=>{simp}))
     |((refine OwnK.mk 1 rfl (by simp[rowsD]) ?_);(conv=>whnf))
     |((refine RowK.mk _ rfl ?_);(conv=>whnf))
     |((refine CallK.mk (.d (cb true)) [(0,one1 (n+i+1)),(1,one1 0),(2,one1 0)] (CallT.useI (cwalk0 (d+1) (n+i+1)) ⟨Option.some_ne_none _,Option.some_ne_none _,Option.some_ne_none _,trivial⟩ ⟨rfl,rfl,rfl,trivial⟩ ⟨trivial,trivial,trivial,trivial⟩ ⟨.inl (Option.some_ne_none _),.inl (Option.some_ne_none _),.inl (Option.some_ne_none _),trivial⟩) ?_);(conv=>whnf)))
    refine⟨2,by omega,by omega,?_⟩
    (refine Moves.swap 5000 5001 ?_ ?_ ?_ ?_ ?_<;>repeat'(first|exact True.intro|exact rfl|exact Option.some_ne_none _|exact hsIn_osD|exact hsIn_facA|exact neB rfl|exact mkosl rfl rfl|exact mkfac rfl|exact mkmt rfl rfl|exact hsIn_mtA|exact mklo rfl (by assumption)|exact hlo _ (Option.some_ne_none _) (Option.some_ne_none _) (Option.some_ne_none _) (Option.some_ne_none _) (Option.some_ne_none _)|exact hlo _ (Option.some_ne_none _) (Option.some_ne_none _)|(refine lenE ?_;simp only[List.length_map,rowsD];done)|(refine intE ?_;(try dsimp only);omega)|refine And.intro ?_ ?_))
   ·skip
    repeat'(first
     |with_reducible (first|refine w1 ?_|refine w2 ?_|refine w3 ?_|refine w4 ?_|refine w5 ?_|refine w6 ?_|refine w7 ?_|refine w8 ?_|refine w9 ?_|refine wa ?_|refine wb ?_|refine wc ?_|refine wd ?_|refine we ?_|refine wf rfl ?_|refine wj ?_|refine wk ?_|refine wl ?_|refine wm rfl ?_|refine StopK.mk ?_|refine BrK.t rfl ?_|refine BrK.f rfl ?_)
     |((with_reducible (first|refine wr ?_|refine wi ?_|refine wx ?_|refine wy ?_|refine wg ?_|refine wh ?_));(conv=>whnf))
     |((with_reducible (refine wt (by decide) (by kernel_rfl) ?_));(conv=>whnf))
     |((with_reducible (refine wu ?_));(conv=>whnf))
     |(with_reducible (refine ChkK.mk (by kernel_rfl) ?_))
     |(refine RowK.mk _ rfl ?_;(conv=>whnf))
     |((with_reducible refine InK.mk (inI (by(try dsimp only);omega) (by(try dsimp only);omega)) ?_);(conv=>whnf))
     |((with_reducible refine bK_split (λh=>?_) (λh=>?_))<;>(try rw[h])<;>(conv at h=>{simp}))
     |((refine OwnK.mk 2 rfl (by simp[rowsD]) ?_);(conv=>whnf))
     |((refine RowK.mk _ rfl ?_);(conv=>whnf))
     |((refine CallK.mk (.d (cb true)) [(0,one1 (n+i+1)),(1,one1 0),(2,one1 0)] (CallT.useI (cwalk0 (d+1) (n+i+1)) ⟨Option.some_ne_none _,Option.some_ne_none _,Option.some_ne_none _,trivial⟩ ⟨rfl,rfl,rfl,trivial⟩ ⟨trivial,trivial,trivial,trivial⟩ ⟨.inl (Option.some_ne_none _),.inl (Option.some_ne_none _),.inl (Option.some_ne_none _),trivial⟩) ?_);(conv=>whnf)))
    refine⟨3,by omega,by omega,?_⟩
    (refine Moves.swap 5000 5001 ?_ ?_ ?_ ?_ ?_<;>repeat'(first|exact True.intro|exact rfl|exact Option.some_ne_none _|exact hsIn_osD|exact hsIn_facA|exact neB rfl|exact mkosl rfl rfl|exact mkfac rfl|exact mkmt rfl rfl|exact hsIn_mtA|exact mklo rfl (by assumption)|exact hlo _ (Option.some_ne_none _) (Option.some_ne_none _) (Option.some_ne_none _) (Option.some_ne_none _) (Option.some_ne_none _)|exact hlo _ (Option.some_ne_none _) (Option.some_ne_none _)|(refine lenE ?_;simp only[List.length_map,rowsD];done)|(refine intE ?_;(try dsimp only);omega)|refine And.intro ?_ ?_))
   ·skip
    repeat'(first
     |with_reducible (first|refine w1 ?_|refine w2 ?_|refine w3 ?_|refine w4 ?_|refine w5 ?_|refine w6 ?_|refine w7 ?_|refine w8 ?_|refine w9 ?_|refine wa ?_|refine wb ?_|refine wc ?_|refine wd ?_|refine we ?_|refine wf rfl ?_|refine wj ?_|refine wk ?_|refine wl ?_|refine wm rfl ?_|refine StopK.mk ?_|refine BrK.t rfl ?_|refine BrK.f rfl ?_)
     |((with_reducible (first|refine wr ?_|refine wi ?_|refine wx ?_|refine wy ?_|refine wg ?_|refine wh ?_));(conv=>whnf))
     |((with_reducible (refine wt (by decide) (by kernel_rfl) ?_));(conv=>whnf))
     |((with_reducible (refine wu ?_));(conv=>whnf))
     |(with_reducible (refine ChkK.mk (by kernel_rfl) ?_))
     |(refine RowK.mk _ rfl ?_;(conv=>whnf))
     |((with_reducible refine InK.mk (inI (by(try dsimp only);omega) (by(try dsimp only);omega)) ?_);(conv=>whnf))
     |((with_reducible refine bK_split (λh=>?_) (λh=>?_))<;>(try rw[h])<;>(conv at h=>{simp})))
    exact⟨(),trivial,by(refine Moves.swap 5000 5001 ?_ ?_ ?_ ?_ ?_<;>repeat'(first|exact True.intro|exact rfl|exact Option.some_ne_none _|exact hsIn_osD|exact hsIn_facA|exact neB rfl|exact mkosl rfl rfl|exact mkfac rfl|exact mkmt rfl rfl|exact hsIn_mtA|exact mklo rfl (by assumption)|exact hlo _ (Option.some_ne_none _) (Option.some_ne_none _) (Option.some_ne_none _) (Option.some_ne_none _) (Option.some_ne_none _)|exact hlo _ (Option.some_ne_none _) (Option.some_ne_none _)|(refine lenE ?_;simp only[List.length_map,rowsD];done)|(refine intE ?_;(try dsimp only);omega)|refine And.intro ?_ ?_))⟩
  ·rintro _ _
   repeat'(first
    |with_reducible (first|refine w1 ?_|refine w2 ?_|refine w3 ?_|refine w4 ?_|refine w5 ?_|refine w6 ?_|refine w7 ?_|refine w8 ?_|refine w9 ?_|refine wa ?_|refine wb ?_|refine wc ?_|refine wd ?_|refine we ?_|refine wf rfl ?_|refine wj ?_|refine wk ?_|refine wl ?_|refine wm rfl ?_|refine StopK.mk ?_|refine BrK.t rfl ?_|refine BrK.f rfl ?_)
    |((with_reducible (first|refine wr ?_|refine wi ?_|refine wx ?_|refine wy ?_|refine wg ?_|refine wh ?_));(conv=>whnf))
    |((with_reducible (refine wt (by decide) (by kernel_rfl) ?_));(conv=>whnf))
    |((with_reducible (refine wu ?_));(conv=>whnf))
    |(with_reducible (refine ChkK.mk (by kernel_rfl) ?_))
    |(refine RowK.mk _ rfl ?_;(conv=>whnf))
    |((with_reducible refine InK.mk (inI (by(try dsimp only);omega) (by(try dsimp only);omega)) ?_);(conv=>whnf))
    |((with_reducible refine bK_split (λh=>?_) (λh=>?_))<;>(try rw[h])<;>(conv at h=>{simp})))
   refine⟨i+1,by omega,by omega,?_⟩
   rw[show n+(i:Int)+1=n+((i+1:Nat):Int) by omega]
   (refine Moves.swap 5000 5001 ?_ ?_ ?_ ?_ ?_<;>repeat'(first|exact True.intro|exact rfl|exact Option.some_ne_none _|exact hsIn_osD|exact hsIn_facA|exact neB rfl|exact mkosl rfl rfl|exact mkfac rfl|exact mkmt rfl rfl|exact hsIn_mtA|exact mklo rfl (by assumption)|exact hlo _ (Option.some_ne_none _) (Option.some_ne_none _) (Option.some_ne_none _) (Option.some_ne_none _) (Option.some_ne_none _)|exact hlo _ (Option.some_ne_none _) (Option.some_ne_none _)|(refine lenE ?_;simp only[List.length_map,rowsD];done)|(refine intE ?_;(try dsimp only);omega)|refine And.intro ?_ ?_))
 ·have:i=k:=by omega
  subst this
  (refine endM_of rfl ?_<;>repeat'(first|exact True.intro|exact Or.inl rfl|exact Or.inr rfl|refine And.intro ?_ ?_))
end Go.Pv
open Go Go.Pv Go.Proofs
namespace Go.Pv
def gE(i:Nat):Nat:=swp 0 17 (swp 2 9 i)
def gF(i:Nat):Nat:=swp 2 9 (swp 0 17 i)
theorem gEF(i:Nat):gF (gE i)=i:=by unfold gE gF;rw[swp_swp,swp_swp]
theorem gFE(i:Nat):gE (gF i)=i:=by unfold gE gF;rw[swp_swp,swp_swp]
theorem walk_r(k:Nat)(hk:k<=512):CallT Tryz.prog 57 [.d (.sl 17 (lets k)),.d (ci 0),.lp 17 0,.fn (.func 58) [] [.lp 1 0,.lp 9 0]] (memO [(17,one1 0),(1,one1 0),(9,one1 0)]) (.ok (.d (cb true))) (applyU (memO [(17,one1 0),(1,one1 0),(9,one1 0)]) [(17,one1 (0+k)),(1,one1 0),(9,one1 0)]):=by
 have k:=(cwalk k 0 0 (by omega) (by omega) (by omega) (by omega)).ren gEF gFE
 rw[renM_memO gEF gFE,applyU_ren gEF gFE]at k
 exact k
theorem checkLets(k:Nat)(hk:k<=512):∀m,CallT Tryz.prog 28 [.d (.sl 17 (lets k))] m (.ok (.tup [.d (ci 0),.d (ci 0)])) m:=by
 refine pure_of_rd mix Tryz.func28 rfl (by kernel_rfl) (Nat.le_of_ble_eq_true rfl) rfl ?_
 have k:=walk_r k hk
 repeat'(first
  |with_reducible (first|refine w1 ?_|refine w2 ?_|refine w3 ?_|refine w4 ?_|refine w5 ?_|refine w6 ?_|refine w7 ?_|refine w8 ?_|refine w9 ?_|refine wa ?_|refine wb ?_|refine wc ?_|refine wd ?_|refine we ?_|refine wf rfl ?_|refine wj ?_|refine wk ?_|refine wl ?_|refine wm rfl ?_|refine StopK.mk ?_|refine BrK.t rfl ?_|refine BrK.f rfl ?_)
  |((with_reducible (first|refine wr ?_|refine wi ?_|refine wx ?_|refine wy ?_|refine wg ?_|refine wh ?_));(conv=>whnf))
  |((with_reducible (refine wu ?_));(conv=>whnf))
  |(with_reducible (refine ChkK.mk (by kernel_rfl) ?_))
  |(refine RowK.mk _ rfl ?_;(conv=>whnf))
  |((with_reducible refine InK.mk (inI (by(try dsimp only);omega) (by(try dsimp only);omega)) ?_);(conv=>whnf))
  |((with_reducible refine bK_split (λh=>?_) (λh=>?_))<;>(try rw[h])<;>(conv at h=>{simp}))
  |((refine CallK.mk (.d (cb true)) [(17,one1 _),(1,one1 0),(9,one1 0)] (CallT.useI k ⟨Option.some_ne_none _,Option.some_ne_none _,Option.some_ne_none _,trivial⟩ ⟨rfl,rfl,rfl,trivial⟩ ⟨trivial,trivial,trivial,trivial⟩ ⟨.inl (Option.some_ne_none _),.inl (Option.some_ne_none _),.inl (Option.some_ne_none _),trivial⟩) ?_);(conv=>whnf)))
 exact .tup (cs:=[ci 0,ci 0]) (.cons (.d _) (.cons (.d _) .nil))
end Go.Pv
open Go Go.Pv Go.Proofs
namespace Go.Pv
abbrev vmL:List C:=[cu 0,ci 0,ct [],.nl 0,ci 0]
abbrev vzL:List C:=[cu 0,ci 0,ct [],.nl 5,ci 0]
abbrev n1:List (List C):=[[ct [105,116],cu 0,ci 0,ct [],.nl 0,ci 0]]
abbrev n2:List (List C):=[[ct [105,116],cu 0,ci 0,ct [],.nl 0,ci 0],[ct [120],cu 0,ci 0,ct [],.nl 0,ci 0]]
abbrev eCl:List C:=[cu 4,ci 0,ct [105,116],.nl 4]
abbrev eNl:List C:=[cu 0,ci 0,ct [],.nl 4]
structure Nm(X:List (List C))(b:Bool)(e:Nat):Prop where
 getx:∀m,CallT Tryz.prog 176 [.d (.sl 6 X),.d (ct [120])] m (.ok (.tup [.d (.agg [cu 0,ci 0,ct [],.nl e,ci 0]),.d (cb b)])) m
 get0:∀m,CallT Tryz.prog 176 [.d (.sl 6 X),.d (ct [])] m (.ok (.tup [.d (.agg vzL),.d (cb false)])) m
 workE:∀m,CallT Tryz.prog 136 [.d (.sl 6 X),.d (.agg eCl)] m (.ok (.tup [.d (.agg vmL),.d (ci 0)])) m
 work0:∀m,CallT Tryz.prog 136 [.d (.sl 6 X),.d (.agg eNl)] m (.ok (.tup [.d (.agg vzL),.d (ci 0)])) m
 set:∀m,CallT Tryz.prog 89 [.d (.sl 6 X),.d (ct [120]),.d (.agg vmL)] m (.ok (.tup [.d (.sl 6 n2),.d (ci 0)])) m
theorem nm1:Nm n1 false 5 where
 getx:=dataT_of_run (cs:=[.agg vzL,cb false]) (nx0:=1) (evH_ok mix noCt_ok 20) (by kernel_rfl) rfl
 get0:=dataT_of_run (cs:=[.agg vzL,cb false]) (nx0:=1) (evH_ok mix noCt_ok 20) (by kernel_rfl) rfl
 workE:=dataT_of_run (cs:=[.agg vmL,ci 0]) (nx0:=1) (evH_ok mix noCt_ok 20) (by kernel_rfl) rfl
 work0:=dataT_of_run (cs:=[.agg vzL,ci 0]) (nx0:=1) (evH_ok mix noCt_ok 20) (by kernel_rfl) rfl
 set:=dataT_of_run (cs:=[.sl 6 n2,ci 0]) (nx0:=1) (evH_ok mix noCt_ok 20) (by kernel_rfl) rfl
theorem nm2:Nm n2 true 0 where
 getx:=dataT_of_run (cs:=[.agg vmL,cb true]) (nx0:=1) (evH_ok mix noCt_ok 20) (by kernel_rfl) rfl
 get0:=dataT_of_run (cs:=[.agg vzL,cb false]) (nx0:=1) (evH_ok mix noCt_ok 20) (by kernel_rfl) rfl
 workE:=dataT_of_run (cs:=[.agg vmL,ci 0]) (nx0:=1) (evH_ok mix noCt_ok 20) (by kernel_rfl) rfl
 work0:=dataT_of_run (cs:=[.agg vzL,ci 0]) (nx0:=1) (evH_ok mix noCt_ok 20) (by kernel_rfl) rfl
 set:=dataT_of_run (cs:=[.sl 6 n2,ci 0]) (nx0:=1) (evH_ok mix noCt_ok 20) (by kernel_rfl) rfl
theorem stop0:∀m,CallT Tryz.prog 134 [.x,.d (ci 0)] m (.ok (.tup [])) m:=by
 refine pure_of_rd mix Tryz.func134 rfl (by kernel_rfl) (Nat.le_of_ble_eq_true rfl) rfl ?_
 repeat'(first
  |with_reducible (first|refine w1 ?_|refine w2 ?_|refine w3 ?_|refine w4 ?_|refine w5 ?_|refine w6 ?_|refine w7 ?_|refine w8 ?_|refine w9 ?_|refine wa ?_|refine wb ?_|refine wc ?_|refine wd ?_|refine we ?_|refine wf rfl ?_|refine wj ?_|refine wk ?_|refine wl ?_|refine wm rfl ?_|refine StopK.mk ?_|refine BrK.t rfl ?_|refine BrK.f rfl ?_)
  |((with_reducible (first|refine wr ?_|refine wi ?_|refine wx ?_|refine wy ?_|refine wg ?_|refine wh ?_));(conv=>whnf))
  |((with_reducible (refine wt (by decide) (by kernel_rfl) ?_));(conv=>whnf))
  |((with_reducible (refine wu ?_));(conv=>whnf))
  |(with_reducible (refine ChkK.mk (by kernel_rfl) ?_))
  |(refine RowK.mk _ rfl ?_;(conv=>whnf))
  |((with_reducible refine InK.mk (inI (by(try dsimp only);omega) (by(try dsimp only);omega)) ?_);(conv=>whnf))
  |((with_reducible refine bK_split (λh=>?_) (λh=>?_))<;>(try rw[h])<;>(conv at h=>{simp})))
 exact .tup (cs:=[]) .nil
abbrev tk(p:Addr)(cl ho:Int)(X L:List (List C)):R:=.cells false [.lp 1 0,.d (.v (.pointer (some p))),.d (ci cl),.d (ci ho),.d (.sl 6 X),.d (.sl 17 L),.d (cu 0),.d (ci 0),.d (ct []),.d (.nl 5),.d (ci 0),.d (cb false)]
abbrev ss(q1:Option Addr)(q2 q3 q4:Nat)(n a b:Int):R:=.cells false [.d (.v (.slice q1 q2 q3)),.d (.v (.map (some q4))),.d (ci n),.d (ci a),.d (ci b)]
theorem roomL{X:List (List C)}{b:Bool}{e:Nat}(hX:Nm X b e)(hl:X=n1/\b=false\/X=n2/\b=true)(p:Addr)(q1:Option Addr)(q2 q3 q4:Nat)(cl ho a d n:Int)(L:List (List C)):CallT Tryz.prog 135 [.lp 0 0,.d (.agg sL)] (memO [(0,tk p cl ho X L),(1,ss q1 q2 q3 q4 n a d)]) (.ok (.tup [])) (applyU (memO [(0,tk p cl ho X L),(1,ss q1 q2 q3 q4 n a d)]) [(0,tk p cl ho X L),(1,ss q1 q2 q3 q4 n a d)]):=by
 have h1:=hX.getx
 have h2:=hX.get0
 clear hX
 refine mem_of_vcL mix 100 Tryz.func135 rfl (by kernel_rfl) (Nat.le_of_ble_eq_true rfl) trivial ⟨⟨Option.some_ne_none _,trivial⟩,trivial,trivial⟩ ?_
 rcases hl with⟨rfl,rfl⟩|⟨rfl,rfl⟩
 ·skip
  repeat'(first
   |with_reducible (first|refine w1 ?_|refine w2 ?_|refine w3 ?_|refine w4 ?_|refine w5 ?_|refine w6 ?_|refine w7 ?_|refine w8 ?_|refine w9 ?_|refine wa ?_|refine wb ?_|refine wc ?_|refine wd ?_|refine we ?_|refine wf rfl ?_|refine wj ?_|refine wk ?_|refine wl ?_|refine wm rfl ?_|refine StopK.mk ?_|refine BrK.t rfl ?_|refine BrK.f rfl ?_)
   |((with_reducible (first|refine wr ?_|refine wi ?_|refine wx ?_|refine wy ?_|refine wg ?_|refine wh ?_));(conv=>whnf))
   |((with_reducible (refine wt (by decide) (by kernel_rfl) ?_));(conv=>whnf))
   |((with_reducible (refine wu ?_));(conv=>whnf))
   |(with_reducible (refine ChkK.mk (by kernel_rfl) ?_))
   |(refine RowK.mk _ rfl ?_;(conv=>whnf))
   |((with_reducible refine InK.mk (inI (by(try dsimp only);omega) (by(try dsimp only);omega)) ?_);(conv=>whnf))
   |((with_reducible refine bK_split (λh=>?_) (λh=>?_))<;>(try rw[h])<;>(conv at h=>{simp})))
  refine loop_inv mix (λi:Nat=>i<=2) (I:=λi=>[(0,.lp 0 0),(4,.d (ci ((1+min i 1:Nat):Int))),(18,.agg [.d (ct [120]),.d (ct [])]),(19,.d (ci i))])
   (J:=λi=>[(0,tk p cl ho n1 L),(1,ss q1 q2 q3 q4 n a d)]) (μ:=λi=>2 -i) 200 0 (by omega) (by(refine Moves.swap 5000 5001 ?_ ?_ ?_ ?_ ?_<;>repeat'(first|exact True.intro|exact rfl|exact Option.some_ne_none _|exact hsIn_osD|exact hsIn_facA|exact neB rfl|exact mkosl rfl rfl|exact mkfac rfl|exact mkmt rfl rfl|exact hsIn_mtA|exact mklo rfl (by assumption)|exact hlo _ (Option.some_ne_none _) (Option.some_ne_none _) (Option.some_ne_none _) (Option.some_ne_none _) (Option.some_ne_none _)|exact hlo _ (Option.some_ne_none _) (Option.some_ne_none _)|(refine lenE ?_;simp only[List.length_map,rowsD];done)|(refine intE ?_;(try dsimp only);omega)|refine And.intro ?_ ?_))) ?_
  intro i hi
  obtain rfl|rfl|rfl:i=0\/i=1\/i=2:=by omega
  ·skip
   repeat'(first
    |with_reducible (first|refine w1 ?_|refine w2 ?_|refine w3 ?_|refine w4 ?_|refine w5 ?_|refine w6 ?_|refine w7 ?_|refine w8 ?_|refine w9 ?_|refine wa ?_|refine wb ?_|refine wc ?_|refine wd ?_|refine we ?_|refine wf rfl ?_|refine wj ?_|refine wk ?_|refine wl ?_|refine wm rfl ?_|refine StopK.mk ?_|refine BrK.t rfl ?_|refine BrK.f rfl ?_)
    |((with_reducible (first|refine wr ?_|refine wi ?_|refine wx ?_|refine wy ?_|refine wg ?_|refine wh ?_));(conv=>whnf))
    |((with_reducible (refine wt (by decide) (by kernel_rfl) ?_));(conv=>whnf))
    |((with_reducible (refine wu ?_));(conv=>whnf))
    |(with_reducible (refine ChkK.mk (by kernel_rfl) ?_))
    |(refine RowK.mk _ rfl ?_;(conv=>whnf))
    |((with_reducible refine InK.mk (inI (by(try dsimp only);omega) (by(try dsimp only);omega)) ?_);(conv=>whnf))
    |((with_reducible refine bK_split (λh=>?_) (λh=>?_))<;>(try rw[h])<;>(conv at h=>{simp}))
    |((refine callK_pure h1 ?_);(conv=>whnf)))
   refine⟨1,by omega,by omega,?_⟩
   (refine Moves.swap 5000 5001 ?_ ?_ ?_ ?_ ?_<;>repeat'(first|exact True.intro|exact rfl|exact Option.some_ne_none _|exact hsIn_osD|exact hsIn_facA|exact neB rfl|exact mkosl rfl rfl|exact mkfac rfl|exact mkmt rfl rfl|exact hsIn_mtA|exact mklo rfl (by assumption)|exact hlo _ (Option.some_ne_none _) (Option.some_ne_none _) (Option.some_ne_none _) (Option.some_ne_none _) (Option.some_ne_none _)|exact hlo _ (Option.some_ne_none _) (Option.some_ne_none _)|(refine lenE ?_;simp only[List.length_map,rowsD];done)|(refine intE ?_;(try dsimp only);omega)|refine And.intro ?_ ?_))
  ·skip
   repeat'(first
    |with_reducible (first|refine w1 ?_|refine w2 ?_|refine w3 ?_|refine w4 ?_|refine w5 ?_|refine w6 ?_|refine w7 ?_|refine w8 ?_|refine w9 ?_|refine wa ?_|refine wb ?_|refine wc ?_|refine wd ?_|refine we ?_|refine wf rfl ?_|refine wj ?_|refine wk ?_|refine wl ?_|refine wm rfl ?_|refine StopK.mk ?_|refine BrK.t rfl ?_|refine BrK.f rfl ?_)
    |((with_reducible (first|refine wr ?_|refine wi ?_|refine wx ?_|refine wy ?_|refine wg ?_|refine wh ?_));(conv=>whnf))
    |((with_reducible (refine wt (by decide) (by kernel_rfl) ?_));(conv=>whnf))
    |((with_reducible (refine wu ?_));(conv=>whnf))
    |(with_reducible (refine ChkK.mk (by kernel_rfl) ?_))
    |(refine RowK.mk _ rfl ?_;(conv=>whnf))
    |((with_reducible refine InK.mk (inI (by(try dsimp only);omega) (by(try dsimp only);omega)) ?_);(conv=>whnf))
    |((with_reducible refine bK_split (λh=>?_) (λh=>?_))<;>(try rw[h])<;>(conv at h=>{simp}))
    |((refine callK_pure h2 ?_);(conv=>whnf)))
   refine⟨2,by omega,by omega,?_⟩
   (refine Moves.swap 5000 5001 ?_ ?_ ?_ ?_ ?_<;>repeat'(first|exact True.intro|exact rfl|exact Option.some_ne_none _|exact hsIn_osD|exact hsIn_facA|exact neB rfl|exact mkosl rfl rfl|exact mkfac rfl|exact mkmt rfl rfl|exact hsIn_mtA|exact mklo rfl (by assumption)|exact hlo _ (Option.some_ne_none _) (Option.some_ne_none _) (Option.some_ne_none _) (Option.some_ne_none _) (Option.some_ne_none _)|exact hlo _ (Option.some_ne_none _) (Option.some_ne_none _)|(refine lenE ?_;simp only[List.length_map,rowsD];done)|(refine intE ?_;(try dsimp only);omega)|refine And.intro ?_ ?_))
  ·skip
   repeat'(first
    |with_reducible (first|refine w1 ?_|refine w2 ?_|refine w3 ?_|refine w4 ?_|refine w5 ?_|refine w6 ?_|refine w7 ?_|refine w8 ?_|refine w9 ?_|refine wa ?_|refine wb ?_|refine wc ?_|refine wd ?_|refine we ?_|refine wf rfl ?_|refine wj ?_|refine wk ?_|refine wl ?_|refine wm rfl ?_|refine StopK.mk ?_|refine BrK.t rfl ?_|refine BrK.f rfl ?_)
    |((with_reducible (first|refine wr ?_|refine wi ?_|refine wx ?_|refine wy ?_|refine wg ?_|refine wh ?_));(conv=>whnf))
    |((with_reducible (refine wt (by decide) (by kernel_rfl) ?_));(conv=>whnf))
    |((with_reducible (refine wu ?_));(conv=>whnf))
    |(with_reducible (refine ChkK.mk (by kernel_rfl) ?_))
    |(refine RowK.mk _ rfl ?_;(conv=>whnf))
    |((with_reducible refine InK.mk (inI (by(try dsimp only);omega) (by(try dsimp only);omega)) ?_);(conv=>whnf))
    |((with_reducible refine bK_split (λh=>?_) (λh=>?_))<;>(try rw[h])<;>(conv at h=>{simp})))
   (refine endM_of rfl ?_<;>repeat'(first|exact True.intro|exact Or.inl rfl|exact Or.inr rfl|refine And.intro ?_ ?_))
 ·skip
  repeat'(first
   |with_reducible (first|refine w1 ?_|refine w2 ?_|refine w3 ?_|refine w4 ?_|refine w5 ?_|refine w6 ?_|refine w7 ?_|refine w8 ?_|refine w9 ?_|refine wa ?_|refine wb ?_|refine wc ?_|refine wd ?_|refine we ?_|refine wf rfl ?_|refine wj ?_|refine wk ?_|refine wl ?_|refine wm rfl ?_|refine StopK.mk ?_|refine BrK.t rfl ?_|refine BrK.f rfl ?_)
   |((with_reducible (first|refine wr ?_|refine wi ?_|refine wx ?_|refine wy ?_|refine wg ?_|refine wh ?_));(conv=>whnf))
   |((with_reducible (refine wt (by decide) (by kernel_rfl) ?_));(conv=>whnf))
   |((with_reducible (refine wu ?_));(conv=>whnf))
   |(with_reducible (refine ChkK.mk (by kernel_rfl) ?_))
   |(refine RowK.mk _ rfl ?_;(conv=>whnf))
   |((with_reducible refine InK.mk (inI (by(try dsimp only);omega) (by(try dsimp only);omega)) ?_);(conv=>whnf))
   |((with_reducible refine bK_split (λh=>?_) (λh=>?_))<;>(try rw[h])<;>(conv at h=>{simp})))
  refine loop_inv mix (λi:Nat=>i<=2) (I:=λi=>[(0,.lp 0 0),(4,.d (ci 2)),(18,.agg [.d (ct [120]),.d (ct [])]),(19,.d (ci i))])
   (J:=λi=>[(0,tk p cl ho n2 L),(1,ss q1 q2 q3 q4 n a d)]) (μ:=λi=>2 -i) 200 0 (by omega) (by(refine Moves.swap 5000 5001 ?_ ?_ ?_ ?_ ?_<;>repeat'(first|exact True.intro|exact rfl|exact Option.some_ne_none _|exact hsIn_osD|exact hsIn_facA|exact neB rfl|exact mkosl rfl rfl|exact mkfac rfl|exact mkmt rfl rfl|exact hsIn_mtA|exact mklo rfl (by assumption)|exact hlo _ (Option.some_ne_none _) (Option.some_ne_none _) (Option.some_ne_none _) (Option.some_ne_none _) (Option.some_ne_none _)|exact hlo _ (Option.some_ne_none _) (Option.some_ne_none _)|(refine lenE ?_;simp only[List.length_map,rowsD];done)|(refine intE ?_;(try dsimp only);omega)|refine And.intro ?_ ?_))) ?_
  intro i hi
  obtain rfl|rfl|rfl:i=0\/i=1\/i=2:=by omega
  ·skip
   repeat'(first
    |with_reducible (first|refine w1 ?_|refine w2 ?_|refine w3 ?_|refine w4 ?_|refine w5 ?_|refine w6 ?_|refine w7 ?_|refine w8 ?_|refine w9 ?_|refine wa ?_|refine wb ?_|refine wc ?_|refine wd ?_|refine we ?_|refine wf rfl ?_|refine wj ?_|refine wk ?_|refine wl ?_|refine wm rfl ?_|refine StopK.mk ?_|refine BrK.t rfl ?_|refine BrK.f rfl ?_)
    |((with_reducible (first|refine wr ?_|refine wi ?_|refine wx ?_|refine wy ?_|refine wg ?_|refine wh ?_));(conv=>whnf))
    |((with_reducible (refine wt (by decide) (by kernel_rfl) ?_));(conv=>whnf))
    |((with_reducible (refine wu ?_));(conv=>whnf))
    |(with_reducible (refine ChkK.mk (by kernel_rfl) ?_))
    |(refine RowK.mk _ rfl ?_;(conv=>whnf))
    |((with_reducible refine InK.mk (inI (by(try dsimp only);omega) (by(try dsimp only);omega)) ?_);(conv=>whnf))
    |((with_reducible refine bK_split (λh=>?_) (λh=>?_))<;>(try rw[h])<;>(conv at h=>{simp}))
    |((refine callK_pure h1 ?_);(conv=>whnf)))
   refine⟨1,by omega,by omega,?_⟩
   (refine Moves.swap 5000 5001 ?_ ?_ ?_ ?_ ?_<;>repeat'(first|exact True.intro|exact rfl|exact Option.some_ne_none _|exact hsIn_osD|exact hsIn_facA|exact neB rfl|exact mkosl rfl rfl|exact mkfac rfl|exact mkmt rfl rfl|exact hsIn_mtA|exact mklo rfl (by assumption)|exact hlo _ (Option.some_ne_none _) (Option.some_ne_none _) (Option.some_ne_none _) (Option.some_ne_none _) (Option.some_ne_none _)|exact hlo _ (Option.some_ne_none _) (Option.some_ne_none _)|(refine lenE ?_;simp only[List.length_map,rowsD];done)|(refine intE ?_;(try dsimp only);omega)|refine And.intro ?_ ?_))
  ·skip
   repeat'(first
    |with_reducible (first|refine w1 ?_|refine w2 ?_|refine w3 ?_|refine w4 ?_|refine w5 ?_|refine w6 ?_|refine w7 ?_|refine w8 ?_|refine w9 ?_|refine wa ?_|refine wb ?_|refine wc ?_|refine wd ?_|refine we ?_|refine wf rfl ?_|refine wj ?_|refine wk ?_|refine wl ?_|refine wm rfl ?_|refine StopK.mk ?_|refine BrK.t rfl ?_|refine BrK.f rfl ?_)
    |((with_reducible (first|refine wr ?_|refine wi ?_|refine wx ?_|refine wy ?_|refine wg ?_|refine wh ?_));(conv=>whnf))
    |((with_reducible (refine wt (by decide) (by kernel_rfl) ?_));(conv=>whnf))
    |((with_reducible (refine wu ?_));(conv=>whnf))
    |(with_reducible (refine ChkK.mk (by kernel_rfl) ?_))
    |(refine RowK.mk _ rfl ?_;(conv=>whnf))
    |((with_reducible refine InK.mk (inI (by(try dsimp only);omega) (by(try dsimp only);omega)) ?_);(conv=>whnf))
    |((with_reducible refine bK_split (λh=>?_) (λh=>?_))<;>(try rw[h])<;>(conv at h=>{simp}))
    |((refine callK_pure h2 ?_);(conv=>whnf)))
   refine⟨2,by omega,by omega,?_⟩
   (refine Moves.swap 5000 5001 ?_ ?_ ?_ ?_ ?_<;>repeat'(first|exact True.intro|exact rfl|exact Option.some_ne_none _|exact hsIn_osD|exact hsIn_facA|exact neB rfl|exact mkosl rfl rfl|exact mkfac rfl|exact mkmt rfl rfl|exact hsIn_mtA|exact mklo rfl (by assumption)|exact hlo _ (Option.some_ne_none _) (Option.some_ne_none _) (Option.some_ne_none _) (Option.some_ne_none _) (Option.some_ne_none _)|exact hlo _ (Option.some_ne_none _) (Option.some_ne_none _)|(refine lenE ?_;simp only[List.length_map,rowsD];done)|(refine intE ?_;(try dsimp only);omega)|refine And.intro ?_ ?_))
  ·skip
   repeat'(first
    |with_reducible (first|refine w1 ?_|refine w2 ?_|refine w3 ?_|refine w4 ?_|refine w5 ?_|refine w6 ?_|refine w7 ?_|refine w8 ?_|refine w9 ?_|refine wa ?_|refine wb ?_|refine wc ?_|refine wd ?_|refine we ?_|refine wf rfl ?_|refine wj ?_|refine wk ?_|refine wl ?_|refine wm rfl ?_|refine StopK.mk ?_|refine BrK.t rfl ?_|refine BrK.f rfl ?_)
    |((with_reducible (first|refine wr ?_|refine wi ?_|refine wx ?_|refine wy ?_|refine wg ?_|refine wh ?_));(conv=>whnf))
    |((with_reducible (refine wt (by decide) (by kernel_rfl) ?_));(conv=>whnf))
    |((with_reducible (refine wu ?_));(conv=>whnf))
    |(with_reducible (refine ChkK.mk (by kernel_rfl) ?_))
    |(refine RowK.mk _ rfl ?_;(conv=>whnf))
    |((with_reducible refine InK.mk (inI (by(try dsimp only);omega) (by(try dsimp only);omega)) ?_);(conv=>whnf))
    |((with_reducible refine bK_split (λh=>?_) (λh=>?_))<;>(try rw[h])<;>(conv at h=>{simp})))
   (refine endM_of rfl ?_<;>repeat'(first|exact True.intro|exact Or.inl rfl|exact Or.inr rfl|refine And.intro ?_ ?_))
end Go.Pv
open Go Go.Pv Go.Proofs
namespace Go.Pv
theorem setL{X:List (List C)}{b:Bool}{e:Nat}(hX:Nm X b e)(p:Addr)(q1:Option Addr)(q2 q3 q4:Nat)(cl ho a d n:Int)(L:List (List C)):CallT Tryz.prog 172 [.lp 0 0,.d (ct [120]),.d (.agg vmL)] (memO [(0,tk p cl ho X L),(1,ss q1 q2 q3 q4 n a d)]) (.ok (.tup [])) (applyU (memO [(0,tk p cl ho X L),(1,ss q1 q2 q3 q4 n a d)]) [(0,tk p cl ho n2 L),(1,ss q1 q2 q3 q4 n a d)]):=by
 have h1:=hX.set
 clear hX
 refine mem_of_vcL mix 100 Tryz.func172 rfl (by kernel_rfl) (Nat.le_of_ble_eq_true rfl) trivial ⟨⟨Option.some_ne_none _,trivial⟩,trivial,trivial⟩ ?_
 repeat'(first
  |with_reducible (first|refine w1 ?_|refine w2 ?_|refine w3 ?_|refine w4 ?_|refine w5 ?_|refine w6 ?_|refine w7 ?_|refine w8 ?_|refine w9 ?_|refine wa ?_|refine wb ?_|refine wc ?_|refine wd ?_|refine we ?_|refine wf rfl ?_|refine wj ?_|refine wk ?_|refine wl ?_|refine wm rfl ?_|refine StopK.mk ?_|refine BrK.t rfl ?_|refine BrK.f rfl ?_)
  |((with_reducible (first|refine wr ?_|refine wi ?_|refine wx ?_|refine wy ?_|refine wg ?_|refine wh ?_));(conv=>whnf))
  |((with_reducible (refine wt (by decide) (by kernel_rfl) ?_));(conv=>whnf))
  |((with_reducible (refine wu ?_));(conv=>whnf))
  |(with_reducible (refine ChkK.mk (by kernel_rfl) ?_))
  |(refine RowK.mk _ rfl ?_;(conv=>whnf))
  |((with_reducible refine InK.mk (inI (by(try dsimp only);omega) (by(try dsimp only);omega)) ?_);(conv=>whnf))
  |((with_reducible refine bK_split (λh=>?_) (λh=>?_))<;>(try rw[h])<;>(conv at h=>{simp}))
  |((refine PureK.mk _ (λm=>(h1 m).wargs (.cons (.same _) (.cons (.same _) (.cons (.agg vmL) .nil)))) ?_);(conv=>whnf))
  |((refine callK_w stop0 (.cons (.x _) (.cons (.same _) .nil)) ?_);(conv=>whnf)))
 (refine endM_of rfl ?_<;>repeat'(first|exact True.intro|exact Or.inl rfl|exact Or.inr rfl|refine And.intro ?_ ?_))
theorem letL{X:List (List C)}{b:Bool}{e:Nat}(hX:Nm X b e)(p:Addr)(q1:Option Addr)(q2 q3 q4:Nat)(cl ho a d n:Int)(L:List (List C)):CallT Tryz.prog 126 [.lp 0 0,.d (.agg sL),.d (.agg vmL),.d (.agg vzL)] (memO [(0,tk p cl ho X L),(1,ss q1 q2 q3 q4 n a d)]) (.ok (.tup [])) (applyU (memO [(0,tk p cl ho X L),(1,ss q1 q2 q3 q4 n a d)]) [(0,tk p cl ho n2 L),(1,ss q1 q2 q3 q4 n a d)]):=by
 have h1:=setL hX p q1 q2 q3 q4 cl ho a d n L
 clear hX
 refine mem_of_vcL mix 100 Tryz.func126 rfl (by kernel_rfl) (Nat.le_of_ble_eq_true rfl) trivial ⟨⟨Option.some_ne_none _,trivial⟩,trivial,trivial⟩ ?_
 repeat'(first
  |with_reducible (first|refine w1 ?_|refine w2 ?_|refine w3 ?_|refine w4 ?_|refine w5 ?_|refine w6 ?_|refine w7 ?_|refine w8 ?_|refine w9 ?_|refine wa ?_|refine wb ?_|refine wc ?_|refine wd ?_|refine we ?_|refine wf rfl ?_|refine wj ?_|refine wk ?_|refine wl ?_|refine wm rfl ?_|refine StopK.mk ?_|refine BrK.t rfl ?_|refine BrK.f rfl ?_)
  |((with_reducible (first|refine wr ?_|refine wi ?_|refine wx ?_|refine wy ?_|refine wg ?_|refine wh ?_));(conv=>whnf))
  |((with_reducible (refine wt (by decide) (by kernel_rfl) ?_));(conv=>whnf))
  |((with_reducible (refine wu ?_));(conv=>whnf))
  |(with_reducible (refine ChkK.mk (by kernel_rfl) ?_))
  |(refine RowK.mk _ rfl ?_;(conv=>whnf))
  |((with_reducible refine InK.mk (inI (by(try dsimp only);omega) (by(try dsimp only);omega)) ?_);(conv=>whnf))
  |((with_reducible refine bK_split (λh=>?_) (λh=>?_))<;>(try rw[h])<;>(conv at h=>{simp})))
 refine CallK.mk (.tup []) [(0,tk p cl ho n2 L),(1,ss q1 q2 q3 q4 n a d)] (CallT.wargs (CallT.useI h1 ⟨Option.some_ne_none _,trivial⟩ ⟨rfl,rfl,trivial⟩ ⟨⟨Option.some_ne_none _,trivial⟩,trivial,trivial⟩ ⟨.inl (Option.some_ne_none _),.inl (Option.some_ne_none _),trivial⟩) (.cons (.same _) (.cons (.same _) (.cons (.agg vmL) .nil)))) ?_
 conv=>whnf
 repeat'(first
  |with_reducible (first|refine w1 ?_|refine w2 ?_|refine w3 ?_|refine w4 ?_|refine w5 ?_|refine w6 ?_|refine w7 ?_|refine w8 ?_|refine w9 ?_|refine wa ?_|refine wb ?_|refine wc ?_|refine wd ?_|refine we ?_|refine wf rfl ?_|refine wj ?_|refine wk ?_|refine wl ?_|refine wm rfl ?_|refine StopK.mk ?_|refine BrK.t rfl ?_|refine BrK.f rfl ?_)
  |((with_reducible (first|refine wr ?_|refine wi ?_|refine wx ?_|refine wy ?_|refine wg ?_|refine wh ?_));(conv=>whnf))
  |((with_reducible (refine wt (by decide) (by kernel_rfl) ?_));(conv=>whnf))
  |((with_reducible (refine wu ?_));(conv=>whnf))
  |(with_reducible (refine ChkK.mk (by kernel_rfl) ?_))
  |(refine RowK.mk _ rfl ?_;(conv=>whnf))
  |((with_reducible refine InK.mk (inI (by(try dsimp only);omega) (by(try dsimp only);omega)) ?_);(conv=>whnf))
  |((with_reducible refine bK_split (λh=>?_) (λh=>?_))<;>(try rw[h])<;>(conv at h=>{simp})))
 (refine endM_of rfl ?_<;>repeat'(first|exact True.intro|exact Or.inl rfl|exact Or.inr rfl|refine And.intro ?_ ?_))
abbrev kB(n:Int):Ky:=.one (.int .u8 n)
def howA:List (Ky×A):=[(kB 1,.fn (.func 126) [] []),(kB 2,.fn (.func 127) [] []),(kB 3,.fn (.func 128) [] []),(kB 4,.fn (.func 129) [] []),(kB 5,.fn (.func 130) [] []),(kB 6,.fn (.func 131) [] []),(kB 7,.fn (.func 132) [] []),(kB 8,.fn (.func 133) [] []),(kB 9,.fn (.func 127) [] [])]
def howR:R:=.mp false howA []
theorem worksLets(k:Nat)(hk:0<k)(n:Int)(h0:0<=n)(h1:n+k<=4096){X:List (List C)}{b:Bool}{e:Nat}(hX:Nm X b e)(hl:X=n1/\b=false\/X=n2/\b=true)(p:Addr)(q1:Option Addr)(q2 q3 q4:Nat)(cl ho a d:Int):CallT Tryz.prog 91 [.lp 0 0] (memO [(0,tk p cl ho X (lets k)),(1,ss q1 q2 q3 q4 n a d)]) (.ok (.tup [])) (applyU (memO [(0,tk p cl ho X (lets k)),(1,ss q1 q2 q3 q4 n a d)]) [(0,tk p cl ho n2 []),(1,ss q1 q2 q3 q4 (n+k) a d)]):=by
 refine mem_of_vcL mix 100 Tryz.func91 rfl (by kernel_rfl) (Nat.le_of_ble_eq_true rfl) trivial ⟨⟨Option.some_ne_none _,trivial⟩,trivial,trivial⟩ ?_
 repeat'(first
  |with_reducible (first|refine w1 ?_|refine w2 ?_|refine w3 ?_|refine w4 ?_|refine w5 ?_|refine w6 ?_|refine w7 ?_|refine w8 ?_|refine w9 ?_|refine wa ?_|refine wb ?_|refine wc ?_|refine wd ?_|refine we ?_|refine wf rfl ?_|refine wj ?_|refine wk ?_|refine wl ?_|refine wm rfl ?_|refine StopK.mk ?_|refine BrK.t rfl ?_|refine BrK.f rfl ?_)
  |((with_reducible (first|refine wr ?_|refine wi ?_|refine wx ?_|refine wy ?_|refine wg ?_|refine wh ?_));(conv=>whnf))
  |((with_reducible (refine wt (by decide) (by kernel_rfl) ?_));(conv=>whnf))
  |((with_reducible (refine wu ?_));(conv=>whnf))
  |(with_reducible (refine ChkK.mk (by kernel_rfl) ?_))
  |(refine RowK.mk _ rfl ?_;(conv=>whnf))
  |((with_reducible refine InK.mk (inI (by(try dsimp only);omega) (by(try dsimp only);omega)) ?_);(conv=>whnf))
  |((with_reducible refine bK_split (λh=>?_) (λh=>?_))<;>(try rw[h])<;>(conv at h=>{simp}))
  |((refine SetK.miss (by kernel_rfl) (by kernel_rfl) ?_);(conv=>whnf)))
 refine loop_inv mix (λj:Nat=>j<=k) (I:=λj=>[(0,.lp 0 0),(2,.h 950)])
  (J:=λj=>[(0,tk p cl ho (if j=0 then X else n2) (lets (k -j))),(1,ss q1 q2 q3 q4 (n+j) a d),(950,howR)]) (μ:=λj=>k -j) 1000 0 (by omega) ?_ ?_
 ·rw[if_pos rfl,Nat.sub_zero,show n+((0:Nat):Int)=n by omega]
  (refine Moves.swap 100 950 ?_ ?_ ?_ ?_ ?_<;>repeat'(first|exact True.intro|exact rfl|exact Option.some_ne_none _|exact hsIn_osD|exact hsIn_facA|exact neB rfl|exact mkosl rfl rfl|exact mkfac rfl|exact mkmt rfl rfl|exact hsIn_mtA|exact mklo rfl (by assumption)|exact hlo _ (Option.some_ne_none _) (Option.some_ne_none _) (Option.some_ne_none _) (Option.some_ne_none _) (Option.some_ne_none _)|exact hlo _ (Option.some_ne_none _) (Option.some_ne_none _)|(refine lenE ?_;simp only[List.length_map,rowsD];done)|(refine intE ?_;(try dsimp only);omega)|refine And.intro ?_ ?_))
 intro j hj
 have hY:∃b e,Nm (if j=0 then X else n2) b e/\((if j=0 then X else n2)=n1/\b=false\/(if j=0 then X else n2)=n2/\b=true):=by
  by_cases h:j=0
  ·rw[if_pos h];exact⟨_,_,hX,hl⟩
  ·rw[if_neg h];exact⟨_,_,nm2,.inr ⟨rfl,rfl⟩⟩
 have hYn:0<j->(if j=0 then X else n2)=n2:=λh=>if_neg (by omega)
 generalize(if j=0 then X else n2)=Y at hY hYn⊢
 obtain⟨b',e',hY,hlY⟩:=hY
 have hlen:=lets_len (k -j)
 have hw1:=hY.workE
 have hw2:=hY.work0
 repeat'(first
  |with_reducible (first|refine w1 ?_|refine w2 ?_|refine w3 ?_|refine w4 ?_|refine w5 ?_|refine w6 ?_|refine w7 ?_|refine w8 ?_|refine w9 ?_|refine wa ?_|refine wb ?_|refine wc ?_|refine wd ?_|refine we ?_|refine wf rfl ?_|refine wj ?_|refine wk ?_|refine wl ?_|refine wm rfl ?_|refine StopK.mk ?_|refine BrK.t rfl ?_|refine BrK.f rfl ?_)
  |((with_reducible (first|refine wr ?_|refine wi ?_|refine wx ?_|refine wy ?_|refine wg ?_|refine wh ?_));(conv=>whnf))
  |((with_reducible (refine wt (by decide) (by kernel_rfl) ?_));(conv=>whnf))
  |((with_reducible (refine wu ?_));(conv=>whnf))
  |(with_reducible (refine ChkK.mk (by kernel_rfl) ?_))
  |(refine RowK.mk _ rfl ?_;(conv=>whnf))
  |((with_reducible refine InK.mk (inI (by(try dsimp only);omega) (by(try dsimp only);omega)) ?_);(conv=>whnf))
  |((with_reducible refine bK_split (λh=>?_) (λh=>?_))<;>(try rw[h])<;>(conv at h=>{simp})))
 ·have hs:0<k -j:=by omega
  refine idxK_row (i:=0) rfl (by decide) (by omega) (lets_getD (k -j) 0 hs) ?_
  conv=>whnf
  repeat'(first
   |with_reducible (first|refine w1 ?_|refine w2 ?_|refine w3 ?_|refine w4 ?_|refine w5 ?_|refine w6 ?_|refine w7 ?_|refine w8 ?_|refine w9 ?_|refine wa ?_|refine wb ?_|refine wc ?_|refine wd ?_|refine we ?_|refine wf rfl ?_|refine wj ?_|refine wk ?_|refine wl ?_|refine wm rfl ?_|refine StopK.mk ?_|refine BrK.t rfl ?_|refine BrK.f rfl ?_)
   |((with_reducible (first|refine wr ?_|refine wi ?_|refine wx ?_|refine wy ?_|refine wg ?_|refine wh ?_));(conv=>whnf))
   |((with_reducible (refine wt (by decide) (by kernel_rfl) ?_));(conv=>whnf))
   |((with_reducible (refine wu ?_));(conv=>whnf))
   |(with_reducible (refine ChkK.mk (by kernel_rfl) ?_))
   |(refine RowK.mk _ rfl ?_;(conv=>whnf))
   |((with_reducible refine InK.mk (inI (by(try dsimp only);omega) (by(try dsimp only);omega)) ?_);(conv=>whnf))
   |((with_reducible refine bK_split (λh=>?_) (λh=>?_))<;>(try rw[h])<;>(conv at h=>{simp})))
  refine preK_of ⟨.inr rfl,rfl,by decide,by decide,by simp only[List.length_map];omega,Int.le_refl _,by simp only[List.length_map];exact Int.le_refl _⟩ ?_
  have hrest:List.take (((List.map (λx=>List.map A.d x) (lets (k -j))).length:Int)-1).toNat (List.drop (Int.toNat 1) (lets (k -j)))=lets (k -(j+1)):=by
   rw[List.take_of_length_le (by simp only[List.length_map,List.length_drop];omega)]
   unfold lets
   rw[List.drop_replicate]
   congr 1
  conv=>whnf
  repeat'(first
   |with_reducible (first|refine w1 ?_|refine w2 ?_|refine w3 ?_|refine w4 ?_|refine w5 ?_|refine w6 ?_|refine w7 ?_|refine w8 ?_|refine w9 ?_|refine wa ?_|refine wb ?_|refine wc ?_|refine wd ?_|refine we ?_|refine wf rfl ?_|refine wj ?_|refine wk ?_|refine wl ?_|refine wm rfl ?_|refine StopK.mk ?_|refine BrK.t rfl ?_|refine BrK.f rfl ?_)
   |((with_reducible (first|refine wr ?_|refine wi ?_|refine wx ?_|refine wy ?_|refine wg ?_|refine wh ?_));(conv=>whnf))
   |((with_reducible (refine wt (by decide) (by kernel_rfl) ?_));(conv=>whnf))
   |((with_reducible (refine wu ?_));(conv=>whnf))
   |(with_reducible (refine ChkK.mk (by kernel_rfl) ?_))
   |(refine RowK.mk _ rfl ?_;(conv=>whnf))
   |((with_reducible refine InK.mk (inI (by(try dsimp only);omega) (by(try dsimp only);omega)) ?_);(conv=>whnf))
   |((with_reducible refine bK_split (λh=>?_) (λh=>?_))<;>(try rw[h])<;>(conv at h=>{simp})))
  ·exfalso;omega
  rw[hrest]
  have hr:=roomL hY hlY p q1 q2 q3 q4 cl ho a d (n+j+1) (lets (k -(j+1)))
  have hle:=letL hY p q1 q2 q3 q4 cl ho a d (n+j+1) (lets (k -(j+1)))
  refine CallK.mk (.tup []) [(0,tk p cl ho Y (lets (k -(j+1)))),(1,ss q1 q2 q3 q4 (n+j+1) a d)] (CallT.wargs (CallT.useI hr ⟨Option.some_ne_none _,trivial⟩ ⟨rfl,rfl,trivial⟩ ⟨⟨Option.some_ne_none _,trivial⟩,trivial,trivial⟩ ⟨.inl (Option.some_ne_none _),.inl (Option.some_ne_none _),trivial⟩) (.cons (.same _) (.cons (.agg sL) .nil))) ?_
  conv=>whnf
  repeat'(first
   |with_reducible (first|refine w1 ?_|refine w2 ?_|refine w3 ?_|refine w4 ?_|refine w5 ?_|refine w6 ?_|refine w7 ?_|refine w8 ?_|refine w9 ?_|refine wa ?_|refine wb ?_|refine wc ?_|refine wd ?_|refine we ?_|refine wf rfl ?_|refine wj ?_|refine wk ?_|refine wl ?_|refine wm rfl ?_|refine StopK.mk ?_|refine BrK.t rfl ?_|refine BrK.f rfl ?_)
   |((with_reducible (first|refine wr ?_|refine wi ?_|refine wx ?_|refine wy ?_|refine wg ?_|refine wh ?_));(conv=>whnf))
   |((with_reducible (refine wu ?_));(conv=>whnf))
   |(with_reducible (refine ChkK.mk (by kernel_rfl) ?_))
   |(refine RowK.mk _ rfl ?_;(conv=>whnf))
   |((with_reducible refine InK.mk (inI (by(try dsimp only);omega) (by(try dsimp only);omega)) ?_);(conv=>whnf))
   |((with_reducible refine bK_split (λh=>?_) (λh=>?_))<;>(try rw[h])<;>(conv at h=>{simp}))
   |((refine dcallK_w hw1 (.cons (.same _) (.cons (.agg eCl) .nil)) ?_);(conv=>whnf))
   |((refine dcallK_w hw2 (.cons (.same _) (.cons (.agg eNl) .nil)) ?_);(conv=>whnf))
   |((refine callK_w stop0 (.cons (.x _) (.cons (.same _) .nil)) ?_);(conv=>whnf))
   |((refine LkK.hit _ (by kernel_rfl) rfl ?_);(conv=>whnf)))
  refine CallK.mk (.tup []) [(0,tk p cl ho n2 (lets (k -(j+1)))),(1,ss q1 q2 q3 q4 (n+j+1) a d)] (CallT.wargs (CallT.useI hle ⟨Option.some_ne_none _,trivial⟩ ⟨rfl,rfl,trivial⟩ ⟨⟨Option.some_ne_none _,trivial⟩,trivial,trivial⟩ ⟨.inl (Option.some_ne_none _),.inl (Option.some_ne_none _),trivial⟩) (.cons (.same _) (.cons (.agg sL) (.cons (.agg vmL) (.cons (.agg vzL) .nil))))) ?_
  conv=>whnf
  repeat'(first
   |with_reducible (first|refine w1 ?_|refine w2 ?_|refine w3 ?_|refine w4 ?_|refine w5 ?_|refine w6 ?_|refine w7 ?_|refine w8 ?_|refine w9 ?_|refine wa ?_|refine wb ?_|refine wc ?_|refine wd ?_|refine we ?_|refine wf rfl ?_|refine wj ?_|refine wk ?_|refine wl ?_|refine wm rfl ?_|refine StopK.mk ?_|refine BrK.t rfl ?_|refine BrK.f rfl ?_)
   |((with_reducible (first|refine wr ?_|refine wi ?_|refine wx ?_|refine wy ?_|refine wg ?_|refine wh ?_));(conv=>whnf))
   |((with_reducible (refine wt (by decide) (by kernel_rfl) ?_));(conv=>whnf))
   |((with_reducible (refine wu ?_));(conv=>whnf))
   |(with_reducible (refine ChkK.mk (by kernel_rfl) ?_))
   |(refine RowK.mk _ rfl ?_;(conv=>whnf))
   |((with_reducible refine InK.mk (inI (by(try dsimp only);omega) (by(try dsimp only);omega)) ?_);(conv=>whnf))
   |((with_reducible refine bK_split (λh=>?_) (λh=>?_))<;>(try rw[h])<;>(conv at h=>{simp})))
  refine⟨j+1,by omega,by omega,?_⟩
  rw[if_neg (by omega),show n+(j:Int)+1=n+((j+1:Nat):Int) by omega]
  (refine Moves.swap 5000 5001 ?_ ?_ ?_ ?_ ?_<;>repeat'(first|exact True.intro|exact rfl|exact Option.some_ne_none _|exact hsIn_osD|exact hsIn_facA|exact neB rfl|exact mkosl rfl rfl|exact mkfac rfl|exact mkmt rfl rfl|exact hsIn_mtA|exact mklo rfl (by assumption)|exact hlo _ (Option.some_ne_none _) (Option.some_ne_none _) (Option.some_ne_none _) (Option.some_ne_none _) (Option.some_ne_none _)|exact hlo _ (Option.some_ne_none _) (Option.some_ne_none _)|(refine lenE ?_;simp only[List.length_map,rowsD];done)|(refine intE ?_;(try dsimp only);omega)|refine And.intro ?_ ?_))
 ·have:j=k:=by
   have:=congrArg List.length h
   rw[hlen]at this
   simp only[List.length_nil]at this
   omega
  subst this
  obtain rfl:=hYn hk
  rw[h]
  (refine endM_of rfl ?_<;>repeat'(first|exact True.intro|exact Or.inl rfl|exact Or.inr rfl|refine And.intro ?_ ?_))
end Go.Pv
open Go Go.Pv Go.Proofs
namespace Go.Pv
theorem nameIt:∀m,CallT Tryz.prog 12 [.d (ct [105,116])] m (.ok (.agg [.d (cu 4),.d (ci 0),.d (ct [105,116]),.d (.nl 4)])) m:=closed_call mix (d:=20) (nx:=1) (by kernel_rfl) rfl
theorem lets_succ(i:Nat):lets (i+1)=lets i++[sL]:=by
 unfold lets;rw[List.replicate_succ']
theorem letsMade(k:Nat)(hk:k<=2^38)(h0:0<k):∀m,CallT Tryz.prog 31 [.d (ci k)] m (.ok (.d (.sl 17 (lets k)))) m:=by
 refine pure_of_rd mix Tryz.func31 rfl (by kernel_rfl) (Nat.le_of_ble_eq_true rfl) rfl ?_
 repeat'(first
  |with_reducible (first|refine w1 ?_|refine w2 ?_|refine w3 ?_|refine w4 ?_|refine w5 ?_|refine w6 ?_|refine w7 ?_|refine w8 ?_|refine w9 ?_|refine wa ?_|refine wb ?_|refine wc ?_|refine wd ?_|refine we ?_|refine wf rfl ?_|refine wj ?_|refine wk ?_|refine wl ?_|refine wm rfl ?_|refine StopK.mk ?_|refine BrK.t rfl ?_|refine BrK.f rfl ?_)
  |((with_reducible (first|refine wr ?_|refine wi ?_|refine wx ?_|refine wy ?_|refine wg ?_|refine wh ?_));(conv=>whnf))
  |((with_reducible (refine wt (by decide) (by kernel_rfl) ?_));(conv=>whnf))
  |((with_reducible (refine wu ?_));(conv=>whnf))
  |(with_reducible (refine ChkK.mk (by kernel_rfl) ?_))
  |(refine RowK.mk _ rfl ?_;(conv=>whnf))
  |((with_reducible refine InK.mk (inI (by(try dsimp only);omega) (by(try dsimp only);omega)) ?_);(conv=>whnf))
  |((with_reducible refine bK_split (λh=>?_) (λh=>?_))<;>(try rw[h])<;>(conv at h=>{simp})))
 refine loop_inv mix (λi:Nat=>i<=k) (I:=λi=>[(0,.d (ci k)),(3,lv 17 900 (lets i)),(4,.d (ci i))])
  (J:=λi=>lm 900 60 17 (lets i) []) (μ:=λi=>k -i) 1000 0 (by omega) (by(refine Moves.swap 5000 5001 ?_ ?_ ?_ ?_ ?_<;>repeat'(first|exact True.intro|exact rfl|exact Option.some_ne_none _|exact hsIn_osD|exact hsIn_facA|exact neB rfl|exact mkosl rfl rfl|exact mkfac rfl|exact mkmt rfl rfl|exact hsIn_mtA|exact mklo rfl (by assumption)|exact hlo _ (Option.some_ne_none _) (Option.some_ne_none _) (Option.some_ne_none _) (Option.some_ne_none _) (Option.some_ne_none _)|exact hlo _ (Option.some_ne_none _) (Option.some_ne_none _)|(refine lenE ?_;simp only[List.length_map,rowsD];done)|(refine intE ?_;(try dsimp only);omega)|refine And.intro ?_ ?_))) ?_
 rintro i hi
 cases i with
 |zero=>
  show vc _ _ _ _ _ [] _ _
  repeat'(first
   |with_reducible (first|refine w1 ?_|refine w2 ?_|refine w3 ?_|refine w4 ?_|refine w5 ?_|refine w6 ?_|refine w7 ?_|refine w8 ?_|refine w9 ?_|refine wa ?_|refine wb ?_|refine wc ?_|refine wd ?_|refine we ?_|refine wf rfl ?_|refine wj ?_|refine wk ?_|refine wl ?_|refine wm rfl ?_|refine StopK.mk ?_|refine BrK.t rfl ?_|refine BrK.f rfl ?_)
   |((with_reducible (first|refine wr ?_|refine wi ?_|refine wx ?_|refine wy ?_|refine wg ?_|refine wh ?_));(conv=>whnf))
   |((with_reducible (refine wt (by decide) (by kernel_rfl) ?_));(conv=>whnf))
   |((with_reducible (refine wu ?_));(conv=>whnf))
   |(with_reducible (refine ChkK.mk (by kernel_rfl) ?_))
   |(refine RowK.mk _ rfl ?_;(conv=>whnf))
   |((with_reducible refine InK.mk (inI (by(try dsimp only);omega) (by(try dsimp only);omega)) ?_);(conv=>whnf))
   |((with_reducible refine bK_split (λh=>?_) (λh=>?_))<;>(try rw[h])<;>(conv at h=>{simp}))
   |((refine callK_pure nameIt ?_);(conv=>whnf)))
  ·refine szk (by simp only[List.length_map,List.length_replicate,List.length_set];omega) (by kernel_rfl) ?_
   conv=>whnf
   repeat'(first
    |with_reducible (first|refine w1 ?_|refine w2 ?_|refine w3 ?_|refine w4 ?_|refine w5 ?_|refine w6 ?_|refine w7 ?_|refine w8 ?_|refine w9 ?_|refine wa ?_|refine wb ?_|refine wc ?_|refine wd ?_|refine we ?_|refine wf rfl ?_|refine wj ?_|refine wk ?_|refine wl ?_|refine wm rfl ?_|refine StopK.mk ?_|refine BrK.t rfl ?_|refine BrK.f rfl ?_)
    |((with_reducible (first|refine wr ?_|refine wi ?_|refine wx ?_|refine wy ?_|refine wg ?_|refine wh ?_));(conv=>whnf))
    |((with_reducible (refine wt (by decide) (by kernel_rfl) ?_));(conv=>whnf))
    |((with_reducible (refine wu ?_));(conv=>whnf))
    |(with_reducible (refine ChkK.mk (by kernel_rfl) ?_))
    |(refine RowK.mk _ rfl ?_;(conv=>whnf))
    |((with_reducible refine InK.mk (inI (by(try dsimp only);omega) (by(try dsimp only);omega)) ?_);(conv=>whnf))
    |((with_reducible refine bK_split (λh=>?_) (λh=>?_))<;>(try rw[h])<;>(conv at h=>{simp})))
   refine NlK.mk (λh1=>absurd (congrArg List.length h1) (by simp)) (λ_=>?_)
   conv=>whnf
   repeat'(first
    |with_reducible (first|refine w1 ?_|refine w2 ?_|refine w3 ?_|refine w4 ?_|refine w5 ?_|refine w6 ?_|refine w7 ?_|refine w8 ?_|refine w9 ?_|refine wa ?_|refine wb ?_|refine wc ?_|refine wd ?_|refine we ?_|refine wf rfl ?_|refine wj ?_|refine wk ?_|refine wl ?_|refine wm rfl ?_|refine StopK.mk ?_|refine BrK.t rfl ?_|refine BrK.f rfl ?_)
    |((with_reducible (first|refine wr ?_|refine wi ?_|refine wx ?_|refine wy ?_|refine wg ?_|refine wh ?_));(conv=>whnf))
    |((with_reducible (refine wt (by decide) (by kernel_rfl) ?_));(conv=>whnf))
    |((with_reducible (refine wu ?_));(conv=>whnf))
    |(with_reducible (refine ChkK.mk (by kernel_rfl) ?_))
    |(refine RowK.mk _ rfl ?_;(conv=>whnf))
    |((with_reducible refine InK.mk (inI (by(try dsimp only);omega) (by(try dsimp only);omega)) ?_);(conv=>whnf))
    |((with_reducible refine bK_split (λh=>?_) (λh=>?_))<;>(try rw[h])<;>(conv at h=>{simp})))
   refine⟨1,by omega,by omega,?_⟩
   (refine Moves.swap 1056 900 ?_ ?_ ?_ ?_ ?_<;>repeat'(first|exact True.intro|exact rfl|exact Option.some_ne_none _|exact hsIn_osD|exact hsIn_facA|exact neB rfl|exact mkosl rfl rfl|exact mkfac rfl|exact mkmt rfl rfl|exact hsIn_mtA|exact mklo rfl (by assumption)|exact hlo _ (Option.some_ne_none _) (Option.some_ne_none _) (Option.some_ne_none _) (Option.some_ne_none _) (Option.some_ne_none _)|exact hlo _ (Option.some_ne_none _) (Option.some_ne_none _)|(refine lenE ?_;simp only[List.length_map,rowsD];done)|(refine intE ?_;(try dsimp only);omega)|refine And.intro ?_ ?_))
  ·exfalso;omega
 |succ i=>
  have hl:(rowsD (sL::List.replicate i sL)).length=i+1:=by simp[rowsD]
  repeat'(first
   |with_reducible (first|refine w1 ?_|refine w2 ?_|refine w3 ?_|refine w4 ?_|refine w5 ?_|refine w6 ?_|refine w7 ?_|refine w8 ?_|refine w9 ?_|refine wa ?_|refine wb ?_|refine wc ?_|refine wd ?_|refine we ?_|refine wf rfl ?_|refine wj ?_|refine wk ?_|refine wl ?_|refine wm rfl ?_|refine StopK.mk ?_|refine BrK.t rfl ?_|refine BrK.f rfl ?_)
   |((with_reducible (first|refine wr ?_|refine wi ?_|refine wx ?_|refine wy ?_|refine wg ?_|refine wh ?_));(conv=>whnf))
   |((with_reducible (refine wt (by decide) (by kernel_rfl) ?_));(conv=>whnf))
   |((with_reducible (refine wu ?_));(conv=>whnf))
   |(with_reducible (refine ChkK.mk (by kernel_rfl) ?_))
   |(refine RowK.mk _ rfl ?_;(conv=>whnf))
   |((with_reducible refine InK.mk (inI (by(try dsimp only);omega) (by(try dsimp only);omega)) ?_);(conv=>whnf))
   |((with_reducible refine bK_split (λh=>?_) (λh=>?_))<;>(try rw[h])<;>(conv at h=>{simp}))
   |((refine callK_pure nameIt ?_);(conv=>whnf)))
  ·refine szk (by simp only[List.length_map,List.length_replicate,List.length_set,hl];omega) (by kernel_rfl) ?_
   conv=>whnf
   repeat'(first
    |with_reducible (first|refine w1 ?_|refine w2 ?_|refine w3 ?_|refine w4 ?_|refine w5 ?_|refine w6 ?_|refine w7 ?_|refine w8 ?_|refine w9 ?_|refine wa ?_|refine wb ?_|refine wc ?_|refine wd ?_|refine we ?_|refine wf rfl ?_|refine wj ?_|refine wk ?_|refine wl ?_|refine wm rfl ?_|refine StopK.mk ?_|refine BrK.t rfl ?_|refine BrK.f rfl ?_)
    |((with_reducible (first|refine wr ?_|refine wi ?_|refine wx ?_|refine wy ?_|refine wg ?_|refine wh ?_));(conv=>whnf))
    |((with_reducible (refine wt (by decide) (by kernel_rfl) ?_));(conv=>whnf))
    |((with_reducible (refine wu ?_));(conv=>whnf))
    |(with_reducible (refine ChkK.mk (by kernel_rfl) ?_))
    |(refine RowK.mk _ rfl ?_;(conv=>whnf))
    |((with_reducible refine InK.mk (inI (by(try dsimp only);omega) (by(try dsimp only);omega)) ?_);(conv=>whnf))
    |((with_reducible refine bK_split (λh=>?_) (λh=>?_))<;>(try rw[h])<;>(conv at h=>{simp})))
   refine⟨i+1+1,by omega,by omega,?_⟩
   have e:rowsD (lets (i+1+1))=rowsD (sL::List.replicate i sL)++[sL.map A.d]:=by
    rw[lets_succ (i+1),rowsD_append];rfl
   (refine Moves.swap 1056 900 ?_ ?_ ?_ ?_ ?_<;>repeat'(first|exact True.intro|exact rfl|exact Option.some_ne_none _|exact hsIn_osD|exact hsIn_facA|exact neB rfl|exact mkosl rfl rfl|exact mkfac rfl|exact mkmt rfl rfl|exact hsIn_mtA|exact mklo rfl (by assumption)|exact hlo _ (Option.some_ne_none _) (Option.some_ne_none _) (Option.some_ne_none _) (Option.some_ne_none _) (Option.some_ne_none _)|exact hlo _ (Option.some_ne_none _) (Option.some_ne_none _)|(refine lenE ?_;simp only[List.length_map,rowsD];done)|(refine intE ?_;(try dsimp only);omega)|refine And.intro ?_ ?_))
   exact mkosl rfl e.symm
  ·have:k=i+1:=by omega
   subst this
   exact .one (show Rd _ (.h 900) (.sl 17 (lets (i+1)))from .osD (t:=60) rfl)
end Go.Pv
open Go Go.Pv Go.Proofs
namespace Go.Pv
def hitE(f0:Nat)(as0:List A)(v:A)(g:Hd):Hd:=λc xs t nx=>match c with
 |.fn f=>cond (Nat.beq f f0&&A.eqbL xs as0) (some ([(.ok v,[])],nx)) (g c xs t nx)
 |_=>g c xs t nx
theorem hitE_ok{P:Program}{f0:Nat}{as0:List A}{v:A}{g:Hd}(hg:HdOk P g)(h:∀m,CallT P f0 as0 m (.ok v) m):HdOk P (hitE f0 as0 v g):=by
 refine⟨λf xs t nx outs nx' h'=>?_,λi xs t nx outs nx' h=>hg.yl _ _ _ _ _ _ h,λf xs t nx outs nx' h=>hg.ex _ _ _ _ _ _ h⟩
 replace h':cond (Nat.beq f f0&&A.eqbL xs as0) (some ([(Rt.ok v,[])],nx)) (g (.fn f) xs t nx)=some (outs,nx'):=h'
 cases hb:Nat.beq f f0&&A.eqbL xs as0 with
 |false=>rw[hb]at h';exact hg.fn _ _ _ _ _ _ h'
 |true=>
  rw[hb]at h'
  simp only[cond_true,Option.some.injEq,Prod.mk.injEq]at h'
  obtain⟨rfl,rfl⟩:=h'
  simp only[Bool.and_eq_true]at hb
  have:=Nat.eq_of_beq_eq_true hb.1
  subst this
  rw[A.eqbL_eq _ _ hb.2]
  exact⟨_,_,rfl,h _⟩
theorem HdOk.dep{P:Program}{α:Type}{H:α->Hd}(h:∀a,HdOk P (H a))(sel:Cal->List A->Tr R->α):HdOk P (λc xs t nx=>H (sel c xs t) c xs t nx):=
 ⟨λf xs t nx outs nx' e=>(h _).fn _ _ _ _ _ _ e,λi xs t nx outs nx' e=>(h _).yl _ _ _ _ _ _ e,λf xs t nx outs nx' e=>(h _).ex _ _ _ _ _ _ e⟩
def L511:C:=.sl 17 (lets 511)
def tkX(X:List (List C))(L:C):R:=.cells false [.lp 1 0,.ifc 1 .x,.ifc 3 .x,.ifc 3 .x,.d (.sl 6 X),.d L,.d (cu 0),.d (ci 0),.d (ct []),.d (.nl 5),.d (ci 0),.d (cb false)]
def ssX(n:Int):R:=.cells false [.ifc 4 .x,.ifc 2 .x,.d (ci n),.ifc 3 .x,.ifc 3 .x]
def nSt(xs:List A)(t:Tr R):Int:=match xs with
 |.lp i _::_=>match t.get i with
  |some (.cells _ (.lp j _::_))=>match t.get j with
   |some (.cells _ (_::_::.d (.v (.int .i64 n))::_))=>n
   |_=>0
  |_=>0
 |_=>0
def hitWn(f0:Nat)(X:List (List C))(g:Hd)(n:Int):Hd:=bif decide (0<=n)&&decide (n<=3585)then hitX f0 [.lp 0 0] [(1,ssX n),(0,tkX X L511)] (.ok (.tup [])) [(0,tkX n2 (.sl 17 [])),(1,ssX (n+511))] 0 0 g else g
def hitW(f0:Nat)(X:List (List C))(g:Hd):Hd:=λc xs t nx=>hitWn f0 X g (nSt xs t) c xs t nx
theorem hitW_ok{X:List (List C)}{b:Bool}{e:Nat}(hX:Nm X b e)(hl:X=n1/\b=false\/X=n2/\b=true){g:Hd}(hg:HdOk Tryz.prog g):HdOk Tryz.prog (hitW 91 X g):=by
 refine HdOk.dep (H:=hitWn 91 X g) (λn=>?_) (λ_ xs t=>nSt xs t)
 unfold hitWn
 cases hn:decide (0<=n)&&decide (n<=3585)with
 |false=>exact hg
 |true=>
  simp only[Bool.and_eq_true,decide_eq_true_eq]at hn
  refine hitX_ok hg (by kernel_rfl) (by kernel_rfl) λν hν=>?_
  have s1:=hν (0,tkX X L511) (by simp) 1 rfl
  have s2:=hν (0,tkX X L511) (by simp) 2 rfl
  have s3:=hν (0,tkX X L511) (by simp) 3 rfl
  have s4:=hν (1,ssX n) (by simp) 0 rfl
  have s5:=hν (1,ssX n) (by simp) 1 rfl
  have s6:=hν (1,ssX n) (by simp) 3 rfl
  have s7:=hν (1,ssX n) (by simp) 4 rfl
  obtain⟨v1,e1⟩:∃q,ν 0 1=.pointer (some q):=s1
  obtain⟨v2,e2⟩:∃q,ν 0 2=.int .i64 q:=s2
  obtain⟨v3,e3⟩:∃q,ν 0 3=.int .i64 q:=s3
  obtain⟨v4,v5,v6,e4⟩:∃a n c,ν 1 0=.slice a n c:=s4
  obtain⟨v7,e5⟩:∃q,ν 1 1=.map (some q):=s5
  obtain⟨v8,e6⟩:∃q,ν 1 3=.int .i64 q:=s6
  obtain⟨v9,e7⟩:∃q,ν 1 4=.int .i64 q:=s7
  have k:=worksLets 511 (by omega) n hn.1 (by omega) hX hl v1 v4 v5 v6 v7 v2 v3 v8 v9
  rw[memO_cons,memO_cons,memO_nil]at k
  have k1:fl ν [(1,ssX n),(0,tkX X L511)]=[(1,ss v4 v5 v6 v7 n v8 v9),(0,tk v1 v2 v3 X (lets 511))]:=by
   simp only[fl,List.map,tkX,ssX,R.rg,R.xp,rgL,xpL,isX,cond_true,cond_false,Nat.zero_add,Nat.reduceAdd,e1,e2,e3,e4,e5,e6,e7,L511]
  have k2:fl ν [(0,tkX n2 (.sl 17 [])),(1,ssX (n+511))]=[(0,tk v1 v2 v3 n2 []),(1,ss v4 v5 v6 v7 (n+511) v8 v9)]:=by
   simp only[fl,List.map,tkX,ssX,R.rg,R.xp,rgL,xpL,isX,cond_true,cond_false,Nat.zero_add,Nat.reduceAdd,e1,e2,e3,e4,e5,e6,e7]
  rw[k1,k2]
  exact k
def one0(n:Int):R:=.cells false [.d (ci n)]
def hitS(g:Hd):Hd:=hitX 66 [.d L511,.lp 0 0] [(0,one0 0)] (.ok (.d (cb true))) [(0,one0 511)] 0 0 g
theorem hitS_ok{g:Hd}(hg:HdOk Tryz.prog g):HdOk Tryz.prog (hitS g):=by
 refine hitX_ok hg (by kernel_rfl) (by kernel_rfl) λν hν=>?_
 have k:=smallLets 511 0 (by omega) (by omega)
 rw[memO_cons,memO_nil]at k
 exact k
def ct8:Hd:=hitE 31 [.d (ci 511)] (.d L511) (hitE 78 [.d L511] (.d L511) (hitE 28 [.d L511] (.tup [.d (ci 0),.d (ci 0)]) (hitS (hitW 91 n1 (hitW 91 n2 ctE)))))
theorem ct8_ok:HdOk Tryz.prog ct8:=hitE_ok (hitE_ok (hitE_ok (hitS_ok (hitW_ok nm1 (.inl ⟨rfl,rfl⟩) (hitW_ok nm2 (.inr ⟨rfl,rfl⟩) ctE_ok))) (checkLets 511 (by omega))) (ownLets 511 (by omega) (by omega))) (letsMade 511 (by omega) (by omega))
end Go.Pv
open Go Go.Pv Go.Proofs
namespace Go.Pv
theorem denL_of_C{w:World}{M:Nat->Prop}{m:Mem}{ρ:Nat->Value}:∀(cs:List C)(ys:List Value),C.DenL w M cs ys->A.DenL w M m ρ (cs.map A.d) ys
 |[],ys,h=>by simpa only[List.map_nil,A.DenL,C.DenL]using h
 |c::cs,ys,h=>by
  simp only[C.DenL]at h
  obtain⟨y,yr,rfl,h1,h2⟩:=h
  simp only[List.map_cons,A.DenL]
  exact⟨y,yr,rfl,by simpa only[A.Den]using h1,denL_of_C cs yr h2⟩
theorem CallT.aggRes{P:Program}{f:FuncId}{xs:List A}{m m':Mem}{cs:List C}(h:CallT P f xs m (.ok (.d (.agg cs))) m'):CallT P f xs m (.ok (.agg (cs.map A.d))) m':=by
 refine⟨h.1,λN T M0 S0 w0 ρ a w hs hlt vs hvs=>(h.2 N T M0 S0 w0 ρ a w hs hlt vs hvs).mono ?_⟩
 rintro e w' ⟨ρ',h1,hO,y,e2,h3⟩
 refine⟨ρ',h1,hO,y,e2,?_⟩
 simp only[A.Den,C.Den]at h3⊢
 obtain⟨vs,e3,h4,h5⟩:=h3
 exact⟨vs,e3,h4,denL_of_C cs _ h5⟩
def whC(names:C):List C:=[cu 12,ci 0,cu 0,ci 0,ct [],.nl 0,ci 0,.nl 5,ci 0,ci 0,ci 0,ci 0,cu 0,cb false,L511,names]
abbrev vmA:A:=.agg [.d (cu 0),.d (ci 0),.d (ct []),.d (.nl 0),.d (ci 0)]
theorem setN0:∀m,CallT Tryz.prog 89 [.d (.nl 6),.d (ct [105,116]),vmA] m (.ok (.tup [.d (.sl 6 n1),.d (ci 0)])) m:=dataT_of_run (cs:=[.sl 6 n1,ci 0]) (nx0:=1) (evH_ok mix noCt_ok 20) (by kernel_rfl) rfl
theorem setN2:∀m,CallT Tryz.prog 89 [.d (.sl 6 n2),.d (ct [105,116]),vmA] m (.ok (.tup [.d (.sl 6 n2),.d (ci 0)])) m:=dataT_of_run (cs:=[.sl 6 n2,ci 0]) (nx0:=1) (evH_ok mix noCt_ok 20) (by kernel_rfl) rfl
theorem ownN2:∀m,CallT Tryz.prog 39 [.agg ((whC (.sl 6 n2)).map A.d)] m (.ok (.agg ((whC (.sl 6 n2)).map A.d))) m:=λm=>(data_of_run (c:=.agg (whC (.sl 6 n2))) (nx0:=1) (evH_ok mix ct8_ok 20) (by kernel_rfl) rfl m).aggRes
def ct9:Hd:=hitE 89 [.d (.nl 6),.d (ct [105,116]),vmA] (.tup [.d (.sl 6 n1),.d (ci 0)]) (hitE 89 [.d (.sl 6 n2),.d (ct [105,116]),vmA] (.tup [.d (.sl 6 n2),.d (ci 0)]) (hitE 39 [.agg ((whC (.sl 6 n2)).map A.d)] (.agg ((whC (.sl 6 n2)).map A.d)) ct8))
theorem ct9_ok:HdOk Tryz.prog ct9:=hitE_ok (hitE_ok (hitE_ok ct8_ok ownN2) setN2) setN0
end Go.Pv
open Go Go.Pv Go.Proofs
namespace Go.Pv
theorem perm_erase{α:Type}:∀(L:List α)(i:Nat)(h:i<L.length),L.Perm (L[i]::L.eraseIdx i)
 |[],i,h=>by simp at h
 |a::r,0,h=>.refl _
 |a::r,i+1,h=>by
  have:=perm_erase r i (by simpa using h)
  simp only[List.getElem_cons_succ,List.eraseIdx_cons_succ]
  exact(List.Perm.cons _ this).trans (.swap _ _ _)
structure T6 where
 ref:Int
 code:List (List C)
 nm:C
def T6.cells(t:T6):List C:=[cu 12,ci 0,cu 0,ci 0,ct [],.nl 0,ci 0,.nl 5,ci 0,ci 0,ci 0,ci 0,cu 0,cb false,.sl 17 t.code,t.nm]
def kI(r:Int):Ky:=.one (.int .i64 r)
def T6.kv(t:T6):Ky×C:=(kI t.ref,.ip t.cells)
def thA(D:List T6):List (Ky×A):=D.map λt=>(kI t.ref,A.d (.ip t.cells))
def wD(L:List T6)(n:Int):List C:=[.nl 1,.sl 1 [[cb false]],.im (L.map λt=>kI t.ref) (L.map λt=>.ip t.cells),.im [] [],ci n,.sl 1 [[ci n]]]
theorem thA_hsL(T:List T6):A.hsL ((thA T).map (·.2))=[]:=by
 induction T with
 |nil=>rfl
 |cons p L ih=>exact ih
theorem thA_hs{ml:List (Nat×R)}(T:List T6):HsIn ml (A.hsL ((thA T).map (·.2))++[]):=by
 rw[thA_hsL];trivial
theorem mkth{ml:List (Nat×R)}{i:Nat}{g:Nat->Nat}{D:List T6}(h:memO ml i=some (.mp false (thA D) [])):(memO ml i).map (R.ren g)=some (.mp false (thA D) []):=by
 rw[h]
 simp only[Option.map_some,R.ren,thA,List.map_map,List.map_nil]
 rfl
theorem thA_fit{P:Program}{kt:TypeId}{q:Int}(hk:Ky.fits P kt (kI q)=true)(D:List T6):fitK P kt (kI q) (thA D)=true:=by
 unfold fitK
 rw[hk,Bool.true_and,List.all_eq_true]
 intro p hp
 obtain⟨t,_,rfl⟩:=List.mem_map.1 hp
 rfl
theorem th_none{r:Int}:∀{D:List T6},r∉D.map (·.ref)->kvGet (kI r) (thA D)=none
 |[],_=>rfl
 |p::D,h=>by
  simp only[List.map_cons,List.mem_cons,not_or]at h
  show kvGet (kI r) ((kI p.ref,A.d (.ip p.cells))::thA D)=none
  rw[kvGet,if_neg (by simp[kI];exact h.1)]
  exact th_none h.2
def thP(D:List T6)(r:Int):List (Ky×A):=thA D++[(kI r,.lp 1088 0)]
theorem thP_get{D:List T6}{r:Int}(h:r∉D.map (·.ref)):kvGet (kI r) (thP D r)=some (.lp 1088 0):=by
 have key:∀D:List T6,r∉D.map (·.ref)->kvGet (kI r) (thA D++[(kI r,.lp 1088 0)])=some (.lp 1088 0):=by
  intro D
  induction D with
  |nil=>intro _;show kvGet (kI r) [(kI r,.lp 1088 0)]=_;rw[kvGet,if_pos rfl]
  |cons t D ih=>
   intro h
   simp only[List.map_cons,List.mem_cons,not_or]at h
   show kvGet (kI r) ((kI t.ref,A.d (.ip t.cells))::(thA D++[(kI r,.lp 1088 0)]))=_
   rw[kvGet,if_neg (by simp[kI];exact h.1)]
   exact ih h.2
 exact key D h
theorem thP_fit{kt:TypeId}{r q:Int}(hk:Ky.fits Tryz.prog kt (kI q)=true)(D:List T6):fitK Tryz.prog kt (kI q) (thP D r)=true:=by
 have h1:=thA_fit hk D
 unfold fitK at h1⊢
 rw[Bool.and_eq_true]at h1⊢
 refine⟨h1.1,?_⟩
 unfold thP
 rw[List.all_append,Bool.and_eq_true]
 exact⟨h1.2,by simp only[List.all_cons,List.all_nil,Bool.and_true];rfl⟩
def wCp(n:Int):R:=.cells false [.d (.nl 1),.d (.sl 1 [[cb false]]),.h 177,.h 185,.d (ci n),.d (.sl 1 [[ci n]])]
def mIx(D:List T6)(t:T6)(n:Int):List (Nat×R):=[(201,wCp n),(177,.mp false (thP D t.ref) []),(185,.mp false [] []),(1088,.cells false (t.cells.map A.d))]
theorem thP_hs{ml:List (Nat×R)}{D:List T6}{r:Int}(h:memO ml 1088≠none):HsIn ml (R.mp false (thP D r) []).hs:=by
 have e:(R.mp false (thP D r) []).hs=[1088]:=by
  show A.hsL ((thP D r).map (·.2))++[]=_
  have key:∀D:List T6,A.hsL ((thA D++[(kI r,A.lp 1088 0)]).map (·.2))=[1088]:=by
   intro D
   induction D with
   |nil=>rfl
   |cons t D ih=>exact ih
  rw[List.append_nil]
  exact key D
 rw[e]
 exact⟨h,trivial⟩
theorem index_no(D:List T6)(t:T6)(n:Int)(hD:t.ref∉D.map (·.ref)):CallT Tryz.prog 52 [.lp 201 0,.d (ci t.ref)] (memO (mIx D t n)) (.ok (.tup [])) (applyU (memO (mIx D t n)) []):=by
 refine mem_of_vcL mix 20000 Tryz.func52 rfl (by kernel_rfl) (Nat.le_of_ble_eq_true rfl) trivial trivial ?_
 repeat'(first
  |with_reducible (first|refine w1 ?_|refine w2 ?_|refine w3 ?_|refine w4 ?_|refine w5 ?_|refine w6 ?_|refine w7 ?_|refine w8 ?_|refine w9 ?_|refine wa ?_|refine wb ?_|refine wc ?_|refine wd ?_|refine we ?_|refine wf rfl ?_|refine wj ?_|refine wk ?_|refine wl ?_|refine wm rfl ?_|refine StopK.mk ?_|refine BrK.t rfl ?_|refine BrK.f rfl ?_)
  |((with_reducible (first|refine wr ?_|refine wi ?_|refine wx ?_|refine wy ?_|refine wg ?_|refine wh ?_));(conv=>whnf))
  |((with_reducible (refine wt (by decide) (by kernel_rfl) ?_));(conv=>whnf))
  |((with_reducible (refine wu ?_));(conv=>whnf))
  |(with_reducible (refine ChkK.mk (by kernel_rfl) ?_))
  |(refine RowK.mk _ rfl ?_;(conv=>whnf))
  |((with_reducible refine InK.mk (inI (by(try dsimp only);omega) (by(try dsimp only);omega)) ?_);(conv=>whnf))
  |((with_reducible refine bK_split (λh=>?_) (λh=>?_))<;>(try rw[h])<;>(conv at h=>{simp}))
  |((refine LkK.hit (.lp 1088 0) (thP_fit (by kernel_rfl) D) (thP_get hD) ?_);(conv=>whnf)))
 (refine endM_of rfl ?_<;>repeat'(first|exact True.intro|exact Or.inl rfl|exact Or.inr rfl|refine And.intro ?_ ?_))
theorem cvTh{ml:List (Nat×R)}{D:List T6}{t:T6}(h:memO ml 177=some (.mp false (thP D t.ref) []))(h2:memO ml 1088=some (.cells false (t.cells.map A.d))):∃q,memO ml 177=some q/\CvR (memF [1088] ml) q (.mp false (thA (D++[t])) []):=by
 refine⟨_,h,.mp ?_ ?_⟩
 ·unfold thP thA;simp
 ·have hr:Cv (memF [1088] ml) (.lp 1088 0) (.d (.ip t.cells)):=.rd (.lp (memF_some rfl h2) (RdL.data _ _))
  have key:∀D:List T6,CvL (memF [1088] ml) ((thA D++[(kI t.ref,A.lp 1088 0)]).map (·.2)) ((thA (D++[t])).map (·.2)):=by
   intro D
   induction D with
   |nil=>exact .cons hr (.same _)
   |cons d D ih=>exact .cons (.same _) ih
  exact key D
theorem rdThG{m:Mem}{i:Nat}{T:List T6}{st:List (Ky×Nat)}(h:m i=some (.mp false (thA T) st)):Rd m (.h i) (.im (T.map λt=>kI t.ref) (T.map λt=>.ip t.cells)):=by
 have:=Rd.mp (m:=m) (vs:=T.map λt=>.ip t.cells) h (by
  have e:(thA T).map (·.2)=(T.map λt=>Go.Pv.C.ip t.cells).map A.d:=by unfold thA;rw[List.map_map,List.map_map];rfl
  rw[e];exact RdL.data _ _)
 have e:(thA T).map (·.1)=T.map λt=>kI t.ref:=by unfold thA;rw[List.map_map];rfl
 rw[e]at this
 exact this
theorem rdNoG{m:Mem}{i:Nat}{st:List (Ky×Nat)}(h:m i=some (.mp false [] st)):Rd m (.h i) (.im [] []):=Rd.mp (m:=m) (kv:=[]) (vs:=[]) h .nil
theorem clS1:∀m,CallT Tryz.prog 24 [.d (.nl 1)] m (.ok (.d (.nl 1))) m:=data_of_run (nx0:=1) (evH_ok mix noCt_ok 8) (by kernel_rfl) rfl
theorem clB1:∀m,CallT Tryz.prog 50 [.d (.sl 1 [[cb false]])] m (.ok (.d (.sl 1 [[cb false]]))) m:=data_of_run (nx0:=1) (evH_ok mix noCt_ok 8) (by kernel_rfl) rfl
end Go.Pv
open Go Go.Pv Go.Proofs
namespace Go.Pv
def codeX:List (List C):=[[cu 2,ct [120],ct [],cu 16,cu 0,cu 4,ci 0,ct [99],.nl 4,cu 4,ci 0,ct [105,116],.nl 4,.nl 17,.nl 17,.nl 17,.nl 1],[cu 7,ct [],ct [],cu 0,cu 0,cu 4,ci 0,ct [120],.nl 4,cu 0,ci 0,ct [],.nl 4,.nl 17,.nl 17,.nl 17,.nl 1]]
def code1:List (List C):=[[cu 7,ct [],ct [],cu 0,cu 0,cu 1,ci 5,ct [],.nl 4,cu 0,ci 0,ct [],.nl 4,.nl 17,.nl 17,.nl 17,.nl 1]]
def chT:Nat->T6
 |0=>⟨1,code1,.nl 6⟩
 |i+1=>⟨i+2,codeX,.sl 6 [[ct [99],cu 4,ci 0,ct [],.nl 0,ci (i+1)]]⟩
def chL(n:Nat):List T6:=(List.range n).map chT
theorem chL_nm(n:Nat):∀t∈chL n,t.nm=.nl 6\/∃l,t.nm=.sl 6 l:=by
 intro t ht
 obtain⟨i,_,rfl⟩:=List.mem_map.1 ht
 cases i with
 |zero=>exact .inl rfl
 |succ i=>exact .inr ⟨_,rfl⟩
theorem chL_own:∀t∈chL 17,∀m,CallT Tryz.prog 39 [.d (.agg t.cells)] m (.ok (.d (.agg t.cells))) m:=by
 have h:((chL 17).all λt=>isD (evH Tryz.prog noCt 40 (.fn 39) [.d (.agg t.cells)] .nil 1) (.agg t.cells))=true:=by kernel_rfl
 exact λt ht=>data_of_run (evH_ok mix noCt_ok 40) (List.all_eq_true.1 h t ht) rfl
theorem chL_sub:∀t∈chL 16,t∈chL 17:=by
 intro t ht
 obtain⟨i,hi,rfl⟩:=List.mem_map.1 ht
 exact List.mem_map.2 ⟨i,List.mem_range.2 (by have:=List.mem_range.1 hi;omega),rfl⟩
def ct10:Hd:=hitV 23 [.ip (wD (chL 16) 16)] .x ct9
end Go.Pv
open Go Go.Pv Go.Proofs
namespace Go.Pv
theorem wcopyN(L:List T6)(n:Int)(hno:∀m,CallT Tryz.prog 32 [.d (.ip (wD L n))] m (.ok (.d (cb false))) m)
 (hci:∀m,CallT Tryz.prog 51 [.d (.sl 1 [[ci n]])] m (.ok (.d (.sl 1 [[ci n]]))) m)
 (hown:∀t∈L,∀m,CallT Tryz.prog 39 [.d (.agg t.cells)] m (.ok (.d (.agg t.cells))) m)(hnm:∀t∈L,t.nm=.nl 6\/∃l,t.nm=.sl 6 l)(hL0:(L.map (·.ref)).Nodup):
 CallT Tryz.prog 23 [.d (.ip (wD L n))] (memO []) (.ok (.lp 201 0)) (applyU (memO []) [(201,wCp n),(177,.mp false (thA L) []),(185,.mp false [] [])]):=by
 refine mem_of_vcL mix 1 Tryz.func23 rfl (by kernel_rfl) (Nat.le_of_ble_eq_true rfl) ⟨Option.some_ne_none _,trivial⟩ ⟨⟨Option.some_ne_none _,Option.some_ne_none _,trivial⟩,thA_hs _,trivial,trivial⟩ ?_
 repeat'(first
  |with_reducible (first|refine w1 ?_|refine w2 ?_|refine w3 ?_|refine w4 ?_|refine w5 ?_|refine w6 ?_|refine w7 ?_|refine w8 ?_|refine w9 ?_|refine wa ?_|refine wb ?_|refine wc ?_|refine wd ?_|refine we ?_|refine wf rfl ?_|refine wj ?_|refine wk ?_|refine wl ?_|refine wm rfl ?_|refine StopK.mk ?_|refine BrK.t rfl ?_|refine BrK.f rfl ?_)
  |((with_reducible (first|refine wr ?_|refine wi ?_|refine wx ?_|refine wy ?_|refine wg ?_|refine wh ?_));(conv=>whnf))
  |((with_reducible (refine wu ?_));(conv=>whnf))
  |(with_reducible (refine ChkK.mk (by kernel_rfl) ?_))
  |(refine RowK.mk _ rfl ?_;(conv=>whnf))
  |((with_reducible refine InK.mk (inI (by(try dsimp only);omega) (by(try dsimp only);omega)) ?_);(conv=>whnf))
  |((with_reducible refine bK_split (λh=>?_) (λh=>?_))<;>(try rw[h])<;>(conv at h=>{simp}))
  |((refine callK_pure hno ?_);(conv=>whnf))
  |((refine DCallK.pure _ clS1 ?_);(conv=>whnf))
  |((refine DCallK.pure _ clB1 ?_);(conv=>whnf))
  |((refine DCallK.pure _ hci ?_);(conv=>whnf)))
 refine rngK_map (L:=L) (f:=λt=>kI t.ref) (g:=λt=>.ip t.cells) rfl ?_
 conv=>whnf
 repeat'(first
  |with_reducible (first|refine w1 ?_|refine w2 ?_|refine w3 ?_|refine w4 ?_|refine w5 ?_|refine w6 ?_|refine w7 ?_|refine w8 ?_|refine w9 ?_|refine wa ?_|refine wb ?_|refine wc ?_|refine wd ?_|refine we ?_|refine wf rfl ?_|refine wj ?_|refine wk ?_|refine wl ?_|refine wm rfl ?_|refine StopK.mk ?_|refine BrK.t rfl ?_|refine BrK.f rfl ?_)
  |((with_reducible (first|refine wr ?_|refine wi ?_|refine wx ?_|refine wy ?_|refine wg ?_|refine wh ?_));(conv=>whnf))
  |((with_reducible (refine wt (by decide) (by kernel_rfl) ?_));(conv=>whnf))
  |((with_reducible (refine wu ?_));(conv=>whnf))
  |(with_reducible (refine ChkK.mk (by kernel_rfl) ?_))
  |(refine RowK.mk _ rfl ?_;(conv=>whnf))
  |((with_reducible refine InK.mk (inI (by(try dsimp only);omega) (by(try dsimp only);omega)) ?_);(conv=>whnf))
  |((with_reducible refine bK_split (λh=>?_) (λh=>?_))<;>(try rw[h])<;>(conv at h=>{simp})))
 refine loop_cut mix (λa:Option (Ky×C)×List T6×List T6=>(a.2.2++a.2.1).Perm L) (I:=λa=>[(3,.lp 201 0),(36,.h 249)])
  (J:=λa=>[(201,wCp n),(177,.mp false (thA a.2.2) []),(185,.mp false [] []),(249,.di a.1 (a.2.1.map T6.kv))]) (μ:=λa=>a.2.1.length) 1000 (none,L,[]) 0
  (λ_:Unit=>True) (λ_=>[(3,.lp 201 0)]) (λ_=>[(185,.mp false [] []),(177,.mp false (thA L) []),(201,wCp n)]) 3000 (.refl _) (by(refine Moves.swap 5000 5001 ?_ ?_ ?_ ?_ ?_<;>repeat'(first|exact True.intro|exact rfl|exact Option.some_ne_none _|exact hsIn_osD|exact hsIn_facA|exact neB rfl|exact mkosl rfl rfl|exact mkfac rfl|exact mkmt rfl rfl|exact hsIn_mtA|exact mklo rfl (by assumption)|exact hlo _ (Option.some_ne_none _) (Option.some_ne_none _) (Option.some_ne_none _) (Option.some_ne_none _) (Option.some_ne_none _)|exact hlo _ (Option.some_ne_none _) (Option.some_ne_none _)|(refine lenE ?_;simp only[List.length_map,rowsD];done)|(refine intE ?_;(try dsimp only);omega)|refine And.intro ?_ ?_))) ?_ ?_
 ·rintro⟨cur,M,D⟩ hp
  dsimp only at hp⊢
  repeat'(first
   |with_reducible (first|refine w1 ?_|refine w2 ?_|refine w3 ?_|refine w4 ?_|refine w5 ?_|refine w6 ?_|refine w7 ?_|refine w8 ?_|refine w9 ?_|refine wa ?_|refine wb ?_|refine wc ?_|refine wd ?_|refine we ?_|refine wf rfl ?_|refine wj ?_|refine wk ?_|refine wl ?_|refine wm rfl ?_|refine StopK.mk ?_|refine BrK.t rfl ?_|refine BrK.f rfl ?_)
   |((with_reducible (first|refine wr ?_|refine wi ?_|refine wx ?_|refine wy ?_|refine wg ?_|refine wh ?_));(conv=>whnf))
   |((with_reducible (refine wt (by decide) (by kernel_rfl) ?_));(conv=>whnf))
   |((with_reducible (refine wu ?_));(conv=>whnf))
   |(with_reducible (refine ChkK.mk (by kernel_rfl) ?_))
   |(refine RowK.mk _ rfl ?_;(conv=>whnf))
   |((with_reducible refine InK.mk (inI (by(try dsimp only);omega) (by(try dsimp only);omega)) ?_);(conv=>whnf))
   |((with_reducible refine bK_split (λh=>?_) (λh=>?_))<;>(try rw[h])<;>(conv at h=>{simp})))
  refine nextK_map (λh0=>?_) (λi hi=>?_)
  ·conv=>whnf
   repeat'(first
    |with_reducible (first|refine w1 ?_|refine w2 ?_|refine w3 ?_|refine w4 ?_|refine w5 ?_|refine w6 ?_|refine w7 ?_|refine w8 ?_|refine w9 ?_|refine wa ?_|refine wb ?_|refine wc ?_|refine wd ?_|refine we ?_|refine wf rfl ?_|refine wj ?_|refine wk ?_|refine wl ?_|refine wm rfl ?_|refine StopK.mk ?_|refine BrK.t rfl ?_|refine BrK.f rfl ?_)
    |((with_reducible (first|refine wr ?_|refine wi ?_|refine wx ?_|refine wy ?_|refine wg ?_|refine wh ?_));(conv=>whnf))
    |((with_reducible (refine wt (by decide) (by kernel_rfl) ?_));(conv=>whnf))
    |((with_reducible (refine wu ?_));(conv=>whnf))
    |(with_reducible (refine ChkK.mk (by kernel_rfl) ?_))
    |(refine RowK.mk _ rfl ?_;(conv=>whnf))
    |((with_reducible refine InK.mk (inI (by(try dsimp only);omega) (by(try dsimp only);omega)) ?_);(conv=>whnf))
    |((with_reducible refine bK_split (λh=>?_) (λh=>?_))<;>(try rw[h])<;>(conv at h=>{simp})))
   subst h0
   have hD:D.Perm L:=by simpa using hp
   have e1:(thA D).Perm (thA L):=hD.map _
   refine⟨(),trivial,?_⟩
   refine Moves.trans (l':=[(3,.lp 201 0)]) (ml':=[(177,.mp false (thA D) []),(185,.mp false [] []),(201,wCp n)]) ?_ (Moves.trans (Moves.perm 177 e1) ?_)
   ·skip
    (refine Moves.swap 5000 5001 ?_ ?_ ?_ ?_ ?_<;>repeat'(first|exact True.intro|exact rfl|exact Option.some_ne_none _|exact hsIn_osD|exact hsIn_facA|exact neB rfl|exact mkosl rfl rfl|exact mkfac rfl|exact mkmt rfl rfl|exact hsIn_mtA|exact mklo rfl (by assumption)|exact hlo _ (Option.some_ne_none _) (Option.some_ne_none _) (Option.some_ne_none _) (Option.some_ne_none _) (Option.some_ne_none _)|exact hlo _ (Option.some_ne_none _) (Option.some_ne_none _)|(refine lenE ?_;simp only[List.length_map,rowsD];done)|(refine intE ?_;(try dsimp only);omega)|refine And.intro ?_ ?_))
    all_goals first|exact mkth rfl|exact thA_hs _
   ·skip
    (refine Moves.swap 5000 5001 ?_ ?_ ?_ ?_ ?_<;>repeat'(first|exact True.intro|exact rfl|exact Option.some_ne_none _|exact hsIn_osD|exact hsIn_facA|exact neB rfl|exact mkosl rfl rfl|exact mkfac rfl|exact mkmt rfl rfl|exact hsIn_mtA|exact mklo rfl (by assumption)|exact hlo _ (Option.some_ne_none _) (Option.some_ne_none _) (Option.some_ne_none _) (Option.some_ne_none _) (Option.some_ne_none _)|exact hlo _ (Option.some_ne_none _) (Option.some_ne_none _)|(refine lenE ?_;simp only[List.length_map,rowsD];done)|(refine intE ?_;(try dsimp only);omega)|refine And.intro ?_ ?_))
    all_goals first|exact mkth rfl|exact thA_hs _
  ·conv=>whnf
   have hmL:M[i]∈L:=hp.subset (List.mem_append_right _ (List.getElem_mem hi))
   have hwo:=hown M[i] hmL
   have hnd:=(hp.map (·.ref)).nodup_iff.2 hL0
   rw[List.map_append,List.nodup_append]at hnd
   have hrD:M[i].ref∉D.map (·.ref):=λh=>hnd.2.2 _ h _ (List.mem_map.2 ⟨_,List.getElem_mem hi,rfl⟩) rfl
   have hpe:((D++[M[i]])++(M.eraseIdx i)).Perm L:=by
    refine List.Perm.trans ?_ hp
    rw[List.append_assoc]
    exact List.Perm.append_left _ (perm_erase M i hi).symm
   have hnm':=hnm M[i] hmL
   have hlen:=erase_len M i hi
   generalize M.eraseIdx i=M' at hpe hlen⊢
   generalize M[i]=t at hmL hwo hrD hpe hnm'⊢
   clear hnd hi hp
   obtain⟨r,code,nm⟩:=t
   dsimp only at hrD hnm'
   rcases hnm' with e|⟨l,e⟩
   all_goals subst e
   ·skip
    have hhs:HsIn (mIx D ⟨r,code,.nl 6⟩ n) (A.hsL [.lp 201 0,.d (ci r)]):=⟨Option.some_ne_none _,trivial⟩
    have hcl:ClM (mIx D ⟨r,code,.nl 6⟩ n) (mIx D ⟨r,code,.nl 6⟩ n):=⟨⟨Option.some_ne_none _,Option.some_ne_none _,trivial⟩,thP_hs (Option.some_ne_none _),trivial,trivial,trivial⟩
    repeat'(first
     |with_reducible (first|refine w1 ?_|refine w2 ?_|refine w3 ?_|refine w4 ?_|refine w5 ?_|refine w6 ?_|refine w7 ?_|refine w8 ?_|refine w9 ?_|refine wa ?_|refine wb ?_|refine wc ?_|refine wd ?_|refine we ?_|refine wf rfl ?_|refine wj ?_|refine wk ?_|refine wl ?_|refine wm rfl ?_|refine StopK.mk ?_|refine BrK.t rfl ?_|refine BrK.f rfl ?_)
     |((with_reducible (first|refine wr ?_|refine wi ?_|refine wx ?_|refine wy ?_|refine wg ?_|refine wh ?_));(conv=>whnf))
     |((with_reducible (refine wt (by decide) (by kernel_rfl) ?_));(conv=>whnf))
     |((with_reducible (refine wu ?_));(conv=>whnf))
     |(with_reducible (refine ChkK.mk (by kernel_rfl) ?_))
     |(refine RowK.mk _ rfl ?_;(conv=>whnf))
     |((with_reducible refine InK.mk (inI (by(try dsimp only);omega) (by(try dsimp only);omega)) ?_);(conv=>whnf))
     |((with_reducible refine bK_split (λh=>?_) (λh=>?_))<;>(try rw[h])<;>(conv at h=>{simp}))
     |((refine callK_pure hwo ?_);(conv=>whnf)))
    refine SetK.miss (thA_fit (by kernel_rfl) D) (th_none hrD) ?_
    conv=>whnf
    repeat'(first
     |with_reducible (first|refine w1 ?_|refine w2 ?_|refine w3 ?_|refine w4 ?_|refine w5 ?_|refine w6 ?_|refine w7 ?_|refine w8 ?_|refine w9 ?_|refine wa ?_|refine wb ?_|refine wc ?_|refine wd ?_|refine we ?_|refine wf rfl ?_|refine wj ?_|refine wk ?_|refine wl ?_|refine wm rfl ?_|refine StopK.mk ?_|refine BrK.t rfl ?_|refine BrK.f rfl ?_)
     |((with_reducible (first|refine wr ?_|refine wi ?_|refine wx ?_|refine wy ?_|refine wg ?_|refine wh ?_));(conv=>whnf))
     |((with_reducible (refine wt (by decide) (by kernel_rfl) ?_));(conv=>whnf))
     |((with_reducible (refine wu ?_));(conv=>whnf))
     |(with_reducible (refine ChkK.mk (by kernel_rfl) ?_))
     |(refine RowK.mk _ rfl ?_;(conv=>whnf))
     |((with_reducible refine InK.mk (inI (by(try dsimp only);omega) (by(try dsimp only);omega)) ?_);(conv=>whnf))
     |((with_reducible refine bK_split (λh=>?_) (λh=>?_))<;>(try rw[h])<;>(conv at h=>{simp}))
     |((refine CallK.mk _ _ (CallT.useI (index_no D ⟨r,code,.nl 6⟩ n hrD) hhs ⟨rfl,rfl,rfl,rfl,trivial⟩ hcl trivial) ?_);(conv=>whnf)))
    refine⟨(some (T6.kv ⟨r,code,.nl 6⟩),M',D++[⟨r,code,.nl 6⟩]),hlen,hpe,?_⟩
    dsimp only
    exact Moves.freeze [1088] trivial ⟨.same _,.same _,trivial⟩ ⟨⟨rfl,_,rfl,.cells (.same _)⟩,⟨rfl,cvTh rfl rfl⟩,⟨rfl,_,rfl,.mp rfl (.same _)⟩,⟨rfl,_,rfl,.plain rfl⟩,trivial⟩ ⟨⟨Option.some_ne_none _,trivial⟩,⟨Option.some_ne_none _,trivial⟩,trivial⟩ ⟨⟨Option.some_ne_none _,Option.some_ne_none _,trivial⟩,thA_hs _,trivial,trivial,trivial⟩
   ·skip
    have hhs:HsIn (mIx D ⟨r,code,.sl 6 l⟩ n) (A.hsL [.lp 201 0,.d (ci r)]):=⟨Option.some_ne_none _,trivial⟩
    have hcl:ClM (mIx D ⟨r,code,.sl 6 l⟩ n) (mIx D ⟨r,code,.sl 6 l⟩ n):=⟨⟨Option.some_ne_none _,Option.some_ne_none _,trivial⟩,thP_hs (Option.some_ne_none _),trivial,trivial,trivial⟩
    repeat'(first
     |with_reducible (first|refine w1 ?_|refine w2 ?_|refine w3 ?_|refine w4 ?_|refine w5 ?_|refine w6 ?_|refine w7 ?_|refine w8 ?_|refine w9 ?_|refine wa ?_|refine wb ?_|refine wc ?_|refine wd ?_|refine we ?_|refine wf rfl ?_|refine wj ?_|refine wk ?_|refine wl ?_|refine wm rfl ?_|refine StopK.mk ?_|refine BrK.t rfl ?_|refine BrK.f rfl ?_)
     |((with_reducible (first|refine wr ?_|refine wi ?_|refine wx ?_|refine wy ?_|refine wg ?_|refine wh ?_));(conv=>whnf))
     |((with_reducible (refine wt (by decide) (by kernel_rfl) ?_));(conv=>whnf))
     |((with_reducible (refine wu ?_));(conv=>whnf))
     |(with_reducible (refine ChkK.mk (by kernel_rfl) ?_))
     |(refine RowK.mk _ rfl ?_;(conv=>whnf))
     |((with_reducible refine InK.mk (inI (by(try dsimp only);omega) (by(try dsimp only);omega)) ?_);(conv=>whnf))
     |((with_reducible refine bK_split (λh=>?_) (λh=>?_))<;>(try rw[h])<;>(conv at h=>{simp}))
     |((refine callK_pure hwo ?_);(conv=>whnf)))
    refine SetK.miss (thA_fit (by kernel_rfl) D) (th_none hrD) ?_
    conv=>whnf
    repeat'(first
     |with_reducible (first|refine w1 ?_|refine w2 ?_|refine w3 ?_|refine w4 ?_|refine w5 ?_|refine w6 ?_|refine w7 ?_|refine w8 ?_|refine w9 ?_|refine wa ?_|refine wb ?_|refine wc ?_|refine wd ?_|refine we ?_|refine wf rfl ?_|refine wj ?_|refine wk ?_|refine wl ?_|refine wm rfl ?_|refine StopK.mk ?_|refine BrK.t rfl ?_|refine BrK.f rfl ?_)
     |((with_reducible (first|refine wr ?_|refine wi ?_|refine wx ?_|refine wy ?_|refine wg ?_|refine wh ?_));(conv=>whnf))
     |((with_reducible (refine wt (by decide) (by kernel_rfl) ?_));(conv=>whnf))
     |((with_reducible (refine wu ?_));(conv=>whnf))
     |(with_reducible (refine ChkK.mk (by kernel_rfl) ?_))
     |(refine RowK.mk _ rfl ?_;(conv=>whnf))
     |((with_reducible refine InK.mk (inI (by(try dsimp only);omega) (by(try dsimp only);omega)) ?_);(conv=>whnf))
     |((with_reducible refine bK_split (λh=>?_) (λh=>?_))<;>(try rw[h])<;>(conv at h=>{simp}))
     |((refine CallK.mk _ _ (CallT.useI (index_no D ⟨r,code,.sl 6 l⟩ n hrD) hhs ⟨rfl,rfl,rfl,rfl,trivial⟩ hcl trivial) ?_);(conv=>whnf)))
    refine⟨(some (T6.kv ⟨r,code,.sl 6 l⟩),M',D++[⟨r,code,.sl 6 l⟩]),hlen,hpe,?_⟩
    dsimp only
    exact Moves.freeze [1088] trivial ⟨.same _,.same _,trivial⟩ ⟨⟨rfl,_,rfl,.cells (.same _)⟩,⟨rfl,cvTh rfl rfl⟩,⟨rfl,_,rfl,.mp rfl (.same _)⟩,⟨rfl,_,rfl,.plain rfl⟩,trivial⟩ ⟨⟨Option.some_ne_none _,trivial⟩,⟨Option.some_ne_none _,trivial⟩,trivial⟩ ⟨⟨Option.some_ne_none _,Option.some_ne_none _,trivial⟩,thA_hs _,trivial,trivial,trivial⟩
 rintro _ _
 repeat'(first
  |with_reducible (first|refine w1 ?_|refine w2 ?_|refine w3 ?_|refine w4 ?_|refine w5 ?_|refine w6 ?_|refine w7 ?_|refine w8 ?_|refine w9 ?_|refine wa ?_|refine wb ?_|refine wc ?_|refine wd ?_|refine we ?_|refine wf rfl ?_|refine wj ?_|refine wk ?_|refine wl ?_|refine wm rfl ?_|refine StopK.mk ?_|refine BrK.t rfl ?_|refine BrK.f rfl ?_)
  |((with_reducible (first|refine wr ?_|refine wi ?_|refine wx ?_|refine wy ?_|refine wg ?_|refine wh ?_));(conv=>whnf))
  |((with_reducible (refine wt (by decide) (by kernel_rfl) ?_));(conv=>whnf))
  |((with_reducible (refine wu ?_));(conv=>whnf))
  |(with_reducible (refine ChkK.mk (by kernel_rfl) ?_))
  |(refine RowK.mk _ rfl ?_;(conv=>whnf))
  |((with_reducible refine InK.mk (inI (by(try dsimp only);omega) (by(try dsimp only);omega)) ?_);(conv=>whnf))
  |((with_reducible refine bK_split (λh=>?_) (λh=>?_))<;>(try rw[h])<;>(conv at h=>{simp})))
 (refine endM_of rfl ?_<;>repeat'(first|exact True.intro|exact Or.inl rfl|exact Or.inr rfl|refine And.intro ?_ ?_))
end Go.Pv
open Go Go.Pv Go.Proofs
namespace Go.Pv
theorem CallT.viewP{P:Program}{f:FuncId}{xs:List A}{cs:List C}{i off:Nat}{l:List A}{m m':Mem}(h:CallT P f (cs.map A.d) (λ_=>none) (.ok (.lp i off)) m')(hi:m' i=some (.cells false l))(hr:RdL m xs cs):CallT P f xs m (.ok (.d (.ip []))) m:=by
 refine⟨h.1,?_⟩
 intro N T M0 S0 w0 ρ ac w hs hlt vs hvs
 have hM:Mut M0 (λ_=>none) ρ=M0:=by
  funext b
  refine propext ⟨?_,.inl⟩
  rintro(e|⟨i,r,hi,_⟩)
  ·exact e
  ·cases hi
 have h0:SatAt M0 (λ_=>False) w ⟨N.n,none⟩ (λ_=>.x) (λ_=>none) ρ ac w:=
  {keeps:=Keeps.refl _ _,size:=hs.size,defers:=λds e=>by cases e
   tmps:=λn=>by simp only[A.Den]
   res:=λi r hi=>by cases hi
   own:=λi r b hi=>by cases hi
   apart:=λi j r s b hi=>by cases hi}
 have hlt1:∀b,M0 b->b<w.heap.size:=λb hb=>Nat.lt_of_lt_of_le (hlt b hb) hs.keeps.size
 refine(h.2 ⟨N.n,none⟩ (λ_=>.x) M0 (λ_=>False) w ρ ac w h0 hlt1 vs (by rw[hM];exact denL_data (rdL_den hs hr hvs))).mono ?_
 rintro e w' ⟨ρ',h1,hO,y,rfl,hy⟩
 have hk:=h1.keeps
 have hst:Stays (Mut M0 m ρ) w w':=hk.stays λb _ e=>e.elim
 have hid:∀b,Mut M0 m ρ b->b<w.heap.size->Mut M0 m ρ b:=λb hb _=>hb
 have hmt:=mut_lt hs hlt
 refine⟨ρ,?_,Onto.refl m ρ,y,rfl,?_⟩
 ·exact{keeps:=hs.keeps.trans hk λb _ e=>e.elim,size:=h1.size
        defers:=λds e=>DefsDen_mono hst hid (Onto.refl m ρ) _ _ (hs.defers ds e)
        tmps:=λn=>A.Den_mono hst hid (Onto.refl m ρ) _ _ (hs.tmps n)
        res:=λi r hi=>by
         by_cases hd:r=.dead
         · subst hd;trivial
         · exact R.Ok_mono hst hid (Onto.refl m ρ) (λb hb hlt'=>hk.block b hlt' (λe=>e)) (hs.res i r hi)
        own:=λi r b hi hl hb=>let⟨x,y,z⟩:=hs.own i r b hi hl hb;⟨x,y,Nat.lt_of_lt_of_le z hk.size⟩
        apart:=hs.apart}
 ·simp only[A.Den]at hy
  obtain⟨b,e1,e2⟩:=hy.2 (by rw[hi];simp)
  simp only[A.Den,C.Den]
  obtain⟨q1,q2,q3⟩:=h1.own i _ b hi rfl (by rw[e1];rfl)
  refine⟨b,off,e2,λhm=>?_,q3,trivial⟩
  rcases q1 with q|q
  ·have:=hmt b hm;omega
  ·exact q.elim
theorem wcopyN16:CallT Tryz.prog 23 [.d (.ip (wD (chL 16) 16))] (memO []) (.ok (.lp 201 0)) (applyU (memO []) [(201,wCp 16),(177,.mp false (thA (chL 16)) []),(185,.mp false [] [])]):=
 wcopyN (chL 16) 16 (closed_call mix (d:=8) (nx:=1) (by kernel_rfl) rfl) (data_of_run (nx0:=1) (evH_ok mix noCt_ok 8) (by kernel_rfl) rfl) (λt ht=>chL_own t (chL_sub t ht)) (chL_nm 16) (by decide)
def ct11:Hd:=hitB 23 [.ip (wD (chL 16) 16)] (.ip []) ct9
theorem ct11_ok:HdOk Tryz.prog ct11:=hitB_ok ct9_ok λxs m hr=>CallT.viewP (cs:=[.ip (wD (chL 16) 16)]) wcopyN16 (i:=201) rfl hr
end Go.Pv
open Go Go.Pv Go.Proofs
namespace Go.Pv
abbrev wS(L:List T6)(n:Int):R:=.cells false [.d (.nl 1),.d (.sl 1 [[cb false]]),.d (.im (L.map λt=>kI t.ref) (L.map λt=>.ip t.cells)),.d (.im [] []),.d (ci n),.d (.sl 1 [[ci n]])]
theorem noneS(L:List T6)(n:Int):CallT Tryz.prog 32 [.lp 0 0] (memO [(0,wS L n)]) (.ok (.d (cb false))) (applyU (memO [(0,wS L n)]) [(0,wS L n)]):=by
 refine mem_of_vcL mix 100 Tryz.func32 rfl (by kernel_rfl) (Nat.le_of_ble_eq_true rfl) trivial ⟨trivial,trivial⟩ ?_
 repeat'(first
  |with_reducible (first|refine w1 ?_|refine w2 ?_|refine w3 ?_|refine w4 ?_|refine w5 ?_|refine w6 ?_|refine w7 ?_|refine w8 ?_|refine w9 ?_|refine wa ?_|refine wb ?_|refine wc ?_|refine wd ?_|refine we ?_|refine wf rfl ?_|refine wj ?_|refine wk ?_|refine wl ?_|refine wm rfl ?_|refine StopK.mk ?_|refine BrK.t rfl ?_|refine BrK.f rfl ?_)
  |((with_reducible (first|refine wr ?_|refine wi ?_|refine wx ?_|refine wy ?_|refine wg ?_|refine wh ?_));(conv=>whnf))
  |((with_reducible (refine wt (by decide) (by kernel_rfl) ?_));(conv=>whnf))
  |((with_reducible (refine wu ?_));(conv=>whnf))
  |(with_reducible (refine ChkK.mk (by kernel_rfl) ?_))
  |(refine RowK.mk _ rfl ?_;(conv=>whnf))
  |((with_reducible refine InK.mk (inI (by(try dsimp only);omega) (by(try dsimp only);omega)) ?_);(conv=>whnf))
  |((with_reducible refine bK_split (λh=>?_) (λh=>?_))<;>(try rw[h])<;>(conv at h=>{simp})))
 (refine endM_of rfl ?_<;>repeat'(first|exact True.intro|exact Or.inl rfl|exact Or.inr rfl|refine And.intro ?_ ?_))
theorem wcopyS(L:List T6)(n:Int)(hci:∀m,CallT Tryz.prog 51 [.d (.sl 1 [[ci n]])] m (.ok (.d (.sl 1 [[ci n]]))) m)
 (hown:∀t∈L,∀m,CallT Tryz.prog 39 [.d (.agg t.cells)] m (.ok (.d (.agg t.cells))) m)(hnm:∀t∈L,t.nm=.nl 6\/∃l,t.nm=.sl 6 l)(hL0:(L.map (·.ref)).Nodup):
 CallT Tryz.prog 23 [.lp 0 0] (memO [(0,wS L n)]) (.ok (.lp 201 0)) (applyU (memO [(0,wS L n)]) [(0,wS L n),(201,wS L n)]):=by
 refine mem_of_vcL mix 1 Tryz.func23 rfl (by kernel_rfl) (Nat.le_of_ble_eq_true rfl) ⟨Option.some_ne_none _,trivial⟩ ⟨trivial,trivial,trivial⟩ ?_
 repeat'(first
  |with_reducible (first|refine w1 ?_|refine w2 ?_|refine w3 ?_|refine w4 ?_|refine w5 ?_|refine w6 ?_|refine w7 ?_|refine w8 ?_|refine w9 ?_|refine wa ?_|refine wb ?_|refine wc ?_|refine wd ?_|refine we ?_|refine wf rfl ?_|refine wj ?_|refine wk ?_|refine wl ?_|refine wm rfl ?_|refine StopK.mk ?_|refine BrK.t rfl ?_|refine BrK.f rfl ?_)
  |((with_reducible (first|refine wr ?_|refine wi ?_|refine wx ?_|refine wy ?_|refine wg ?_|refine wh ?_));(conv=>whnf))
  |((with_reducible (refine wu ?_));(conv=>whnf))
  |(with_reducible (refine ChkK.mk (by kernel_rfl) ?_))
  |(refine RowK.mk _ rfl ?_;(conv=>whnf))
  |((with_reducible refine InK.mk (inI (by(try dsimp only);omega) (by(try dsimp only);omega)) ?_);(conv=>whnf))
  |((with_reducible refine bK_split (λh=>?_) (λh=>?_))<;>(try rw[h])<;>(conv at h=>{simp}))
  |((refine CallK.mk (.d (cb false)) [(0,wS L n)] (CallT.useI (noneS L n) ⟨Option.some_ne_none _,trivial⟩ ⟨rfl,trivial⟩ ⟨trivial,trivial⟩ ⟨.inl (Option.some_ne_none _),trivial⟩) ?_);(conv=>whnf))
  |((refine DCallK.pure _ clS1 ?_);(conv=>whnf))
  |((refine DCallK.pure _ clB1 ?_);(conv=>whnf))
  |((refine DCallK.pure _ hci ?_);(conv=>whnf)))
 refine rngK_map (L:=L) (f:=λt=>kI t.ref) (g:=λt=>.ip t.cells) rfl ?_
 conv=>whnf
 repeat'(first
  |with_reducible (first|refine w1 ?_|refine w2 ?_|refine w3 ?_|refine w4 ?_|refine w5 ?_|refine w6 ?_|refine w7 ?_|refine w8 ?_|refine w9 ?_|refine wa ?_|refine wb ?_|refine wc ?_|refine wd ?_|refine we ?_|refine wf rfl ?_|refine wj ?_|refine wk ?_|refine wl ?_|refine wm rfl ?_|refine StopK.mk ?_|refine BrK.t rfl ?_|refine BrK.f rfl ?_)
  |((with_reducible (first|refine wr ?_|refine wi ?_|refine wx ?_|refine wy ?_|refine wg ?_|refine wh ?_));(conv=>whnf))
  |((with_reducible (refine wt (by decide) (by kernel_rfl) ?_));(conv=>whnf))
  |((with_reducible (refine wu ?_));(conv=>whnf))
  |(with_reducible (refine ChkK.mk (by kernel_rfl) ?_))
  |(refine RowK.mk _ rfl ?_;(conv=>whnf))
  |((with_reducible refine InK.mk (inI (by(try dsimp only);omega) (by(try dsimp only);omega)) ?_);(conv=>whnf))
  |((with_reducible refine bK_split (λh=>?_) (λh=>?_))<;>(try rw[h])<;>(conv at h=>{simp})))
 refine loop_cut mix (λa:Option (Ky×C)×List T6×List T6=>(a.2.2++a.2.1).Perm L) (I:=λa=>[(3,.lp 201 0),(36,.h 249)])
  (J:=λa=>[(201,wCp n),(177,.mp false (thA a.2.2) []),(185,.mp false [] []),(0,wS L n),(249,.di a.1 (a.2.1.map T6.kv))]) (μ:=λa=>a.2.1.length) 1000 (none,L,[]) 0
  (λ_:Unit=>True) (λ_=>[(3,.lp 201 0)]) (λ_=>[(201,wS L n),(0,wS L n)]) 3000 (.refl _) (by(refine Moves.swap 5000 5001 ?_ ?_ ?_ ?_ ?_<;>repeat'(first|exact True.intro|exact rfl|exact Option.some_ne_none _|exact hsIn_osD|exact hsIn_facA|exact neB rfl|exact mkosl rfl rfl|exact mkfac rfl|exact mkmt rfl rfl|exact hsIn_mtA|exact mklo rfl (by assumption)|exact hlo _ (Option.some_ne_none _) (Option.some_ne_none _) (Option.some_ne_none _) (Option.some_ne_none _) (Option.some_ne_none _)|exact hlo _ (Option.some_ne_none _) (Option.some_ne_none _)|(refine lenE ?_;simp only[List.length_map,rowsD];done)|(refine intE ?_;(try dsimp only);omega)|refine And.intro ?_ ?_))) ?_ ?_
 ·rintro⟨cur,M,D⟩ hp
  dsimp only at hp⊢
  repeat'(first
   |with_reducible (first|refine w1 ?_|refine w2 ?_|refine w3 ?_|refine w4 ?_|refine w5 ?_|refine w6 ?_|refine w7 ?_|refine w8 ?_|refine w9 ?_|refine wa ?_|refine wb ?_|refine wc ?_|refine wd ?_|refine we ?_|refine wf rfl ?_|refine wj ?_|refine wk ?_|refine wl ?_|refine wm rfl ?_|refine StopK.mk ?_|refine BrK.t rfl ?_|refine BrK.f rfl ?_)
   |((with_reducible (first|refine wr ?_|refine wi ?_|refine wx ?_|refine wy ?_|refine wg ?_|refine wh ?_));(conv=>whnf))
   |((with_reducible (refine wt (by decide) (by kernel_rfl) ?_));(conv=>whnf))
   |((with_reducible (refine wu ?_));(conv=>whnf))
   |(with_reducible (refine ChkK.mk (by kernel_rfl) ?_))
   |(refine RowK.mk _ rfl ?_;(conv=>whnf))
   |((with_reducible refine InK.mk (inI (by(try dsimp only);omega) (by(try dsimp only);omega)) ?_);(conv=>whnf))
   |((with_reducible refine bK_split (λh=>?_) (λh=>?_))<;>(try rw[h])<;>(conv at h=>{simp})))
  refine nextK_map (λh0=>?_) (λi hi=>?_)
  ·conv=>whnf
   repeat'(first
    |with_reducible (first|refine w1 ?_|refine w2 ?_|refine w3 ?_|refine w4 ?_|refine w5 ?_|refine w6 ?_|refine w7 ?_|refine w8 ?_|refine w9 ?_|refine wa ?_|refine wb ?_|refine wc ?_|refine wd ?_|refine we ?_|refine wf rfl ?_|refine wj ?_|refine wk ?_|refine wl ?_|refine wm rfl ?_|refine StopK.mk ?_|refine BrK.t rfl ?_|refine BrK.f rfl ?_)
    |((with_reducible (first|refine wr ?_|refine wi ?_|refine wx ?_|refine wy ?_|refine wg ?_|refine wh ?_));(conv=>whnf))
    |((with_reducible (refine wt (by decide) (by kernel_rfl) ?_));(conv=>whnf))
    |((with_reducible (refine wu ?_));(conv=>whnf))
    |(with_reducible (refine ChkK.mk (by kernel_rfl) ?_))
    |(refine RowK.mk _ rfl ?_;(conv=>whnf))
    |((with_reducible refine InK.mk (inI (by(try dsimp only);omega) (by(try dsimp only);omega)) ?_);(conv=>whnf))
    |((with_reducible refine bK_split (λh=>?_) (λh=>?_))<;>(try rw[h])<;>(conv at h=>{simp})))
   subst h0
   have hD:D.Perm L:=by simpa using hp
   have e1:(thA D).Perm (thA L):=hD.map _
   refine⟨(),trivial,?_⟩
   refine Moves.trans (l':=[(3,.lp 201 0)]) (ml':=[(177,.mp false (thA D) []),(185,.mp false [] []),(201,wCp n),(0,wS L n)]) ?_ (Moves.trans (Moves.perm 177 e1) ?_)
   ·skip
    (refine Moves.swap 5000 5001 ?_ ?_ ?_ ?_ ?_<;>repeat'(first|exact True.intro|exact rfl|exact Option.some_ne_none _|exact hsIn_osD|exact hsIn_facA|exact neB rfl|exact mkosl rfl rfl|exact mkfac rfl|exact mkmt rfl rfl|exact hsIn_mtA|exact mklo rfl (by assumption)|exact hlo _ (Option.some_ne_none _) (Option.some_ne_none _) (Option.some_ne_none _) (Option.some_ne_none _) (Option.some_ne_none _)|exact hlo _ (Option.some_ne_none _) (Option.some_ne_none _)|(refine lenE ?_;simp only[List.length_map,rowsD];done)|(refine intE ?_;(try dsimp only);omega)|refine And.intro ?_ ?_))
    all_goals first|exact mkth rfl|exact thA_hs _
   ·exact Moves.freeze [177,185] ⟨Option.some_ne_none _,trivial⟩ ⟨.same _,trivial⟩ ⟨⟨rfl,_,rfl,.cells (.cons (.same _) (.cons (.same _) (.cons (.rd (rdThG rfl)) (.cons (.rd (rdNoG rfl)) (.same _)))))⟩,⟨rfl,_,rfl,.cells (.same _)⟩,trivial⟩ ⟨⟨Option.some_ne_none _,trivial⟩,trivial⟩ ⟨trivial,trivial,trivial⟩
  ·conv=>whnf
   have hmL:M[i]∈L:=hp.subset (List.mem_append_right _ (List.getElem_mem hi))
   have hwo:=hown M[i] hmL
   have hnd:=(hp.map (·.ref)).nodup_iff.2 hL0
   rw[List.map_append,List.nodup_append]at hnd
   have hrD:M[i].ref∉D.map (·.ref):=λh=>hnd.2.2 _ h _ (List.mem_map.2 ⟨_,List.getElem_mem hi,rfl⟩) rfl
   have hpe:((D++[M[i]])++(M.eraseIdx i)).Perm L:=by
    refine List.Perm.trans ?_ hp
    rw[List.append_assoc]
    exact List.Perm.append_left _ (perm_erase M i hi).symm
   have hnm':=hnm M[i] hmL
   have hlen:=erase_len M i hi
   generalize M.eraseIdx i=M' at hpe hlen⊢
   generalize M[i]=t at hmL hwo hrD hpe hnm'⊢
   clear hnd hi hp
   obtain⟨r,code,nm⟩:=t
   dsimp only at hrD hnm'
   rcases hnm' with e|⟨l,e⟩
   all_goals subst e
   ·skip
    have hhs:HsIn (mIx D ⟨r,code,.nl 6⟩ n) (A.hsL [.lp 201 0,.d (ci r)]):=⟨Option.some_ne_none _,trivial⟩
    have hcl:ClM (mIx D ⟨r,code,.nl 6⟩ n) (mIx D ⟨r,code,.nl 6⟩ n):=⟨⟨Option.some_ne_none _,Option.some_ne_none _,trivial⟩,thP_hs (Option.some_ne_none _),trivial,trivial,trivial⟩
    repeat'(first
     |with_reducible (first|refine w1 ?_|refine w2 ?_|refine w3 ?_|refine w4 ?_|refine w5 ?_|refine w6 ?_|refine w7 ?_|refine w8 ?_|refine w9 ?_|refine wa ?_|refine wb ?_|refine wc ?_|refine wd ?_|refine we ?_|refine wf rfl ?_|refine wj ?_|refine wk ?_|refine wl ?_|refine wm rfl ?_|refine StopK.mk ?_|refine BrK.t rfl ?_|refine BrK.f rfl ?_)
     |((with_reducible (first|refine wr ?_|refine wi ?_|refine wx ?_|refine wy ?_|refine wg ?_|refine wh ?_));(conv=>whnf))
     |((with_reducible (refine wt (by decide) (by kernel_rfl) ?_));(conv=>whnf))
     |((with_reducible (refine wu ?_));(conv=>whnf))
     |(with_reducible (refine ChkK.mk (by kernel_rfl) ?_))
     |(refine RowK.mk _ rfl ?_;(conv=>whnf))
     |((with_reducible refine InK.mk (inI (by(try dsimp only);omega) (by(try dsimp only);omega)) ?_);(conv=>whnf))
     |((with_reducible refine bK_split (λh=>?_) (λh=>?_))<;>(try rw[h])<;>(conv at h=>{simp}))
     |((refine callK_pure hwo ?_);(conv=>whnf)))
    refine SetK.miss (thA_fit (by kernel_rfl) D) (th_none hrD) ?_
    conv=>whnf
    repeat'(first
     |with_reducible (first|refine w1 ?_|refine w2 ?_|refine w3 ?_|refine w4 ?_|refine w5 ?_|refine w6 ?_|refine w7 ?_|refine w8 ?_|refine w9 ?_|refine wa ?_|refine wb ?_|refine wc ?_|refine wd ?_|refine we ?_|refine wf rfl ?_|refine wj ?_|refine wk ?_|refine wl ?_|refine wm rfl ?_|refine StopK.mk ?_|refine BrK.t rfl ?_|refine BrK.f rfl ?_)
     |((with_reducible (first|refine wr ?_|refine wi ?_|refine wx ?_|refine wy ?_|refine wg ?_|refine wh ?_));(conv=>whnf))
     |((with_reducible (refine wt (by decide) (by kernel_rfl) ?_));(conv=>whnf))
     |((with_reducible (refine wu ?_));(conv=>whnf))
     |(with_reducible (refine ChkK.mk (by kernel_rfl) ?_))
     |(refine RowK.mk _ rfl ?_;(conv=>whnf))
     |((with_reducible refine InK.mk (inI (by(try dsimp only);omega) (by(try dsimp only);omega)) ?_);(conv=>whnf))
     |((with_reducible refine bK_split (λh=>?_) (λh=>?_))<;>(try rw[h])<;>(conv at h=>{simp}))
     |((refine CallK.mk _ _ (CallT.useI (index_no D ⟨r,code,.nl 6⟩ n hrD) hhs ⟨rfl,rfl,rfl,rfl,trivial⟩ hcl trivial) ?_);(conv=>whnf)))
    refine⟨(some (T6.kv ⟨r,code,.nl 6⟩),M',D++[⟨r,code,.nl 6⟩]),hlen,hpe,?_⟩
    dsimp only
    exact Moves.freeze [1088] ⟨Option.some_ne_none _,trivial⟩ ⟨.same _,.same _,trivial⟩ ⟨⟨rfl,_,rfl,.cells (.same _)⟩,⟨rfl,cvTh rfl rfl⟩,⟨rfl,_,rfl,.mp rfl (.same _)⟩,⟨rfl,_,rfl,.cells (.same _)⟩,⟨rfl,_,rfl,.plain rfl⟩,trivial⟩ ⟨⟨Option.some_ne_none _,trivial⟩,⟨Option.some_ne_none _,trivial⟩,trivial⟩ ⟨⟨Option.some_ne_none _,Option.some_ne_none _,trivial⟩,thA_hs _,trivial,trivial,trivial,trivial⟩
   ·skip
    have hhs:HsIn (mIx D ⟨r,code,.sl 6 l⟩ n) (A.hsL [.lp 201 0,.d (ci r)]):=⟨Option.some_ne_none _,trivial⟩
    have hcl:ClM (mIx D ⟨r,code,.sl 6 l⟩ n) (mIx D ⟨r,code,.sl 6 l⟩ n):=⟨⟨Option.some_ne_none _,Option.some_ne_none _,trivial⟩,thP_hs (Option.some_ne_none _),trivial,trivial,trivial⟩
    repeat'(first
     |with_reducible (first|refine w1 ?_|refine w2 ?_|refine w3 ?_|refine w4 ?_|refine w5 ?_|refine w6 ?_|refine w7 ?_|refine w8 ?_|refine w9 ?_|refine wa ?_|refine wb ?_|refine wc ?_|refine wd ?_|refine we ?_|refine wf rfl ?_|refine wj ?_|refine wk ?_|refine wl ?_|refine wm rfl ?_|refine StopK.mk ?_|refine BrK.t rfl ?_|refine BrK.f rfl ?_)
     |((with_reducible (first|refine wr ?_|refine wi ?_|refine wx ?_|refine wy ?_|refine wg ?_|refine wh ?_));(conv=>whnf))
     |((with_reducible (refine wt (by decide) (by kernel_rfl) ?_));(conv=>whnf))
     |((with_reducible (refine wu ?_));(conv=>whnf))
     |(with_reducible (refine ChkK.mk (by kernel_rfl) ?_))
     |(refine RowK.mk _ rfl ?_;(conv=>whnf))
     |((with_reducible refine InK.mk (inI (by(try dsimp only);omega) (by(try dsimp only);omega)) ?_);(conv=>whnf))
     |((with_reducible refine bK_split (λh=>?_) (λh=>?_))<;>(try rw[h])<;>(conv at h=>{simp}))
     |((refine callK_pure hwo ?_);(conv=>whnf)))
    refine SetK.miss (thA_fit (by kernel_rfl) D) (th_none hrD) ?_
    conv=>whnf
    repeat'(first
     |with_reducible (first|refine w1 ?_|refine w2 ?_|refine w3 ?_|refine w4 ?_|refine w5 ?_|refine w6 ?_|refine w7 ?_|refine w8 ?_|refine w9 ?_|refine wa ?_|refine wb ?_|refine wc ?_|refine wd ?_|refine we ?_|refine wf rfl ?_|refine wj ?_|refine wk ?_|refine wl ?_|refine wm rfl ?_|refine StopK.mk ?_|refine BrK.t rfl ?_|refine BrK.f rfl ?_)
     |((with_reducible (first|refine wr ?_|refine wi ?_|refine wx ?_|refine wy ?_|refine wg ?_|refine wh ?_));(conv=>whnf))
     |((with_reducible (refine wt (by decide) (by kernel_rfl) ?_));(conv=>whnf))
     |((with_reducible (refine wu ?_));(conv=>whnf))
     |(with_reducible (refine ChkK.mk (by kernel_rfl) ?_))
     |(refine RowK.mk _ rfl ?_;(conv=>whnf))
     |((with_reducible refine InK.mk (inI (by(try dsimp only);omega) (by(try dsimp only);omega)) ?_);(conv=>whnf))
     |((with_reducible refine bK_split (λh=>?_) (λh=>?_))<;>(try rw[h])<;>(conv at h=>{simp}))
     |((refine CallK.mk _ _ (CallT.useI (index_no D ⟨r,code,.sl 6 l⟩ n hrD) hhs ⟨rfl,rfl,rfl,rfl,trivial⟩ hcl trivial) ?_);(conv=>whnf)))
    refine⟨(some (T6.kv ⟨r,code,.sl 6 l⟩),M',D++[⟨r,code,.sl 6 l⟩]),hlen,hpe,?_⟩
    dsimp only
    exact Moves.freeze [1088] ⟨Option.some_ne_none _,trivial⟩ ⟨.same _,.same _,trivial⟩ ⟨⟨rfl,_,rfl,.cells (.same _)⟩,⟨rfl,cvTh rfl rfl⟩,⟨rfl,_,rfl,.mp rfl (.same _)⟩,⟨rfl,_,rfl,.cells (.same _)⟩,⟨rfl,_,rfl,.plain rfl⟩,trivial⟩ ⟨⟨Option.some_ne_none _,trivial⟩,⟨Option.some_ne_none _,trivial⟩,trivial⟩ ⟨⟨Option.some_ne_none _,Option.some_ne_none _,trivial⟩,thA_hs _,trivial,trivial,trivial,trivial⟩
 rintro _ _
 repeat'(first
  |with_reducible (first|refine w1 ?_|refine w2 ?_|refine w3 ?_|refine w4 ?_|refine w5 ?_|refine w6 ?_|refine w7 ?_|refine w8 ?_|refine w9 ?_|refine wa ?_|refine wb ?_|refine wc ?_|refine wd ?_|refine we ?_|refine wf rfl ?_|refine wj ?_|refine wk ?_|refine wl ?_|refine wm rfl ?_|refine StopK.mk ?_|refine BrK.t rfl ?_|refine BrK.f rfl ?_)
  |((with_reducible (first|refine wr ?_|refine wi ?_|refine wx ?_|refine wy ?_|refine wg ?_|refine wh ?_));(conv=>whnf))
  |((with_reducible (refine wt (by decide) (by kernel_rfl) ?_));(conv=>whnf))
  |((with_reducible (refine wu ?_));(conv=>whnf))
  |(with_reducible (refine ChkK.mk (by kernel_rfl) ?_))
  |(refine RowK.mk _ rfl ?_;(conv=>whnf))
  |((with_reducible refine InK.mk (inI (by(try dsimp only);omega) (by(try dsimp only);omega)) ?_);(conv=>whnf))
  |((with_reducible refine bK_split (λh=>?_) (λh=>?_))<;>(try rw[h])<;>(conv at h=>{simp})))
 (refine endM_of rfl ?_<;>repeat'(first|exact True.intro|exact Or.inl rfl|exact Or.inr rfl|refine And.intro ?_ ?_))
end Go.Pv
open Go Go.Pv Go.Proofs
namespace Go.Pv
theorem wcopyS17:CallT Tryz.prog 23 [.lp 0 0] (memO [(0,wS (chL 17) 17)]) (.ok (.lp 201 0)) (applyU (memO [(0,wS (chL 17) 17)]) [(0,wS (chL 17) 17),(201,wS (chL 17) 17)]):=
 wcopyS (chL 17) 17 (data_of_run (nx0:=1) (evH_ok mix noCt_ok 8) (by kernel_rfl) rfl) chL_own (chL_nm 17) (by decide)
def hitK(g:Hd):Hd:=hitX 23 [.lp 0 0] [(0,wS (chL 17) 17)] (.ok (.lp 201 0)) [(0,wS (chL 17) 17),(201,wS (chL 17) 17)] 1 202 g
theorem hitK_ok{g:Hd}(hg:HdOk Tryz.prog g):HdOk Tryz.prog (hitK g):=by
 refine hitX_ok hg (by kernel_rfl) (by kernel_rfl) λν hν=>?_
 have k:=wcopyS17
 rw[memO_cons,memO_nil]at k
 exact k
def hitJ(g:Hd):Hd:=hitD 5 [.d (ci 17)] (.ok (.tup [.lp 1 0,.d (ci 17)])) [(1,wS (chL 17) 17)] 1 2 g
def ct12:Hd:=hitJ (hitK ct11)
end Go.Pv
open Go Go.Pv Go.Proofs
namespace Go.Pv
abbrev hV(k:Nat):Value:=.pointer (some ⟨1,k,none⟩)
abbrev rtC(k:Nat):C:=.ifc 135 (.agg [.v (hV k)])
abbrev rtV(k:Nat):Value:=.iface 135 (.agg #[hV k])
theorem isVO:IsEx Tryz.prog 46 (λargs=>Extern.ReflectliteValue.unpack (args.getD 0 (.tuple #[]))):=run_ext (by kernel_rfl) (by kernel_rfl) (by kernel_rfl) (by kernel_rfl)
def tyE:Array Value->Sem Value:=Extern.ReflectliteValue.methodAny (Extern.ReflectliteValue.valueError "reflectlite.Value.Type" 0) λt _ _ _=>Extern.ReflectliteType.toType t
theorem isTy:IsEx Tryz.prog 47 tyE:=run_ext (by kernel_rfl) (by kernel_rfl) (by kernel_rfl) (by kernel_rfl)
theorem isNi:IsEx Tryz.prog 48 (Extern.ReflectliteValue.method (Extern.ReflectliteValue.valueError "reflectlite.Value.IsNil" 0) Extern.ReflectliteValue.isNil):=run_ext (by kernel_rfl) (by kernel_rfl) (by kernel_rfl) (by kernel_rfl)
theorem isEl:IsEx Tryz.prog 93 (Extern.ReflectliteValue.method (Extern.ReflectliteValue.valueError "reflectlite.Value.Elem" 0) Extern.ReflectliteValue.elem):=run_ext (by kernel_rfl) (by kernel_rfl) (by kernel_rfl) (by kernel_rfl)
theorem isSe:IsEx Tryz.prog 94 Extern.ReflectliteValue.set:=run_ext (by kernel_rfl) (by kernel_rfl) (by kernel_rfl) (by kernel_rfl)
def kiE:Array Value->Sem Value:=Extern.ReflectliteType.abiMethod λt=>do pure (.int .u8 (<-Extern.Rtype.kind t))
theorem isKi:IsEx Tryz.prog 271 kiE:=run_ext (by kernel_rfl) (by kernel_rfl) (by kernel_rfl) (by kernel_rfl)
theorem isRE:IsEx Tryz.prog 282 (Extern.ReflectliteType.method Extern.ReflectliteType.elem):=run_ext (by kernel_rfl) (by kernel_rfl) (by kernel_rfl) (by kernel_rfl)
theorem isTO:IsEx Tryz.prog 21 Extern.ReflectliteType.typeOf:=run_ext (by kernel_rfl) (by kernel_rfl) (by kernel_rfl) (by kernel_rfl)
theorem isAs:IsEx Tryz.prog 280 (Extern.ReflectliteType.relation "AssignableTo" Extern.ReflectliteType.assignableTo):=run_ext (by kernel_rfl) (by kernel_rfl) (by kernel_rfl) (by kernel_rfl)
theorem hanP(w:World):(Extern.Rtype.handle 86).run Tryz.prog w=.ok (hV 86) w:=by kernel_rfl
theorem hanF(w:World):(Extern.Rtype.handle 84).run Tryz.prog w=.ok (hV 84) w:=by kernel_rfl
theorem hanT(w:World):(Extern.Rtype.handle 251).run Tryz.prog w=.ok (hV 251) w:=by kernel_rfl
theorem kinP(w:World):(Extern.Rtype.kind 86).run Tryz.prog w=.ok 22 w:=by kernel_rfl
theorem kinF(w:World):(Extern.Rtype.kind 84).run Tryz.prog w=.ok 20 w:=by kernel_rfl
theorem kinT(w:World):(Extern.Rtype.kind 251).run Tryz.prog w=.ok 22 w:=by kernel_rfl
theorem parP(b:Nat)(w:World):(Extern.ReflectliteValue.parts (vV (hV 86) b 150)).run Tryz.prog w=.ok (some (86,⟨b,0,none⟩,(150:Int).toNat)) w:=by kernel_rfl
theorem parT(b:Nat)(w:World):(Extern.ReflectliteValue.parts (vV (hV 251) b 150)).run Tryz.prog w=.ok (some (251,⟨b,0,none⟩,(150:Int).toNat)) w:=by kernel_rfl
theorem parF(b:Nat)(w:World):(Extern.ReflectliteValue.parts (vV (hV 84) b 404)).run Tryz.prog w=.ok (some (84,⟨b,0,none⟩,(404:Int).toNat)) w:=by kernel_rfl
theorem tyP(b:Nat)(w:World):(tyE #[vV (hV 86) b 150]).run Tryz.prog w=.ok (rtV 86) w:=by kernel_rfl
theorem elP(w:World):(Extern.Rtype.elem? 86).run Tryz.prog w=.ok (some 84) w:=by kernel_rfl
theorem daF(w:World):(Extern.Rtype.directlyAssignable 84 251).run Tryz.prog w=.ok false w:=by kernel_rfl
theorem imF(w:World):(Extern.Rtype.implements 84 251).run Tryz.prog w=.ok true w:=by kernel_rfl
theorem szF(w:World):(sizeOf 84).run Tryz.prog w=.ok 1 w:=by kernel_rfl
theorem toT(v:Value)(w:World):(Extern.ReflectliteType.typeOf #[.iface 251 v]).run Tryz.prog w=.ok (rtV 251) w:=by kernel_rfl
theorem agP:aggOf Tryz.prog 86=some false:=by kernel_rfl
theorem agT:aggOf Tryz.prog 251=some false:=by kernel_rfl
def ctA(g:Hd):Hd:=
 hdVO 46 86 (hV 86) 150 (hdVO 46 251 (hV 251) 150 (hdTy 47 (hV 86) 150 (rtC 86)
 (hdX 271 [.d (.v (hV 86))] (.d (.v (.int .u8 22))) (hdX 271 [.d (.v (hV 84))] (.d (.v (.int .u8 20)))
 (hdX 282 [.d (.agg [.v (hV 86)])] (.d (rtC 84)) (hdTO 21 251 (rtC 251)
 (hdX 280 [.d (.agg [.v (hV 251)]),.d (rtC 84)] (.d (.v (.bool true)))
 (hdNE 48 93 (hV 86) 150 (hV 84) 404 (hdSet 94 251 (hV 84) 404 (hV 251) 150 g)))))))))
theorem ctA_ok{g:Hd}(hg:HdOk Tryz.prog g):HdOk Tryz.prog (ctA g):=by
 unfold ctA
 refine hdVO_ok (K:=22) ?_ isVO hanP kinP rfl rfl
 refine hdVO_ok (K:=22) ?_ isVO hanT kinT rfl rfl
 refine hdTy_ok (z:=rtV 86) ?_ isTy rfl tyP
 refine hdX_ok ?_ (@ext_closed _ _ _ isKi [.v (hV 86)] _ [hV 86] (.int .u8 22) rfl rfl λw=>by kernel_rfl)
 refine hdX_ok ?_ (@ext_closed _ _ _ isKi [.v (hV 84)] _ [hV 84] (.int .u8 20) rfl rfl λw=>by kernel_rfl)
 refine hdX_ok ?_ (@ext_closed _ _ _ isRE [.agg [.v (hV 86)]] _ [.agg #[hV 86]] (rtV 84) rfl rfl λw=>by kernel_rfl)
 refine hdTO_ok (z:=rtV 251) ?_ isTO rfl toT
 refine hdX_ok ?_ (@ext_closed _ _ _ isAs [.agg [.v (hV 251)],rtC 84] _ [.agg #[hV 251],rtV 84] (.bool true) rfl rfl λw=>by kernel_rfl)
 refine hdNE_ok (t0:=86) (e0:=84) (Ke:=20) ?_ isNi isEl agP rfl parP elP hanF kinF rfl rfl
 exact hdSet_ok (t0:=84) hg isSe agT rfl parF parT daF imF kinT szF
def ct13:Hd:=ctA ct12
end Go.Pv
namespace Go.Pv
open Go Go.Proofs
def ctZ:Hd:=ctA (hitK ct11)
theorem ctZ_ok:HdOk Tryz.prog ctZ:=ctA_ok (hitK_ok ct11_ok)
end Go.Pv
namespace Go.Pv
open Go Go.Proofs
theorem applyU_filt(i:Nat):∀(u:List (Nat×R))(m m':Mem),(m'=λj=>bif Nat.beq j i then none else m j)->applyU m' (u.filter λp=> !Nat.beq p.1 i)=λj=>bif Nat.beq j i then none else applyU m u j
 |[],m,m',h=>by simpa [applyU]using h
 |(k,r)::u,m,m',h=>by
  cases hk:Nat.beq k i with
  |true=>
   have e:(((k,r)::u).filter λp=> !Nat.beq p.1 i)=u.filter λp=> !Nat.beq p.1 i:=by simp[List.filter,hk]
   rw[e]
   refine(applyU_filt i u (setM m k r) m' ?_).trans rfl
   rw[h];funext j
   have:=Nat.eq_of_beq_eq_true hk;subst this
   cases hj:Nat.beq j k with
   |true=>rfl
   |false=>simp only[cond_false,setM];rw[if_neg (λe=>by subst e;simp at hj)]
  |false=>
   have e:(((k,r)::u).filter λp=> !Nat.beq p.1 i)=(k,r)::u.filter λp=> !Nat.beq p.1 i:=by simp[List.filter,hk]
   rw[e]
   refine applyU_filt i u (setM m k r) (setM m' k r) ?_
   rw[h];funext j
   by_cases hj:j=k
   ·subst hj;simp[setM,hk]
   ·simp[setM,hj]
def swI(i j:Nat):Nat:=if j=i then 1 else if j=1 then i else j
theorem swI_swI(i j:Nat):swI i (swI i j)=j:=by
 unfold swI
 by_cases h:j=i
 ·subst h
  simp only[if_pos]
  by_cases h1:1=j
  ·simp[h1]
  ·simp[h1]
 ·by_cases h1:j=1
  ·subst h1;simp[h]
  ·simp[h,h1]
theorem renL_d(g:Nat->Nat):∀cs:List C,A.renL g (cs.map A.d)=cs.map A.d
 |[]=>by simp[A.renL]
 |c::r=>by simp only[List.map_cons,A.renL,A.ren,renL_d g r]
theorem frozen1{P:Program}{f:FuncId}{x c:C}{i:Nat}{u:List (Nat×R)}{l:List A}{r:Rt}{cs:List C}(h:CallT P f [.d x] (λ_=>none) r (applyU (λ_=>none) u))(hr:r=.ok (.tup [.lp i 0,.d c]))(hc:c.nr=true)
 (hi:(trU u).get i=some (.cells false l))(hrd:optM (rdA (trU (u.filter λp=> !Nat.beq p.1 i)) 40) l=some cs):CallT P f [.d x] (λ_=>none) (.ok (.tup [.lp 1 0,.d c])) (applyU (λ_=>none) [(1,.cells false (cs.map A.d))]):=by
 subst hr
 rw[trU_get]at hi
 have hR:RdL (λj=>bif Nat.beq j i then none else applyU (λ_=>none) u j) l cs:=by
  have:=optM_rd (rdA_ok 40) hrd
  rw[trU_get,applyU_filt i u (λ_=>none) (λ_=>none) (by funext j;cases Nat.beq j i<;>rfl)]at this
  exact this
 have k:=(CallT.freeze h hi hc hR).ren (g:=swI i) (gi:=swI i) (swI_swI i) (swI_swI i)
 have e1:renM (swI i) (swI i) (λ_=>none)=λ_=>none:=rfl
 have e2:renM (swI i) (swI i) (setM (λ_=>none) i (.cells false (cs.map A.d)))=applyU (λ_=>none) [(1,.cells false (cs.map A.d))]:=by
  funext j
  simp only[renM,applyU,setM]
  by_cases hj:j=1
  ·subst hj
   have:swI i 1=i:=by unfold swI;by_cases h1:1=i<;>simp[h1]
   simp[this,R.ren,renL_d]
  ·have:swI i j≠i:=by
    intro e
    have:=swI_swI i j
    rw[e]at this
    have h2:swI i i=1:=by simp[swI]
    rw[h2]at this
    exact hj this.symm
   simp[this,hj]
 have e3:A.renL (swI i) [.d x]=[.d x]:=by simp[A.renL,A.ren]
 have e4:(Rt.ok (.tup [.lp i 0,.d c])).ren (swI i)=.ok (.tup [.lp 1 0,.d c]):=by
  have h2:swI i i=1:=by simp[swI]
  simp[Rt.ren,A.ren,A.renL,h2]
 rw[e1,e2,e3,e4]at k
 exact k
theorem call_of_piece{P:Program}{H:Hd}(hH:HdOk P H){f:FuncId}{xs:List A}{r:Rt}{u:List (Nat×R)}{a b:Nat}(h:resEqb (H (.fn f) xs (trU []) a) r u b=true):CallT P f xs (λ_=>none) r (applyU (λ_=>none) u):=by
 obtain⟨r',u',e,hc⟩:=hH.fn _ _ _ _ _ _ (resEqb_eq h)
 simp only[List.cons.injEq,Prod.mk.injEq,and_true]at e
 obtain⟨rfl,rfl⟩:=e
 rw[trU_get]at hc
 exact hc
theorem hitJ_of(h:CallT Tryz.prog 5 [.d (ci 17)] (λ_=>none) (.ok (.tup [.lp 1 0,.d (ci 17)])) (applyU (λ_=>none) [(1,wS (chL 17) 17)])){g:Hd}(hg:HdOk Tryz.prog g):HdOk Tryz.prog (hitJ g):=hitD_ok hg h (by kernel_rfl)
end Go.Pv
