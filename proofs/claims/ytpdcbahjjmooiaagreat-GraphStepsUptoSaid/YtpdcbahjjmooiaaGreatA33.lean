import Derived.Test.YtpdcbahjjmooiaaGreatA32
import Derived.Test.YtpdcbahjjmooiaaGreatRows
import Derived.Deep.Slices
import Derived.ChangeArms
import Derived.ChangeMaps5
/- A program logic over the model, contracts of the functions that the law reaches: part 33. (Names and blanks were shortened by program.) -/
set_option linter.unusedVariables false
set_option linter.unusedSimpArgs false
set_option linter.constructorNameAsVariable false
set_option linter.unusedSectionVars false
set_option linter.deprecated false
set_option maxRecDepth 100000
set_option maxHeartbeats 8000000
open Go Go.Proofs
namespace Go.Pv
open Go.RowKit
variable{n:Nat}{t:TypeId}{cs:List Value}
structure aLI(x:X4)(l:List U4):Prop where
 cR:∀t∈x.things,t.bQ.cR<=2^20/\t.bQ.wt
 tl:x.things.length<=2^30
 pl:x.parents.length<=2^38
 cl:x.cuts.length<=2^38
 ml:x.made.length<=2^38
 home:∀t∈x.things,-9223372036854775808<=t.bQ.home/\t.bQ.home<=9223372036854775807
 ll:l.length<=2^30
 gA:∀i(h:i<l.length),l[i].gA
 inl:∀i(h:i<l.length),(jL l[i].names).length<=2^20
theorem aCU{x:X4}{l:List U4}(h:CI x l=true):x.things.length<=60/\x.parents.length<=40/\l.length<=12:=by
 unfold CI at h;simp only[aE,decide_eq_true_eq]at h;obtain⟨⟨⟨a,b,_,_,c⟩,_⟩,_⟩:=h;omega
theorem aAJ(w:D4)(hw:w.qV)(l:List U4)(hl:l.length<=2^30)(hu:∀i(h:i<l.length),l[i].gA)(hne:¬l.all w.zE=true):∀m,aJ Tryz.prog 21 [.d (.ip w.cells),.d (.sl 4 (l.map U4.cells))] m (.ok (.eL [.d (.sl 1 (iR [])),.d (ci 190)])) m:=by
 have hgm:=yG w hw l hl hu;have e3:w.s8 l=190:=by unfold D4.s8;rw[if_neg hne]
 rw[e3]at hgm;refine iC mix Tryz.func21 ?_
 repeat'(first|refine bl ?_|refine aF hgm (bw ?_))
 exact .eL (cs:=[.sl 1 [],ci 190]) (.cons (.nz _ _) (.cons (.d _) .nil))
theorem FX{α:Type}{es ce:Nat}{L:List α}{f:α->List C}{i:Nat}{n:Int}{k:List C->Prop}(hn:n=(i:Int))(h1:es=ce)(h2:0<es)(hi:i<L.length)(hk:k (f L[i])):PA es ce (L.map f) n k:=by
 subst hn;exact cD h1 h2 hi hk
theorem aJ7(x:X4)(l:List U4)(to:Int)(hI:aLI x l):∀m,aJ Tryz.prog 6 [.d (.agg x.cells),.d (.sl 4 (l.map U4.cells)),.d (ci to)] m (.ok (.d (cb true))) m:=by
 have hfi:=aAA x l (λt ht=>⟨cL (hI.cR t ht).1 (bD rfl),(hI.cR t ht).2⟩) (cL hI.ll (bD rfl)) (cL hI.tl (bD rfl));have hfr:=aHE x (λt ht=>cL (hI.cR t ht).1 (bD rfl)) hI.tl hI.pl hI.cl hI.ml hI.home;refine iC mix Tryz.func6 ?_;cases hf:CI x l with
 |false=>
  rw[hf]at hfi
  repeat'(first|refine bl ?_|refine dR hfi (.cons (.agg x.cells) (.cons (.same _) .nil)) (bw ?_)|refine aF D9 (bw ?_))
  exact dP rfl
 |true=>
  rw[hf]at hfi;obtain⟨f1,f2,f3⟩:=aCU hf;cases hb:y9 x with
  |false=>
   have e1:DW x=H5:=by unfold DW;rw[hb];rfl
   have e2:DV x=71:=by unfold DV;rw[hb];rfl
   rw[e1,e2]at hfr
   repeat'(first|refine bl ?_|refine dR hfi (.cons (.agg x.cells) (.cons (.same _) .nil)) (bw ?_)|refine dR hfr (.cons (.agg x.cells) .nil) (bw ?_)|refine aF D9 (bw ?_))
   exact dP rfl
  |true=>
   have e1:DW x=.ip (bJ x).cells:=by unfold DW;rw[hb];rfl
   have e2:DV x=0:=by unfold DV;rw[hb];rfl
   rw[e1,e2]at hfr;have hH:=aL0 hb;have hw:=J1 hH (λt ht=>(hI.cR t ht).1) f1 f2;cases hck:l.all (bJ x).zE with
   |false=>
    have hrc:∀m,aJ Tryz.prog 21 [.d (.ip (bJ x).cells),.d (.sl 4 (l.map U4.cells))] m (.ok (.eL [.d (.sl 1 (iR [])),.d (ci 190)])) m:=aAJ (bJ x) hw l hI.ll hI.gA (by simp[hck])
    repeat'(first|refine bl ?_|refine dR hfi (.cons (.agg x.cells) (.cons (.same _) .nil)) (bw ?_)|refine dR hfr (.cons (.agg x.cells) .nil) (bw ?_)|refine aF hrc (bw ?_)|refine aF D9 (bw ?_))
    exact dP rfl
   |true=>
    have hS:kV x l:=⟨hH,λt ht=>(hI.cR t ht).1,f1,f2,f3,hI.gA,hI.inl,hck⟩;have hrc:=aAK (bJ x) hw l hI.ll hI.gA (hS.qK _ (cL hS.aL2 (bD rfl)));rw[hS.reach.2]at hrc;have hag:=J3 (bJ x) hw.togA ((bJ x).gN l) (cL (hS.qK _ (by have:=hS.GK;omega)) (bD rfl));rw[hS.again.1,hS.again.2]at hag;have hrl:=hS.GK
    repeat'(first|refine bl ?_|refine dR hfi (.cons (.agg x.cells) (.cons (.same _) .nil)) (bw ?_)|refine dR hfr (.cons (.agg x.cells) .nil) (bw ?_)|refine aF hrc (bw ?_)|refine aF hag (bw ?_))
    have hone:∀i(hi:i<l.length),(bJ x).qK (pG [l[i]])<=2^36:=λi hi=>(hS.one i hi).qK _ (by have:=(hS.one i hi).aL2;omega);generalize hA:(bJ x).gN l=AL at hrl;have hsn:AL=[]->∀m,aJ Tryz.prog 13 [.d (.nl 1),.d (.sl 1 (iR AL))] m (.ok (.d (cb true))) m:=λe=>by rw[e];exact aE3
    refine n8 (by simp only[aB];omega) (by kernel_rfl) ?_;conv=>whnf
    refine E9.mk (λh1=>?_) (λh1=>?_)
    all_goals first
     |(have h1:AL=[]:=by simpa using h1
       conv=>whnf
       repeat'(first|refine bl ?_|refine aF (hsn h1) (bw ?_))
       skip)
     |(conv=>whnf
       repeat'(first|refine bl ?_|refine lN 329 (dU 25 1 (iR (over AL AL.length))) ((aIC AL (by omega)).AK (oJ _ _ _) (λg=>eT g _ _ _) (λg=>eT g _ _ _) rfl (by simp[Go.Pv.A.lQ,Go.Pv.A.hs]) (aK _) 329 rfl) (bw ?_))
       skip)
    all_goals
     refine cY mix (λs:Nat×List Int=>s.1<=l.length/\s.2=((l.take s.1).map λu=>(bJ x).gN [u]).flatten) (I:=λs=>[(1,.d (.sl 4 (l.map U4.cells))),(2,.d (ci to)),(7,.d (.ip (bJ x).cells)),(9,.d (.sl 1 (iR AL))),(12,lv 1 900 (iR s.2)),(13,.d (ci s.1))]) (J:=λs=>lm 900 25 1 (iR s.2) []) (μ:=λs=>l.length -s.1) 3000 (0,[]) 0
      (λ_:Unit=>True) (λ_=>[(9,.d (.sl 1 (iR AL))),(12,.d (.sl 1 (iR (HV (bJ x) l))))]) (λ_=>[]) 90000 ⟨by simp,by simp⟩ (by exact mv 5000 5001) ?_ ?_
     ·rintro⟨i,Q⟩ ⟨hi,hQ⟩;dsimp only at hi hQ⊢;have hQl:Q.length<=12*60:=by
       rw[hQ];refine cL (KB (B:=60) λe he=>?_) ?_
       ·obtain⟨u,hu,rfl⟩:=aM.1 he;obtain⟨j,hj,rfl⟩:=dH.1 (dJ hu);exact hS.QO j hj
       ·rw[aB,cW];exact l5 (by omega) (bT _)
      by_cases hlt:i<l.length
      ·have hgi:=hI.gA i hlt;have hr1:=VV (bJ x) hw l[i] hgi (hS.cki i hlt) (hone i hlt);rw[(hS.one i hlt).reach.2]at hr1;have hpo:=hS.aH4 i hlt to;have hpe:=hS.EL i hlt to;have hpa:=DY (bJ x) hw l[i] hgi to;have hPl:=hS.aEM i hlt to;have hOl:=hS.QO i hlt;have hcut:=hS.aH2 i hlt to;have hhas:=sN ((bJ x).gN [l[i]]) to (by omega);rw[<-hpo]at hhas;rw[hpe]at hpa;have hist:=sB (bJ x) to;have hjo:∀k(hk:k<((bJ x).gN [l[i]]).length),(bJ x).D6 l i (((bJ x).gN [l[i]])[k])=true/\(bJ x).mI (((bJ x).gN [l[i]])[k])=true:=λk hk=>⟨hS.aJ6 i hlt _ (aY hk),(hS.one i hlt).BF _ (aY hk)⟩;have hstp:((l.take (i+1)).map λu=>(bJ x).gN [u]).flatten=Q++(bJ x).gN [l[i]]:=by rw[hQ,aT hlt,bP,fJ];simp
       have hbt:((bJ x).l9 l[i] to).2=true->(bJ x).mI to=true:=λe=>by
        rw[hpo,o9]at e;exact(hS.one i hlt).BF _ e
       have hhol:=aAI (bJ x) hw l[i] hgi;have hcki:=hS.cki i hlt;rw[if_pos hcki,show(bJ x).I9 l[i]=0 by unfold D4.I9;rw[if_pos hcki]]at hhol;generalize((bJ x).l9 l[i] to).2=ok at hpa hcut hhas hbt;generalize((bJ x).l9 l[i] to).1=P at hpa hcut hPl;generalize(bJ x).gN [l[i]]=O at hr1 hhas hOl hjo hstp;cases Q with
       |nil=>
        show vc _ _ _ _ _ [] _ _;cases ok with
        |false=>
         cases CL:(bJ x).mI to<;>rw[CL]at hist hpa<;>(try simp only[bY,if_false,if_true]at hpa)
         all_goals
          repeat'(first|refine bl ?_|refine bS (λh=>?_) (λh=>?_)|refine cD rfl (by decide) hlt (bw ?_)|refine dZ.mk (.eL [.d (.sl 1 (iR O)),.d (ci 0)]) [] (aJ.hP hr1 ⟨sn,trivial⟩ ⟨rfl,trivial⟩ ⟨aZ,trivial⟩ trivial) (bw ?_)|refine aF hpa (bw ?_)|refine aF hhas (bw ?_)|refine aF hist (bw ?_))
          rotate_left
          ·exfalso;omega
          refine n8 (by simp only[aB];omega) (by kernel_rfl) ?_;conv=>whnf
          refine E9.mk (λh1=>?_) (λh1=>?_)
          ·have h1:O=[]:=by simpa using h1
           conv=>whnf
           refine bl ?_;refine cY mix (λk:Nat=>k<=P.length) (I:=λk=>[(1,.d (.sl 4 (l.map U4.cells))),(2,.d (ci to)),(7,.d (.ip (bJ x).cells)),(9,.d (.sl 1 (iR AL))),(12,lv 1 900 (iR ([]))),(13,.d (ci i)),(14,.d (.sl 1 (iR O))),(16,.d (.sl 1 (iR P))),(17,.d (cb false)),(19,.d (ci k))]) (J:=λk=>lm 900 25 1 (iR ([])) []) (μ:=λk=>P.length -k) 10000 0 2
            (λ_:Unit=>True) (λ_=>[(1,.d (.sl 4 (l.map U4.cells))),(2,.d (ci to)),(7,.d (.ip (bJ x).cells)),(9,.d (.sl 1 (iR AL))),(12,lv 1 900 (iR ([]))),(13,.d (ci i)),(14,.d (.sl 1 (iR O)))]) (λ_=>lm 900 25 1 (iR ([])) []) 20000 (by omega) (by dsimp only[iR,List.map_cons,List.map_nil,List.cons_append,List.nil_append,lv,lm];exact mv 5000 5001) ?_ ?_
           ·intro k hk;refine bl ?_;exact⟨(),trivial,by exact mv 5000 5001⟩
           rintro _ _;refine bl ?_;refine cY mix (λk:Nat=>k<=O.length) (I:=λk=>[(1,.d (.sl 4 (l.map U4.cells))),(2,.d (ci to)),(7,.d (.ip (bJ x).cells)),(9,.d (.sl 1 (iR AL))),(12,lv 1 900 (iR ([]))),(13,.d (ci i)),(14,.d (.sl 1 (iR O))),(29,.d (ci k))]) (J:=λk=>lm 900 25 1 (iR ([])) []) (μ:=λk=>O.length -k) 30000 0 4
            (λ_:Unit=>True) (λ_=>[(1,.d (.sl 4 (l.map U4.cells))),(2,.d (ci to)),(7,.d (.ip (bJ x).cells)),(9,.d (.sl 1 (iR AL))),(12,lv 1 900 (iR ([]))),(13,.d (ci i))]) (λ_=>lm 900 25 1 (iR ([])) []) 40000 (by omega) (by dsimp only[iR,List.map_cons,List.map_nil,List.cons_append,List.nil_append,lv,lm];exact mv 5000 5001) ?_ ?_
           ·intro k hk
            repeat'(first|refine bl ?_|refine bS (λh=>?_) (λh=>?_))
            ·have hkO:k<O.length:=by assumption
             obtain⟨z1,z2⟩:=hjo k hkO;have hjd:=tO (bJ x) hw l hI.ll hI.gA hck i hlt O[k] z2;rw[z1]at hjd
             repeat'(first|refine bl ?_|refine cD rfl (by decide) hkO (bw ?_)|(refine dR hjd (.cons (.same _) (.cons (.agg [cb false,ci i,ci 0]) (.cons (.agg [cb true,ci 0,ci O[k]]) (.cons (.same _) .nil)))) ?_;(conv=>whnf)))
             exact⟨k+1,by omega,by omega,by exact mv 5000 5001⟩
            ·exact⟨(),trivial,by exact mv 5000 5001⟩
           rintro _ _;refine bl ?_;refine⟨(i+1,[]),by dsimp only;omega,⟨by dsimp only;omega,by dsimp only;rw[hstp];rw[h1];rfl⟩,?_⟩;exact mv 5000 5001
          ·have h1:O≠[]:=by simpa using h1
           conv=>whnf
           refine bl ?_;obtain⟨o0,O2,hO2⟩:∃o0 O2,O=o0::O2:=by
            cases O with
            |nil=>exact absurd rfl h1
            |cons o0 O2=>exact⟨o0,O2,rfl⟩
           refine cY mix (λk:Nat=>k<=P.length) (I:=λk=>[(1,.d (.sl 4 (l.map U4.cells))),(2,.d (ci to)),(7,.d (.ip (bJ x).cells)),(9,.d (.sl 1 (iR AL))),(12,lv 1 900 (iR (o0::O2))),(13,.d (ci i)),(14,.d (.sl 1 (iR O))),(16,.d (.sl 1 (iR P))),(17,.d (cb false)),(19,.d (ci k))]) (J:=λk=>lm 900 25 1 (iR (o0::O2)) []) (μ:=λk=>P.length -k) 10000 0 2
            (λ_:Unit=>True) (λ_=>[(1,.d (.sl 4 (l.map U4.cells))),(2,.d (ci to)),(7,.d (.ip (bJ x).cells)),(9,.d (.sl 1 (iR AL))),(12,lv 1 900 (iR (o0::O2))),(13,.d (ci i)),(14,.d (.sl 1 (iR O)))]) (λ_=>lm 900 25 1 (iR (o0::O2)) []) 20000 (by omega) (by dsimp only[iR,List.map_cons,List.map_nil,List.cons_append,List.nil_append,lv,lm];first|(refine mq 3376 900 ?_;all_goals exact cO rfl (by rw[hO2];rfl))|(refine mq 3408 900 ?_;all_goals exact cO rfl (by rw[hO2];rfl))) ?_ ?_
           ·intro k hk;refine bl ?_;exact⟨(),trivial,by exact mv 5000 5001⟩
           rintro _ _;refine bl ?_;refine cY mix (λk:Nat=>k<=O.length) (I:=λk=>[(1,.d (.sl 4 (l.map U4.cells))),(2,.d (ci to)),(7,.d (.ip (bJ x).cells)),(9,.d (.sl 1 (iR AL))),(12,lv 1 900 (iR (o0::O2))),(13,.d (ci i)),(14,.d (.sl 1 (iR O))),(29,.d (ci k))]) (J:=λk=>lm 900 25 1 (iR (o0::O2)) []) (μ:=λk=>O.length -k) 30000 0 4
            (λ_:Unit=>True) (λ_=>[(1,.d (.sl 4 (l.map U4.cells))),(2,.d (ci to)),(7,.d (.ip (bJ x).cells)),(9,.d (.sl 1 (iR AL))),(12,lv 1 900 (iR (o0::O2))),(13,.d (ci i))]) (λ_=>lm 900 25 1 (iR (o0::O2)) []) 40000 (by omega) (by dsimp only[iR,List.map_cons,List.map_nil,List.cons_append,List.nil_append,lv,lm];exact mv 5000 5001) ?_ ?_
           ·intro k hk
            repeat'(first|refine bl ?_|refine bS (λh=>?_) (λh=>?_))
            ·have hkO:k<O.length:=by assumption
             obtain⟨z1,z2⟩:=hjo k hkO;have hjd:=tO (bJ x) hw l hI.ll hI.gA hck i hlt O[k] z2;rw[z1]at hjd
             repeat'(first|refine bl ?_|refine cD rfl (by decide) hkO (bw ?_)|(refine dR hjd (.cons (.same _) (.cons (.agg [cb false,ci i,ci 0]) (.cons (.agg [cb true,ci 0,ci O[k]]) (.cons (.same _) .nil)))) ?_;(conv=>whnf)))
             exact⟨k+1,by omega,by omega,by exact mv 5000 5001⟩
            ·exact⟨(),trivial,by exact mv 5000 5001⟩
           rintro _ _;refine bl ?_;refine⟨(i+1,o0::O2),by dsimp only;omega,⟨by dsimp only;omega,by dsimp only;rw[hstp];rw[hO2];rfl⟩,?_⟩;exact mv 5000 5001
        |true=>
         rw[hbt rfl]at hist hpa;simp only[if_true]at hpa
         repeat'(first|refine bl ?_|refine bS (λh=>?_) (λh=>?_)|refine cD rfl (by decide) hlt (bw ?_)|refine dZ.mk (.eL [.d (.sl 1 (iR O)),.d (ci 0)]) [] (aJ.hP hr1 ⟨sn,trivial⟩ ⟨rfl,trivial⟩ ⟨aZ,trivial⟩ trivial) (bw ?_)|refine aF hpa (bw ?_)|refine aF hhas (bw ?_)|refine aF hist (bw ?_))
         rotate_left
         ·exfalso;omega
         refine n8 (by simp only[aB];omega) (by kernel_rfl) ?_;conv=>whnf
         refine E9.mk (λh1=>?_) (λh1=>?_)
         ·have h1:O=[]:=by simpa using h1
          conv=>whnf
          refine bl ?_;refine cY mix (λk:Nat=>k<=P.length) (I:=λk=>[(1,.d (.sl 4 (l.map U4.cells))),(2,.d (ci to)),(7,.d (.ip (bJ x).cells)),(9,.d (.sl 1 (iR AL))),(12,lv 1 900 (iR ([]))),(13,.d (ci i)),(14,.d (.sl 1 (iR O))),(16,.d (.sl 1 (iR P))),(17,.d (cb true)),(19,.d (ci k))]) (J:=λk=>lm 900 25 1 (iR ([])) []) (μ:=λk=>P.length -k) 10000 0 2
           (λ_:Unit=>True) (λ_=>[(1,.d (.sl 4 (l.map U4.cells))),(2,.d (ci to)),(7,.d (.ip (bJ x).cells)),(9,.d (.sl 1 (iR AL))),(12,lv 1 900 (iR ([]))),(13,.d (ci i)),(14,.d (.sl 1 (iR O)))]) (λ_=>lm 900 25 1 (iR ([])) []) 20000 (by omega) (by dsimp only[iR,List.map_cons,List.map_nil,List.cons_append,List.nil_append,lv,lm];exact mv 5000 5001) ?_ ?_
          ·intro k hk
           repeat'(first|with_reducible (first|refine w1 ?_|refine w2 ?_|refine w3 ?_|refine w5 ?_|refine w9 ?_|refine wa ?_|refine wk ?_|refine nN.mk ?_|refine O8.t rfl ?_)|((with_reducible (first|refine wr ?_|refine wi ?_|refine wg ?_));(conv=>whnf))|((with_reducible refine wt (by decide) (by kernel_rfl) ?_);(conv=>whnf))|((with_reducible refine nQ (λh=>?_) (λh=>?_))<;>(try rw[h])<;>(conv at h=>{simp})))
           ·have hkP:k<P.length:=by assumption
            obtain⟨y1,y2,y3,y4,y5⟩:=hcut rfl k hkP;have hpk:=DY (bJ x) hw l[i] (hI.gA i hlt) P[k];have hpe2:=hS.EL i hlt P[k];rw[if_pos y1]at hpe2;rw[y2,hpe2]at hpk;generalize((bJ x).l9 l[i] P[k]).1=PK at hpk y3
            repeat'(first|refine bl ?_|refine bS (λh=>?_) (λh=>?_)|refine cD rfl (by decide) hlt (bw ?_)|refine cD rfl (by decide) hkP (bw ?_)|refine XD.mk _ hpk (bw ?_))
            ·exfalso;simp only[aB]at*;omega
            ·have hk0:k=0:=by omega
             subst hk0;have hhs:=sN (oZ (jL l[i].names)) P[0] (cL (xH _) (by have:=hI.inl i hlt;omega));rw[o9.2 ((o3 _ _).2 (y4 rfl))]at hhs
             repeat'(first|refine bl ?_|refine aF hhol (bw ?_)|refine cD (i:=0) rfl (by decide) hkP (bw ?_)|refine aF hhs (bw ?_))
             exact⟨1,by omega,by omega,by exact mv 5000 5001⟩
            ·obtain⟨j,rfl⟩:∃j,k=j+1:=⟨k -1,by omega⟩;obtain⟨hj,y6⟩:=y5 j rfl;have hlie:=QB (bJ x) hw.togA P[j];have hlin:=AM (bJ x) hw.togA P[j];have hll:=AJ (bJ x) hw.togA P[j];have hll2:=tP (bJ x) P[j];have hj1:((j+1:Nat):Int)-1=(j:Int):=by omega
             have hh1:=sN ((bJ x).oE P[j]) P[j+1] (by omega);have hh2:=sN ((bJ x).nW P[j]) P[j+1] (by omega);have y7:(((bJ x).oE P[j]).any λz=>decide (z=P[j+1]))=true\/(((bJ x).nW P[j]).any λz=>decide (z=P[j+1]))=true:=by
              rw[o9,o9];exact bN.1 y6
             generalize(((bJ x).oE P[j]).any λz=>decide (z=P[j+1]))=b1 at hh1 y7;generalize(((bJ x).nW P[j]).any λz=>decide (z=P[j+1]))=b2 at hh2 y7
             repeat'(first|refine bl ?_|refine bS (λh=>?_) (λh=>?_)|refine FX hj1 rfl (by decide) hj (bw ?_)|refine cD rfl (by decide) hkP (bw ?_)|refine aF hlie (bw ?_)|refine aF hlin (bw ?_)|refine aF hh1 (bw ?_)|refine aF hh2 (bw ?_))
             all_goals first
              |exact⟨j+1+1,by omega,by omega,by exact mv 5000 5001⟩
              |(exfalso;rcases y7 with e|e<;>simp_all;done)
              |skip
           ·exact⟨(),trivial,by exact mv 5000 5001⟩
          rintro _ _;refine bl ?_;refine cY mix (λk:Nat=>k<=O.length) (I:=λk=>[(1,.d (.sl 4 (l.map U4.cells))),(2,.d (ci to)),(7,.d (.ip (bJ x).cells)),(9,.d (.sl 1 (iR AL))),(12,lv 1 900 (iR ([]))),(13,.d (ci i)),(14,.d (.sl 1 (iR O))),(29,.d (ci k))]) (J:=λk=>lm 900 25 1 (iR ([])) []) (μ:=λk=>O.length -k) 30000 0 4
           (λ_:Unit=>True) (λ_=>[(1,.d (.sl 4 (l.map U4.cells))),(2,.d (ci to)),(7,.d (.ip (bJ x).cells)),(9,.d (.sl 1 (iR AL))),(12,lv 1 900 (iR ([]))),(13,.d (ci i))]) (λ_=>lm 900 25 1 (iR ([])) []) 40000 (by omega) (by dsimp only[iR,List.map_cons,List.map_nil,List.cons_append,List.nil_append,lv,lm];exact mv 5000 5001) ?_ ?_
          ·intro k hk
           repeat'(first|refine bl ?_|refine bS (λh=>?_) (λh=>?_))
           ·have hkO:k<O.length:=by assumption
            obtain⟨z1,z2⟩:=hjo k hkO;have hjd:=tO (bJ x) hw l hI.ll hI.gA hck i hlt O[k] z2;rw[z1]at hjd
            repeat'(first|refine bl ?_|refine cD rfl (by decide) hkO (bw ?_)|(refine dR hjd (.cons (.same _) (.cons (.agg [cb false,ci i,ci 0]) (.cons (.agg [cb true,ci 0,ci O[k]]) (.cons (.same _) .nil)))) ?_;(conv=>whnf)))
            exact⟨k+1,by omega,by omega,by exact mv 5000 5001⟩
           ·exact⟨(),trivial,by exact mv 5000 5001⟩
          rintro _ _;refine bl ?_;refine⟨(i+1,[]),by dsimp only;omega,⟨by dsimp only;omega,by dsimp only;rw[hstp];rw[h1];rfl⟩,?_⟩;exact mv 5000 5001
         ·have h1:O≠[]:=by simpa using h1
          conv=>whnf
          refine bl ?_;obtain⟨o0,O2,hO2⟩:∃o0 O2,O=o0::O2:=by
           cases O with
           |nil=>exact absurd rfl h1
           |cons o0 O2=>exact⟨o0,O2,rfl⟩
          refine cY mix (λk:Nat=>k<=P.length) (I:=λk=>[(1,.d (.sl 4 (l.map U4.cells))),(2,.d (ci to)),(7,.d (.ip (bJ x).cells)),(9,.d (.sl 1 (iR AL))),(12,lv 1 900 (iR (o0::O2))),(13,.d (ci i)),(14,.d (.sl 1 (iR O))),(16,.d (.sl 1 (iR P))),(17,.d (cb true)),(19,.d (ci k))]) (J:=λk=>lm 900 25 1 (iR (o0::O2)) []) (μ:=λk=>P.length -k) 10000 0 2
           (λ_:Unit=>True) (λ_=>[(1,.d (.sl 4 (l.map U4.cells))),(2,.d (ci to)),(7,.d (.ip (bJ x).cells)),(9,.d (.sl 1 (iR AL))),(12,lv 1 900 (iR (o0::O2))),(13,.d (ci i)),(14,.d (.sl 1 (iR O)))]) (λ_=>lm 900 25 1 (iR (o0::O2)) []) 20000 (by omega) (by dsimp only[iR,List.map_cons,List.map_nil,List.cons_append,List.nil_append,lv,lm];(refine mq 3408 900 ?_;all_goals exact cO rfl (by rw[hO2];rfl))) ?_ ?_
          ·intro k hk
           repeat'(first|with_reducible (first|refine w1 ?_|refine w2 ?_|refine w3 ?_|refine w5 ?_|refine w9 ?_|refine wa ?_|refine wk ?_|refine nN.mk ?_|refine O8.t rfl ?_)|((with_reducible (first|refine wr ?_|refine wi ?_|refine wg ?_));(conv=>whnf))|((with_reducible refine wt (by decide) (by kernel_rfl) ?_);(conv=>whnf))|((with_reducible refine nQ (λh=>?_) (λh=>?_))<;>(try rw[h])<;>(conv at h=>{simp})))
           ·have hkP:k<P.length:=by assumption
            obtain⟨y1,y2,y3,y4,y5⟩:=hcut rfl k hkP;have hpk:=DY (bJ x) hw l[i] (hI.gA i hlt) P[k];have hpe2:=hS.EL i hlt P[k];rw[if_pos y1]at hpe2;rw[y2,hpe2]at hpk;generalize((bJ x).l9 l[i] P[k]).1=PK at hpk y3
            repeat'(first|refine bl ?_|refine bS (λh=>?_) (λh=>?_)|refine cD rfl (by decide) hlt (bw ?_)|refine cD rfl (by decide) hkP (bw ?_)|refine XD.mk _ hpk (bw ?_))
            ·exfalso;simp only[aB]at*;omega
            ·have hk0:k=0:=by omega
             subst hk0;have hhs:=sN (oZ (jL l[i].names)) P[0] (cL (xH _) (by have:=hI.inl i hlt;omega));rw[o9.2 ((o3 _ _).2 (y4 rfl))]at hhs
             repeat'(first|refine bl ?_|refine aF hhol (bw ?_)|refine cD (i:=0) rfl (by decide) hkP (bw ?_)|refine aF hhs (bw ?_))
             exact⟨1,by omega,by omega,by exact mv 5000 5001⟩
            ·obtain⟨j,rfl⟩:∃j,k=j+1:=⟨k -1,by omega⟩;obtain⟨hj,y6⟩:=y5 j rfl;have hlie:=QB (bJ x) hw.togA P[j];have hlin:=AM (bJ x) hw.togA P[j];have hll:=AJ (bJ x) hw.togA P[j];have hll2:=tP (bJ x) P[j];have hj1:((j+1:Nat):Int)-1=(j:Int):=by omega
             have hh1:=sN ((bJ x).oE P[j]) P[j+1] (by omega);have hh2:=sN ((bJ x).nW P[j]) P[j+1] (by omega);have y7:(((bJ x).oE P[j]).any λz=>decide (z=P[j+1]))=true\/(((bJ x).nW P[j]).any λz=>decide (z=P[j+1]))=true:=by
              rw[o9,o9];exact bN.1 y6
             generalize(((bJ x).oE P[j]).any λz=>decide (z=P[j+1]))=b1 at hh1 y7;generalize(((bJ x).nW P[j]).any λz=>decide (z=P[j+1]))=b2 at hh2 y7
             repeat'(first|refine bl ?_|refine bS (λh=>?_) (λh=>?_)|refine FX hj1 rfl (by decide) hj (bw ?_)|refine cD rfl (by decide) hkP (bw ?_)|refine aF hlie (bw ?_)|refine aF hlin (bw ?_)|refine aF hh1 (bw ?_)|refine aF hh2 (bw ?_))
             all_goals first
              |exact⟨j+1+1,by omega,by omega,by exact mv 5000 5001⟩
              |(exfalso;rcases y7 with e|e<;>simp_all;done)
              |skip
           ·exact⟨(),trivial,by exact mv 5000 5001⟩
          rintro _ _;refine bl ?_;refine cY mix (λk:Nat=>k<=O.length) (I:=λk=>[(1,.d (.sl 4 (l.map U4.cells))),(2,.d (ci to)),(7,.d (.ip (bJ x).cells)),(9,.d (.sl 1 (iR AL))),(12,lv 1 900 (iR (o0::O2))),(13,.d (ci i)),(14,.d (.sl 1 (iR O))),(29,.d (ci k))]) (J:=λk=>lm 900 25 1 (iR (o0::O2)) []) (μ:=λk=>O.length -k) 30000 0 4
           (λ_:Unit=>True) (λ_=>[(1,.d (.sl 4 (l.map U4.cells))),(2,.d (ci to)),(7,.d (.ip (bJ x).cells)),(9,.d (.sl 1 (iR AL))),(12,lv 1 900 (iR (o0::O2))),(13,.d (ci i))]) (λ_=>lm 900 25 1 (iR (o0::O2)) []) 40000 (by omega) (by dsimp only[iR,List.map_cons,List.map_nil,List.cons_append,List.nil_append,lv,lm];exact mv 5000 5001) ?_ ?_
          ·intro k hk
           repeat'(first|refine bl ?_|refine bS (λh=>?_) (λh=>?_))
           ·have hkO:k<O.length:=by assumption
            obtain⟨z1,z2⟩:=hjo k hkO;have hjd:=tO (bJ x) hw l hI.ll hI.gA hck i hlt O[k] z2;rw[z1]at hjd
            repeat'(first|refine bl ?_|refine cD rfl (by decide) hkO (bw ?_)|(refine dR hjd (.cons (.same _) (.cons (.agg [cb false,ci i,ci 0]) (.cons (.agg [cb true,ci 0,ci O[k]]) (.cons (.same _) .nil)))) ?_;(conv=>whnf)))
            exact⟨k+1,by omega,by omega,by exact mv 5000 5001⟩
           ·exact⟨(),trivial,by exact mv 5000 5001⟩
          rintro _ _;refine bl ?_;refine⟨(i+1,o0::O2),by dsimp only;omega,⟨by dsimp only;omega,by dsimp only;rw[hstp];rw[hO2];rfl⟩,?_⟩;exact mv 5000 5001
       |cons q0 Q=>
        show vc _ _ _ _ _ [(900,dU 25 1 (iR (q0::Q)))] _ _;simp only[aQ]at hQl;cases ok with
        |false=>
         cases CL:(bJ x).mI to<;>rw[CL]at hist hpa<;>(try simp only[bY,if_false,if_true]at hpa)
         all_goals
          repeat'(first|refine bl ?_|refine bS (λh=>?_) (λh=>?_)|refine cD rfl (by decide) hlt (bw ?_)|refine dZ.mk (.eL [.d (.sl 1 (iR O)),.d (ci 0)]) [] (aJ.hP hr1 ⟨sn,trivial⟩ ⟨rfl,trivial⟩ ⟨aZ,trivial⟩ trivial) (bw ?_)|refine aF hpa (bw ?_)|refine aF hhas (bw ?_)|refine aF hist (bw ?_))
          rotate_left
          ·exfalso;omega
          refine n8 (by simp only[aB,bE,aQ];omega) (by kernel_rfl) ?_;conv=>whnf
          refine bl ?_;refine cY mix (λk:Nat=>k<=P.length) (I:=λk=>[(1,.d (.sl 4 (l.map U4.cells))),(2,.d (ci to)),(7,.d (.ip (bJ x).cells)),(9,.d (.sl 1 (iR AL))),(12,lv 1 900 (iR (q0::(Q++O)))),(13,.d (ci i)),(14,.d (.sl 1 (iR O))),(16,.d (.sl 1 (iR P))),(17,.d (cb false)),(19,.d (ci k))]) (J:=λk=>lm 900 25 1 (iR (q0::(Q++O))) []) (μ:=λk=>P.length -k) 10000 0 2
           (λ_:Unit=>True) (λ_=>[(1,.d (.sl 4 (l.map U4.cells))),(2,.d (ci to)),(7,.d (.ip (bJ x).cells)),(9,.d (.sl 1 (iR AL))),(12,lv 1 900 (iR (q0::(Q++O)))),(13,.d (ci i)),(14,.d (.sl 1 (iR O)))]) (λ_=>lm 900 25 1 (iR (q0::(Q++O))) []) 20000 (by omega) (by dsimp only[iR,List.map_cons,List.map_nil,List.cons_append,List.nil_append,lv,lm];first|(refine mq 3376 900 ?_;all_goals exact cO rfl (gG (q0::Q) O))|(refine mq 3408 900 ?_;all_goals exact cO rfl (gG (q0::Q) O))) ?_ ?_
          ·intro k hk;refine bl ?_;exact⟨(),trivial,by exact mv 5000 5001⟩
          rintro _ _;refine bl ?_;refine cY mix (λk:Nat=>k<=O.length) (I:=λk=>[(1,.d (.sl 4 (l.map U4.cells))),(2,.d (ci to)),(7,.d (.ip (bJ x).cells)),(9,.d (.sl 1 (iR AL))),(12,lv 1 900 (iR (q0::(Q++O)))),(13,.d (ci i)),(14,.d (.sl 1 (iR O))),(29,.d (ci k))]) (J:=λk=>lm 900 25 1 (iR (q0::(Q++O))) []) (μ:=λk=>O.length -k) 30000 0 4
           (λ_:Unit=>True) (λ_=>[(1,.d (.sl 4 (l.map U4.cells))),(2,.d (ci to)),(7,.d (.ip (bJ x).cells)),(9,.d (.sl 1 (iR AL))),(12,lv 1 900 (iR (q0::(Q++O)))),(13,.d (ci i))]) (λ_=>lm 900 25 1 (iR (q0::(Q++O))) []) 40000 (by omega) (by dsimp only[iR,List.map_cons,List.map_nil,List.cons_append,List.nil_append,lv,lm];exact mv 5000 5001) ?_ ?_
          ·intro k hk
           repeat'(first|refine bl ?_|refine bS (λh=>?_) (λh=>?_))
           ·have hkO:k<O.length:=by assumption
            obtain⟨z1,z2⟩:=hjo k hkO;have hjd:=tO (bJ x) hw l hI.ll hI.gA hck i hlt O[k] z2;rw[z1]at hjd
            repeat'(first|refine bl ?_|refine cD rfl (by decide) hkO (bw ?_)|(refine dR hjd (.cons (.same _) (.cons (.agg [cb false,ci i,ci 0]) (.cons (.agg [cb true,ci 0,ci O[k]]) (.cons (.same _) .nil)))) ?_;(conv=>whnf)))
            exact⟨k+1,by omega,by omega,by exact mv 5000 5001⟩
           ·exact⟨(),trivial,by exact mv 5000 5001⟩
          rintro _ _;refine bl ?_;refine⟨(i+1,q0::(Q++O)),by dsimp only;omega,⟨by dsimp only;omega,by dsimp only;rw[hstp];rfl⟩,?_⟩;exact mv 5000 5001
        |true=>
         rw[hbt rfl]at hist hpa;simp only[if_true]at hpa
         repeat'(first|refine bl ?_|refine bS (λh=>?_) (λh=>?_)|refine cD rfl (by decide) hlt (bw ?_)|refine dZ.mk (.eL [.d (.sl 1 (iR O)),.d (ci 0)]) [] (aJ.hP hr1 ⟨sn,trivial⟩ ⟨rfl,trivial⟩ ⟨aZ,trivial⟩ trivial) (bw ?_)|refine aF hpa (bw ?_)|refine aF hhas (bw ?_)|refine aF hist (bw ?_))
         rotate_left
         ·exfalso;omega
         refine n8 (by simp only[aB,bE,aQ];omega) (by kernel_rfl) ?_;conv=>whnf
         refine bl ?_;refine cY mix (λk:Nat=>k<=P.length) (I:=λk=>[(1,.d (.sl 4 (l.map U4.cells))),(2,.d (ci to)),(7,.d (.ip (bJ x).cells)),(9,.d (.sl 1 (iR AL))),(12,lv 1 900 (iR (q0::(Q++O)))),(13,.d (ci i)),(14,.d (.sl 1 (iR O))),(16,.d (.sl 1 (iR P))),(17,.d (cb true)),(19,.d (ci k))]) (J:=λk=>lm 900 25 1 (iR (q0::(Q++O))) []) (μ:=λk=>P.length -k) 10000 0 2
          (λ_:Unit=>True) (λ_=>[(1,.d (.sl 4 (l.map U4.cells))),(2,.d (ci to)),(7,.d (.ip (bJ x).cells)),(9,.d (.sl 1 (iR AL))),(12,lv 1 900 (iR (q0::(Q++O)))),(13,.d (ci i)),(14,.d (.sl 1 (iR O)))]) (λ_=>lm 900 25 1 (iR (q0::(Q++O))) []) 20000 (by omega) (by dsimp only[iR,List.map_cons,List.map_nil,List.cons_append,List.nil_append,lv,lm];(refine mq 3408 900 ?_;all_goals exact cO rfl (gG (q0::Q) O))) ?_ ?_
         ·intro k hk
          repeat'(first|with_reducible (first|refine w1 ?_|refine w2 ?_|refine w3 ?_|refine w5 ?_|refine w9 ?_|refine wa ?_|refine wk ?_|refine nN.mk ?_|refine O8.t rfl ?_)|((with_reducible (first|refine wr ?_|refine wi ?_|refine wg ?_));(conv=>whnf))|((with_reducible refine wt (by decide) (by kernel_rfl) ?_);(conv=>whnf))|((with_reducible refine nQ (λh=>?_) (λh=>?_))<;>(try rw[h])<;>(conv at h=>{simp})))
          ·have hkP:k<P.length:=by assumption
           obtain⟨y1,y2,y3,y4,y5⟩:=hcut rfl k hkP;have hpk:=DY (bJ x) hw l[i] (hI.gA i hlt) P[k];have hpe2:=hS.EL i hlt P[k];rw[if_pos y1]at hpe2;rw[y2,hpe2]at hpk;generalize((bJ x).l9 l[i] P[k]).1=PK at hpk y3
           repeat'(first|refine bl ?_|refine bS (λh=>?_) (λh=>?_)|refine cD rfl (by decide) hlt (bw ?_)|refine cD rfl (by decide) hkP (bw ?_)|refine XD.mk _ hpk (bw ?_))
           ·exfalso;simp only[aB]at*;omega
           ·have hk0:k=0:=by omega
            subst hk0;have hhs:=sN (oZ (jL l[i].names)) P[0] (cL (xH _) (by have:=hI.inl i hlt;omega));rw[o9.2 ((o3 _ _).2 (y4 rfl))]at hhs
            repeat'(first|refine bl ?_|refine aF hhol (bw ?_)|refine cD (i:=0) rfl (by decide) hkP (bw ?_)|refine aF hhs (bw ?_))
            exact⟨1,by omega,by omega,by exact mv 5000 5001⟩
           ·obtain⟨j,rfl⟩:∃j,k=j+1:=⟨k -1,by omega⟩;obtain⟨hj,y6⟩:=y5 j rfl;have hlie:=QB (bJ x) hw.togA P[j];have hlin:=AM (bJ x) hw.togA P[j];have hll:=AJ (bJ x) hw.togA P[j];have hll2:=tP (bJ x) P[j];have hj1:((j+1:Nat):Int)-1=(j:Int):=by omega
            have hh1:=sN ((bJ x).oE P[j]) P[j+1] (by omega);have hh2:=sN ((bJ x).nW P[j]) P[j+1] (by omega);have y7:(((bJ x).oE P[j]).any λz=>decide (z=P[j+1]))=true\/(((bJ x).nW P[j]).any λz=>decide (z=P[j+1]))=true:=by
             rw[o9,o9];exact bN.1 y6
            generalize(((bJ x).oE P[j]).any λz=>decide (z=P[j+1]))=b1 at hh1 y7;generalize(((bJ x).nW P[j]).any λz=>decide (z=P[j+1]))=b2 at hh2 y7
            repeat'(first|refine bl ?_|refine bS (λh=>?_) (λh=>?_)|refine FX hj1 rfl (by decide) hj (bw ?_)|refine cD rfl (by decide) hkP (bw ?_)|refine aF hlie (bw ?_)|refine aF hlin (bw ?_)|refine aF hh1 (bw ?_)|refine aF hh2 (bw ?_))
            all_goals first
             |exact⟨j+1+1,by omega,by omega,by exact mv 5000 5001⟩
             |(exfalso;rcases y7 with e|e<;>simp_all;done)
             |skip
          ·exact⟨(),trivial,by exact mv 5000 5001⟩
         rintro _ _;refine bl ?_;refine cY mix (λk:Nat=>k<=O.length) (I:=λk=>[(1,.d (.sl 4 (l.map U4.cells))),(2,.d (ci to)),(7,.d (.ip (bJ x).cells)),(9,.d (.sl 1 (iR AL))),(12,lv 1 900 (iR (q0::(Q++O)))),(13,.d (ci i)),(14,.d (.sl 1 (iR O))),(29,.d (ci k))]) (J:=λk=>lm 900 25 1 (iR (q0::(Q++O))) []) (μ:=λk=>O.length -k) 30000 0 4
          (λ_:Unit=>True) (λ_=>[(1,.d (.sl 4 (l.map U4.cells))),(2,.d (ci to)),(7,.d (.ip (bJ x).cells)),(9,.d (.sl 1 (iR AL))),(12,lv 1 900 (iR (q0::(Q++O)))),(13,.d (ci i))]) (λ_=>lm 900 25 1 (iR (q0::(Q++O))) []) 40000 (by omega) (by dsimp only[iR,List.map_cons,List.map_nil,List.cons_append,List.nil_append,lv,lm];exact mv 5000 5001) ?_ ?_
         ·intro k hk
          repeat'(first|refine bl ?_|refine bS (λh=>?_) (λh=>?_))
          ·have hkO:k<O.length:=by assumption
           obtain⟨z1,z2⟩:=hjo k hkO;have hjd:=tO (bJ x) hw l hI.ll hI.gA hck i hlt O[k] z2;rw[z1]at hjd
           repeat'(first|refine bl ?_|refine cD rfl (by decide) hkO (bw ?_)|(refine dR hjd (.cons (.same _) (.cons (.agg [cb false,ci i,ci 0]) (.cons (.agg [cb true,ci 0,ci O[k]]) (.cons (.same _) .nil)))) ?_;(conv=>whnf)))
           exact⟨k+1,by omega,by omega,by exact mv 5000 5001⟩
          ·exact⟨(),trivial,by exact mv 5000 5001⟩
         rintro _ _;refine bl ?_;refine⟨(i+1,q0::(Q++O)),by dsimp only;omega,⟨by dsimp only;omega,by dsimp only;rw[hstp];rfl⟩,?_⟩;exact mv 5000 5001
      ·obtain rfl:i=l.length:=by omega
       rw[aI (bT _)]at hQ;cases Q with
       |nil=>
        show vc _ _ _ _ _ [] _ _
        repeat'(first|refine bl ?_|refine bS (λh=>?_) (λh=>?_))
        ·exfalso;omega
        ·refine⟨(),trivial,?_⟩;rw[show HV (bJ x) l=[]from hQ.symm];exact cN.freeze [] trivial ⟨.same _,.rd (.nz _ _),trivial⟩ trivial ⟨trivial,trivial,trivial⟩ trivial
       |cons q0 Q=>
        show vc _ _ _ _ _ [(900,dU 25 1 (iR (q0::Q)))] _ _
        repeat'(first|refine bl ?_|refine bS (λh=>?_) (λh=>?_))
        ·exfalso;omega
        ·refine⟨(),trivial,?_⟩;rw[show HV (bJ x) l=q0::Q from hQ.symm];exact cN.freeze [900] trivial ⟨.same _,.rd (.dU (eX rfl rfl)),trivial⟩ trivial ⟨trivial,trivial,trivial⟩ trivial
     rintro _ _;have hsa:=λr=>hS.aFL r;rw[hA]at hsa;have hSl:(HV (bJ x) l).length<=12*60:=by
      refine cL (KB (B:=60) λe he=>?_) ?_
      ·obtain⟨u,hu,rfl⟩:=aM.1 he;obtain⟨j,hj,rfl⟩:=dH.1 hu;exact hS.QO j hj
      ·rw[aB];exact l5 f3 (bT _)
     generalize HV (bJ x) l=SL at hsa hSl⊢;refine bl ?_;refine cY mix (λk:Nat=>k<=SL.length) (I:=λk=>[(9,.d (.sl 1 (iR AL))),(12,.d (.sl 1 (iR SL))),(32,.d (ci k))]) (J:=λk=>[]) (μ:=λk=>SL.length -k) 100000 0 6
      (λ_:Unit=>True) (λ_=>[(9,.d (.sl 1 (iR AL))),(12,.d (.sl 1 (iR SL)))]) (λ_=>[]) 110000 (by omega) (by exact mv 5000 5001) ?_ ?_
     ·intro k hk
      repeat'(first|refine bl ?_|refine bS (λh=>?_) (λh=>?_))
      ·have hkS:k<SL.length:=by assumption
       have hhs:=sN AL SL[k] (by omega);rw[o9.2 ((hsa _).1 (aY hkS))]at hhs
       repeat'(first|refine bl ?_|refine cD rfl (by decide) hkS (bw ?_)|refine aF hhs (bw ?_))
       exact⟨k+1,by omega,by omega,by exact mv 5000 5001⟩
      ·exact⟨(),trivial,by exact mv 5000 5001⟩
     rintro _ _;refine bl ?_;refine cY mix (λk:Nat=>k<=AL.length) (I:=λk=>[(9,.d (.sl 1 (iR AL))),(12,.d (.sl 1 (iR SL))),(33,.d (ci k))]) (J:=λk=>[]) (μ:=λk=>AL.length -k) 120000 0 8
      (λ_:Unit=>True) (λ_=>[]) (λ_=>[]) 130000 (by omega) (by exact mv 5000 5001) ?_ ?_
     ·intro k hk
      repeat'(first|refine bl ?_|refine bS (λh=>?_) (λh=>?_))
      ·have hkS:k<AL.length:=by assumption
       have hhs:=sN SL AL[k] (by omega);rw[o9.2 ((hsa _).2 (aY hkS))]at hhs
       repeat'(first|refine bl ?_|refine cD rfl (by decide) hkS (bw ?_)|refine aF hhs (bw ?_))
       exact⟨k+1,by omega,by omega,by exact mv 5000 5001⟩
      ·exact⟨(),trivial,by exact mv 5000 5001⟩
     rintro _ _
     repeat'(first|refine bl ?_|refine aF D9 (bw ?_))
     exact dP rfl
open Go.Proofs.YtpdcbahjjmooiaaGreat (Rows.uptoBulk Rows.uptoBulkAll)
abbrev nR{H:Type}(d:DataW H):Nat:=Rows.uptoBulk d
abbrev rZ{H:Type}(l:List (DataW H)):Nat:=Rows.uptoBulkAll l
section
variable{H:Type}(enc:TypeId×Value->H)(P:Program)(w:World)
def sL(l:List C)(cs:List Value):Prop:=C.bR w (λ_=>False) l cs/\∀y∈cs,y.oneCell'=true
def TrD(n:Nat)(t:TypeId)(cs:List Value)(d:DataW H):Prop:=∃ps,DataW.trod enc P w 0 (λ_=>true) true n t cs=some (d,ps)
def TrF(n:Nat):List TypeId->List Value->List (DataW H)->Prop
 |[],cs,ds=>cs=[]/\ds=[]
 |t::ts,cs,ds=>∃a b d r,cs=a++b/\ds=d::r/\TrD enc P w n t a d/\TrF n ts b r
end
section
variable{H:Type}{enc:TypeId×Value->H}{P:Program}{w:World}
theorem sL.app{l m:List C}{a b:List Value}(h:sL w l a)(h':sL w m b):sL w (l++m) (a++b):=by
 refine⟨C.iH h.1 h'.1,λy hy=>?_⟩;rcases bN.1 hy with e|e
 ·exact h.2 y e
 ·exact h'.2 y e
theorem sL.nil:sL w [] []:=⟨by simp[C.bR],by simp⟩
theorem sL.one{x:Value}(h:x.oneCell'=true):sL w [.v x] [x]:=by
 refine⟨?_,by simpa using h⟩;simp[C.bR,C.Den]
theorem sL.len{l:List C}{a:List Value}(h:sL w l a):l.length=a.length:=(C.c9.1 h.1).1
theorem kQ{k:IntKind}{d:DataW H}(ht:P.underlying t=some (.int k))(h:TrD enc P w n t cs d):∃i,sL w [.v (.int k i)] cs/\1<=nR d/\k.min<=i/\i<=k.max:=by
 obtain⟨ps,h⟩:=h;obtain⟨i,rfl,hx,hw⟩:=DataW.trod_int ht h;simp only[aD]at hx;simp only[Lit.wf,aE,decide_eq_true_eq]at hw;exact⟨i,sL.one rfl,by rw[hx.1];simp[nR,Rows.uptoBulk],hw.1,hw.2⟩
theorem aIP{d:DataW H}(ht:P.underlying t=some .bool)(h:TrD enc P w n t cs d):∃b,sL w [.v (.bool b)] cs/\1<=nR d:=by
 obtain⟨ps,h⟩:=h;obtain⟨i,rfl,hx⟩:=DataW.trod_bool ht h;simp only[aD]at hx;exact⟨i,sL.one rfl,by rw[hx.1];simp[nR,Rows.uptoBulk]⟩
theorem GX{d:DataW H}(ht:P.underlying t=some .string)(h:TrD enc P w n t cs d):∃s,sL w [.v (.string s)] cs/\1<=nR d:=by
 obtain⟨ps,h⟩:=h;cases n with
 |zero=>simp[DataW.trod]at h
 |succ n=>
  unfold DataW.trod at h;rw[ht]at h;split at h<;>try(simp at h;done)
  all_goals(rename_i hu;try(cases hu;done))
  rename_i s;split at h
  ·simp only[aA,aD]at h;exact⟨_,sL.one rfl,by rw[<-h.1];simp[nR,Rows.uptoBulk]⟩
  ·cases h
theorem R4{b:Nat}:∀{l:List C}{cs:List Value}{off:Nat},sL w l cs->(∀i,i<cs.length->w.cell? ⟨b,off+i,none⟩=cs[i]?)->C.sS w (λ_=>False) b off l
 |[],cs,off,_,_=>by simp[C.sS]
 |c::l,cs,off,h,hc=>by
  obtain⟨h1,h2⟩:=h;simp only[C.bR]at h1;obtain⟨y,yr,rfl,hy,hr⟩:=h1;simp only[C.sS];refine⟨⟨y,by simpa using hc 0 (by simp),h2 y (by simp),hy⟩,?_⟩;refine R4 (l:=l) (cs:=yr) ⟨hr,λz hz=>h2 z (by simp[hz])⟩ λi hi=>?_;have:=hc (i+1) (by simp;omega);rw[show off+1+i=off+(i+1) by omega,this];simp
theorem mE(d:DataW H)(r:List (DataW H)):rZ (d::r)=nR d+rZ r:=by simp[rZ,nR,Rows.uptoBulkAll]
theorem RO{a:Addr}(h:a.spot=none)(i:Nat):a.add i=⟨a.block,a.off+i,none⟩:=by
 unfold Addr.add;cases a;simp only at h;subst h;split<;>simp_all
theorem ZH{α:Type}{row:α->List C}{m:α->Nat}{p:α->Prop}{n:Nat}{e:TypeId}{es:Nat}{a:Addr}(hpos:0<es)(ha:a.spot=none)
 (ih:∀cs(d:DataW H),TrD enc P w n e cs d->∃x,sL w (row x) cs/\m x<=nR d/\p x):∀(els:List (DataW H×List MemPlace))(k:Nat),
 (∀i,i<els.length->(w.cells? 0 (a.add ((k+i)*es)) es).bind (DataW.trod enc P w 0 (λ_=>true) true n e)=els[i]?)->
 ∃l:List α,l.length=els.length/\C.lD w (λ_=>False) a.block es (a.off+k*es) (l.map row)/\(l.map m).sum<=rZ (els.map (·.1))/\∀x∈l,p x
 |[],k,h=>⟨[],rfl,by simp[C.lD],by simp,by simp⟩
 |x::els,k,h=>by
  have h0:=h 0 (by simp);simp only[iE,iK,Option.bind_eq_some_iff]at h0;obtain⟨cs,hcs,htr⟩:=h0;obtain⟨y,hy,hm,hp⟩:=ih cs x.1 ⟨x.2,htr⟩
  obtain⟨l,hl,hd,hs,hq⟩:=ZH hpos ha ih els (k+1) (λi hi=>by
   have:=h (i+1) (by simp;omega);rw[show k+(i+1)=k+1+i by omega]at this
   rw[this];simp)
  obtain⟨_,hlen,hcell⟩:=World.cells?_some hcs;refine⟨y::l,by simp[hl],?_,?_,?_⟩
  ·simp only[aG,C.lD];refine⟨by rw[hy.len,hlen],R4 hy λi hi=>?_,?_⟩
   ·rw[<-hcell i (by omega),RO ha,RO (by rfl)]
   ·rw[show a.off+k*es+es=a.off+(k+1)*es by rw[gY];omega];exact hd
  ·simp only[aG,gU,mE];omega
  ·intro z hz;rcases aO.1 hz with e|e
   ·exact e▸hp
   ·exact hq z e
theorem k8{α:Type}(row:α->List C)(m:α->Nat)(p:α->Prop){n:Nat}{t e:TypeId}(es:Nat){cs:List Value}{d:DataW H}(ht:P.underlying t=some (.slice e))(hes:P.cellsOf e=es)(hpos:0<es)
 (ih:∀k,k<n->∀cs(d:DataW H),TrD enc P w k e cs d->∃x,sL w (row x) cs/\m x<=nR d/\p x)(h:TrD enc P w n t cs d):
 ∃l:List α,sL w [.sl es (l.map row)] cs/\(l.map m).sum+1<=nR d/\∀x∈l,p x:=by
 obtain⟨ps,h⟩:=h;rcases DataW.trod_slice ht h with⟨rfl,hx⟩|⟨a,len,cap,elems,rest,k,rfl,rfl,hx,_,hl,_,hlen,hel,_,_⟩
 ·simp only[aD]at hx;refine⟨[],⟨?_,by simp[Value.oneCell']⟩,by rw[hx.1];simp[nR,Rows.uptoBulk],by simp⟩;simp[C.bR,C.Den]
 ·simp only[aD]at hx;rw[hes]at hel;have hb:nR d=rZ (elems.map (·.1))+rZ (rest.map (·.1))+1:=by rw[hx.1];simp[nR,rZ,Rows.uptoBulk]
  cases elems with
  |nil=>
   simp only[cS]at hlen;subst hlen;refine⟨[],⟨?_,by simp[Value.oneCell']⟩,by simp;omega,by simp⟩;simp[C.bR,C.Den]
  |cons x elems=>
   have h0:=hel 0 (by rw[<-hlen];simp);simp only[Nat.zero_mul,iK,Option.bind_eq_some_iff]at h0;obtain⟨cs,hcs,_⟩:=h0;obtain⟨_,_,hcell⟩:=World.cells?_some hcs;have hc0:=hcell 0 hpos;rw[show(a.add 0).add 0=a by simp[Addr.add]]at hc0;have hcl:cs.length=es:=(World.cells?_some hcs).2.1;rw[aC (by omega)]at hc0;unfold World.cell? at hc0;have ha:a.spot=none/\a.block<w.heap.size:=by
    split at hc0
    ·rename_i heq;split at hc0
     ·cases hc0
     ·rename_i hs;exact⟨by simpa using hs,(aL.1 heq).1⟩
    ·cases hc0
   obtain⟨l,hll,hd,hs,hq⟩:=ZH (row:=row) (m:=m) (p:=p) hpos ha.1 (ih k (by omega)) (x::elems) 0 (λi hi=>by rw[fF];exact hel i (by rw[<-hlen];exact hi));refine⟨l,⟨?_,by simp[Value.oneCell']⟩,by omega,hq⟩;simp only[C.bR,C.Den];refine⟨_,[],rfl,⟨some a,cap,?_,?_,eV ⟨a.block,a.off,?_,λe=>e,ha.2,?_⟩⟩,rfl⟩
   ·rw[aB,hll,hlen]
   ·rw[aB,hll,hlen];exact hl
   ·cases a;simp_all
   ·simpa using hd
def u7(P:Program)(t:TypeId):Option (List TypeId):=match P.underlying t with
 |some (.struct fs)=>if go fs.toList 0 (P.cellsOf t)then some (fs.toList.map (·.type))else none
 |_=>none
where go:List Field->Nat->Nat->Bool
 |[],k,n=>k==n
 |f::r,k,n=>f.offset==k&&go r (k+P.cellsOf f.type) n
theorem ZG{n:Nat}{N:Nat}{cs:List Value}:∀(fs:List Field)(k:Nat)(xs:List (DataW H×List MemPlace)),u7.go P fs k N=true->cs.length=N->xs.length=fs.length->
 (∀(i:Nat)(f:Field),fs[i]?=some f->DataW.trod enc P w 0 (λ_=>true) true n f.type ((cs.drop f.offset).take (P.cellsOf f.type))=xs[i]?)->
 TrF enc P w n (fs.map (·.type)) (cs.drop k) (xs.map (·.1))
 |[],k,xs,hg,hl,hx,h=>by
  simp only[u7.go,beq_iff_eq]at hg;cases xs with
  |nil=>exact⟨by simp;omega,rfl⟩
  |cons=>simp at hx
 |f::fs,k,xs,hg,hl,hx,h=>by
  simp only[u7.go,aE,beq_iff_eq]at hg;cases xs with
  |nil=>simp at hx
  |cons x xs=>
   have h0:=h 0 f (by simp);rw[hg.1]at h0;refine⟨(cs.drop k).take (P.cellsOf f.type),cs.drop (k+P.cellsOf f.type),x.1,xs.map (·.1),?_,rfl,⟨x.2,by rw[h0];simp⟩,?_⟩
   ·rw[<-lY,gJ]
   ·exact ZG fs _ xs hg.2 hl (by simpa using hx) λi f' hf=>by
     have:=h (i+1) f' (by simpa using hf);simpa using this
theorem p9{ts:List TypeId}{d:DataW H}(ht:u7 P t=some ts)(h:TrD enc P w n t cs d):∃k ds,n=k+1/\nR d=rZ ds+1/\TrF enc P w k ts cs ds:=by
 obtain⟨ps,h⟩:=h;unfold u7 at ht;split at ht
 ·rename_i fs hfs;obtain⟨xs,k,hk,hx,hl,hxl,hf⟩:=DataW.trod_struct hfs h;split at ht
  ·rename_i hg;cases ht;simp only[aD]at hx;exact⟨k,xs.map (·.1),hk,by rw[hx.1];simp[nR,rZ,Rows.uptoBulk],by simpa using ZG (enc:=enc) (w:=w) (n:=k) (cs:=cs) fs.toList 0 xs hg hl (by simpa using hxl) (λi f h=>hf i f (by simpa using h))⟩
  ·cases ht
 ·cases ht
end
end Go.Pv
