import Derived.Test.YtpdcbahjjmooiaaGreatA30
/- A program logic over the model, contracts of the functions that the law reaches: part 31. (Names and blanks were shortened by program.) -/
set_option linter.unusedVariables false
set_option linter.unusedSimpArgs false
set_option linter.constructorNameAsVariable false
set_option linter.unusedSectionVars false
set_option linter.deprecated false
set_option maxRecDepth 100000
set_option maxHeartbeats 8000000
open Go Go.Proofs
namespace Go.Pv
open Go.RowKit
def D4.K1(w:D4)(to:Int):List (Int×Int):=MM w.cX w.aP (vZ w.aP w.aP.length [(to,1)]+1) [(to,1)]
theorem aBV{w:D4}(hw:w.qV):aJK w.cX w.aP:=⟨E0 w,λh=>by
 obtain⟨t,ht,e⟩:=aM.1 h
 have:=hw.pos t ht;omega,hw.nodup⟩
theorem GW{w:D4}(hg:w.gA)(r:Int):(w.cX r).length<=2^35+2:=by
 unfold D4.cX;rw[aU];have:=AJ w hg r;have:=tP w r;omega
abbrev wB(w:D4):R:=.cells false [.d (.ip w.cells)]
abbrev uB(u:U4):R:=.cells false (u.cells.map A.d)
theorem aA6(w:D4)(hw:w.qV)(u:U4)(hu:u.gA)(to:Int)(hck:w.zE u=true)(hto:w.mI to=true):∀m,aJ Tryz.prog 11 [.d (.ip w.cells),.d (.agg u.cells),.d (ci to)] m (.ok (.eL [.d (.sl 1 (iR (EK w.cX w.aP (jL u.names) to).1)),.d (cb (EK w.cX w.aP (jL u.names) to).2),.d (ci 0)])) m:=by
 have hone:∀i(h:i<[u].length),[u][i].gA:=λi h=>match i,h with
  |0,_=>hu
 have hm:=yG w hw [u] (by simp) hone;have hme:w.s8 [u]=0:=by unfold D4.s8;simp[hck]
 rw[hme]at hm;have his:=sB w to;rw[hto]at his;refine iC mix Tryz.func11 ?_
 repeat'(first|refine bl ?_|(refine fU (cs:=[.ip w.cells,.sl 4 [u.cells]]) hm (.v _) (.cons (.d _) (.cons (.os rfl (rC.data _ [u.cells])) .nil)) ?_;(conv=>whnf))|refine aF his (bw ?_)|refine aB4.BP (by kernel_rfl) (by kernel_rfl) (bw ?_))
 have hst:=aBV hw;have hgd:=hw.togA;have hgl:=hw.len;have hrl:w.aP.length=w.things.length:=by unfold D4.aP;rw[aB]
 have htT:to∈w.aP:=by
  unfold D4.mI D4.find at hto;obtain⟨t,ht⟩:=eS.1 hto;have h1:=iD ht;exact aM.2 ⟨t,cT ht,by simpa using h1⟩
 have hE:=z7 (vZ w.aP w.aP.length [(to,1)]+1) [(to,1)] (wU w.cX w.aP to htT) (kC _);refine cY mix (λs:Nat×List (Int×Int)×Bool=>zI w.cX w.aP to s.2.1/\(if s.2.2=true then vZ w.aP w.aP.length s.2.1<s.1/\MM w.cX w.aP s.1 s.2.1=w.K1 to else s.2.1=w.K1 to))
  (I:=λs=>[(2,.d (ci to)),(3,.lp 1 0),(4,.lp 9 0),(10,.lp 161 0),(11,.lp 177 0)]) (J:=λs=>[(1,wB w),(9,uB u),(161,.cells false [.h 129]),(177,.cells false [.d (cb s.2.2)]),(129,.mp false (iZ s.2.1) [])]) (μ:=λs=>2*s.1+(if s.2.2=true then 1 else 0)) 3000 (vZ w.aP w.aP.length [(to,1)]+1,[(to,1)],true) 0
  (λ_:Unit=>True) (λ_=>[(2,.d (ci to)),(3,.lp 1 0),(4,.lp 9 0),(10,.lp 161 0)]) (λ_=>[(1,wB w),(9,uB u),(161,.cells false [.h 129]),(129,.mp false (iZ (w.K1 to)) [])]) 20000 ⟨wU w.cX w.aP to htT,by dsimp only;rw[if_pos rfl];exact⟨kC _,rfl⟩⟩ (by exact mv 5000 5001) ?_ ?_
 ·rintro⟨n,F,b⟩ ⟨hI,hb⟩;dsimp only at hI hb⊢;cases b with
  |false=>
   rw[if_neg gO]at hb;subst hb;refine bl ?_;exact⟨(),trivial,by exact mv 5000 5001⟩
  |true=>
   rw[if_pos rfl]at hb
   repeat'(first|refine bl ?_|refine fQ (LY w) 7100 rfl (bw ?_))
   refine wz ?_;have hSn:∀k,(w.aP.take k).foldl (qM w.cX) (F,false)=(w.aP.take k).foldl (qM w.cX) (F,false):=λk=>rfl;refine aEW 7001 7000 8000 [(177,.cells false [.d (cb ((w.aP.take w.things.length).foldl (qM w.cX) (F,false)).2)]),(129,.mp false (iZ ((w.aP.take w.things.length).foldl (qM w.cX) (F,false)).1) [])]
    [(1,wB w),(9,uB u),(161,.cells false [.h 129]),(177,.cells false [.d (cb ((w.aP.take w.things.length).foldl (qM w.cX) (F,false)).2)]),(129,.mp false (iZ ((w.aP.take w.things.length).foldl (qM w.cX) (F,false)).1) []),(7100,.cells false [.d (.ip w.cells)])]
    (.inl rfl) rfl rfl rfl (W2 w hw u (λk=>(w.aP.take k).foldl (qM w.cX) (F,false)) (λml' q1 q2 q3 q4 q5=>?_) rfl rfl ?_ ?_) ?_ ?_ ?_ ?_ ?_ ?_ ?_ ?_ ?_
   ·repeat'(first|exact aW|assumption|refine bI ?_ ?_)
   ·intro k hk o c fo lx ho hc hf ha;have hlen:c.args.size=2:=by have:=congrArg List.length ha;simpa using this
    have hkr:k<w.aP.length:=by omega
    have hrk:w.things[k].ref=w.aP[k]:=by simp[D4.aP]
    have hrT:w.aP[k]∈w.aP:=aY hkr;have hSk:(w.aP.take (k+1)).foldl (qM w.cX) (F,false)=qM w.cX ((w.aP.take k).foldl (qM w.cX) (F,false)) w.aP[k]:=by rw[aT hkr,iB];rfl
    have hfar:wM w.cX w.aP to F ((w.aP.take k).foldl (qM w.cX) (F,false)):=wM.rows _ _ ⟨hI,λ_=>rfl,by simp⟩ λq hq=>dJ hq;rw[hrk]at ha;rw[hSk];generalize(w.aP.take k).foldl (qM w.cX) (F,false)=s at hfar⊢;generalize w.aP[k]=r at hrT ha⊢;refine GZ (n:=92) (ps:= #[36,37]) mix [(36,.d (ci r)),(3,.lp 1 0),(10,.lp 161 0),(11,.lp 177 0)] 30000 (λL=>(900,dU 25 1 (iR w.aP))::(901,dU 84 1 (kR (w.things.map (·.bQ.kind))))::(7000,L)::(7100,.cells false [.d (.ip w.cells)])::(1,.cells false [.d (.ip w.cells)])::(9,.cells false (u.cells.map A.d))::(161,.cells false [.h 129])::(177,.cells false [.d (cb s.2)])::(129,.mp false (iZ s.1) [])::[]) ho hc hf rfl (λL=>rfl) hlen (by decide) (by simp[mY]) (by kernel_rfl) (by kernel_rfl) (by rw[ha];exact⟨rfl,rfl,rfl,rfl,trivial⟩) ?_ ⟨trivial,dM,trivial⟩;intro LR LB eR eB;have hlo:∀ml':List (Nat×R),aK ml' 1≠none->aK ml' 9≠none->aK ml' 161≠none->aK ml' 177≠none->aK ml' 7100≠none->rB ml' LB.hs:=λml' q1 q2 q3 q4 q5=>by
     rw[eB]
     repeat'(first|exact aW|assumption|refine bI ?_ ?_)
    clear eR eB;refine bl ?_;refine⟨rfl,rfl,?_⟩;have hsl:=GW hgd r
    repeat'(first|refine bl ?_|refine aF (AZ w hgd r) (bw ?_))
    unfold qM;generalize hLL:w.cX r=L at hsl⊢;refine cY mix (λj:Nat=>j<=L.length/\wM w.cX w.aP to F ((L.take j).foldl (l7 r) s)) (I:=λj=>[(3,.lp 1 0),(10,.lp 161 0),(11,.lp 177 0),(12,.d (ci r)),(40,.d (.sl 1 (iR L))),(41,.d (ci L.length)),(42,.d (ci j))])
     (J:=λj=>(900,dU 25 1 (iR w.aP))::(901,dU 84 1 (kR (w.things.map (·.bQ.kind))))::(7000,LB)::(7100,.cells false [.d (.ip w.cells)])::(1,.cells false [.d (.ip w.cells)])::(9,.cells false (u.cells.map A.d))::(161,.cells false [.h 129])::(177,.cells false [.d (cb ((L.take j).foldl (l7 r) s).2)])::(129,.mp false (iZ ((L.take j).foldl (l7 r) s).1) [])::[]) (μ:=λj=>L.length -j) 40000 0 4
     (λ_:Unit=>True) (λ_=>[]) (λ_=>(900,dU 25 1 (iR w.aP))::(901,dU 84 1 (kR (w.things.map (·.bQ.kind))))::(7000,LB)::(7100,.cells false [.d (.ip w.cells)])::(1,.cells false [.d (.ip w.cells)])::(9,.cells false (u.cells.map A.d))::(161,.cells false [.h 129])::(177,.cells false [.d (cb (L.foldl (l7 r) s).2)])::(129,.mp false (iZ (L.foldl (l7 r) s).1) [])::[]) 50000 ⟨by omega,hfar⟩ (by(refine cN.sub ?_ ?_ ?_ ?_ ?_<;>repeat'(first|exact aW|exact rfl|exact sn|exact eV rfl|exact aZ|exact dM|exact hlo _ sn sn sn sn sn|(refine qD ?_;simp only[aB,bE,D4.aP];done)|refine bI ?_ ?_))) ?_ ?_
    ·rintro j ⟨hj,hjs⟩;have hnx:∀(h:j<L.length),(L.take (j+1)).foldl (l7 r) s=l7 r ((L.take j).foldl (l7 r) s) L[j]:=λh=>by rw[aT h,iB];rfl
     generalize hp:(L.take j).foldl (l7 r) s=p at hjs hnx⊢;obtain⟨G,b2⟩:=p;have hb1:=hjs.inv.bd;have hb2:=hjs.inv.len;dsimp only at hb1 hb2⊢
     repeat'(first|refine bl ?_|refine bS (λh=>?_) (λh=>?_)|refine cD rfl (by decide) (by assumption) (bw ?_))
     ·have hlt:j<L.length:=by assumption
      have hn1:=hnx hlt;have hql:L[j]∈w.cX r:=by rw[hLL];exact aY hlt
      generalize L[j]=q at hn1 hql⊢;have hbq:=hb1 q;have hbr:=hb1 r
      repeat'(first|refine bl ?_|refine bS (λh=>?_) (λh=>?_)|refine lkC (by decide) (λh=>h) (bw ?_))
      ·have hlk:oV G r q=true:=by unfold oV;simp only[aE,gP,decide_eq_true_eq];omega
       have hlS:l7 r (G,b2) q=(tB G r (cR G q+1),true):=by unfold l7;rw[if_pos hlk]
       have hjs2:=hjs.look hrT hql;rw[hlS]at hjs2 hn1;refine aBP (by decide) (λhh=>?_) (λhh=>?_)
       ·conv=>whnf
        refine bl ?_;have hput:=EE G r (cR G q+1);rw[show xG G r (cR G q+1)=tB G r (cR G q+1) by unfold tB;rw[if_pos hh]]at hput;refine⟨j+1,by omega,⟨by omega,by rw[hn1];exact hjs2⟩,?_⟩;rw[hn1]
        (refine cN.sub ?_ ?_ ?_ ?_ ?_<;>repeat'(first|exact aW|exact rfl|exact sn|exact eV rfl|exact eV (TO rfl hput)|exact aZ|exact dM|exact hlo _ sn sn sn sn sn|(refine qD ?_;simp only[aB,bE,D4.aP];done)|refine bI ?_ ?_))
       ·conv=>whnf
        refine bl ?_;have hput:=vP G r (cR G q+1);rw[show G++[(r,cR G q+1)]=tB G r (cR G q+1) by unfold tB;rw[if_neg (by simp[hh])]]at hput;refine⟨j+1,by omega,⟨by omega,by rw[hn1];exact hjs2⟩,?_⟩;rw[hn1]
        (refine cN.sub ?_ ?_ ?_ ?_ ?_<;>repeat'(first|exact aW|exact rfl|exact sn|exact eV rfl|exact eV (TO rfl hput)|exact aZ|exact dM|exact hlo _ sn sn sn sn sn|(refine qD ?_;simp only[aB,bE,D4.aP];done)|refine bI ?_ ?_))
      ·have hlk:oV G r q=true:=by unfold oV;simp only[aE,gP,decide_eq_true_eq];omega
       have hlS:l7 r (G,b2) q=(tB G r (cR G q+1),true):=by unfold l7;rw[if_pos hlk]
       have hjs2:=hjs.look hrT hql;rw[hlS]at hjs2 hn1;refine aBP (by decide) (λhh=>?_) (λhh=>?_)
       ·conv=>whnf
        refine bl ?_;have hput:=EE G r (cR G q+1);rw[show xG G r (cR G q+1)=tB G r (cR G q+1) by unfold tB;rw[if_pos hh]]at hput;refine⟨j+1,by omega,⟨by omega,by rw[hn1];exact hjs2⟩,?_⟩;rw[hn1]
        (refine cN.sub ?_ ?_ ?_ ?_ ?_<;>repeat'(first|exact aW|exact rfl|exact sn|exact eV rfl|exact eV (TO rfl hput)|exact aZ|exact dM|exact hlo _ sn sn sn sn sn|(refine qD ?_;simp only[aB,bE,D4.aP];done)|refine bI ?_ ?_))
       ·conv=>whnf
        refine bl ?_;have hput:=vP G r (cR G q+1);rw[show G++[(r,cR G q+1)]=tB G r (cR G q+1) by unfold tB;rw[if_neg (by simp[hh])]]at hput;refine⟨j+1,by omega,⟨by omega,by rw[hn1];exact hjs2⟩,?_⟩;rw[hn1]
        (refine cN.sub ?_ ?_ ?_ ?_ ?_<;>repeat'(first|exact aW|exact rfl|exact sn|exact eV rfl|exact eV (TO rfl hput)|exact aZ|exact dM|exact hlo _ sn sn sn sn sn|(refine qD ?_;simp only[aB,bE,D4.aP];done)|refine bI ?_ ?_))
      ·have hlk:oV G r q=false:=by unfold oV;simp only[gI,lA,decide_eq_false_iff_not];omega
       have hlS:l7 r (G,b2) q=(G,b2):=by unfold l7;rw[if_neg (by simp[hlk])]
       rw[hlS]at hn1;refine⟨j+1,by omega,⟨by omega,by rw[hn1];exact hjs⟩,?_⟩;rw[hn1]
       (refine cN.sub ?_ ?_ ?_ ?_ ?_<;>repeat'(first|exact aW|exact rfl|exact sn|exact eV rfl|exact eV (TO rfl hput)|exact aZ|exact dM|exact hlo _ sn sn sn sn sn|(refine qD ?_;simp only[aB,bE,D4.aP];done)|refine bI ?_ ?_))
      ·have hlk:oV G r q=false:=by unfold oV;simp only[gI,lA,decide_eq_false_iff_not];omega
       have hlS:l7 r (G,b2) q=(G,b2):=by unfold l7;rw[if_neg (by simp[hlk])]
       rw[hlS]at hn1;refine⟨j+1,by omega,⟨by omega,by rw[hn1];exact hjs⟩,?_⟩;rw[hn1]
       (refine cN.sub ?_ ?_ ?_ ?_ ?_<;>repeat'(first|exact aW|exact rfl|exact sn|exact eV rfl|exact eV (TO rfl hput)|exact aZ|exact dM|exact hlo _ sn sn sn sn sn|(refine qD ?_;simp only[aB,bE,D4.aP];done)|refine bI ?_ ?_))
     ·obtain rfl:j=L.length:=by omega
      rw[aI (bT _)]at hp;rw[hp];exact⟨(),trivial,by(refine cN.sub ?_ ?_ ?_ ?_ ?_<;>repeat'(first|exact aW|exact rfl|exact sn|exact eV rfl|exact aZ|exact dM|exact hlo _ sn sn sn sn sn|(refine qD ?_;simp only[aB,bE,D4.aP];done)|refine bI ?_ ?_))⟩
    rintro _ _;refine bl ?_;refine⟨rfl,rfl,?_⟩
    repeat'(first|exact aW|exact rS rfl|exact eV rfl|refine bI ?_ ?_)
   ·repeat'(first|exact aW|exact rfl|refine bI ?_ ?_)
   ·exact⟨sn,sn,trivial⟩
   ·refine⟨?_,?_⟩
    ·repeat'(first|exact aW|exact sn|refine bI ?_ ?_)
    ·repeat'(first|exact aW|exact sn|exact dM|refine bI ?_ ?_)
   ·exact⟨rfl,rfl,trivial⟩
   ·exact rfl
   ·repeat'(first|exact aW|exact rfl|refine bI ?_ ?_)
   ·repeat'(first|exact aW|exact sn|refine bI ?_ ?_)
   ·repeat'(first|exact aW|exact sn|exact dM|refine bI ?_ ?_)
   ·trivial
   rw[show w.aP.take w.things.length=w.aP from aI (by omega)];have hpa:=NK hI;rw[show w.aP.foldl (qM w.cX) (F,false)=KZ w.cX w.aP F from rfl];obtain⟨n',rfl⟩:∃n',n=n'+1:=⟨n -1,by omega⟩;have hfs:=hb.2;rw[MM]at hfs;generalize KZ w.cX w.aP F=p at hpa hfs⊢;obtain⟨G,b2⟩:=p;refine bl ?_;refine⟨(n',G,b2),?_,⟨hpa.inv,?_⟩,?_⟩
   ·dsimp only;rw[if_pos rfl];split<;>omega
   ·dsimp only;cases b2 with
    |false=>rw[if_neg gO]at hfs⊢;exact hfs
    |true=>
     rw[if_pos rfl]at hfs⊢;exact⟨by have:=hpa.less rfl;dsimp only at this;omega,hfs⟩
   ·exact mv 8008 177
 rintro _ _;have hfar:=P2 hst.out hE.1 hE.2;have hlk:=hE.2;have hInv:=hE.1;have hfin:EK w.cX w.aP (jL u.names) to=goS (w.K1 to) w.cX to (w.aP.length+1) (jX (w.K1 to) (jL u.names)) []:=rfl;rw[hfin];have hEF:MM w.cX w.aP (vZ w.aP w.aP.length [(to,1)]+1) [(to,1)]=w.K1 to:=rfl;rw[hEF]at hfar hlk hInv;generalize w.K1 to=F at hfar hlk hInv⊢;have hz:cR F 0=0:=by
  cases hk:kJ F 0 with
  |false=>exact uC F 0 hk
  |true=>exact absurd (hInv.keys _ (mP.1 hk)) hst.zero
 have hun:=hu.names;have hul:=hu.nlen;have hil:=IG u;have hflen:=hInv.len;have hne:∀L:List Int,∀x∈L,0<cR F x->x≠0:=λL x _ hx=>by rintro rfl;omega
 have hsp:=BB F (jL u.names) (hne _);have hbd:=hInv.bd;generalize hgf:goS F w.cX to (w.aP.length+1) (jX F (jL u.names)) []=fin
 repeat'(first|refine bl ?_|refine aF (D0 u.names (by omega)) (bw ?_)|(refine dZ.mk (.d (ci (jX F (jL u.names)))) [] (aJ.hP (QJ F (jL u.names) (by omega)) ⟨sn,trivial⟩ ⟨rfl,rfl,trivial⟩ ⟨⟨sn,trivial⟩,dM,trivial⟩ trivial) ?_;(conv=>whnf)))
 refine bV mix (λa:Nat×Int×List Int=>goS F w.cX to a.1 a.2.1 a.2.2=fin/\(a.2.1=0\/(a.2.1≠0/\0<cR F a.2.1/\cR F a.2.1<=a.1))/\a.1+a.2.2.length<=w.aP.length+1)
  (I:=λa=>[(2,.d (ci to)),(3,.lp 1 0),(16,.fn (.func 48) [] [.lp 161 0]),(17,lv 1 900 (iR a.2.2)),(18,.d (ci a.2.1))]) (J:=λa=>lm 900 25 1 (iR a.2.2) [(1,wB w),(161,.cells false [.h 129]),(129,.mp false (iZ F) [])]) (μ:=λa=>a.1) 22000 (w.aP.length+1,jX F (jL u.names),[])
  ⟨hgf,by dsimp only;rcases hsp with⟨g1,_⟩|⟨g1,g2,_,_⟩
          · exact .inl g1
          · exact .inr ⟨g1,g2,by have:=hbd (jX F (jL u.names));omega⟩,by simp⟩ (by exact mv 5000 5001) ?_
 rintro⟨m,a,out⟩ ⟨h1,h2,h3⟩;dsimp only at h1 h2 h3⊢;have hnear:∀(m':Nat),m=m'+1->a≠0->a≠to->goS F w.cX to m' (jX F (w.cX a)) (out++[a])=fin/\(jX F (w.cX a)=0\/(jX F (w.cX a)≠0/\0<cR F (jX F (w.cX a))/\cR F (jX F (w.cX a))<=m')):=λm' e h0 hto=>by
  subst e;rw[goS,if_neg h0,if_neg hto]at h1;refine⟨h1,?_⟩;rcases h2 with h2|⟨g1,g2,g3⟩
  ·exact absurd h2 h0
  ·rcases aAZ hfar hz a g2 hto with q|⟨q1,q2,q3⟩
   ·exact .inl q
   ·exact .inr ⟨q1,q2,by omega⟩
 have hyes:a≠0->a=to->fin=(out++[a],true):=λh0 hto=>by
  rcases h2 with h2|⟨g1,g2,g3⟩
  ·exact absurd h2 h0
  ·obtain⟨m',rfl⟩:∃m',m=m'+1:=⟨m -1,by omega⟩;rw[goS,if_neg h0,if_pos hto]at h1;exact h1.symm
 have hmp:a≠0->∃m',m=m'+1:=λh0=>by
  rcases h2 with h2|⟨g1,g2,g3⟩
  ·exact absurd h2 h0
  ·exact⟨m -1,by omega⟩
 have hsa:=GW hgd a;have hz0:a=0->fin=([],false):=λe=>by rw[e,YC]at h1;exact h1.symm
 cases out with
 |nil=>
  show vc _ _ _ _ _ [(1,wB w),(161,.cells false [.h 129]),(129,.mp false (iZ F) [])] _ _
  repeat'(first|refine bl ?_|refine bS (λh=>?_) (λh=>?_))
  ·have ha0:a≠0:=by assumption
   refine n8 (by simp only[aB,bE,cE,aS,aQ];omega) (by kernel_rfl) ?_;conv=>whnf
   refine E9.mk (λh=>by cases h) (λh=>?_);conv=>whnf
   repeat'(first|refine bl ?_|refine bS (λh=>?_) (λh=>?_)|refine aF (AZ w hgd a) (bw ?_)|(refine dZ.mk (.d (ci (jX F (w.cX a)))) [] (aJ.hP (QJ F (w.cX a) (by omega)) ⟨sn,trivial⟩ ⟨rfl,rfl,trivial⟩ ⟨⟨sn,trivial⟩,dM,trivial⟩ trivial) ?_;(conv=>whnf)))
   ·have hat:a=to:=by assumption
    rw[hyes ha0 hat];exact .eL (cs:=[.sl 1 (iR ([a])),cb true,ci 0]) (.cons (.dU (t:=25) (congrArg (λq=>some (R.fW false 25 1 q)) rfl)) (.cons (.d _) (.cons (.d _) .nil)))
   ·have hat:¬a=to:=by assumption
    obtain⟨m',hm'⟩:=hmp ha0;obtain⟨y1,y2⟩:=hnear m' hm' ha0 hat;refine⟨(m',jX F (w.cX a),[a]),by dsimp only;omega,⟨y1,y2,by dsimp only;simp only[aQ,aU,cS]at*;omega⟩,?_⟩;dsimp only[iR,List.map_cons,List.map_nil,lv,lm];exact mv 22040 900
    all_goals exact cO rfl rfl
  ·have ha0:a=0:=by assumption
   rw[hz0 ha0];exact .eL (cs:=[.sl 1 [],cb false,ci 0]) (.cons (.nz _ _) (.cons (.d _) (.cons (.d _) .nil)))
 |cons o0 out=>
  show vc _ _ _ _ _ [(900,dU 25 1 (iR (o0::out))),(1,wB w),(161,.cells false [.h 129]),(129,.mp false (iZ F) [])] _ _
  repeat'(first|refine bl ?_|refine bS (λh=>?_) (λh=>?_))
  ·have ha0:a≠0:=by assumption
   refine n8 (by simp only[aB,bE,cE,aS,aQ]at*;omega) (by kernel_rfl) ?_;conv=>whnf
   repeat'(first|refine bl ?_|refine bS (λh=>?_) (λh=>?_)|refine aF (AZ w hgd a) (bw ?_)|(refine dZ.mk (.d (ci (jX F (w.cX a)))) [] (aJ.hP (QJ F (w.cX a) (by omega)) ⟨sn,trivial⟩ ⟨rfl,rfl,trivial⟩ ⟨⟨sn,trivial⟩,dM,trivial⟩ trivial) ?_;(conv=>whnf)))
   ·have hat:a=to:=by assumption
    rw[hyes ha0 hat];exact .eL (cs:=[.sl 1 (iR (o0::(out++[a]))),cb true,ci 0]) (.cons (.dU (t:=25) (congrArg (λq=>some (R.fW false 25 1 q)) (gG (o0::out) [a]))) (.cons (.d _) (.cons (.d _) .nil)))
   ·have hat:¬a=to:=by assumption
    obtain⟨m',hm'⟩:=hmp ha0;obtain⟨y1,y2⟩:=hnear m' hm' ha0 hat;refine⟨(m',jX F (w.cX a),o0::(out++[a])),by dsimp only;omega,⟨y1,y2,by dsimp only;simp only[aQ,aU,cS]at*;omega⟩,?_⟩;dsimp only[iR,List.map_cons,List.map_nil,lv,lm];refine mq 22040 900 ?_
    all_goals exact cO rfl (gG (o0::out) [a])
  ·have ha0:a=0:=by assumption
   rw[hz0 ha0];exact .eL (cs:=[.sl 1 [],cb false,ci 0]) (.cons (.nz _ _) (.cons (.d _) (.cons (.d _) .nil)))
def D4.l9(w:D4)(u:U4)(to:Int):List Int×Bool:=if(w.zE u&&w.mI to)=true then EK w.cX w.aP (jL u.names) to else([],false)
def D4.OD(w:D4)(u:U4)(to:Int):Int:=if w.zE u=true then(if w.mI to=true then 0 else 5)else 190
theorem aH3(w:D4)(hw:w.qV)(u:U4)(hu:u.gA)(to:Int)(h:(w.zE u&&w.mI to)=false):∀m,aJ Tryz.prog 11 [.d (.ip w.cells),.d (.agg u.cells),.d (ci to)] m (.ok (.eL [.d (.sl 1 []),.d (cb false),.d (ci (w.OD u to))])) m:=by
 have hone:∀i(h:i<[u].length),[u][i].gA:=λi h=>match i,h with
  |0,_=>hu
 have hm:=yG w hw [u] (by simp) hone;have his:=sB w to;refine iC mix Tryz.func11 ?_;unfold D4.OD;cases hck:w.zE u with
 |false=>
  have hme:w.s8 [u]=190:=by unfold D4.s8;simp[hck]
  rw[hme]at hm
  repeat'(first|refine bl ?_|(refine fU (cs:=[.ip w.cells,.sl 4 [u.cells]]) hm (.v _) (.cons (.d _) (.cons (.os rfl (rC.data _ [u.cells])) .nil)) ?_;(conv=>whnf)))
  exact .eL (cs:=[.sl 1 [],cb false,ci 190]) (.cons (.nz _ _) (.cons (.d _) (.cons (.d _) .nil)))
 |true=>
  have hme:w.s8 [u]=0:=by unfold D4.s8;simp[hck]
  have hi:w.mI to=false:=by simpa [hck]using h
  rw[hme]at hm;rw[hi]at his
  repeat'(first|refine bl ?_|(refine fU (cs:=[.ip w.cells,.sl 4 [u.cells]]) hm (.v _) (.cons (.d _) (.cons (.os rfl (rC.data _ [u.cells])) .nil)) ?_;(conv=>whnf))|refine aF his (bw ?_))
  rw[hi];exact .eL (cs:=[.sl 1 [],cb false,ci 5]) (.cons (.nz _ _) (.cons (.d _) (.cons (.d _) .nil)))
theorem DY(w:D4)(hw:w.qV)(u:U4)(hu:u.gA)(to:Int):∀m,aJ Tryz.prog 11 [.d (.ip w.cells),.d (.agg u.cells),.d (ci to)] m (.ok (.eL [.d (.sl 1 (iR (w.l9 u to).1)),.d (cb (w.l9 u to).2),.d (ci (w.OD u to))])) m:=by
 unfold D4.l9;cases h:(w.zE u&&w.mI to)with
 |false=>exact aH3 w hw u hu to h
 |true=>
  simp only[aE]at h;have:=aA6 w hw u hu to h.1 h.2;unfold D4.OD;rw[if_pos h.1,if_pos h.2,if_pos rfl];exact this
abbrev iN(L:List Nat):List (List C):=L.map λn:Nat=>[ci (n:Int)]
def pS(NR:List (List C))(F:List (Int×Int))(low:List Nat):List (Nat×R):=[(1016,.cells false [.d (.sl 3 NR),.h 1000,.h 902]),(1000,.mp false (iZ F) []),(902,dU 3 1 (iN low))]
def oK(F:List (Int×Int))(is:Bool)(who ref n:Int):Int×Int:=if is=false then(if ref≠0\/who<0\/n<=who then(0,2)else(who,0))else if who≠0 then(0,2)else if kJ F ref=true then(cR F ref,0)else(0,5)
theorem aL6{P:Program}{F:List (Int×Int)}{kt:TypeId}{r:Int}{k1:A->Prop}{k0:Prop}(hk:KC.fits P kt (.int .i64 0)=true)(h1:kJ F r=true->k1 (.d (ci (cR F r))))(h0:kJ F r=false->k0):LkK (kH P kt (kI r) (iZ F)) (fL (kI r) (iZ F)) k1 k0:=by
 have hf:=P3 (P:=P) (r:=r) hk F;have hg:=V1 F r;unfold kJ cR at h1;unfold kJ at h0;cases h:F.find? λf=>decide (f.1=r)with
 |none=>rw[h]at hg h0;exact .BP hf hg (h0 rfl)
 |some f=>rw[h]at hg h1;exact .CL _ hf hg (h1 rfl)
def B8(low:List Nat):Prop:=∀i,l8 low i<=i
theorem WR{low:List Nat}(h:B8 low)(i:Nat):(l8 low i=i->eC low i=i)/\(l8 low i≠i->l8 low i<i/\eC low (l8 low i)=eC low i):=by
 have h1:=h i;constructor
 ·intro e;rw[eC,dif_neg (by omega)]
 ·intro e;have h2:l8 low i<i:=by omega
  refine⟨h2,?_⟩;conv=>rhs;rw[eC,dif_pos h2]
theorem aME(L:List Nat)(k:Nat)(h:k<L.length):(bE (iN L))[k]?=some [.d (ci (l8 L k:Nat))]:=by
 refine gB _ _ [ci (l8 L k:Nat)] ?_;unfold l8;rw[cK,aC h];rfl
theorem xV{NR:List (List C)}{F:List (Int×Int)}{low:List Nat}:H9 (pS NR F low) (pS NR F low):=⟨⟨sn,sn,trivial⟩,dM,aZ,trivial⟩
theorem IN(NR:List (List C))(F:List (Int×Int))(low:List Nat)(h:B8 low)(i:Nat)(hi:i<low.length):aJ Tryz.prog 56 [.lp 1016 0,.d (ci i)] (aK (pS NR F low)) (.ok (.d (ci (eC low i:Nat)))) (aH (aK (pS NR F low)) []):=by
 refine wE mix 2000 Tryz.func56 trivial trivial ?_;refine bl ?_;refine bV mix (λk:Nat=>k<low.length/\eC low k=eC low i) (I:=λk=>[(0,.lp 1016 0),(1,.d (ci k))])
  (J:=λk=>pS NR F low) (μ:=λk=>k) 3000 i ⟨hi,rfl⟩ (by exact mv 5000 5001) ?_
 rintro k ⟨hk,hr⟩;obtain⟨s1,s2⟩:=WR h k
 repeat'(first|refine bl ?_|refine bS (λh=>?_) (λh=>?_)|refine lG.mk k rfl (by simp only[bE,aB];omega) (bw ?_)|(refine fZ.mk _ (aME low k hk) ?_;(conv=>whnf)))
 ·have e:¬l8 low k=k:=λe=>absurd (congrArg (λn:Nat=>(n:Int)) e) (by assumption);exact⟨l8 low k,(s2 e).1,⟨by have:=(s2 e).1;omega,(s2 e).2.trans hr⟩,by exact mv 5000 5001⟩
 ·have e:l8 low k=k:=by omega
  rw[<-hr,s1 e];exact em
theorem N3{F:List (Int×Int)}{i:Nat}{low:List Nat}{r:Int}(h:B8 low)(hF:zD F low.length)(hi:i<low.length):B8 (fR F i low r):=by
 unfold fR;split
 ·rename_i hr;have hk:=hF.at hr;have l1:=xJ low i;have l2:=xJ low (cR F r).toNat;intro x;rw[xC _ _ _ _ (by omega)];split
  ·omega
  ·exact h x
 ·exact h
theorem aJ4(L:List Nat)(k v:Nat):(bE (iN L)).set k [.d (ci (v:Int))]=bE (iN (L.set k v)):=by
 simp only[bE,qS];rfl
theorem J4(NR:List (List C))(F:List (Int×Int))(low:List Nat)(h:B8 low)(hF:zD F low.length)(i:Nat)(hi:i<low.length)(r:Int):aJ Tryz.prog 113 [.lp 1016 0,.d (ci i),.d (ci r)] (aK (pS NR F low)) (.ok (.eL [])) (aH (aK (pS NR F low)) [(902,dU 3 1 (iN (fR F i low r)))]):=by
 refine wE mix 2000 Tryz.func113 trivial ⟨aZ,trivial⟩ ?_;refine bl ?_;refine aL6 (by decide) (λhr=>?_) (λhr=>?_)
 ·have hk:=hF.at hr;have hck:cR F r=((cR F r).toNat:Int):=by omega
  conv=>whnf
  rw[hck];have l1:=xJ low i;have l2:=xJ low (cR F r).toNat
  repeat'(first|refine bl ?_|refine dZ.mk (.d (ci (eC low i:Nat))) [] (aJ.hP (IN NR F low h i hi) ⟨sn,trivial⟩ ⟨rfl,rfl,rfl,trivial⟩ xV trivial) (bw ?_)|(refine dZ.mk (.d (ci (eC low (cR F r).toNat:Nat))) [] (aJ.hP (IN NR F low h (cR F r).toNat (by omega)) ⟨sn,trivial⟩ ⟨rfl,rfl,rfl,trivial⟩ xV trivial) ?_;(conv=>whnf))|refine xR.mk (by kernel_rfl) (bw ?_))
  have hj:fR F i low r=low.set (max (eC low i) (eC low (cR F r).toNat)) (min (eC low i) (eC low (cR F r).toNat)):=by unfold fR;rw[if_pos hr]
  rw[hj];generalize eC low i=a at l1⊢;generalize eC low (cR F r).toNat=b at l2⊢;refine lG.mk (max a b) ?_ (by simp only[bE,aB];omega) ?_
  ·rw[if_pos rfl];split<;>omega
  conv=>whnf
  skip
  refine fZ.mk _ (aME low (max a b) (by omega)) ?_;conv=>whnf
  refine bl ?_;have hmin:(if false=true then if(b:Int)>a then(b:Int)else a else if(b:Int)<a then(b:Int)else a)=((min a b:Nat):Int):=by
   rw[if_neg gO];split<;>omega
  refine dA rfl ⟨.inr (YQ rfl ?_),.inr rfl,.inr rfl,.inl rfl,trivial⟩;rw[hmin];exact aJ4 low (max a b) (min a b)
 ·conv=>whnf
  refine bl ?_;rw[show fR F i low r=low by unfold fR;rw[if_neg (by simp[hr])]];exact em
theorem TW(NR:List (List C))(F:List (Int×Int))(low:List Nat)(is:Bool)(who ref n:Int):aJ Tryz.prog 57 [.lp 1016 0,.d (.agg [cb is,ci who,ci ref]),.d (ci n)] (aK (pS NR F low)) (.ok (.eL [.d (ci (oK F is who ref n).1),.d (ci (oK F is who ref n).2)])) (aH (aK (pS NR F low)) []):=by
 refine wE mix 2000 Tryz.func57 trivial trivial ?_;cases is with
 |false=>
  repeat'(first|refine bl ?_|refine bS (λh=>?_) (λh=>?_))
  all_goals first
   |(have e:oK F false who ref n=(0,2):=by unfold oK;rw[if_pos rfl,if_pos (by omega)]
     rw[e]
     exact em;done)
   |(have e:oK F false who ref n=(who,0):=by unfold oK;rw[if_pos rfl,if_neg (by omega)]
     rw[e]
     exact em;done)
 |true=>
  repeat'(first|refine bl ?_|refine bS (λh=>?_) (λh=>?_))
  ·have e:oK F true who ref n=(0,2):=by unfold oK;rw[if_neg (by simp),if_pos (by omega)]
   rw[e];exact em
  ·have hw0:¬who≠0:=by omega
   refine aL6 (by decide) (λhr=>?_) (λhr=>?_)
   ·conv=>whnf
    refine bl ?_;have e:oK F true who ref n=(cR F ref,0):=by unfold oK;rw[if_neg (by simp),if_neg hw0,if_pos hr]
    rw[e];exact em
   ·conv=>whnf
    refine bl ?_;have e:oK F true who ref n=(0,5):=by unfold oK;rw[if_neg (by simp),if_neg hw0,if_neg (by simp[hr])]
    rw[e];exact em
def nX(n:Nat)(T:List Int):List (List C):=(List.range n).map (λi:Nat=>[cb false,ci (i:Int),ci 0])++T.map λr=>[cb true,ci 0,ci r]
def wP:Nat->List Int->List (Int×Int)
 |_,[]=>[]
 |n,r::T=>(r,(n:Int))::wP (n+1) T
theorem aBX(w:D4)(hw:w.qV)(n:Nat)(lo:R)
 (hlo:∀ml':List (Nat×R),aK ml' 1024≠none->aK ml' 7100≠none->rB ml' lo.hs)
 (hren1:lo.eZ (swp 12056 900)=lo)(hren2:lo.eZ (swp 12160 901)=lo)(hren3:lo.eZ (swp 30160 950)=lo)(hT0:w.things≠[])
 (hstep0:∀(h:0<w.things.length)(o:Oper)(c:Call)(fo:Operand)(l:List (Nat×A)),o.op=.call c->c.callee=.value fo->dN (lT l) fo=.h 7000->c.args.toList.map (dN (lT l))=[.d (ci w.things[0].ref),.d (ck w.things[0].bQ.kind)]->o8 Tryz.prog o (lT l) (aK ((900,dU 25 1 (iR w.aP))::(901,dU 84 1 (kR (w.things.map (·.bQ.kind))))::(7000,lo)::(7100,.cells false [.d (.ip w.cells)])::(1024,.cells false [.lp 1016 0])::(1016,.cells false [.h 940,.h 1000,.d (.nl 1)])::(1000,.mp false (iZ []) [])::(940,dU 55 3 (nX n []))::[])) [(.ok (.d (.v (.bool true))),[(1016,.cells false [.h 30160,.h 1000,.d (.nl 1)]),(1000,.mp false (iZ (wP n (w.aP.take 1))) []),(30160,dU 55 3 (nX n (w.aP.take 1))),(940,.dead)])])
 (hstepS:∀k(h:k+1<w.things.length)(o:Oper)(c:Call)(fo:Operand)(l:List (Nat×A)),o.op=.call c->c.callee=.value fo->dN (lT l) fo=.h 7000->c.args.toList.map (dN (lT l))=[.d (ci w.things[k+1].ref),.d (ck w.things[k+1].bQ.kind)]->o8 Tryz.prog o (lT l) (aK ((900,dU 25 1 (iR w.aP))::(901,dU 84 1 (kR (w.things.map (·.bQ.kind))))::(7000,lo)::(7100,.cells false [.d (.ip w.cells)])::(1024,.cells false [.lp 1016 0])::(1016,.cells false [.h 950,.h 1000,.d (.nl 1)])::(1000,.mp false (iZ (wP n (w.aP.take (k+1)))) [])::(950,dU 55 3 (nX n (w.aP.take (k+1))))::(940,.dead)::[])) [(.ok (.d (.v (.bool true))),[(1016,.cells false [.h 30160,.h 1000,.d (.nl 1)]),(1000,.mp false (iZ (wP n (w.aP.take (k+2)))) []),(30160,dU 55 3 (nX n (w.aP.take (k+2)))),(950,.dead)])]):
 aJ Tryz.prog 105 [.h 7000,.lp 7100 0] (aK ((7000,lo)::(7100,.cells false [.d (.ip w.cells)])::(1024,.cells false [.lp 1016 0])::(1016,.cells false [.h 940,.h 1000,.d (.nl 1)])::(1000,.mp false (iZ []) [])::(940,dU 55 3 (nX n []))::[])) (.ok (.eL [])) (aH (aK ((7000,lo)::(7100,.cells false [.d (.ip w.cells)])::(1024,.cells false [.lp 1016 0])::(1016,.cells false [.h 940,.h 1000,.d (.nl 1)])::(1000,.mp false (iZ []) [])::(940,dU 55 3 (nX n []))::[])) [(1016,.cells false [.h 950,.h 1000,.d (.nl 1)]),(1000,.mp false (iZ (wP n w.aP)) []),(950,dU 55 3 (nX n w.aP)),(940,.dead)]):=by
 refine wE mix 12000 Tryz.func105 (by(repeat'(first|exact aW))) (by repeat'(first|exact aW|exact sn|exact dM|exact aZ|refine bI ?_ ?_)) ?_;have hgl:=hw.len;have hg:=hw.togA;have hnl:w.aP.length=w.things.length:=by unfold D4.aP;rw[aB]
 repeat'(first|refine bl ?_|refine fU (cs:=[.ip w.cells]) (vQ w) (.v _) (.cons (.d _) .nil) (bw ?_)|refine fQ (K6 w hw.len hw.EP) 12900 rfl (bw ?_))
 have hst:∀i(h:i<w.things.length),w.aP[i]'(by omega)=w.things[i].ref/\w.find w.things[i].ref=some w.things[i]/\w.things.take (i+1)=w.things.take i++[w.things[i]]:=λi h=>by
  refine⟨by simp[D4.aP],X7 hg i h,aT h⟩
 refine cY mix (λi:Nat=>i<=w.things.length) (I:=λi=>[(0,.h 7000),(1,.lp 7100 0),(3,lv 1 900 (iR ((w.things.take i).map (·.ref)))),(4,lv 1 901 (kR ((w.things.take i).map (·.bQ.kind)))),(12,.h 12900),(13,.d (ci w.things.length)),(14,.d (ci i))])
  (J:=λi=>lm 900 25 1 (iR ((w.things.take i).map (·.ref))) (lm 901 84 1 (kR ((w.things.take i).map (·.bQ.kind))) ((12900,dU 25 1 (iR w.aP))::(7000,lo)::(7100,.cells false [.d (.ip w.cells)])::(1024,.cells false [.lp 1016 0])::(1016,.cells false [.h 940,.h 1000,.d (.nl 1)])::(1000,.mp false (iZ []) [])::(940,dU 55 3 (nX n []))::[]))) (μ:=λi=>w.things.length -i) 12000 0 0
  (λ_:Unit=>True) (λ_=>[(0,.h 7000),(3,lv 1 900 (iR w.aP)),(4,lv 1 901 (kR (w.things.map (·.bQ.kind))))]) (λ_=>lm 900 25 1 (iR w.aP) (lm 901 84 1 (kR (w.things.map (·.bQ.kind))) ((7000,lo)::(7100,.cells false [.d (.ip w.cells)])::(1024,.cells false [.lp 1016 0])::(1016,.cells false [.h 940,.h 1000,.d (.nl 1)])::(1000,.mp false (iZ []) [])::(940,dU 55 3 (nX n []))::[]))) 13000 (by omega) (by(refine cN.sub ?_ ?_ ?_ ?_ ?_<;>repeat'(first|exact aW|exact rfl|exact sn|exact eV rfl|exact aZ|exact dM|exact hlo _ sn sn|(refine qD ?_;simp only[aB,bE,D4.aP];done)|refine bI ?_ ?_))) ?_ ?_
 ·intro i hi;have hlt0:(w.things.take i).length<=w.things.length:=by simp;omega
  have hst:=hst i;generalize hQ:w.things.take i=Q at hst hlt0⊢;cases Q with
  |nil=>
   show vc _ _ _ _ _ ((12900,dU 25 1 (iR w.aP))::(7000,lo)::(7100,.cells false [.d (.ip w.cells)])::(1024,.cells false [.lp 1016 0])::(1016,.cells false [.h 940,.h 1000,.d (.nl 1)])::(1000,.mp false (iZ []) [])::(940,dU 55 3 (nX n []))::[]) _ _
   repeat'(first|refine bl ?_|refine bS (λh=>?_) (λh=>?_)|refine lG.mk i rfl (by simp only[bE,aB];omega) (bw ?_)|(refine fZ.mk _ (T9 w.aP i (by omega)) ?_;(conv=>whnf)))
   ·have hlt:i<w.things.length:=by assumption
    obtain⟨s1,s2,s3⟩:=hst hlt;refine n8 (by simp only[aB,bE,cE,aS];omega) (by kernel_rfl) ?_;conv=>whnf
    refine E9.mk (λh=>by cases h) (λh=>?_);conv=>whnf
    refine bl ?_;refine EA (by decide) (λt ht=>?_) (λht=>?_)
    ·have e:t=w.things[i]:=eY ((show w.find w.aP[i]=some t from ht).symm.trans (by rw[s1];exact s2));subst e;conv=>whnf
     skip
     refine n8 (by simp only[aB,bE,cE,aS];omega) (by kernel_rfl) ?_;conv=>whnf
     refine E9.mk (λh=>by cases h) (λh=>?_);conv=>whnf
     refine bl ?_;rw[s1];refine⟨i+1,by omega,by omega,?_⟩;rw[s3];refine cN.trans (l':=[(0,.h 7000),(1,.lp 7100 0),(3,.h 900),(4,.h 12160),(12,.h 12900),(13,.d (ci w.things.length)),(14,.d (ci (i+1:Nat)))])
      (ml':=(900,dU 25 1 (iR [w.things[i].ref]))::(12160,dU 84 1 (kR [w.things[i].bQ.kind]))::(12900,dU 25 1 (iR w.aP))::(7000,lo)::(7100,.cells false [.d (.ip w.cells)])::(1024,.cells false [.lp 1016 0])::(1016,.cells false [.h 940,.h 1000,.d (.nl 1)])::(1000,.mp false (iZ []) [])::(940,dU 55 3 (nX n []))::[]) ?_ ?_
     ·exact mv 12056 900
      all_goals first|exact cO rfl rfl|exact cO rfl rfl|exact cO rfl rfl
     ·dsimp only[List.nil_append,List.cons_append,List.map_cons,List.map_nil,lv,lm];exact mv 12160 901
      all_goals first|exact cO rfl rfl
    ·exfalso;have:w.find w.aP[i]=none:=ht;rw[s1,s2]at this;cases this
   ·rw[aI (by omega)]at hQ;refine⟨(),trivial,?_⟩;rw[show w.aP=[] by unfold D4.aP;rw[hQ];rfl,hQ]
    (refine cN.sub ?_ ?_ ?_ ?_ ?_<;>repeat'(first|exact aW|exact rfl|exact sn|exact eV rfl|exact aZ|exact dM|exact hlo _ sn sn|(refine qD ?_;simp only[aB,bE,D4.aP];done)|refine bI ?_ ?_))
  |cons q0 Q=>
   show vc _ _ _ _ _ ((900,dU 25 1 (iR ((q0::Q).map (·.ref))))::(901,dU 84 1 (kR ((q0::Q).map (·.bQ.kind))))::(12900,dU 25 1 (iR w.aP))::(7000,lo)::(7100,.cells false [.d (.ip w.cells)])::(1024,.cells false [.lp 1016 0])::(1016,.cells false [.h 940,.h 1000,.d (.nl 1)])::(1000,.mp false (iZ []) [])::(940,dU 55 3 (nX n []))::[]) _ _
   repeat'(first|refine bl ?_|refine bS (λh=>?_) (λh=>?_)|refine lG.mk i rfl (by simp only[bE,aB];omega) (bw ?_)|(refine fZ.mk _ (T9 w.aP i (by omega)) ?_;(conv=>whnf)))
   ·have hlt:i<w.things.length:=by assumption
    obtain⟨s1,s2,s3⟩:=hst hlt;simp only[aQ]at hlt0;refine n8 (by simp only[aB,bE,cE,aS,aQ];omega) (by kernel_rfl) ?_;conv=>whnf
    refine bl ?_;refine EA (by decide) (λt ht=>?_) (λht=>?_)
    ·have e:t=w.things[i]:=eY ((show w.find w.aP[i]=some t from ht).symm.trans (by rw[s1];exact s2));subst e;conv=>whnf
     skip
     refine n8 (by simp only[aB,bE,cE,aS,aQ];omega) (by kernel_rfl) ?_;conv=>whnf
     refine bl ?_;rw[s1];refine⟨i+1,by omega,by omega,?_⟩;rw[s3];refine cN.trans (l':=[(0,.h 7000),(1,.lp 7100 0),(3,.h 900),(4,.h 12160),(12,.h 12900),(13,.d (ci w.things.length)),(14,.d (ci (i+1:Nat)))])
      (ml':=(900,dU 25 1 (iR (((q0::Q)++[w.things[i]]).map (·.ref))))::(12160,dU 84 1 (kR (((q0::Q)++[w.things[i]]).map (·.bQ.kind))))::(12900,dU 25 1 (iR w.aP))::(7000,lo)::(7100,.cells false [.d (.ip w.cells)])::(1024,.cells false [.lp 1016 0])::(1016,.cells false [.h 940,.h 1000,.d (.nl 1)])::(1000,.mp false (iZ []) [])::(940,dU 55 3 (nX n []))::[]) ?_ ?_
     ·(refine cN.swap 12056 900 ?_ ?_ ?_ ?_ ?_<;>repeat'(first|exact aW|exact rfl|exact sn|exact aZ|exact IK rfl|exact cO rfl rfl|exact aAX rfl (by assumption)|exact hlo _ sn sn|refine bI ?_ ?_))
      all_goals first|exact cO rfl rfl|exact cO rfl (by simp[bE])|exact cO rfl (by simp[bE])
     ·dsimp only[List.nil_append,List.cons_append,List.map_cons,List.map_nil,lv,lm];exact mv 12160 901
      all_goals first|exact cO rfl rfl
    ·exfalso;have:w.find w.aP[i]=none:=ht;rw[s1,s2]at this;cases this
   ·rw[aI (by omega)]at hQ;refine⟨(),trivial,?_⟩;rw[show w.aP=(q0::Q).map (·.ref) by unfold D4.aP;rw[hQ],hQ]
    (refine cN.sub ?_ ?_ ?_ ?_ ?_<;>repeat'(first|exact aW|exact rfl|exact sn|exact eV rfl|exact aZ|exact dM|exact hlo _ sn sn|(refine qD ?_;simp only[aB,bE,D4.aP];done)|refine bI ?_ ?_))
 rintro _ _;have hkl:(w.things.map (·.bQ.kind)).length=w.things.length:=by rw[aB]
 have hT:=hT0;obtain⟨q0,Q0,hcons⟩:∃q Q,w.aP=q::Q:=by
  cases h:w.aP with
  |nil=>rw[h]at hnl;exact absurd (iL.1 hnl.symm) hT
  |cons q Q=>exact⟨q,Q,rfl⟩
 obtain⟨k0,K0,kcons⟩:∃q Q,w.things.map (·.bQ.kind)=q::Q:=by
  cases h:w.things.map (·.bQ.kind)with
  |nil=>rw[h]at hkl;exact absurd (iL.1 hkl.symm) hT
  |cons q Q=>exact⟨q,Q,rfl⟩
 rw[show lv 1 900 (iR w.aP)=.h 900 by rw[hcons];rfl,show lv 1 901 (kR (w.things.map (·.bQ.kind)))=.h 901 by rw[kcons];rfl,show lm 900 25 1 (iR w.aP) (lm 901 84 1 (kR (w.things.map (·.bQ.kind))) ((7000,lo)::(7100,.cells false [.d (.ip w.cells)])::(1024,.cells false [.lp 1016 0])::(1016,.cells false [.h 940,.h 1000,.d (.nl 1)])::(1000,.mp false (iZ []) [])::(940,dU 55 3 (nX n []))::[]))=(900,dU 25 1 (iR w.aP))::(901,dU 84 1 (kR (w.things.map (·.bQ.kind))))::(7000,lo)::(7100,.cells false [.d (.ip w.cells)])::(1024,.cells false [.lp 1016 0])::(1016,.cells false [.h 940,.h 1000,.d (.nl 1)])::(1000,.mp false (iZ []) [])::(940,dU 55 3 (nX n []))::[] by rw[hcons,kcons];rfl];refine bl ?_;refine cY mix (λi:Nat=>i<=w.things.length) (I:=λi=>[(0,.h 7000),(4,.h 901),(35,.h 900),(36,.d (ci w.things.length)),(37,.d (ci i))])
  (J:=λi=>match i with
    |0=>(900,dU 25 1 (iR w.aP))::(901,dU 84 1 (kR (w.things.map (·.bQ.kind))))::(7000,lo)::(7100,.cells false [.d (.ip w.cells)])::(1024,.cells false [.lp 1016 0])::(1016,.cells false [.h 940,.h 1000,.d (.nl 1)])::(1000,.mp false (iZ []) [])::(940,dU 55 3 (nX n []))::[]
    |i+1=>(900,dU 25 1 (iR w.aP))::(901,dU 84 1 (kR (w.things.map (·.bQ.kind))))::(7000,lo)::(7100,.cells false [.d (.ip w.cells)])::(1024,.cells false [.lp 1016 0])::(1016,.cells false [.h 950,.h 1000,.d (.nl 1)])::(1000,.mp false (iZ (wP n (w.aP.take (i+1)))) [])::(950,dU 55 3 (nX n (w.aP.take (i+1))))::(940,.dead)::[]) (μ:=λi=>w.things.length -i) 16000 0 2
  (λ_:Unit=>True) (λ_=>[]) (λ_=>(7000,lo)::(7100,.cells false [.d (.ip w.cells)])::(1024,.cells false [.lp 1016 0])::(1016,.cells false [.h 950,.h 1000,.d (.nl 1)])::(1000,.mp false (iZ (wP n w.aP)) [])::(950,dU 55 3 (nX n w.aP))::(940,.dead)::[]) 17000 (by omega) (by(refine cN.sub ?_ ?_ ?_ ?_ ?_<;>repeat'(first|exact aW|exact rfl|exact sn|exact eV rfl|exact aZ|exact dM|exact hlo _ sn sn|(refine qD ?_;simp only[aB,bE,D4.aP];done)|refine bI ?_ ?_))) ?_ ?_
 ·intro i hi;have hpos:0<w.things.length:=gH.2 hT;cases i with
  |zero=>
   obtain⟨s1,s2,s3⟩:=hst 0 hpos;show vc _ _ _ _ [(0,.h 7000),(4,.h 901),(35,.h 900),(36,.d (ci w.things.length)),(37,.d (ci (0:Nat)))] ((900,dU 25 1 (iR w.aP))::(901,dU 84 1 (kR (w.things.map (·.bQ.kind))))::(7000,lo)::(7100,.cells false [.d (.ip w.cells)])::(1024,.cells false [.lp 1016 0])::(1016,.cells false [.h 940,.h 1000,.d (.nl 1)])::(1000,.mp false (iZ []) [])::(940,dU 55 3 (nX n []))::[]) _ _
   repeat'(first|refine bl ?_|refine bS (λh=>?_) (λh=>?_)|refine lG.mk 0 rfl (by simp only[bE,aB];omega) (bw ?_)|(refine fZ.mk _ (T9 w.aP 0 (by omega)) ?_;(conv=>whnf))|(refine fZ.mk _ (aKZ (w.things.map (·.bQ.kind)) 0 (by omega)) ?_;(conv=>whnf)))
   rotate_left
   ·exact absurd (by assumption) hT
   refine OpK.mk _ _ (hstep0 hpos _ _ _ _ rfl rfl rfl ?_) ?_
   ·show([.d (ci (w.aP[0]'(by omega))),.d (ck ((w.things.map (·.bQ.kind))[0]'(by omega)))]:List A)=_;rw[s1,fO]
   conv=>whnf
   refine bl ?_;refine⟨0+1,by omega,by omega,?_⟩
   (refine cN.swap 30160 950 ?_ ?_ ?_ ?_ ?_<;>repeat'(first|exact aW|exact rfl|exact sn|exact aZ|exact dM|exact IK rfl|exact cO rfl rfl|exact KS rfl rfl|exact aAX rfl (by assumption)|exact hlo _ sn sn|refine bI ?_ ?_))
  |succ i=>
   show vc _ _ _ _ [(0,.h 7000),(4,.h 901),(35,.h 900),(36,.d (ci w.things.length)),(37,.d (ci ((i+1:Nat):Int)))] ((900,dU 25 1 (iR w.aP))::(901,dU 84 1 (kR (w.things.map (·.bQ.kind))))::(7000,lo)::(7100,.cells false [.d (.ip w.cells)])::(1024,.cells false [.lp 1016 0])::(1016,.cells false [.h 950,.h 1000,.d (.nl 1)])::(1000,.mp false (iZ (wP n (w.aP.take (i+1)))) [])::(950,dU 55 3 (nX n (w.aP.take (i+1))))::(940,.dead)::[]) _ _
   repeat'(first|refine bl ?_|refine bS (λh=>?_) (λh=>?_)|refine lG.mk (i+1) rfl (by simp only[bE,aB];omega) (bw ?_)|(refine fZ.mk _ (T9 w.aP (i+1) (by omega)) ?_;(conv=>whnf))|(refine fZ.mk _ (aKZ (w.things.map (·.bQ.kind)) (i+1) (by omega)) ?_;(conv=>whnf)))
   ·have hlt:i+1<w.things.length:=by omega
    obtain⟨s1,s2,s3⟩:=hst (i+1) hlt;refine OpK.mk _ _ (hstepS i hlt _ _ _ _ rfl rfl rfl ?_) ?_
    ·show([.d (ci (w.aP[(i+1)]'(by omega))),.d (ck ((w.things.map (·.bQ.kind))[(i+1)]'(by omega)))]:List A)=_;rw[s1,fO]
    conv=>whnf
    refine bl ?_;refine⟨(i+1)+1,by omega,by omega,?_⟩
    (refine cN.swap 30160 950 ?_ ?_ ?_ ?_ ?_<;>repeat'(first|exact aW|exact rfl|exact sn|exact aZ|exact dM|exact IK rfl|exact cO rfl rfl|exact KS rfl rfl|exact aAX rfl (by assumption)|exact hlo _ sn sn|refine bI ?_ ?_))
   ·have e:i+1=w.things.length:=by omega
    refine⟨(),trivial,?_⟩;rw[e,show w.aP.take w.things.length=w.aP from aI (by omega)]
    (refine cN.sub ?_ ?_ ?_ ?_ ?_<;>repeat'(first|exact aW|exact rfl|exact sn|exact eV rfl|exact aZ|exact dM|exact hlo _ sn sn|(refine qD ?_;simp only[aB,bE,D4.aP];done)|refine bI ?_ ?_))
 rintro _ _;refine bl ?_;exact em
theorem W1(w:D4)(hw:w.qV)(n:Nat){lo:R}{ml:List (Nat×R)}
 (hlo:∀ml':List (Nat×R),aK ml' 1024≠none->aK ml' 7100≠none->rB ml' lo.hs)
 (hren1:lo.eZ (swp 12056 900)=lo)(hren2:lo.eZ (swp 12160 901)=lo)(hren3:lo.eZ (swp 30160 950)=lo)(hT0:w.things≠[])
 (hstep0:∀(h:0<w.things.length)(o:Oper)(c:Call)(fo:Operand)(l:List (Nat×A)),o.op=.call c->c.callee=.value fo->dN (lT l) fo=.h 7000->c.args.toList.map (dN (lT l))=[.d (ci w.things[0].ref),.d (ck w.things[0].bQ.kind)]->o8 Tryz.prog o (lT l) (aK ((900,dU 25 1 (iR w.aP))::(901,dU 84 1 (kR (w.things.map (·.bQ.kind))))::(7000,lo)::(7100,.cells false [.d (.ip w.cells)])::(1024,.cells false [.lp 1016 0])::(1016,.cells false [.h 940,.h 1000,.d (.nl 1)])::(1000,.mp false (iZ []) [])::(940,dU 55 3 (nX n []))::[])) [(.ok (.d (.v (.bool true))),[(1016,.cells false [.h 30160,.h 1000,.d (.nl 1)]),(1000,.mp false (iZ (wP n (w.aP.take 1))) []),(30160,dU 55 3 (nX n (w.aP.take 1))),(940,.dead)])])
 (hstepS:∀k(h:k+1<w.things.length)(o:Oper)(c:Call)(fo:Operand)(l:List (Nat×A)),o.op=.call c->c.callee=.value fo->dN (lT l) fo=.h 7000->c.args.toList.map (dN (lT l))=[.d (ci w.things[k+1].ref),.d (ck w.things[k+1].bQ.kind)]->o8 Tryz.prog o (lT l) (aK ((900,dU 25 1 (iR w.aP))::(901,dU 84 1 (kR (w.things.map (·.bQ.kind))))::(7000,lo)::(7100,.cells false [.d (.ip w.cells)])::(1024,.cells false [.lp 1016 0])::(1016,.cells false [.h 950,.h 1000,.d (.nl 1)])::(1000,.mp false (iZ (wP n (w.aP.take (k+1)))) [])::(950,dU 55 3 (nX n (w.aP.take (k+1))))::(940,.dead)::[])) [(.ok (.d (.v (.bool true))),[(1016,.cells false [.h 30160,.h 1000,.d (.nl 1)]),(1000,.mp false (iZ (wP n (w.aP.take (k+2)))) []),(30160,dU 55 3 (nX n (w.aP.take (k+2)))),(950,.dead)])])
 (h950:aK ((7000,lo)::ml) 950=none)(hm:RN ((7000,lo)::ml) ((7000,lo)::(7100,.cells false [.d (.ip w.cells)])::(1024,.cells false [.lp 1016 0])::(1016,.cells false [.h 940,.h 1000,.d (.nl 1)])::(1000,.mp false (iZ []) [])::(940,dU 55 3 (nX n []))::[])):
 aJ Tryz.prog 105 ([]++([.h 7000]++[.lp 7100 0])) (aK ((7000,lo)::ml)) (.ok (.eL [])) (aH (aK ((7000,lo)::ml)) [(1016,.cells false [.h 950,.h 1000,.d (.nl 1)]),(1000,.mp false (iZ (wP n w.aP)) []),(950,dU 55 3 (nX n w.aP)),(940,.dead)]):=by
 refine aJ.hP (aBX w hw n lo hlo hren1 hren2 hren3 hT0 hstep0 hstepS) ⟨sn,sn,trivial⟩ hm ?_ ?_
 ·repeat'(first|exact aW|exact sn|exact dM|exact aZ|exact hlo _ sn sn|refine bI ?_ ?_)
 ·repeat'(first|exact aW|exact .inl sn|exact .inr h950|refine bI ?_ ?_)
end Go.Pv
