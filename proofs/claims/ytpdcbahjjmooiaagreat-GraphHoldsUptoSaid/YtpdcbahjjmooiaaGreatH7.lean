import Derived.Test.YtpdcbahjjmooiaaGreatH6
import Derived.Lib.ConvBytes
import Derived.Laws.BytesString
import Derived.Stop.Asserts
/- A program logic over the model, contracts of the functions that the law reaches: part 7. (Names and blanks were shortened by program.) -/
set_option linter.unusedVariables false
set_option linter.unusedSimpArgs false
set_option linter.constructorNameAsVariable false
set_option linter.unusedSectionVars false
set_option linter.deprecated false
set_option maxRecDepth 100000
set_option maxHeartbeats 8000000
open Go
namespace Go.Pv
open Go.RowKit
variable{w:World}{M:Nat->Prop}{m:Mem}{a:Act}{v x ix:A}{i l n d:Nat}{P:Program}{asg bod:Code}{T:Nat->A}{t:TypeId}
inductive Md where
 |ret
 |sE(v:A)
def Md.Den(w:World)(M:Nat->Prop)(m:Mem)(ρ:Nat->Value):Md->FrameMode->Prop
 |.ret,u=>u=.returning
 |.sE v,u=>∃y,u=.panicking [{v:=y,recovered:=false}]/\v.Den w M m ρ y
theorem Md.dC{w w':World}{M M':Nat->Prop}{m m':Mem}{ρ ρ':Nat->Value}(h:dV M w w')(hM:∀b,M' b->b<w.heap.size->M b)(hO:gL m m' ρ ρ'):∀{md:Md}{u:FrameMode},md.Den w M m ρ u->md.Den w' M' m' ρ' u
 |.ret,_,h1=>h1
 |.sE v,_,⟨y,e,h1⟩=>⟨y,e,A.dC h hM hO _ _ h1⟩
def pB(P:Program)(fn:Func)(T:Nat->A)(m:Mem)(ds:List DA)(md:Md)(r:Rt)(mf:Mem):Prop:=
 ∀(n:Nat)(M0 S0:Nat->Prop)(w0:World)(ρ:Nat->Value)(a:Act)(w:World)(u:FrameMode),bC M0 S0 w0 ⟨n,some ds⟩ T m ρ a w->(∀b,M0 b->b<w0.heap.size)->md.Den w (dD M0 m ρ) m ρ u->
  ∀R:Ending->World->Prop,(∀e w' ρ',bC M0 S0 w0 ⟨n,some []⟩ T mf ρ' {a with defers:=[]} w'->gL m mf ρ ρ'->r.Den w' (dD M0 mf ρ') mf ρ' e->R e w')->sY P fn a.tmps R a.defers u w
section
variable{P:Program}{fn:Func}{T:Nat->A}{m mf:Mem}{ds:List DA}{md:Md}{r:Rt}
theorem XG(h:a.defers=[]):{a with defers:=[]}=a:=by cases a;simp at h;subst h;rfl
theorem pB.ret{v:A}(h:GO P m T fn.results.toList=some v):pB P fn T m [] .ret (.ok v) m:=by
 intro n M0 S0 w0 ρ a w u hs cX hu R hR;obtain⟨y,k1,k2⟩:=HQ (P:=P) hs h;have hde:a.defers=[]:=hs.defers [] rfl;simp only[Md.Den]at hu;subst hu;rw[hde];exact⟨y,k1,hR _ w ρ (by rw[XG hde];exact hs) (gL.refl m ρ) ⟨y,rfl,k2⟩⟩
theorem pB.sE{v:A}:pB P fn T m [] (.sE v) (.sE v) m:=by
 intro n M0 S0 w0 ρ a w u hs cX hu R hR;have hde:a.defers=[]:=hs.defers [] rfl;obtain⟨y,rfl,hy⟩:=hu;rw[hde];exact hR _ w ρ (by rw[XG hde];exact hs) (gL.refl m ρ) ⟨y,rfl,hy⟩
theorem pB.s4{i:Nat}(hi:m i=some (.df false))(h:pB P fn T (aX m i (.df true)) ds md r mf):pB P fn T m (.s4 i::ds) md r mf:=by
 intro n M0 S0 w0 ρ a w u hs cX hu R hR;obtain⟨D,dr,w',e,hk,h1,hO⟩:=hs.take (P:=P) hi;have hu':md.Den w' (dD M0 (aX m i (.df true)) ρ) (aX m i (.df true)) ρ u:=by
  have hsn:bC M0 (oO m ρ) w ⟨n,some (.s4 i::ds)⟩ T m ρ a w:=hs.now;obtain⟨D2,dr2,w2,e2,EN,h2,_⟩:=hsn.take (P:=P) hi;rw[e]at e2;simp only[iX,Deferred.mk.injEq,Target.collected.injEq,and_true]at e2;obtain⟨rfl,rfl⟩:=e2;rw[hk]at EN;simp only[Result.ok.injEq,true_and]at EN;subst EN;obtain⟨q1,q2⟩:=hs.evo h2;exact Md.dC q1 q2 hO hu
 have aVL:u≠.run:=by
  cases md with
  |ret=>simp only[Md.Den]at hu;subst hu;simp
  |sE v=>obtain⟨y,rfl,_⟩:=hu;simp
 rw[e];refine⟨aVL,.inl ⟨D,w',rfl,hk,?_⟩⟩;exact h n M0 S0 w0 ρ {a with defers:=dr} w' u h1 cX hu' R λe w2 ρ2 s o q=>hR e w2 ρ2 s (hO.trans o) q
end
def SI:Ex->Option Md
 |.nm=>some .ret
 |.ret=>some .ret
 |.sE v=>some (.sE v)
 |.ext _=>none
theorem MF{f:FuncId}{fn:Func}{c:Code}{as:List A}{u:List (Nat×R)}{r:Rt}{Post:qU}(hf:P.funcs[f]?=some fn)(hb:fn.body=some c)(n0:kW P f=true)(hn:as.length<=fn.ntmps)
 (aYU:eU P false fn.ntmps c (uA as) m [] Post)(aYH:∀ex T' m' ds',Post ex T' m' ds'->∃md mf r0,SI ex=some md/\pB P fn T' m' ds' md r0 mf/\RM m mf r0 (aH m u) r)
 (hv:∀i∈r.hs,aH m u i≠none)(hc:∀p∈u,∀j∈p.2.hs,aH m u j≠none):aJ P f as m r (aH m u):=by
 refine⟨n0,?_⟩;intro N T M0 S0 w0 ρ a w h cX vs hd;have hlen:=(A.c9.1 hd).1;refine DE hf hb ?_;have aVU:∀b,M0 b->b<w.heap.size:=λb hb=>cG (cX b hb) h.keeps.size;have h0:bC M0 (oO m ρ) w ⟨fn.ntmps,some []⟩ (uA as) m ρ {tmps:=vs.toArray++Array.replicate (fn.ntmps -vs.toArray.size) undef,defers:=[]} w:=
  {keeps:=iF.refl _ _,size:=by simp;omega
   defers:=λds e=>by simp at e;subst e;rfl
   tmps:=λn=>by
    unfold uA;rcases eQ n as.length with q|q
    · rw[aC q]
      have hv:n<vs.length:=oM;have e1:(vs.toArray++Array.replicate (fn.ntmps -vs.toArray.size) undef).getD n undef=vs[n]:=by
       rw[cZ,fY (by simpa using hv)];simp[hv]
      rw[e1];exact(A.c9.1 hd).2 n _ _ (aC q) (aC hv)
    · rw[c8 q]
      simp[A.Den]
   res:=h.res,own:=h.now.own,apart:=h.apart}
 refine aYU none M0 (oO m ρ) w ρ _ w rfl h0 aVU _ ?_;intro ex e T' m' ds' ρ' a' w' hp h1 hO hex;obtain⟨md,mf,r0,T9,hL,g,gi,hg1,hg2,aYQ,hr0,aVM⟩:=aYH ex T' m' ds' hp;subst hr0;have key:∀(e:Ending)(w2:World)(ρ2:Nat->Value),bC M0 (oO m ρ) w ⟨fn.ntmps,some []⟩ T' mf ρ2 {a' with defers:=[]} w2->gL m' mf ρ' ρ2->r0.Den w2 (dD M0 mf ρ2) mf ρ2 e->
  ∃ρ',bC M0 S0 w0 N T (aH m u) ρ' a w2/\gL m (aH m u) ρ ρ'/\(r0.eZ g).Den w2 (dD M0 (aH m u) ρ') (aH m u) ρ' e:=by
  intro e w2 ρ2 s o q;obtain⟨s',aWJ⟩:=s.eZ hg1 hg2;have hO':=TR hg1 aYQ (hO.trans o);have hb:=h.back s' hO';have a0P:∀i q,aH m u i=some q->nK g gi mf i=some q:=by
   intro i q hq;rcases aVM i q hq with⟨q0,e1,rfl⟩|⟨e1,e2⟩
   ·unfold nK;rw[e1];rfl
   ·have e3:=aYQ i (by rw[e1];simp);have e4:gi i=i:=by have:=hg1 i;rwa [e3]at this
    unfold nK;rw[e4,e2];have hd:=R.wC (h.res i q e1);have CL:q.eZ g=q:=by
     cases q with
     |it i' sc st se=>
      obtain⟨_,_,_,_,_,_,g1,g2,g3⟩:=h.res i _ e1;simp only[R.eZ];have es:st.map g=st:=by
       conv=>rhs;rw[<-List.map_id st]
       exact cQ λj hj=>aYQ j (g3.2.1 j hj)
      have ee:se.map g=se:=by
       conv=>rhs;rw[<-List.map_id se]
       exact cQ λj hj=>aYQ j (g3.2.1 j (g3.1 j hj))
      rw[es,ee,aYQ i' g1.1,aYQ sc g2.1]
     |_=>exact(R.lU (f:=g) (g:=λi=>i) _ rfl λj hj=>aYQ j (hd j hj)).trans (R.uS _)
    simp only[dF,CL]
  cases r0 with
  |ok v=>
   obtain⟨y,rfl,hy⟩:=q;obtain⟨k1,k2,k3⟩:=h.cut hb hO' a0P hv hc (aWJ _ _ hy);exact⟨_,k1,k2,y,rfl,k3⟩
  |sE v=>
   obtain⟨y,rfl,hy⟩:=q;obtain⟨k1,k2,k3⟩:=h.cut hb hO' a0P hv hc (aWJ _ _ hy);exact⟨_,k1,k2,y,rfl,k3⟩
 cases ex with
 |nm=>
  simp only[Ex.Den]at hex;subst hex;simp only[SI,aA]at T9;subst T9;exact hL fn.ntmps M0 (oO m ρ) w ρ' a' w' _ h1 aVU rfl _ key
 |ret=>
  simp only[Ex.Den]at hex;subst hex;simp only[SI,aA]at T9;subst T9;exact hL fn.ntmps M0 (oO m ρ) w ρ' a' w' _ h1 aVU rfl _ key
 |sE v=>
  obtain⟨y,rfl,hy⟩:=hex;simp only[SI,aA]at T9;subst T9;exact hL fn.ntmps M0 (oO m ρ) w ρ' a' w' _ h1 aVU ⟨y,rfl,hy⟩ _ key
 |ext id=>cases T9
def aKY(P:Program)(l:Nat)(R:Ending->World->Prop):Exit->Act->World->Prop
 |.normal,_,w=>∃v w',(Instr.endRound l none).run P w=.ok v w'/\R (.returned v) w'
 |.ret,_,w=>∃v w',(Instr.endRound l (some .ret)).run P w=.ok v w'/\R (.returned v) w'
 |.exit id,_,w=>∃v w',(Instr.endRound l (some (.exit id))).run P w=.ok v w'/\R (.returned v) w'
 |_,_,_=>False
theorem WS{ro:Option Nat}{f:FuncId}{tmps:Array Value}{R:Ending->World->Prop}
 (h:asg.wpIn (FW (some l)) 0 P (λe a₁ w₁=>e=.normal/\∃w₂,(Instr.beginRound l).run P w₁=.ok () w₂/\bod.wpIn (FW (some l)) 0 P (aKY P l R) a₁ w₂) {tmps:=tmps,defers:=[]} w):
 RoundIn (FW ro) 0 P l f tmps asg bod w R:=by
 refine⟨tV,λc cs _=>?_⟩;have hr':(FW (some l)).room ((c::cs).length+1+0):=λd e=>by cases e
 let b:Frame:={(default:Frame)with fn:=f,kind:=.normal,roundOf:=some l};have hb0:Frame.round l f tmps asg bod .normal=b.atR {tmps:=tmps,defers:=[]} [.code asg,.beginRound,.code bod]:=by
  simp[Frame.round,Frame.atR,b]
 obtain⟨e,a₁,w₁,⟨he,w₂,hbr,aYU⟩,aWS⟩:=h b [.beginRound,.code bod] (c::cs) rfl tV hr';subst he;rw[<-hb0]at aWS;have s0:Steps P (lone (Frame.round l f tmps asg bod .normal) (c::cs) w) (lone (b.atR a₁ [.beginRound,.code bod]) (c::cs) w₁):=aWS.steps;have s1:Steps P (lone (b.atR a₁ [.beginRound,.code bod]) (c::cs) w₁) (lone (b.atR a₁ [.code bod]) (c::cs) w₂):=.one (stepR_beginRound rfl hbr);obtain⟨e₂,a₂,w₃,hq₂,aYT⟩:=aYU b [] (c::cs) rfl tV hr';have fin:∀{v:Value}{w4:World},Steps P (lone (b.atR a₁ [.code bod]) (c::cs) w₂) (lone (c.finish v) cs w4)->R (.returned v) w4->∃e w',R e w'/\ComesIn (Machine.fenced P (FW ro)) P (lone (Frame.round l f tmps asg bod .normal) (c::cs) w)
  (match e with
   |.returned v=>lone (c.finish v) cs w'
   |.panicked chain=>lone (c.raise chain) cs w'
   |.outgrown=>lone c cs w') e:=by
  intro v w4 hs hR;exact⟨.returned v,w4,hR,(StepsIn.of_steps ((s0.trans s1).trans hs)).mono λm _=>fenced_wide P m⟩
 cases e₂ with
 |normal=>
  obtain⟨v,w₄,aXS,hR⟩:=hq₂;exact fin (n7 aYT.steps (.one (stepR_round_end rfl rfl aXS))) hR
 |ret=>
  obtain⟨v,w₄,aXS,hR⟩:=hq₂;obtain⟨k₁,hs⟩:=aYT.2 rfl;exact fin (n7 hs.steps (.one (stepR_round_ret rfl rfl aXS))) hR
 |exit id=>
  obtain⟨v,w₄,aXS,hR⟩:=hq₂;obtain⟨k₁,hk,hs⟩:=aYT.2 rfl rfl;exact fin (n7 hs.steps (.one (stepR_round_exit rfl rfl hk aXS))) hR
 |_=>exact hq₂.elim
abbrev OG(g:Operand)(l:Nat):Call:={callee:=.value g,args:= #[.const (.func (.yield l) #[] #[])],argTypes:= #[]}
theorem WY{b:Frame}{k:List Item}{cs:List Frame}{w':World}{jump:Option Code}(h:(Instr.endLoop l).run P w=.ok jump w'):
 step P (lone (b.at a (.endRangeFunc l::k)) cs w)=.next (lone (b.at a ((jump.map Item.code).toList++k)) cs w'):=
 step_lone_go (by simp[stepG,stepG.exec,Frame.at,Sem.runT_eq,h,rO])
theorem aIN{b:Frame}{k:List Item}{cs:List Frame}{g:Operand}{ps:Array Tmp}{mark:List Deferred}{w₁ w₁' w₂:World}{d:Deferred}{f:FuncId}{args:Array Value}
 (he:(Instr.enterLoop b.fn a.tmps ps asg bod none).run P w=.ok (l,mark) w₁)
 (aX0:(resolve a.eval (OG g l) 0).run P w₁=.ok d w₁')(hinv:(invoke d.target d.args).run P w₁'=.ok (.enter f args) w₂):
 step P (lone (b.at a (.code (.rangeFunc g ps asg bod)::k)) cs w)=
  .next (lone (Frame.enter P f args .normal) (b.at {a with defers:=mark++a.defers} (.inRangeFunc l::k)::cs) w₂):=
 step_lone_go (by
  have hev:=Frame.eval_at' b {a with defers:=mark++a.defers} (.inRangeFunc l::k);simp only[Frame.at]at hev;have a1R:Sem.run P (resolve ({tmps:=a.tmps,defers:=mark++a.defers}:Act).eval {callee:=.value g,args:= #[.const (.func (.yield l) #[] #[])],argTypes:= #[]} 0) w₁=.ok d w₁':=aX0
  simp[stepG,stepG.exec,Frame.at,Sem.runT_eq,he,rO,stepG.apply,hev,aV,a1R,hinv,Result.andThen])
theorem SN{b:Frame}{k:List Item}(l:Nat)(v:Value):(b.at a (.inRangeFunc l::k)).finish v=b.at a (.endRangeFunc l::k):=by
 simp[Frame.finish,Frame.at]
theorem RD{g:Operand}{ps:Array Tmp}{Q:Exit->Act->World->Prop}
 (h:∀fn,∃(l:Nat)(mark:List Deferred)(w₁:World)(d:Deferred)(w₁':World)(f:FuncId)(args:Array Value)(w₂:World),
   (Instr.enterLoop fn a.tmps ps asg bod none).run P w=.ok (l,mark) w₁/\(resolve a.eval (OG g l) 0).run P w₁=.ok d w₁'/\(invoke d.target d.args).run P w₁'=.ok (.enter f args) w₂/\
   Calls P f args w₂ λe w3=>(∃v jump w4,e=.returned v/\(Instr.endLoop l).run P w3=.ok jump w4/\(match jump with
    |none=>Q .normal {a with defers:=mark++a.defers} w4
    |some c=>c.wp P Q {a with defers:=mark++a.defers} w4))\/∃ch,e=.panicked ch/\Q (.panic ch) {a with defers:=mark++a.defers} w3):
 (Code.rangeFunc g ps asg bod).wp P Q a w:=by
 intro b k cs;obtain⟨l,mark,w₁,d,w₁',f,args,w₂,he,aX0,hinv,aVN⟩:=h b.fn;have aYP:=aIN (P:=P) (b:=b) (a:=a) (k:=k) (cs:=cs) (w:=w) he aX0 hinv;obtain⟨e,w₃,fr,hR,aX7,hfn,aZO⟩:=aVN (b.at {a with defers:=mark++a.defers} (.inRangeFunc l::k)::cs);rcases hR with⟨v,jump,w4,rfl,aXS,hj⟩|⟨ch,rfl,hq⟩
 ·have sback:Steps P (lone (b.at a (.code (.rangeFunc g ps asg bod)::k)) cs w) (lone (b.at {a with defers:=mark++a.defers} ((jump.map Item.code).toList++k)) cs w4):=by
   refine .head aYP (n7 aX7 (.head (step_leave_returned aZO) ?_));rw[SN];exact .one (WY aXS)
  cases jump with
  |none=>exact⟨.normal,_,w4,hj,sback⟩
  |some c=>
   obtain⟨e',a'',w5,hq,aWS⟩:=hj b k cs;exact⟨e',a'',w5,hq,.of_steps sback aWS⟩
 ·refine⟨.panic ch,_,w₃,hq,.inRangeFunc l::k,.head aYP (n7 aX7 (.one ?_))⟩;rw[<-Frame.raise_at];exact step_leave_panicked aZO
section
variable{M0 S0:Nat->Prop}{w0:World}{N:Fr}{T:Nat->A}{m:Mem}{ρ:Nat->Value}{a:Act}{w:World}{P:Program}
theorem bC.YJ(h:bC M0 S0 w0 N T m ρ a w){i:Nat}{st:LoopState}{pe:Option Code}{ts:List A}{ps:Array Tmp}{asg bod:Code}(hi:m i=some (.lo st pe ts ps asg bod)):
 ∃l fn vs D,ρ i=.func (.yield l) #[] #[]/\w.heap[l]?=some (.loop {state:=st,pending:=pe,fn:=fn,tmps:=vs,params:=ps,assign:=asg,body:=bod,defers:=D})/\A.bR w (dD M0 m ρ) m ρ ts vs.toList/\
  ∀st' pe',bC M0 S0 w0 N T (aX m i (.lo st' pe' ts ps asg bod)) ρ a (w.gW l (.loop {state:=st',pending:=pe',fn:=fn,tmps:=vs,params:=ps,assign:=asg,body:=bod,defers:=D}))/\gL m (aX m i (.lo st' pe' ts ps asg bod)) ρ ρ:=by
 obtain⟨l,fn,vs,D,e,hw,hd⟩:=h.res i _ hi;refine⟨l,fn,vs,D,e,hw,hd,λst' pe'=>⟨?_,?_⟩⟩
 ·refine h.write hi rfl rfl (λfz t es l e=>by cases e) (mJ w l _) (λb _ e'=>by subst e';rw[e];rfl) ?_;intro hO eB Q2;exact⟨l,fn,vs,D,e,tS hw,A.dK eB Q2 hO _ _ hd⟩
 ·have:=gL.set (m:=m) (ρ:=ρ) i (.lo st' pe' ts ps asg bod) (ρ i) (λ_ _=>⟨by rw[hi];simp,rfl,λfz t es l e=>by rw[hi]at e;cases e⟩)
  rwa [jP]at this
theorem N2{r:Loop}(h:w.heap[l]?=some (.loop r)):(Instr.getLoop l).run P w=.ok r w:=by
 unfold Instr.getLoop;have e1:(getObj l).run P w=.ok (.loop r) w:=by simp[getObj,h,Sem.run]
 simp only[aV,e1,aN];simp
theorem AU{r:Loop}{o:Obj}(h:w.heap[l]?=some (.loop r)):(setObj l o).run P w=.ok () (w.gW l o):=uN h (by intro c e f h;cases h)
def AX:List (Tmp×A)->(Nat->A)->(Nat->A)
 |[],T=>T
 |p::r,T=>AX r (lI T (some p.1) p.2)
theorem OS{M:Nat->Prop}:∀{ps:List Tmp}{as:List A}{vs:List Value}{T:Nat->A}{tmps:Array Value},A.bR w M m ρ as vs->(∀p∈ps,p<tmps.size)->(∀n,(T n).Den w M m ρ (tmps.getD n undef))->
 ∀n,((AX (ps.zip as) T) n).Den w M m ρ (((ps.zip vs).foldl (λt(p:Tmp×Value)=>t.setIfInBounds p.1 p.2) tmps).getD n undef)/\((ps.zip vs).foldl (λt(p:Tmp×Value)=>t.setIfInBounds p.1 p.2) tmps).size=tmps.size
 |[],as,vs,T,tmps,_,_,h,n=>⟨by simpa [AX]using h n,sM⟩
 |p::ps,[],vs,T,tmps,hd,_,h,n=>by
  simp only[A.bR]at hd;subst hd;exact⟨by simpa [AX]using h n,sM⟩
 |p::ps,c::as,vs,T,tmps,hd,hp,h,n=>by
  simp only[A.bR]at hd;obtain⟨y,yr,rfl,h1,h2⟩:=hd;have cX:=hp p sM
  have:=OS (ps:=ps) (T:=lI T (some p) c) (tmps:=tmps.setIfInBounds p y) h2 (λq hq=>by simpa using hp q (by simp[hq])) (λk=>by
   unfold lI;by_cases e:p=k
   · subst e
     simp only[if_true];rw[cZ,Array.getElem?_setIfInBounds_self_of_lt cX];exact h1
   · rw[aT7 (by simpa using e),cZ,aB3 e,<-Array.getD_eq_getD_getElem?]
     exact h k) n
  simpa [AX]using this
end
def Z3:Ex->Option (Bool×LoopState×Option Code)
 |.nm=>some (true,.ready,none)
 |.ret=>some (false,.done,some .ret)
 |.ext id=>some (false,.done,some (.exit id))
 |.sE _=>none
theorem o8.yield{P:Program}{o:Oper}{T:Nat->A}{m:Mem}{c:Call}{fo:Operand}{i:Nat}{ts:List A}{ps:Array Tmp}{asg bod:Code}{PostA PostB:qU}{outs:List Ot}
 (ho:o.op=.call c)(hc:c.callee=.value fo)(hf:dN T fo=.h i)(hi:m i=some (.lo .ready none ts ps asg bod))(hlen:c.args.size=ps.size)(hps:∀p∈ps.toList,p<ts.length)
 (hA:eU P true ts.length asg (AX (ps.toList.zip (c.args.toList.map (dN T))) (uA ts)) m [] PostA)
 (hAB:∀ex T1 m1 ds1,PostA ex T1 m1 ds1->ex=.nm/\ds1=[]/\∃pe1 ts1 ps1 asg1 bod1,m1 i=some (.lo .ready pe1 ts1 ps1 asg1 bod1)/\eU P true ts.length bod T1 (aX m1 i (.lo .busy pe1 ts1 ps1 asg1 bod1)) [] PostB)
 (hB:∀ex T2 m2 ds2,PostB ex T2 m2 ds2->∃b st pe,Z3 ex=some (b,st,pe)/\∃oK pe2 ts2 ps2 asg2 bod2,m2 i=some (.lo oK pe2 ts2 ps2 asg2 bod2)/\∃u∈outs,u.1=.ok (.d (.v (.bool b)))/\(∀j q,aH m u.2 j=some q->aX m2 i (.lo st pe ts2 ps2 asg2 bod2) j=some q)/\∀p∈u.2,∀j∈p.2.hs,aH m u.2 j≠none):
 o8 P o T m outs:=by
 intro ro N M0 S0 w0 ρ a w h cX next Q hn
 obtain⟨l,fn,vs,D,hρ,hw,aWJ,_⟩:=h.YJ hi;have hfo:=cU h fo;rw[hf]at hfo;simp only[A.Den]at hfo;have hfv:=eH hfo hi sM;rw[hρ]at hfv;have aXK:=(A.c9.1 aWJ).1;have aVL:(execOp a.eval o).run P w=.ok (.round l fn ((ps.toList.zip (c.args.toList.map a.eval)).foldl (λt(p:Tmp×Value)=>t.setIfInBounds p.1 p.2) vs) asg bod) w:=by
  have e1:(Instr.yield l (c.args.map a.eval)).run P w=.ok (.round l fn ((ps.toList.zip (c.args.toList.map a.eval)).foldl (λt(p:Tmp×Value)=>t.setIfInBounds p.1 p.2) vs) asg bod) w:=by
   unfold Instr.yield;rw[aV,N2 hw];simp only[aN];rw[aT7 (by simpa using hlen)];have e2:(ps.zip (c.args.map a.eval))=(ps.toList.zip (c.args.toList.map a.eval)).toArray:=by
    apply Array.ext';simp
   simp only[e2,List.foldl_toArray];simp
  simp only[execOp,ho,resolve,hc,hfv,Deferred.ofValue,aV,cB,aN,invoke];simpa using e1
 refine L9 (by unfold jO;rw[ho]) ?_;rw[aVL,Oper.uponIn_round];refine⟨λe=>(by cases e),?_⟩;refine WS ?_;have aVU:∀b,M0 b->b<w.heap.size:=λb hb=>cG (cX b hb) h.keeps.size;have aYM:=pP h c.args.toList
 have hT:=λn=>OS (T:=uA ts) (tmps:=vs) aYM (λp hp=>by have:=hps p hp;rw[aXK]at this;simpa using this) (λn=>by
  unfold uA;rcases eQ n ts.length with q|q
  · rw[aC q]
    have hv:n<vs.toList.length:=oM;have e1:vs.getD n undef=vs.toList[n]:=by
     rw[cZ];simp at hv;simp[hv]
    rw[e1];exact(A.c9.1 aWJ).2 n _ _ (aC q) (aC hv)
  · rw[c8 q]
    simp[A.Den]) n
 have h0:bC M0 (oO m ρ) w ⟨ts.length,some []⟩ (AX (ps.toList.zip (c.args.toList.map (dN T))) (uA ts)) m ρ {tmps:=(ps.toList.zip (c.args.toList.map a.eval)).foldl (λt(p:Tmp×Value)=>t.setIfInBounds p.1 p.2) vs,defers:=[]} w:=
  {keeps:=iF.refl _ _,size:=by simp only;rw[(hT 0).2,aXK];simp
   defers:=λds e=>by simp at e;subst e;rfl
   tmps:=λn=>(hT n).1
   res:=h.res,own:=h.now.own,apart:=h.apart}
 refine hA (some l) M0 (oO m ρ) w ρ _ w rfl h0 aVU _ ?_;intro ex e T1 m1 ds1 ρ1 a1 w1 hp h1 hO hex;obtain⟨rfl,rfl,pe1,ts1,ps1,asg1,bod1,hi1,hBody⟩:=hAB ex T1 m1 ds1 hp;simp only[Ex.Den]at hex;refine⟨hex,?_⟩;have hρ1:ρ1 i=ρ i:=((hO i (by rw[hi];simp)).2 (by rw[hi1];simp)).2.1;obtain⟨l1,fn1,vs1,D1,e1,sN,a2S,a1S⟩:=h1.YJ hi1;rw[hρ1,hρ]at e1;simp only[Value.func.injEq,Fn.yield.injEq,and_true]at e1;subst e1;refine⟨w1.gW l (.loop {state:=.busy,pending:=pe1,fn:=fn1,tmps:=vs1,params:=ps1,assign:=asg1,body:=bod1,defers:=D1}),?_,?_⟩
 ·unfold Instr.beginRound;rw[aV,N2 sN];simp only[aN];rw[aV,AU sN];simp
 obtain⟨h2,hO2⟩:=a1S .busy pe1;refine hBody (some l) M0 (oO m ρ) w ρ1 a1 _ rfl h2 aVU _ ?_;intro ex e T3 m3 ds3 ρ3 a3 w3 hp3 h3 hO3 aZE;obtain⟨b,st,pe,hlo,oK,pe2,ts2,ps2,asg2,bod2,hi3,u,hu,hu1,aVM,n0⟩:=hB ex T3 m3 ds3 hp3;have hρ3:ρ3 i=ρ i:=(((hO3 i (by simp[aX])).2 (by rw[hi3];simp)).2.1).trans hρ1;obtain⟨l3,fn3,vs3,D3,e3,hw3,aZA,aZ0⟩:=h3.YJ hi3;rw[hρ3,hρ]at e3;simp only[Value.func.injEq,Fn.yield.injEq,and_true]at e3;subst e3;obtain⟨h4,hO4⟩:=aZ0 st pe;have hOall:=((hO.trans hO2).trans hO3).trans hO4;have hb:=h.back h4 hOall;obtain⟨k1,k2,k3⟩:=h.cut (v:=.d (.v (.bool b))) (y:=.bool b) hb hOall aVM (by simp[A.hs]) n0 (by simp only[A.Den,C.Den]);have aWW:=(hn u (.bool b) _ ρ3 hu k1 k2).1 _ hu1 k3;have aXS:∀(j:Option Code),pe=j->st=(if j.isNone then .ready else .done)->b=j.isNone->(Instr.endRound l j).run P w3=.ok (.bool b) (w3.gW l (.loop {state:=st,pending:=pe,fn:=fn3,tmps:=vs3,params:=ps2,assign:=asg2,body:=bod2,defers:=D3})):=by
  rintro j rfl rfl rfl;unfold Instr.endRound;rw[aV,N2 hw3];simp only[aN];rw[aV,AU hw3];simp
 cases ex with
 |nm=>
  simp only[Ex.Den]at aZE;subst aZE;simp only[Z3,aA,aD]at hlo;obtain⟨rfl,rfl,rfl⟩:=hlo;exact⟨_,_,aXS none rfl rfl rfl,aWW⟩
 |ret=>
  simp only[Ex.Den]at aZE;subst aZE;simp only[Z3,aA,aD]at hlo;obtain⟨rfl,rfl,rfl⟩:=hlo;exact⟨_,_,aXS (some .ret) rfl rfl rfl,aWW⟩
 |ext id=>
  simp only[Ex.Den]at aZE;subst aZE;simp only[Z3,aA,aD]at hlo;obtain⟨rfl,rfl,rfl⟩:=hlo;exact⟨_,_,aXS (some (.exit id)) rfl rfl rfl,aWW⟩
 |sE v=>cases hlo
def mY(n:Nat)(T:Nat->A):List A:=(List.range n).map T
theorem aB7{ρ:Nat->Value}{tmps:Array Value}(hn:tmps.size=n)(h:∀k,(T k).Den w M m ρ (tmps.getD k undef)):A.bR w M m ρ (mY n T) tmps.toList:=by
 rw[A.c9];refine⟨by simp[mY,hn],λj c y hc hy=>?_⟩;obtain⟨hj,rfl⟩:=bA.1 hy;have hjn:j<n:=by simpa [hn]using hj
 simp only[mY,cK,List.getElem?_range hjn,dF,aA]at hc;subst hc;have:=h j;have QB:j<tmps.size:=by simpa using hj
 simpa [cZ,QB]using this
theorem MT(fn:FuncId)(tmps:Array Value)(ps:Array Tmp)(asg bod:Code):
 (Instr.enterLoop fn tmps ps asg bod none).run P w=.ok ((w.alloc (.deferred (some []))).heap.size,[{target:=.collected w.heap.size,args:= #[]}])
   ((w.alloc (.deferred (some []))).alloc (.loop {state:=.ready,pending:=none,fn:=fn,tmps:=tmps,params:=ps,assign:=asg,body:=bod,defers:=w.heap.size})):=by
 have e1:∀(o:Obj)(w:World),(newObj o).run P w=.ok w.heap.size (w.alloc o):=λ_ _=>rfl;simp only[Instr.enterLoop,aV,e1,aN,cB]
def aDT(Post:qU)(T:Nat->A)(m:Mem)(ds:List DA):Option Code->Prop
 |none=>Post .nm T m ds
 |some .ret=>Post .ret T m ds
 |some (.exit id)=>Post (.ext id) T m ds
 |_=>False
theorem eU.rangeFunc{P:Program}{n:Nat}{T:Nat->A}{m m2:Mem}{ds:List DA}{Post:qU}{g:Operand}{ps:Array Tmp}{asg bod:Code}{gf:FuncId}{us vs:List A}{i j:Nat}{r:Rt}
 (hg:dN T g=.fn (.func gf) us vs\/∃cu cv,dN T g=.d (.fn (.func gf) cu cv)/\us=cu.map A.d/\vs=cv.map A.d)(hi:m i=none)(hj:m j=none)(hij:i≠j)
 (aVN:aJ P gf (us++([.h j]++vs)) (aX (aX m i (.df false)) j (.lo .ready none (mY n T) ps asg bod)) r m2)
 (mS:∀v,r=.ok v->∃st pe ts' ps' asg' bod',m2 j=some (.lo st pe ts' ps' asg' bod')/\st≠.busy/\aDT Post T (aX m2 j (.lo .exhausted pe ts' ps' asg' bod')) (.s4 i::ds) pe)
 (a2I:∀v,r=.sE v->Post (.sE v) T m2 (.s4 i::ds)):eU P false n (.rangeFunc g ps asg bod) T m ds Post:=by
 intro ro M0 S0 w0 ρ a w wB hs cX Q hQ;have a05:ro=none:=by cases ro with
  |none=>rfl
  |some _=>cases wB
 subst a05;refine wpIn_wide.2 (RD λfn=>?_);obtain⟨w1,sN⟩:∃w1,w1=w.alloc (.deferred (some [])):=⟨_,rfl⟩;have h1:bC M0 S0 w0 ⟨n,some ds⟩ T (aX m i (.df false)) (dW ρ i (.pointer (some ⟨w.heap.size,0,none⟩))) a w1:=by
  subst sN;exact hs.rG cX (jF w _) hi rfl (by simp[jK]) λ_ _ _=>⟨w.heap.size,rfl,heap_alloc_new w _⟩
 have hO1:gL m (aX m i (.df false)) ρ (dW ρ i (.pointer (some ⟨w.heap.size,0,none⟩))):=gL.new _ _ hi;have hρ1:dW ρ i (.pointer (some ⟨w.heap.size,0,none⟩)) i=.pointer (some ⟨w.heap.size,0,none⟩):=by simp[dW]
 revert h1 hO1 hρ1;generalize dW ρ i (.pointer (some ⟨w.heap.size,0,none⟩))=ρ1;intro h1 hO1 hρ1;have hj1:aX m i (.df false) j=none:=by simp[aX,Ne.symm hij,hj]
 obtain⟨w2,wM⟩:∃w2,w2=w1.alloc (.loop {state:=.ready,pending:=none,fn:=fn,tmps:=a.tmps,params:=ps,assign:=asg,body:=bod,defers:=w.heap.size}):=⟨_,rfl⟩;have aWJ:A.bR w1 (dD M0 (aX m i (.df false)) ρ1) (aX m i (.df false)) ρ1 (mY n T) a.tmps.toList:=aB7 h1.size h1.tmps;have h2:bC M0 S0 w0 ⟨n,some ds⟩ T (aX (aX m i (.df false)) j (.lo .ready none (mY n T) ps asg bod)) (dW ρ1 j (.func (.yield w1.heap.size) #[] #[])) a w2:=by
  subst wM;refine h1.rG cX (jF w1 _) hj1 rfl (by simp[jK]) λhO eB Q2=>?_;exact⟨w1.heap.size,fn,a.tmps,w.heap.size,rfl,heap_alloc_new w1 _,A.dK eB Q2 hO _ _ aWJ⟩
 have hO2:gL (aX m i (.df false)) (aX (aX m i (.df false)) j (.lo .ready none (mY n T) ps asg bod)) ρ1 (dW ρ1 j (.func (.yield w1.heap.size) #[] #[])):=gL.new _ _ hj1;have hρ2:dW ρ1 j (.func (.yield w1.heap.size) #[] #[]) j=.func (.yield w1.heap.size) #[] #[]:=by simp[dW]
 have hρ2i:dW ρ1 j (.func (.yield w1.heap.size) #[] #[]) i=.pointer (some ⟨w.heap.size,0,none⟩):=by simp[dW,hij,hρ1]
 revert h2 hO2 hρ2 hρ2i;generalize dW ρ1 j (.func (.yield w1.heap.size) #[] #[])=ρ2;intro h2 hO2 hρ2 hρ2i;have h3:bC M0 S0 w0 ⟨n,some (.s4 i::ds)⟩ T (aX (aX m i (.df false)) j (.lo .ready none (mY n T) ps asg bod)) ρ2 {a with defers:=[{target:=.collected w.heap.size,args:= #[]}]++a.defers} w2:=
  {keeps:=h2.keeps,size:=h2.size
   defers:=λds' e=>by
    simp only[aA]at e;subst e;exact⟨w.heap.size,a.defers,rfl,⟨by simp[aX,hij],λ_=>hρ2i⟩,h2.defers ds rfl⟩
   tmps:=h2.tmps,res:=h2.res,own:=h2.own,apart:=h2.apart}
 have hO3:=hO1.trans hO2;have hgv:=cU h2 g;have aYM:∃ua va:Array Value,a.eval g=.func (.func gf) ua va/\A.bR w2 (dD M0 (aX (aX m i (.df false)) j (.lo .ready none (mY n T) ps asg bod)) ρ2) (aX (aX m i (.df false)) j (.lo .ready none (mY n T) ps asg bod)) ρ2 us ua.toList/\A.bR w2 (dD M0 (aX (aX m i (.df false)) j (.lo .ready none (mY n T) ps asg bod)) ρ2) (aX (aX m i (.df false)) j (.lo .ready none (mY n T) ps asg bod)) ρ2 vs va.toList:=by
  rcases hg with e|⟨cu,cv,e,rfl,rfl⟩
  ·rw[e]at hgv;simp only[A.Den]at hgv;obtain⟨ua,va,q1,q2,q3⟩:=hgv;exact⟨ua,va,q1,q2,q3⟩
  ·rw[e]at hgv;simp only[A.Den,C.Den]at hgv;obtain⟨ua,va,q1,q2,q3⟩:=hgv;exact⟨ua,va,q1,A.iO.2 q2,A.iO.2 q3⟩
 obtain⟨ua,va,he,hu,hv⟩:=aYM;have hyd:A.bR w2 (dD M0 (aX (aX m i (.df false)) j (.lo .ready none (mY n T) ps asg bod)) ρ2) (aX (aX m i (.df false)) j (.lo .ready none (mY n T) ps asg bod)) ρ2 [.h j] [.func (.yield w1.heap.size) #[] #[]]:=by
  simp only[A.bR,A.Den];exact⟨_,_,rfl,⟨by simp[aX],λ_=>hρ2.symm⟩,rfl⟩
 have aWS:ua++ #[Value.func (.yield w1.heap.size) #[] #[]]++va=(ua.toList++([Value.func (.yield w1.heap.size) #[] #[]]++va.toList)).toArray:=by
  cases ua;cases va;simp
 refine⟨w1.heap.size,[{target:=.collected w.heap.size,args:= #[]}],w2,⟨.fn (.func gf) va,ua++ #[.func (.yield w1.heap.size) #[] #[]]⟩,w2,gf,ua++ #[.func (.yield w1.heap.size) #[] #[]]++va,w2,?_,?_,?_,?_⟩
 ·rw[MT,wM,sN]
 ·have e4:(Array.map a.eval #[Operand.const (.func (.yield w1.heap.size) #[] #[])])= #[.func (.yield w1.heap.size) #[] #[]]:=by simp[Act.eval]
  simp only[resolve,he,Deferred.ofValue,e4,cB]
 ·simp only[invoke];rw[B3 aVN.1]
 rw[aWS];refine(aVN.2 ⟨n,some (.s4 i::ds)⟩ T M0 S0 w0 ρ2 _ w2 h3 cX _ (A.iH hu (A.iH hyd hv))).mono ?_;rintro e w3 ⟨ρ3,h4,hO4,hr⟩;cases r with
 |sE v=>
  obtain⟨y,rfl,hy⟩:=hr;exact .inr ⟨_,rfl,hQ (.sE v) _ T m2 _ ρ3 _ w3 (a2I v rfl) h4 (hO3.trans hO4) ⟨y,rfl,hy⟩⟩
 |ok v=>
  obtain⟨y,rfl,hy⟩:=hr;obtain⟨st,pe,ts',ps',asg',bod',hj3,eB,aZC⟩:=mS v rfl;obtain⟨l3,fn3,vs3,D3,e3,hw3,aZA,aZ0⟩:=h4.YJ hj3;have hρ3:ρ3 j=ρ2 j:=((hO4 j (by simp[aX])).2 (by rw[hj3];simp)).2.1;rw[hρ3,hρ2]at e3;simp only[Value.func.injEq,Fn.yield.injEq,and_true]at e3;subst e3;obtain⟨h5,hO5⟩:=aZ0 .exhausted pe;refine .inl ⟨y,pe,w3.gW w1.heap.size (.loop {state:=.exhausted,pending:=pe,fn:=fn3,tmps:=vs3,params:=ps',assign:=asg',body:=bod',defers:=D3}),rfl,?_,?_⟩
  ·unfold Instr.endLoop;rw[aV,N2 hw3];simp only[aN];have hb:(st==.busy)=false:=by simpa using eB
   simp only[hb,bY,if_false];rw[aV,AU hw3];simp
  ·have hOf:=(hO3.trans hO4).trans hO5;cases pe with
   |none=>exact hQ .nm _ T _ _ ρ3 _ _ aZC h5 hOf rfl
   |some c=>
    cases c with
    |ret=>exact wp_ret (hQ .ret _ T _ _ ρ3 _ _ aZC h5 hOf rfl)
    |exit id=>exact wp_exit (hQ (.ext id) _ T _ _ ρ3 _ _ aZC h5 hOf rfl)
    |_=>exact aZC.elim
def vEq:Value->Value->Bool
 |.bool a,.bool b=>a==b
 |.int k a,.int k' b=>decide (k=k')&&decide (a=b)
 |.string a,.string b=>decide (a=b)
 |.pointer none,.pointer none=>true
 |.map none,.map none=>true
 |.nilFunc,.nilFunc=>true
 |.nilIface,.nilIface=>true
 |_,_=>false
theorem aK9{a b:Value}(h:vEq a b=true):a=b:=by
 unfold vEq at h;split at h<;>simp_all
mutual
def C.A6:C->C->Bool
 |.v a,.v b=>vEq a b
 |.sl e l,.sl e' l'=>decide (e=e')&&C.vH l l'
 |.nl e,.nl e'=>decide (e=e')
 |.ip l,.ip l'=>C.uG l l'
 |.im ks vs,.im ks' vs'=>decide (ks=ks')&&C.uG vs vs'
 |.fn f x1 y1,.fn f' x2 y2=>decide (f=f')&&(C.uG x1 x2&&C.uG y1 y2)
 |.agg l,.agg l'=>C.uG l l'
 |.AE t c,.AE t' c'=>decide (t=t')&&C.A6 c c'
 |_,_=>false
def C.uG:List C->List C->Bool
 |[],[]=>true
 |a::r,b::s=>C.A6 a b&&C.uG r s
 |_,_=>false
def C.vH:List (List C)->List (List C)->Bool
 |[],[]=>true
 |a::r,b::s=>C.uG a b&&C.vH r s
 |_,_=>false
end
mutual
theorem C.aD7:∀(a b:C),C.A6 a b=true->a=b
 |.v a,b,h=>by cases b<;>simp only[C.A6]at h<;>first|(rw[aK9 h])|cases h
 |.sl e l,b,h=>by
  cases b<;>simp only[C.A6]at h<;>first
   |(rw[aE]at h;rw[aUL h.1,C.wT l _ h.2])
   |cases h
 |.nl e,b,h=>by cases b<;>simp only[C.A6]at h<;>first|(rw[aUL h])|cases h
 |.ip l,b,h=>by cases b<;>simp only[C.A6]at h<;>first|(rw[C.mH l _ h])|cases h
 |.im ks vs,b,h=>by
  cases b<;>simp only[C.A6]at h<;>first
   |(rw[aE]at h;rw[aUL h.1,C.mH vs _ h.2])
   |cases h
 |.fn f x1 y1,b,h=>by
  cases b<;>simp only[C.A6]at h<;>first
   |(rw[aE,aE]at h;rw[aUL h.1,C.mH x1 _ h.2.1,C.mH y1 _ h.2.2])
   |cases h
 |.agg l,b,h=>by cases b<;>simp only[C.A6]at h<;>first|(rw[C.mH l _ h])|cases h
 |.AE t c,b,h=>by
  cases b<;>simp only[C.A6]at h<;>first
   |(rw[aE]at h;rw[aUL h.1,C.aD7 c _ h.2])
   |cases h
theorem C.mH:∀(a b:List C),C.uG a b=true->a=b
 |[],b,h=>by cases b<;>simp only[C.uG]at h<;>first|rfl|cases h
 |c::r,b,h=>by
  cases b with
  |nil=>simp[C.uG]at h
  |cons d s=>
   simp only[C.uG,aE]at h;rw[C.aD7 c d h.1,C.mH r s h.2]
theorem C.wT:∀(a b:List (List C)),C.vH a b=true->a=b
 |[],b,h=>by cases b<;>simp only[C.vH]at h<;>first|rfl|cases h
 |c::r,b,h=>by
  cases b with
  |nil=>simp[C.vH]at h
  |cons d s=>
   simp only[C.vH,aE]at h;rw[C.mH c d h.1,C.wT r s h.2]
end
mutual
def A.A6:A->A->Bool
 |.d a,.d b=>C.A6 a b
 |.lp i o,.lp i' o'=>decide (i=i')&&decide (o=o')
 |.h i,.h i'=>decide (i=i')
 |.ep i e k o,.ep i' e' k' o'=>decide (i=i')&&(decide (e=e')&&(decide (k=k')&&decide (o=o')))
 |.sv i l n,.sv i' l' n'=>decide (i=i')&&(decide (l=l')&&decide (n=n'))
 |.fn f x1 y1,.fn f' x2 y2=>decide (f=f')&&(A.uG x1 x2&&A.uG y1 y2)
 |.agg l,.agg l'=>A.uG l l'
 |.eL l,.eL l'=>A.uG l l'
 |.AE t c,.AE t' c'=>decide (t=t')&&A.A6 c c'
 |.x,.x=>true
 |_,_=>false
def A.uG:List A->List A->Bool
 |[],[]=>true
 |a::r,b::s=>A.A6 a b&&A.uG r s
 |_,_=>false
end
mutual
theorem A.aD7:∀(a b:A),A.A6 a b=true->a=b
 |.d a,b,hh=>by cases b<;>simp only[A.A6]at hh<;>first|(rw[C.aD7 _ _ hh])|cases hh
 |.lp i o,b,hh=>by
  cases b<;>simp only[A.A6]at hh<;>first
   |(rw[aE]at hh;rw[aUL hh.1,aUL hh.2])
   |cases hh
 |.h i,b,hh=>by cases b<;>simp only[A.A6]at hh<;>first|(rw[aUL hh])|cases hh
 |.ep i e k o,b,hh=>by
  cases b<;>simp only[A.A6]at hh<;>first
   |(simp only[aE]at hh;rw[aUL hh.1,aUL hh.2.1,aUL hh.2.2.1,aUL hh.2.2.2])
   |cases hh
 |.sv i l n,b,hh=>by
  cases b<;>simp only[A.A6]at hh<;>first
   |(simp only[aE]at hh;rw[aUL hh.1,aUL hh.2.1,aUL hh.2.2])
   |cases hh
 |.fn f x1 y1,b,hh=>by
  cases b<;>simp only[A.A6]at hh<;>first
   |(rw[aE,aE]at hh;rw[aUL hh.1,A.mH x1 _ hh.2.1,A.mH y1 _ hh.2.2])
   |cases hh
 |.agg l,b,hh=>by cases b<;>simp only[A.A6]at hh<;>first|(rw[A.mH l _ hh])|cases hh
 |.eL l,b,hh=>by cases b<;>simp only[A.A6]at hh<;>first|(rw[A.mH l _ hh])|cases hh
 |.AE t c,b,hh=>by
  cases b<;>simp only[A.A6]at hh<;>first
   |(rw[aE]at hh;rw[aUL hh.1,A.aD7 c _ hh.2])
   |cases hh
 |.x,b,hh=>by cases b<;>simp only[A.A6]at hh<;>first|rfl|cases hh
theorem A.mH:∀(a b:List A),A.uG a b=true->a=b
 |[],b,hh=>by cases b<;>simp only[A.uG]at hh<;>first|rfl|cases hh
 |c::r,b,hh=>by
  cases b with
  |nil=>simp[A.uG]at hh
  |cons d s=>
   simp only[A.uG,aE]at hh;rw[A.aD7 c d hh.1,A.mH r s hh.2]
end
def A.vH:List (List A)->List (List A)->Bool
 |[],[]=>true
 |a::r,b::s=>A.uG a b&&A.vH r s
 |_,_=>false
theorem A.wT:∀(a b:List (List A)),A.vH a b=true->a=b
 |[],b,hh=>by cases b<;>simp only[A.vH]at hh<;>first|rfl|cases hh
 |c::r,b,hh=>by
  cases b with
  |nil=>simp[A.vH]at hh
  |cons d s=>
   simp only[A.vH,aE]at hh;rw[A.mH c d hh.1,A.wT r s hh.2]
def N6:List (Ky×A)->List (Ky×A)->Bool
 |[],[]=>true
 |a::r,b::s=>decide (a.1=b.1)&&(A.A6 a.2 b.2&&N6 r s)
 |_,_=>false
theorem TG:∀(a b:List (Ky×A)),N6 a b=true->a=b
 |[],b,h=>by cases b<;>simp only[N6]at h<;>first|rfl|cases h
 |(k,x)::r,b,h=>by
  cases b with
  |nil=>simp[N6]at h
  |cons d s=>
   obtain⟨k',x'⟩:=d;simp only[N6,aE]at h;rw[aUL h.1,A.aD7 x x' h.2.1,TG r s h.2.2]
def R.A6:R->R->Bool
 |.dead,.dead=>true
 |.cells f l,.cells f' l'=>(f==f')&&A.uG l l'
 |.fW f t e l,.fW f' t' e' l'=>(f==f')&&(decide (t=t')&&(decide (e=e')&&A.vH l l'))
 |.mp f kv st,.mp f' kv' st'=>(f==f')&&(N6 kv kv'&&decide (st=st'))
 |.wL,.wL=>true
 |.cu s e l,.cu s' e' l'=>A.A6 s s'&&(decide (e=e')&&A.vH l l')
 |_,_=>false
theorem R.aD7:∀(a b:R),R.A6 a b=true->a=b:=by
 intro a b h;cases a<;>cases b<;>simp only[R.A6]at h<;>(try cases h)<;>(try rfl)
 ·simp only[aE,beq_iff_eq]at h;rw[h.1,A.mH _ _ h.2]
 ·simp only[aE,beq_iff_eq]at h;rw[h.1,aUL h.2.1,aUL h.2.2.1,A.wT _ _ h.2.2.2]
 ·simp only[aE,beq_iff_eq]at h;rw[h.1,TG _ _ h.2.1,aUL h.2.2]
 ·simp only[aE]at h;rw[A.aD7 _ _ h.1,aUL h.2.1,A.wT _ _ h.2.2]
def II(P:Program)(t:TypeId):Bool:=match P.underlying t with
 |some (.int .u8)=>true
 |_=>false
def FH(s:ByteArray):List (List C):=s.data.toList.map λb=>[.v (.int .u8 b.toNat)]
def bytesOf:List (List A)->Option (List Int)
 |[]=>some []
 |[.d (.v (.int .u8 n))]::r=>match bytesOf r with
  |some l=>some (n::l)
  |none=>none
 |_::_=>none
def vG(P:Program)(m:Mem)(s t:TypeId)(x:A):Option E:=match dO m x,j8 P s with
 |some rows,some e=>match bytesOf rows with
  |some ns=>some (II P e&&yJ P t,.d (.v (.string (ns.foldl (λr n=>r.push (UInt8.ofNat n.toNat)) ByteArray.empty))),[])
  |none=>none
 |_,_=>none
def qI(P:Program)(m:Mem)(T:Nat->A)(d:Nat)(o:Oper):Option E:=
 match o.op with
 |.convert s t x=>match dN T x,j8 P t with
  |.d (.v (.string b)),some e=>some (II P e&&(match P.underlying s with|some _=>true|none=>false),.d (.sl 1 (FH b)),[])
  |_,_=>vG P m s t (dN T x)
 |_=>none
def kG(P:Program)(m:Mem)(T:Nat->A)(o:Oper):Option E:=
 match o.op with
 |.call c=>match c.callee,c.args.toList,c.argTypes.toList with
  |.builtin .append,[x,y],[t,t']=>match dN T x,dO m (dN T y),j8 P t with
   |.d (.nl _),some [],some e=>match o5 P e with
    |some z=>some (decide (t=t'/\z.length=P.cellsOf e/\0<P.cellsOf e)&&qW m (P.cellsOf e) (dN T y),.d (.nl (P.cellsOf e)),[])
    |none=>none
   |_,_,_=>none
  |_,_,_=>none
 |_=>none
def kT(P:Program)(m:Mem)(T:Nat->A)(d:Nat)(o:Oper):Option E:=
 match kG P m T o with
 |some e=>some e
 |none=>match jZ P m T d o with
  |some e=>some e
  |none=>qI P m T d o
def aEN(P:Program)(T:Nat->A)(o:Oper):Option A:=
 match o.op with
 |.move x=>some (B0 P o.type (dN T x))
 |.assign x=>some (B0 P o.type (dN T x))
 |.pick c a b=>match dN T c with
  |.d (.v (.bool t))=>some (cond t (dN T a) (dN T b))
  |_=>none
 |.binOp op t x y _=>match dN T x,dN T y with
  |.d (.v (.int k a)),.d (.v (.int k' b))=>match JM op k k' a b with
   |some (true,c)=>some (.d c)
   |_=>none
  |_,_=>none
 |.unOp op _ x=>match NF op (dN T x)with
  |some (true,v,_)=>some v
  |_=>none
 |.extract x i=>match dN T x with
  |.eL l=>cond (Nat.blt i l.length) (some (l.getD i .x)) none
  |_=>none
 |.field t x f=>match uF P (λ_=>none) t (dN T x) f with
  |some (true,v,_)=>some v
  |_=>none
 |_=>none
section
variable{P:Program}{m m':Mem}
theorem pC(h:m i=m' i):qF m i=qF m' i:=by unfold qF;rw[h]
theorem aAM(h:m i=m' i):HI m i=HI m' i:=by unfold HI;rw[h]
theorem oA(h:m i=m' i):jN m i=jN m' i:=by unfold jN;rw[h]
def zH(m m':Mem)(x:A):Prop:=∀i∈x.hs,m i=m' i
theorem zH.lp{i o:Nat}(h:zH m m' (.lp i o)):m i=m' i:=h i (by simp[A.hs])
theorem zH.h{i:Nat}(h:zH m m' (.h i)):m i=m' i:=h i (by simp[A.hs])
theorem zH.ep{i e k o:Nat}(h:zH m m' (.ep i e k o)):m i=m' i:=h i (by simp[A.hs])
theorem zH.sv{i l n:Nat}(h:zH m m' (.sv i l n)):m i=m' i:=h i (by simp[A.hs])
theorem FL(h:zH m m' x):x.cells m=x.cells m':=by
 cases x with
 |lp i o=>simp only[A.cells,pC h.lp]
 |h i=>simp only[A.cells,aAM h.h]
 |ep i e k o=>simp only[A.cells,pC h.ep]
 |sv i l n=>simp only[A.cells,pC h.sv]
 |d c=>cases c<;>first|rfl|(rename_i v;cases v<;>rfl)
 |_=>simp only[A.cells]
theorem pZ(h:zH m m' x):dO m x=dO m' x:=by
 cases x with
 |h i=>simp only[dO,h.h]
 |sv i l n=>simp only[dO,h.sv]
 |d c=>cases c<;>simp only[dO]
 |_=>simp only[dO]
theorem R6(h:zH m m' x):iP m x=iP m' x:=by
 cases x with
 |h i=>simp only[iP,h.h]
 |d c=>cases c<;>simp only[iP]
 |_=>simp only[iP]
theorem GV{es:Nat}(h:zH m m' x):qW m es x=qW m' es x:=by
 cases x with
 |h i=>simp only[qW,h.h]
 |sv i l n=>simp only[qW,h.sv]
 |d c=>cases c<;>simp only[qW]
 |_=>simp only[qW]
theorem JI{k:Nat}{l:List (List A)}(h:iP m x=some (some k,l)):x=.h k:=by
 cases x with
 |h i=>
  simp only[iP]at h;split at h
  ·simp at h;rw[h.1]
  ·cases h
 |d c=>cases c<;>simp[iP]at h
 |_=>simp[iP]at h
theorem R9(h:zH m m' x):jM P m t x=jM P m' t x:=by
 cases x with
 |lp i o=>simp only[jM,h.lp]
 |ep i e k o=>simp only[jM,h.ep]
 |d c=>cases c<;>simp only[jM]
 |_=>simp only[jM]
theorem FZ(h:zH m m' x):isNil m x=isNil m' x:=by
 cases x with
 |lp i o=>simp only[isNil,pC h.lp]
 |h i=>simp only[isNil,h.h]
 |ep i e k o=>simp only[isNil,pC h.ep]
 |sv i l n=>simp only[isNil,h.sv]
 |d c=>cases c<;>first|rfl|(rename_i v;cases v<;>first|rfl|(rename_i p;cases p<;>rfl))|(rename_i e l;cases l<;>rfl)
 |_=>simp only[isNil]
theorem ZY{y:A}(hx:zH m m' x)(hy:zH m m' y):JL P m t x y=JL P m' t x y:=by
 have e1:=FZ hx;have e2:=FZ hy;unfold JL;split
 ·rfl
 ·rfl
 ·rw[e1,e2]
theorem VK{op:BinOp}{y:A}(hx:zH m m' x)(hy:zH m m' y):xZ P m op t x y=xZ P m' op t x y:=by
 have e:=ZY (P:=P) (t:=t) hx hy;unfold xZ;split
 ·rfl
 ·rw[e]
theorem uT{o:Nat}(h:zH m m' x):qO m o x=qO m' o x:=by
 cases x with
 |lp i o=>simp only[qO,pC h.lp]
 |ep i e k o=>simp only[qO,pC h.ep]
 |d c=>cases c<;>simp only[qO]
 |_=>simp only[qO]
theorem FP{f:Nat}(h:zH m m' x):mG P m t x f=mG P m' t x f:=by
 unfold mG;simp only[uT h]
theorem FQ(h:zH m m' x):j7 P m t x ix=j7 P m' t x ix:=by
 unfold j7;cases x with
 |h i=>simp only[uT h,h.h]
 |sv i l n=>simp only[uT h,h.sv]
 |d c=>simp only[uT h];cases c<;>rfl
 |_=>simp only[uT h]
theorem VM(h:zH m m' x):CE P m t x=CE P m' t x:=by
 have e:=pZ h;cases x with
 |h i=>unfold CE;simp only[h.h]
 |sv i l n=>unfold CE;simp only[e]
 |d c=>
  cases c with
  |v z=>
   cases z with
   |map r=>cases r<;>rfl
   |_=>rfl
  |_=>rfl
 |_=>rfl
theorem H3(h:zH m m' x):nT m x=nT m' x:=by
 unfold nT;simp only[FZ h]
theorem EW{e:TypeId}{hi mx:Bool}{l h c:Int}(hh:m i=m' i):uV P m e i hi mx l h c n=uV P m' e i hi mx l h c n:=by
 unfold uV;rw[hh]
theorem DN{lo hi mx:Option A}(h:zH m m' x):jW P m t x lo hi mx=jW P m' t x lo hi mx:=by
 have e:=pZ h;cases x with
 |h i=>unfold jW;simp only[e,EW h.h]
 |sv i l n=>unfold jW;simp only[e,EW h.sv]
 |d c=>
  cases c with
  |v z=>cases z<;>rfl
  |_=>rfl
 |_=>rfl
theorem MK{ok:Bool}(h:zH m m' x):lO P m t x ix ok=lO P m' t x ix ok:=by
 unfold lO;cases x with
 |h i=>simp only[h.h]
 |d c=>cases c with
  |v z=>cases z with
   |map r=>cases r<;>rfl
   |_=>rfl
  |_=>rfl
 |_=>rfl
theorem BW{a:A}(h:zH m m' x):mW P m t x ix a=mW P m' t x ix a:=by
 unfold mW;cases CR P t with
 |none=>rfl
 |some p=>cases keyOf ix with
  |none=>rfl
  |some k=>cases x with
   |h i=>simp only[h.h]
   |_=>rfl
theorem MJ(h:zH m m' x):tL P m t x ix=tL P m' t x ix:=by
 unfold tL;cases CR P t with
 |none=>rfl
 |some p=>cases keyOf ix with
  |none=>rfl
  |some k=>cases x with
   |h i=>simp only[h.h]
   |d c=>cases c with
    |v z=>cases z with
     |map r=>cases r<;>rfl
     |_=>rfl
    |_=>rfl
   |_=>rfl
theorem H2(h:zH m m' x)(hd:m d=m' d):pQ P m d t x ix=pQ P m' d t x ix:=by
 unfold pQ;cases CR P t with
 |none=>rfl
 |some p=>cases keyOf ix with
  |none=>rfl
  |some k=>cases x with
   |h i=>simp only[h.h,oA hd]
   |_=>rfl
theorem DM{s a:A}(h:zH m m' x)(hs:zH m m' s):mV m x s a=mV m' x s a:=by
 unfold mV;cases x with
 |h i=>cases s with
  |h j=>simp only[h.h,hs.h]
  |_=>rfl
 |_=>rfl
end
structure MB(o:Oper)(T T':Nat->A)(m m':Mem):Prop where
 ev:∀x∈o.op.operands.toList,dN T x=dN T' x
 ag:∀x∈o.op.operands.toList,zH m m' (dN T x)
section
variable{P:Program}{m m':Mem}{T T':Nat->A}{d:Nat}{o:Oper}
theorem yQ:∀{ps:List (Nat×Operand)},(∀p∈ps,dN T p.2=dN T' p.2/\zH m m' (dN T p.2))->oX m (ps.map λp=>(p.1,dN T p.2))=oX m' (ps.map λp=>(p.1,dN T' p.2))
 |[],_=>rfl
 |p::r,h=>by
  have h1:=h p sM;simp only[aG,oX];rw[<-h1.1,FL h1.2,yQ (λq hq=>h q (by simp[hq]))]
theorem ZX{e:TypeId}{es:Nat}{k:Option Nat}(h:∀i,k=some i->m i=m' i):zS m e es k=zS m' e es k:=by
 cases k with
 |none=>rfl
 |some i=>simp only[zS,h i rfl]
theorem MI{x y:Operand}(hx:dN T x=dN T' x)(hy:dN T y=dN T' y)(ax:zH m m' (dN T x))(ay:zH m m' (dN T y))(hd:m d=m' d):tK P m T d t x y=tK P m' T' d t x y:=by
 unfold tK;rw[<-hx,<-hy];cases j8 P t with
 |none=>rfl
 |some e=>
  simp only;rw[<-R6 ax,<-pZ ay,<-GV ay,<-oA hd];cases h1:iP m (dN T x)with
  |none=>rfl
  |some p=>
   obtain⟨k,l⟩:=p
   have:zS m e (P.cellsOf e) k=zS m' e (P.cellsOf e) k:=ZX (λi hi=>by
    subst hi;have:=JI h1;rw[this]at ax
    exact ax.h)
   cases dO m (dN T y)with
   |none=>rfl
   |some l2=>cases o5 P e with
    |none=>rfl
    |some z=>simp only[this]
theorem Z0(h:MB o T T' m m')(hd:m d=m' d):j9 P m T d o=j9 P m' T' d o:=by
 obtain⟨hT,hm⟩:=h;unfold j9;cases ho:o.op with
 |move x=>simp only[hT x (by simp[ho,Op.operands])]
 |assign x=>simp only[hT x (by simp[ho,Op.operands])]
 |pick c a b=>simp only[hT c (by simp[ho,Op.operands]),hT a (by simp[ho,Op.operands]),hT b (by simp[ho,Op.operands])]
 |alloc t=>simp only[oA hd]
 |box t x=>simp only[oA hd,hT x (by simp[ho,Op.operands]),FL (hT x (by simp[ho,Op.operands])▸hm x (by simp[ho,Op.operands]))]
 |build t ps=>
  simp only[JJ]
  rw[yQ (m:=m) (m':=m') (T:=T) (T':=T') (λp hp=>by
   have:p.2∈o.op.operands.toList:=by rw[ho];simp[Op.operands];exact⟨p.1,by simpa using hp⟩
   exact⟨hT _ this,hm _ this⟩)]
 |buildSlice t n ps=>
  simp only[vY,oA hd]
  rw[yQ (m:=m) (m':=m') (T:=T) (T':=T') (λp hp=>by
   have:p.2∈o.op.operands.toList:=by rw[ho];simp[Op.operands];exact⟨p.1,by simpa using hp⟩
   exact⟨hT _ this,hm _ this⟩)]
 |load t x=>simp only[hT x (by simp[ho,Op.operands]),R9 (hT x (by simp[ho,Op.operands])▸hm x (by simp[ho,Op.operands]))]
 |store t x y=>
  have hx:=hT x (by simp[ho,Op.operands]);have hy:=hT y (by simp[ho,Op.operands]);have ax:=hm x (by simp[ho,Op.operands]);have ay:=hm y (by simp[ho,Op.operands]);simp only[j3];rw[<-hx,<-hy,<-FL ay];cases hx2:dN T x with
  |lp i off=>
   rw[hx2]at ax;cases A.cells m (dN T y)with
   |none=>rfl
   |some vs=>simp only[ax.lp]
  |ep i es k off=>
   rw[hx2]at ax;cases A.cells m (dN T y)with
   |none=>rfl
   |some vs=>simp only[ax.ep]
  |_=>rfl
 |nilCheck x=>simp only[hT x (by simp[ho,Op.operands]),H3 (hT x (by simp[ho,Op.operands])▸hm x (by simp[ho,Op.operands]))]
 |binOp op t x y yt=>
  have hx:=hT x (by simp[ho,Op.operands]);have hy:=hT y (by simp[ho,Op.operands]);simp only[<-hx,<-hy,VK (hm x (by simp[ho,Op.operands])) (hm y (by simp[ho,Op.operands]))]
 |unOp op t x=>simp only[hT x (by simp[ho,Op.operands])]
 |convert s t x=>simp only[hT x (by simp[ho,Op.operands])]
 |makeFunc f a b=>
  have e1:a.toList.map (dN T)=a.toList.map (dN T'):=cQ λx hx=>hT x (by rw[ho];simp[Op.operands];exact .inl (by simpa using hx));have e2:b.toList.map (dN T)=b.toList.map (dN T'):=cQ λx hx=>hT x (by rw[ho];simp[Op.operands];exact .inr (by simpa using hx));simp only[e1,e2]
 |makeMap t r=>cases r<;>simp only[oA hd]
 |makeSlice t l c=>simp only[yC,oA hd,hT l (by simp[ho,Op.operands]),hT c (by simp[ho,Op.operands])]
 |slice t x lo hi mx=>
  have hx:=hT x (by simp[ho,Op.operands]);have e1:∀(q:Option Operand),(∀y,q=some y->y∈o.op.operands.toList)->q.map (dN T)=q.map (dN T'):=by
   intro q hq;cases q with
   |none=>rfl
   |some y=>simp only[dF,hT y (hq y rfl)]
  simp only[<-hx,DN (hm x (by simp[ho,Op.operands])),e1 lo (by rintro y rfl;simp[ho,Op.operands]),e1 hi (by rintro y rfl;simp[ho,Op.operands]),e1 mx (by rintro y rfl;simp[ho,Op.operands])]
 |fieldAddr t x f=>simp only[hT x (by simp[ho,Op.operands]),FP (hT x (by simp[ho,Op.operands])▸hm x (by simp[ho,Op.operands]))]
 |field t x f=>simp only[uF,hT x (by simp[ho,Op.operands])]
 |indexAddr t x i=>simp only[hT x (by simp[ho,Op.operands]),hT i (by simp[ho,Op.operands]),FQ (hT x (by simp[ho,Op.operands])▸hm x (by simp[ho,Op.operands]))]
 |extract x i=>simp only[hT x (by simp[ho,Op.operands])]
 |call c=>
  obtain⟨callee,args,tys⟩:=c;simp only;cases callee with
  |value f=>rfl
  |invoke r n=>rfl
  |builtin b=>
   have mem:∀x∈args.toList,x∈o.op.operands.toList:=by
    intro x hx;rw[ho];simp[Op.operands,Call.operands];simpa using hx
   cases b with
   |len=>
    cases h1:args.toList with
    |nil=>rfl
    |cons x r=>
     cases r with
     |cons y r=>cases tys.toList<;>rfl
     |nil=>
      cases h2:tys.toList with
      |nil=>rfl
      |cons t r=>
       cases r with
       |cons _ _=>rfl
       |nil=>
        have hx:=mem x (by rw[h1];simp);simp only[<-hT x hx,VM (hm x hx)]
   |append=>
    cases h1:args.toList with
    |nil=>rfl
    |cons x r=>
     cases r with
     |nil=>cases tys.toList<;>rfl
     |cons y r=>
      cases r with
      |cons _ _=>cases tys.toList<;>rfl
      |nil=>
       cases h2:tys.toList with
       |nil=>rfl
       |cons t r=>
        cases r with
        |nil=>rfl
        |cons t' r=>
         cases r with
         |cons _ _=>rfl
         |nil=>
          have hx:=mem x (by rw[h1];simp);have hy:=mem y (by rw[h1];simp);have:=MI (P:=P) (d:=d) (t:=t) (hT x hx) (hT y hy) (hm x hx) (hm y hy) hd;simp only[this]
   |max=>
    cases h1:args.toList with
    |nil=>rfl
    |cons x r=>
     cases r with
     |nil=>rfl
     |cons y r=>
      cases r with
      |cons _ _=>rfl
      |nil=>
       have e1:=hT x (mem x (by rw[h1];simp));have e2:=hT y (mem y (by rw[h1];simp));simp only[e1,e2]
   |min=>
    cases h1:args.toList with
    |nil=>rfl
    |cons x r=>
     cases r with
     |nil=>rfl
     |cons y r=>
      cases r with
      |cons _ _=>rfl
      |nil=>
       have e1:=hT x (mem x (by rw[h1];simp));have e2:=hT y (mem y (by rw[h1];simp));simp only[e1,e2]
   |_=>rfl
 |_=>rfl
end
section
variable{M0 S0:Nat->Prop}{w0:World}{N:Fr}{T:Nat->A}{m:Mem}{ρ:Nat->Value}{a:Act}{w:World}{P:Program}
theorem J6(h:II P t=true):P.underlying t=some (.int .u8):=by
 unfold II at h;split at h
 ·assumption
 ·cases h
theorem FI(w:World)(e:TypeId)(s:ByteArray):iF (λ_=>False) w (Lib.bytesWorld w e s):=
 ⟨by simp[Lib.bytesWorld,World.freeze,World.alloc,World.drew,-World.alloc_eq,-World.drew_eq],by simp[Lib.bytesWorld,World.freeze,World.alloc,World.drew,-World.alloc_eq,-World.drew_eq],
  by simp[Lib.bytesWorld,World.freeze,World.alloc,World.drew,-World.alloc_eq,-World.drew_eq],by rw[Lib.bytesWorld_size];omega,λb hb _=>Lib.bytesWorld_at_old w e s b hb⟩
theorem DD:∀{l:List (List A)}{ns:List Int},bytesOf l=some ns->l.length=ns.length/\(∀e∈l,e.length=1)/\l.flatten=ns.map λn=>.d (.v (.int .u8 n))
 |[],ns,h=>by simp only[bytesOf,aA]at h;subst h;simp
 |e::r,ns,h=>by
  unfold bytesOf at h;split at h
  ·rename_i h1;cases h1
  ·rename_i n r' h1;cases h1;split at h
   ·rename_i l hl;simp only[aA]at h;subst h;obtain⟨h1,h2,h3⟩:=DD hl;refine⟨by simp[h1],?_,by simp[h3]⟩;intro e he;simp only[aO]at he;rcases he with rfl|he
    ·rfl
    ·exact h2 e he
   ·cases h
  ·cases h
theorem JH{M:Nat->Prop}:∀(ns:List Int)(news:List Value),A.bR w M m ρ (ns.map λn=>.d (.v (.int .u8 n))) news->news=ns.map (Value.int .u8)
 |[],news,h=>by simpa [A.bR]using h
 |n::r,news,h=>by
  simp only[aG,A.bR,A.Den,C.Den]at h;obtain⟨y,yr,rfl,rfl,h2⟩:=h;rw[JH r yr h2];rfl
theorem UF(h:bC M0 S0 w0 N T m ρ a w){s t:TypeId}{x v:A}{y:Value}{pre:Bool}{ups:List (Nat×R)}(hx:x.Den w (dD M0 m ρ) m ρ y)(he:vG P m s t x=some (pre,v,ups))(hp:pre=true):
 ups=[]/\∃z,(convert s t y).run P w=.ok z w/\v.Den w (dD M0 m ρ) m ρ z:=by
 unfold vG at he;split at he
 ·rename_i rows e hs O2;split at he
  ·rename_i ns hns;simp only[aA,aD]at he;obtain⟨rfl,rfl,rfl⟩:=he;rw[aE]at hp;obtain⟨b1,b2,b3⟩:=DD hns;obtain⟨ad,cap,news,rfl,E0,_,y4,aY8⟩:=IT h hx hs b2;rw[b3]at y4;have aZU:=JH ns news y4;refine⟨rfl,.string (ns.foldl (λr n=>r.push (UInt8.ofNat n.toNat)) ByteArray.empty),?_,by simp[A.Den,C.Den]⟩;rw[run_convert_bytes_string w s t e ad rows.length cap (nU O2) (J6 hp.1) (oB hp.2)];rcases aY8 with⟨rfl,rfl⟩|⟨d,rfl,aW7⟩
   ·have:ns=[]:=bL b1.symm;subst this;simp[Conv.bytesToString]
   ·refine run_bytesToString w d rows.length cap ns ?_;have:=run_firstCells_some (P:=P) w 1 rows.length d rows.length cap news (by rw[E0]) aW7;simp only[Builtin.firstCells,Nat.mul_one]at this;rw[this,aZU]
  ·cases he
 ·cases he
theorem aIE(h:bC M0 S0 w0 N T m ρ a w)(cX:∀b,M0 b->b<w0.heap.size){o:Oper}{d:Nat}{pre:Bool}{v:A}{ups:List (Nat×R)}(he:qI P m T d o=some (pre,v,ups))(hp:pre=true):G1 P M0 S0 w0 N T m ρ a w o v (aH m ups):=by
 unfold qI at he;split at he
 ·rename_i s t x ho;split at he
  ·rename_i b e hx O2;simp only[aA,aD]at he;obtain⟨rfl,rfl,rfl⟩:=he;simp only[aE]at hp;obtain⟨hp1,hp2⟩:=hp;have v8:=cU h x;rw[hx]at v8;simp only[A.Den,C.Den]at v8;obtain⟨u,hs⟩:∃u,P.underlying s=some u:=by
    cases hq:P.underlying s with
    |none=>rw[hq]at hp2;cases hp2
    |some u=>exact⟨u,rfl⟩
   have aVL:=Lib.run_convert_string_bytes w s t e b hs (nU O2) (J6 hp1);have hk:=FI w e b;have aXP:=V8 h cX;refine⟨_,_,ρ,_,by simp[execOp,ho,v8,aVL];rfl,.inl rfl,(h.world hk (λ_ _ e=>e.elim)).shrink (λb e=>.inl e),gL.refl m ρ,?_⟩;simp only[A.Den,C.Den,aH];refine⟨_,grownCap w b.size 0 e,by simp[FH],by simp[FH];exact grownCap_ge w b.size 0 e,.inr ⟨w.heap.size,0,rfl,λhm=>Nat.lt_irrefl _ (aXP _ hm),by rw[Lib.bytesWorld_size];omega,?_⟩⟩;rw[C.tX];intro k r hr;simp only[FH,cK,bU]at hr;obtain⟨q,hq,rfl⟩:=hr;refine⟨rfl,?_⟩;rw[C.rA];intro j c hc;have hj:j=0:=by
    rcases j with _|j
    ·rfl
    ·simp at hc
   subst hj;simp at hc;subst hc;have hks:k<b.size:=by
    have:=(bA.1 hq).1;simpa using this
   refine⟨_,by simpa using Lib.bytesWorld_cell w e b k hks,rfl,?_⟩;simp only[C.Den];have hq':b.data[k]?=some q:=by simpa using hq
   rw[hq'];rfl
  ·obtain⟨rfl,z,hr,hv⟩:=UF (P:=P) h (cU h x) he hp;exact eO h (by simp[execOp,ho,hr]) hv
 ·cases he
theorem aK5(h:bC M0 S0 w0 N T m ρ a w){o:Oper}{pre:Bool}{v:A}{ups:List (Nat×R)}(he:kG P m T o=some (pre,v,ups))(hp:pre=true):G1 P M0 S0 w0 N T m ρ a w o v (aH m ups):=by
 unfold kG at he;split at he
 ·rename_i c ho;obtain⟨callee,args,tys⟩:=c;simp only at he;split at he
  ·rename_i x y t t' h1 h2;have e1:=ME h1;have e2:=ME h2;subst e1;subst e2;split at he
   ·rename_i es e hx hs O2;split at he
    ·rename_i z hz;simp only[aA,aD]at he;obtain⟨rfl,rfl,rfl⟩:=he;simp only[aE]at hp;obtain⟨hp1,hp2⟩:=hp;obtain⟨rfl,p1,p2⟩:=aUL hp1;have v8:=cU h x;rw[hx]at v8;simp only[A.Den,C.Den]at v8;obtain⟨ad,cap,hy,_⟩:=EZ h (cU h y) hs;obtain⟨i,hi⟩:=sA p2;have ht:=nU O2;have aVL:(Builtin.append_ #[t,t] o.type #[.slice none 0 0,.slice ad 0 cap]).run P w=.ok (.slice none 0 0) w:=by
      cases ad with
      |none=>simp[Builtin.append_,run_underlying ht,run_sizeOf hi,Builtin.lenOf,Builtin.firstCells,storeCells]
      |some d=>
       have hl:=run_firstCells_some (P:=P) w (P.cellsOf e) 0 d 0 cap [] sM sM;simp[Builtin.append_,run_underlying ht,run_sizeOf hi,Builtin.lenOf,hl,storeCells]
     refine⟨.slice none 0 0,w,ρ,_,by simp[execOp,ho,resolve,invoke,builtin,v8,hy,aVL],.inl rfl,h,gL.refl m ρ,by simp[A.Den,C.Den]⟩
    ·cases he
   ·cases he
  ·cases he
 ·cases he
theorem aK4(h:bC M0 S0 w0 N T m ρ a w)(cX:∀b,M0 b->b<w0.heap.size){o:Oper}{d:Nat}{pre:Bool}{v:A}{ups:List (Nat×R)}(he:kT P m T d o=some (pre,v,ups))(hp:pre=true):G1 P M0 S0 w0 N T m ρ a w o v (aH m ups):=by
 unfold kT at he;split at he
 ·rename_i e he';simp only[aA]at he;subst he;exact aK5 h he' hp
 ·split at he
  ·rename_i e he';simp only[aA]at he;subst he;exact aE5 h cX he' hp
  ·exact aIE h cX he hp
theorem JO{o:Oper}{e:E}(h:kT P m T d o=some e):jO o=true:=by
 unfold kT at h;split at h
 ·rename_i e' he';unfold jO;split
  ·rename_i c ho;simp[kG,ho]at he'
  ·rfl
 ·split at h
  ·rename_i e' he';exact zX he'
  ·unfold jO;split
   ·rename_i c ho;simp[qI,ho]at h
   ·rfl
theorem qT.WC{o:Oper}{pre:Bool}{ups:List (Nat×R)}(he:kT P m T d o=some (pre,v,ups))(hp:pre=true):qT P o T m v (aH m ups):=by
 intro ro N M0 S0 w0 ρ a w h cX next Q hn
 obtain⟨y,w',ρ',res,hr,aX0,hs,hO,hv⟩:=aK4 h cX he hp;exact qQ (JO he) hr aX0 (hn y w' ρ' hs hO hv)
end
def shallow(o:Oper):Bool:=
 match o.op with
 |.call c=>match c.callee with
  |.builtin _=>true
  |_=>false
 |.next _ _=>false
 |.entry _=>false
 |.range _ _=>false
 |.defer _=>false
 |_=>true
section
variable{P:Program}{m m':Mem}{T T':Nat->A}{d:Nat}{o:Oper}
theorem VJ(h:MB o T T' m m')(hd:m d=m' d)(hs:shallow o=true):jZ P m T d o=jZ P m' T' d o:=by
 have I5:=Z0 (P:=P) h hd;obtain⟨hT,hm⟩:=h;unfold jZ;cases ho:o.op with
 |lookup t x ix ok=>
  have hx:=hT x (by simp[ho,Op.operands]);have K0:=hT ix (by simp[ho,Op.operands]);simp only[<-hx,<-K0,MK (hm x (by simp[ho,Op.operands]))]
 |mapUpdate t x k v=>
  have hx:=hT x (by simp[ho,Op.operands]);have hk:=hT k (by simp[ho,Op.operands]);have hv:=hT v (by simp[ho,Op.operands]);simp only[<-hx,<-hk,<-hv,BW (hm x (by simp[ho,Op.operands]))]
 |insert t x k v=>
  have hx:=hT x (by simp[ho,Op.operands]);have hk:=hT k (by simp[ho,Op.operands]);have hv:=hT v (by simp[ho,Op.operands]);simp only[<-hx,<-hk,<-hv,BW (hm x (by simp[ho,Op.operands]))]
 |mapEntry t x k=>
  have hx:=hT x (by simp[ho,Op.operands]);have hk:=hT k (by simp[ho,Op.operands]);simp only[<-hx,<-hk,H2 (hm x (by simp[ho,Op.operands])) hd]
 |entryStore t x s v=>
  have hx:=hT x (by simp[ho,Op.operands]);have hk:=hT s (by simp[ho,Op.operands]);have hv:=hT v (by simp[ho,Op.operands]);simp only[<-hx,<-hk,<-hv,DM (hm x (by simp[ho,Op.operands])) (hm s (by simp[ho,Op.operands]))]
 |range t x=>simp[shallow,ho]at hs
 |entry x=>simp[shallow,ho]at hs
 |index t x ix=>simp only[hT x (by simp[ho,Op.operands]),hT ix (by simp[ho,Op.operands])]
 |binOp op t x y yt=>
  have hx:=hT x (by simp[ho,Op.operands]);have hy:=hT y (by simp[ho,Op.operands]);simp only[I5,hx,hy]
 |call c=>
  obtain⟨callee,args,tys⟩:=c;simp only[I5];cases callee with
  |value f=>rfl
  |invoke r n=>rfl
  |builtin b=>
   have mem:∀x∈args.toList,x∈o.op.operands.toList:=by
    intro x hx;rw[ho];simp[Op.operands,Call.operands];simpa using hx
   cases b with
   |delete=>
    cases h1:args.toList with
    |nil=>rfl
    |cons x r=>
     cases r with
     |nil=>cases tys.toList<;>rfl
     |cons y r=>
      cases r with
      |cons _ _=>cases tys.toList<;>rfl
      |nil=>
       cases h2:tys.toList with
       |nil=>rfl
       |cons t r=>
        cases r with
        |nil=>rfl
        |cons t' r=>
         cases r with
         |cons _ _=>rfl
         |nil=>
          have hx:=mem x (by rw[h1];simp);have hy:=mem y (by rw[h1];simp);simp only[<-hT x hx,<-hT y hy,MJ (hm x hx)]
   |_=>rfl
 |_=>exact I5
theorem VO(h:MB o T T' m m'):kG P m T o=kG P m' T' o:=by
 obtain⟨hT,hm⟩:=h;unfold kG;cases ho:o.op with
 |call c=>
  obtain⟨callee,args,tys⟩:=c;simp only;cases callee with
  |value f=>rfl
  |invoke r n=>rfl
  |builtin b=>
   have mem:∀x∈args.toList,x∈o.op.operands.toList:=by
    intro x hx;rw[ho];simp[Op.operands,Call.operands];simpa using hx
   cases b with
   |append=>
    cases h1:args.toList with
    |nil=>rfl
    |cons x r=>
     cases r with
     |nil=>cases tys.toList<;>rfl
     |cons y r=>
      cases r with
      |cons _ _=>cases tys.toList<;>rfl
      |nil=>
       cases h2:tys.toList with
       |nil=>rfl
       |cons t r=>
        cases r with
        |nil=>rfl
        |cons t' r=>
         cases r with
         |cons _ _=>rfl
         |nil=>
          have hx:=mem x (by rw[h1];simp);have hy:=mem y (by rw[h1];simp);simp only[<-hT x hx,<-hT y hy,<-pZ (hm y hy),<-GV (hm y hy)]
   |_=>rfl
 |_=>rfl
theorem SA(h:MB o T T' m m')(hd:m d=m' d):qI P m T d o=qI P m' T' d o:=by
 obtain⟨hT,hm⟩:=h;unfold qI;cases ho:o.op with
 |convert s t x=>
  have e1:=hT x (by simp[ho,Op.operands]);have e2:=pZ (hm x (by simp[ho,Op.operands]));simp only[<-e1];unfold vG;rw[e2]
 |_=>rfl
theorem VN(h:MB o T T' m m')(hd:m d=m' d)(hs:shallow o=true):kT P m T d o=kT P m' T' d o:=by
 unfold kT;rw[VO h,VJ h hd hs,SA h hd]
theorem aEO(h:aEN P T o=some v)(m:Mem):jZ P m T d o=some (true,v,[]):=by
 unfold aEN at h;unfold jZ;cases ho:o.op with
 |move x=>simp only[ho,aA]at h;subst h;simp[j9,ho]
 |assign x=>simp only[ho,aA]at h;subst h;simp[j9,ho]
 |pick c a b=>
  simp only[ho]at h;simp only[j9,ho];split at h
  ·rename_i t ht;simp only[aA]at h;subst h;rw[ht]
  ·cases h
 |binOp op t x y yt=>
  simp only[ho]at h;simp only[j9,ho];split at h
  ·rename_i k p k' q h1 h2;split at h
   ·rename_i c hc;simp only[aA]at h;subst h;simp only[xZ,h1,h2,hc,dF]
   ·cases h
  ·cases h
 |unOp op t x=>
  simp only[ho]at h;simp only[j9,ho];split at h
  ·rename_i v' u hu;simp only[aA]at h;subst h;have:u=[]:=by
    unfold NF at hu;split at hu<;>simp at hu
    ·exact hu.2
    ·exact hu.2.2
   rw[hu,this]
  ·cases h
 |extract x i=>
  simp only[ho]at h;simp only[j9,ho];split at h
  ·rename_i l hl;cases hb:Nat.blt i l.length with
   |true=>
    rw[hb]at h;simp only[cond_true,aA]at h;subst h;rw[hl];have:i<l.length:=by simpa [rR]using hb
    simp[this]
   |false=>rw[hb]at h;cases h
  ·cases h
 |field t x f=>
  simp only[ho]at h;simp only[j9,ho];split at h
  ·rename_i v' u hu;simp only[aA]at h;subst h;have:u=[]:=by
    unfold uF at hu;split at hu
    ·split at hu<;>simp at hu<;>exact hu.2.2
    ·split at hu<;>simp at hu<;>exact hu.2.2
    ·cases hu
   subst this;exact hu
  ·cases h
 |_=>simp[ho]at h
end

inductive Mr where
 |ret
 |sE(v:A)
 |rcv(v:A)
abbrev aLJ:=Ex->(Nat->A)->Mem->List DA->Mr->Prop
section
variable{P:Program}{n:Nat}{T:Nat->A}{m:Mem}{ds:List DA}{md:Mr}{Post:aLJ}
end
section
variable{P:Program}{fn:Func}{T:Nat->A}{m mf:Mem}{ds:List DA}{md:Md}{r:Rt}
end

section
variable{P:Program}{M0 S0:Nat->Prop}{w0:World}{N:Fr}{T:Nat->A}{m m':Mem}{ρ:Nat->Value}{a:Act}{w:World}{o:Oper}{M:Nat->Prop}
end
section
variable{P:Program}{M0 S0:Nat->Prop}{w0:World}{N:Fr}{T:Nat->A}{m m':Mem}{ρ:Nat->Value}{a:Act}{w:World}{o:Oper}{M:Nat->Prop}
end
section
variable{P:Program}{M0 S0:Nat->Prop}{w0:World}{N:Fr}{T:Nat->A}{m m':Mem}{ρ:Nat->Value}{a:Act}{w:World}{o:Oper}{M:Nat->Prop}
end
section
variable{M0 S0:Nat->Prop}{w0:World}{N:Fr}{P:Program}{ops:Array Oper}{TX:(Nat->Bool)->Nat->A}{MX:(Nat->Bool)->Mem}{m:Mem}{ρ:Nat->Value}
theorem V7{h:Value}{fz:Bool}{kv kv':List (Ky×A)}{st:List (Ky×Nat)}(hp:kv.Perm kv')(hr:R.Ok w M m ρ h (.mp fz kv st)):R.Ok w M m ρ h (.mp fz kv' []):=by
 obtain⟨b,es,cl,l,e,h1,h2,h3,h4,h5⟩:=hr;obtain⟨z,hz⟩:=aD5 h2 h3;have hz':MZ w M m ρ es cl kv' z:={hz with perm:=hz.perm.trans hp};obtain⟨l',k1,k2⟩:=aI9 hz';exact⟨b,es,cl,l',e,h1,k1,k2,h4,λp hp=>by simp at hp⟩
theorem bC.aH8{m1:Mem}{fz:Bool}{kv kv':List (Ky×A)}{st:List (Ky×Nat)}(h:bC M0 S0 w0 N T (aX m1 d (.mp fz kv st)) ρ a w)(hp:kv.Perm kv'):
 bC M0 S0 w0 N T (aX m1 d (.mp fz kv' [])) ρ a w/\gL (aX m1 d (.mp fz kv st)) (aX m1 d (.mp fz kv' [])) ρ ρ/\∀b,dD M0 (aX m1 d (.mp fz kv' [])) ρ b->dD M0 (aX m1 d (.mp fz kv st)) ρ b:=by
 have hO:gL (aX m1 d (.mp fz kv st)) (aX m1 d (.mp fz kv' [])) ρ ρ:=by
  intro i hi;by_cases e:i=d
  ·subst e;refine⟨by simp[aX],λ_=>⟨by simp[aX],rfl,λfz' t es l q=>by simp[aX]at q⟩⟩
  ·have e1:∀r,aX m1 d r i=m1 i:=λr=>by simp[aX,e]
   rw[e1]at hi;rw[e1,e1];exact⟨hi,λhd=>⟨hd,rfl,λfz t es l q=>⟨fz,t,l,q,rfl⟩⟩⟩
 have Q2:∀b,dD M0 (aX m1 d (.mp fz kv' [])) ρ b->dD M0 (aX m1 d (.mp fz kv st)) ρ b:=by
  rintro b (e|⟨i,r,h1,h2,h3⟩)
  ·exact .inl e
  ·by_cases e:i=d
   ·subst e;simp only[aX,if_true,aA]at h1;subst h1;exact .inr ⟨i,.mp fz kv st,by simp[aX],h2,h3⟩
   ·exact .inr ⟨i,r,by simpa [aX,e]using h1,h2,h3⟩
 have aY4:∀b,dD M0 (aX m1 d (.mp fz kv' [])) ρ b->b<w.heap.size->dD M0 (aX m1 d (.mp fz kv st)) ρ b:=λb hb _=>Q2 b hb;have live:∀{i:Nat}{r:R},aX m1 d (.mp fz kv' []) i=some r->r.live=true->∃q,aX m1 d (.mp fz kv st) i=some q/\q.live=true:=by
  intro i r h1 h2;by_cases e:i=d
  ·subst e;simp only[aX,if_true,aA]at h1;subst h1;exact⟨.mp fz kv st,by simp[aX],h2⟩
  ·exact⟨r,by simpa [aX,e]using h1,h2⟩
 refine⟨?_,hO,Q2⟩
 exact{keeps:=h.keeps,size:=h.size
       defers:=λds e=>eJ (dV.refl _ w) aY4 hO _ _ (h.defers ds e)
       tmps:=λn=>A.dC (dV.refl _ w) aY4 hO _ _ (h.tmps n)
       res:=λi r hi=>by
        by_cases e:i=d
        · subst e
          simp only[aX,if_true,aA]at hi;subst hi;exact V7 hp (R.hU (dV.refl _ w) aY4 hO (λ_ _ _=>rfl) (h.res i (.mp fz kv st) (by simp[aX])))
        · exact R.hU (dV.refl _ w) aY4 hO (λ_ _ _=>rfl) (h.res i r (by simpa [aX,e]using hi))
       own:=λi r b hi hl hb=>by
        obtain⟨q,hq,qK⟩:=live hi hl;exact h.own i q b hq qK hb
       apart:=λi j r s b hi l1 hj l2 b1 b2=>by
        obtain⟨q,hq,h1⟩:=live hi l1;obtain⟨q',hq',h2⟩:=live hj l2
        exact h.apart i j q q' b hq h1 hq' h2 b1 b2}
end
end Go.Pv
