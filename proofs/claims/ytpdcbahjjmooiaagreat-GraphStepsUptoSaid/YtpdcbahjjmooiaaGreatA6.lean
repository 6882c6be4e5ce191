import Derived.Test.YtpdcbahjjmooiaaGreatA5
import Derived.Laws.StructEq
/- A program logic over the model, contracts of the functions that the law reaches: part 6. (Names and blanks were shortened by program.) -/
set_option linter.unusedVariables false
set_option linter.unusedSimpArgs false
set_option linter.constructorNameAsVariable false
set_option linter.unusedSectionVars false
set_option linter.deprecated false
set_option maxRecDepth 100000
set_option maxHeartbeats 8000000
open Go
namespace Go.Pv
open Go.RowKit
variable{t:TypeId}{k:Ky}{v:Value}{b cl:Nat}{M:Nat->Prop}{kv:List (Ky×A)}
def KC.same:KC->KC->Bool
 |.int k _,.int k' _=>decide (k=k')
 |.bool _,.bool _=>true
 |.str _,.str _=>true
 |_,_=>false
def KC.fits(P:Program)(t:TypeId):KC->Bool
 |.int _ _=>match P.underlying t with
  |some (.int _)=>true
  |_=>false
 |.bool _=>IH P t
 |.str _=>yJ P t
def s5(P:Program)(sub:TypeId->List KC->Bool):List Field->Nat->List KC->Bool
 |[],_,[]=>true
 |[],_,_::_=>false
 |f::fs,i,l=>decide (f.offset=i)&&(decide (f.name≠ "_")&&(match oP P f.type with
  |some false=>(match l with
   |c::r=>c.fits P f.type&&s5 P sub fs (i+1) r
   |[]=>false)
  |some true=>decide (0<P.cellsOf f.type/\P.cellsOf f.type<=l.length)&&(sub f.type (l.take (P.cellsOf f.type))&&s5 P sub fs (i+P.cellsOf f.type) (l.drop (P.cellsOf f.type)))
  |none=>false))
def qE(P:Program):Nat->TypeId->List KC->Bool
 |0,_,_=>false
 |n+1,t,l=>match P.underlying t with
  |some (.struct fs)=> !P.stoodInHeld t&&s5 P (qE P n) fs.toList 0 l
  |_=>false
def KC.mC:List KC->List KC->Bool
 |[],[]=>true
 |a::r,b::s=>a.same b&&KC.mC r s
 |_,_=>false
def Ky.fits(P:Program)(t:TypeId):Ky->Bool
 |.one c=>c.fits P t
 |.agg l=>qE P 4 t l
def Ky.same:Ky->Ky->Bool
 |.one a,.one b=>a.same b
 |.agg a,.agg b=>KC.mC a b
 |_,_=>false
theorem UE:∀{a b:List KC},KC.mC a b=true->a.length=b.length
 |[],[],_=>rfl
 |a::r,b::s,h=>by simp only[KC.mC,aE]at h;simp[UE h.2]
 |[],_::_,h=>by simp[KC.mC]at h
 |_::_,[],h=>by simp[KC.mC]at h
section
variable{P:Program}{w:World}
theorem bytes_beq(a b:ByteArray):(a.toList==b.toList)=decide (a=b):=by
 apply jT.2;simp only[beq_iff_eq,decide_eq_true_eq]
 exact⟨λe=>by
  have e1:a.data.toList=b.data.toList:=by simpa [ByteArray.toList_eq]using e
  cases a;cases b;simp at e1;simp[e1],λe=>by rw[e]⟩
theorem UB(d:Nat){t:TypeId}{a b:KC}(hf:a.fits P t=true)(hs:a.same b=true):(Op.equalIn (d+1) t a.val b.val).run P w=.ok (decide (a=b)) w:=by
 cases a<;>cases b<;>simp only[KC.same]at hs<;>(try cases hs)
 ·rename_i k n k' n';have hs:=of_decide_eq_true hs;subst hs;unfold KC.fits at hf;simp only at hf;split at hf
  ·rename_i k2 hu;simp only[KC.val,run_equalIn_int w d t k k2 n n' hu];simp;exact jT.2 (by simp)
  ·cases hf
 ·rename_i x y;simp only[KC.val,run_equalIn_bool' w d t x y (uK hf)];cases x<;>cases y<;>rfl
 ·rename_i x y;simp only[KC.val,run_equalIn_string w d t x y (oB hf),bytes_beq];simp
theorem LH:∀{a b:List KC}(n:Nat),KC.mC a b=true->KC.mC (a.take n) (b.take n)=true
 |_,_,0,_=>by simp[KC.mC]
 |[],[],_+1,_=>by simp[KC.mC]
 |a::r,b::s,n+1,h=>by
  simp only[KC.mC,aE]at h;simp only[cC,KC.mC,h.1,LH n h.2,Bool.and_self]
 |[],_::_,_,h=>by simp[KC.mC]at h
 |_::_,[],_,h=>by simp[KC.mC]at h
theorem LG:∀{a b:List KC}(n:Nat),KC.mC a b=true->KC.mC (a.drop n) (b.drop n)=true
 |_,_,0,h=>by simpa using h
 |[],[],_+1,_=>by simp[KC.mC]
 |a::r,b::s,n+1,h=>by
  simp only[KC.mC,aE]at h;simpa using LG n h.2
 |[],_::_,_,h=>by simp[KC.mC]at h
 |_::_,[],_,h=>by simp[KC.mC]at h
theorem yF{xs:Array Value}{a:List KC}{i n:Nat}(hx:∀j c,a[j]?=some c->xs[i+j]?=some c.val)(hn:n<=a.length):xs.extract i (i+n)=((a.take n).map KC.val).toArray:=by
 apply Array.ext_getElem?;intro j;rw[Array.getElem?_extract];simp only[mZ,cK,cM];by_cases hj:j<n
 ·have hj2:j<a.length:=by omega
  have h1:=hx j a[j] (aC hj2);have h2:i+j<xs.size:=(aL.1 h1).1;have h3:i+(a.length -1)<xs.size:=by
   have:=hx (a.length -1) _ (aC (by omega));exact(aL.1 this).1
  rw[if_pos (by omega),if_pos hj,h1,aC hj2];rfl
 ·rw[if_neg (by omega),if_neg hj];rfl
theorem TU{f:TypeId}{cs:Array Value}{off:Nat}(h:oP P f=some true)(hp:0<P.cellsOf f):(part f cs off).run P w=.ok (.agg (cs.extract off (off+P.cellsOf f))) w:=by
 obtain⟨inf,hi⟩:=sA hp;have he:P.cellsOf f=inf.size:=by simp[Program.cellsOf,hi]
 simp only[part,aV,lV h,aN,if_true,run_sizeOf hi,cB,he]
theorem R3(a b:List KC)(n:Nat):decide (a=b)=(decide (a.take n=b.take n)&&decide (a.drop n=b.drop n)):=by
 apply jT.2;simp only[decide_eq_true_eq,aE];constructor
 ·rintro rfl;exact⟨rfl,rfl⟩
 ·rintro⟨h1,h2⟩;rw[<-gJ n a,h1,h2,gJ]
theorem C0(d:Nat)(xs ys:Array Value)(sub:TypeId->List KC->Bool)(hsub:∀t a b,sub t a=true->KC.mC a b=true->(Op.equalIn (d+1) t (.agg (a.map KC.val).toArray) (.agg (b.map KC.val).toArray)).run P w=.ok (decide (a=b)) w):
 ∀(fs:List Field)(i:Nat)(a b:List KC),s5 P sub fs i a=true->KC.mC a b=true->
 (∀j c,a[j]?=some c->xs[i+j]?=some c.val)->(∀j c,b[j]?=some c->ys[i+j]?=some c.val)->(Op.eqFields (d+1) xs ys fs).run P w=.ok (decide (a=b)) w
 |[],i,[],b,hf,hs,_,_=>by
  cases b with
  |nil=>simp[Op.eqFields]
  |cons _ _=>simp[KC.mC]at hs
 |[],i,_::_,b,hf,hs,_,_=>by simp[s5]at hf
 |f::fs,i,a,b,hf,hs,hx,hy=>by
  simp only[s5,aE,decide_eq_true_eq]at hf;obtain⟨rfl,h2,h3⟩:=hf;split at h3
  ·rename_i hag;split at h3
   ·rename_i c r;simp only[aE]at h3;obtain⟨h4,h5⟩:=h3;cases b with
    |nil=>simp[KC.mC]at hs
    |cons c' r'=>
     simp only[KC.mC,aE]at hs;have hx0:=hx 0 c rfl;have hy0:=hy 0 c' rfl;simp only[iE]at hx0 hy0;have ih:=C0 d xs ys sub hsub fs (f.offset+1) r r' h5 hs.2 (λj e he=>by have:=hx (j+1) e (by simpa using he);rwa [show f.offset+(j+1)=f.offset+1+j by omega]at this) (λj e he=>by have:=hy (j+1) e (by simpa using he);rwa [show f.offset+(j+1)=f.offset+1+j by omega]at this);simp only[Op.eqFields,h2,ne_eq,not_false_eq_true,if_true,aV,part,lV hag,aN,bY,if_false,hx0,hy0,cB,UB d h4 hs.1];by_cases e:c=c'
     ·subst e;simp only[decide_true,Bool.not_true,bY,if_false,ih];simp
     ·simp[e]
   ·cases h3
  ·rename_i hag;simp only[aE]at h3;obtain⟨h4,h5,h6⟩:=h3;obtain⟨hpos,hle⟩:=of_decide_eq_true h4;have hlen:=UE hs;have ih:=C0 d xs ys sub hsub fs (f.offset+P.cellsOf f.type) (a.drop (P.cellsOf f.type)) (b.drop (P.cellsOf f.type)) h6 (LG _ hs)
    (λj e he=>by have:=hx (P.cellsOf f.type+j) e (by simpa using he);rwa [<-fP]at this) (λj e he=>by have:=hy (P.cellsOf f.type+j) e (by simpa using he);rwa [<-fP]at this)
   have hq:=hsub f.type _ _ h5 (LH (P.cellsOf f.type) hs);have ex:=yF hx hle;have ey:=yF (n:=P.cellsOf f.type) hy (by omega);simp only[Op.eqFields,h2,ne_eq,not_false_eq_true,if_true,aV,TU hag hpos,aN,ex,ey,hq];rw[R3 a b (P.cellsOf f.type)];by_cases e:a.take (P.cellsOf f.type)=b.take (P.cellsOf f.type)
   ·simp only[e,decide_true,Bool.not_true,bY,if_false,ih,cA]
   ·simp[e]
  ·cases h3
theorem OO(d:Nat):∀(dep:Nat)(t:TypeId)(a b:List KC),qE P dep t a=true->KC.mC a b=true->(Op.equalIn (d+dep+1) t (.agg (a.map KC.val).toArray) (.agg (b.map KC.val).toArray)).run P w=.ok (decide (a=b)) w
 |0,_,_,_,h,_=>by simp[qE]at h
 |dep+1,t,a,b,hf,hs=>by
  unfold qE at hf;split at hf
  ·rename_i fs hu;simp only[aE,k9]at hf;have hfo:P.fieldsOf t=fs:=by simp[Program.fieldsOf,hu]
   rw[run_equalIn_struct w (d+(dep+1)) t _ _ (by rw[hfo];exact hu) hf.1,hfo];exact C0 (d+dep) _ _ (qE P dep) (OO d dep) fs.toList 0 a b hf.2 hs (λj c h=>by simp[h]) (λj c h=>by simp[h])
  ·cases hf
theorem UW(l:List KC)(j:Nat)(c:KC)(h:l[j]?=some c):((l.map KC.val).toArray)[0+j]?=some c.val:=by
 simp[h]
theorem UC(d:Nat){t:TypeId}{a b:Ky}(hf:a.fits P t=true)(hs:a.same b=true):(Op.equalIn (d+5) t a.val b.val).run P w=.ok (decide (a=b)) w:=by
 cases a<;>cases b<;>simp only[Ky.same]at hs<;>(try cases hs)
 ·simp only[Ky.val,UB (d+4) hf hs];simp
 ·rename_i x y;simp only[Ky.val,OO d 4 t x y hf hs];simp
theorem UD{a b:Ky}(hf:a.fits P t=true)(hs:a.same b=true):(Op.equal t a.val b.val).run P w=.ok (decide (a=b)) w:=UC 9995 hf hs
theorem HR(em:Bool)(n:Nat){t:TypeId}{c:KC}(hf:c.fits P t=true):(Instr.checkKey em (n+1) t c.val).run P w=.ok () w:=by
 cases c with
 |int k x=>
  unfold KC.fits at hf;simp only at hf;split at hf
  ·rename_i k2 hu;simp[Instr.checkKey,run_underlying hu,KC.val]
  ·cases hf
 |bool x=>simp[Instr.checkKey,run_underlying (uK hf),KC.val]
 |str x=>simp[Instr.checkKey,run_underlying (oB hf),KC.val]
theorem wG(em:Bool)(n:Nat)(cs:Array Value)(sub:TypeId->List KC->Bool)(hsub:∀t a,sub t a=true->(Instr.checkKey em (n+1) t (.agg (a.map KC.val).toArray)).run P w=.ok () w):
 ∀(fs:List Field)(i:Nat)(l:List KC),s5 P sub fs i l=true->(∀j c,l[j]?=some c->cs[i+j]?=some c.val)->
 (forIn fs PUnit.unit (λf(_:PUnit)=>if f.name≠ "_" then(do let v<-part f.type cs f.offset;Instr.checkKey em (n+1) f.type v;pure (ForInStep.yield PUnit.unit))else pure (ForInStep.yield PUnit.unit)):Sem PUnit).run P w=.ok PUnit.unit w
 |[],i,[],_,_=>by simp
 |[],i,_::_,hf,_=>by simp[s5]at hf
 |f::fs,i,l,hf,hx=>by
  simp only[s5,aE,decide_eq_true_eq]at hf;obtain⟨rfl,h2,h3⟩:=hf;split at h3
  ·rename_i hag;split at h3
   ·rename_i c r;simp only[aE]at h3;obtain⟨h4,h5⟩:=h3;have hx0:=hx 0 c rfl;simp only[iE]at hx0;have ih:=wG em n cs sub hsub fs (f.offset+1) r h5 (λj e he=>by have:=hx (j+1) e (by simpa using he);rwa [show f.offset+(j+1)=f.offset+1+j by omega]at this);simp only[List.forIn_cons,h2,ne_eq,not_false_eq_true,if_true,aV,part,lV hag,aN,bY,if_false,hx0,cB,HR em n h4];exact ih
   ·cases h3
  ·rename_i hag;simp only[aE]at h3;obtain⟨h4,h5,h6⟩:=h3;obtain⟨hpos,hle⟩:=of_decide_eq_true h4;have ih:=wG em n cs sub hsub fs (f.offset+P.cellsOf f.type) (l.drop (P.cellsOf f.type)) h6 (λj e he=>by have:=hx (P.cellsOf f.type+j) e (by simpa using he);rwa [<-fP]at this);simp only[List.forIn_cons,h2,ne_eq,not_false_eq_true,if_true,aV,TU hag hpos,aN,yF hx hle,hsub _ _ h5,cB];exact ih
  ·cases h3
theorem ES(em:Bool)(n:Nat):∀(dep:Nat)(t:TypeId)(l:List KC),qE P dep t l=true->(Instr.checkKey em (n+dep+1) t (.agg (l.map KC.val).toArray)).run P w=.ok () w
 |0,_,_,h=>by simp[qE]at h
 |dep+1,t,l,hf=>by
  unfold qE at hf;split at hf
  ·rename_i fs hu;simp only[aE,k9]at hf;have:=wG (w:=w) em (n+dep) (l.map KC.val).toArray (qE P dep) (ES em n dep) fs.toList 0 l hf.2 (UW l);rw[Instr.checkKey];simp only[aV,run_underlying hu,aN];rw[<-Array.forIn_toList];rw[show n+(dep+1)=n+dep+1 by omega];simp only[this,aN,cB]
  ·cases hf
theorem mA(em:Bool)(n:Nat){t:TypeId}{k:Ky}(hf:k.fits P t=true):(Instr.checkKey em (n+5) t k.val).run P w=.ok () w:=by
 cases k with
 |one c=>exact HR em (n+4) hf
 |agg l=>exact ES em n 4 t l hf
def pT(k:Ky):List (Ky×MapEntry)->Nat->Option (Nat×Value)
 |[],_=>none
 |p::r,i=>if k=p.1 then some (i,p.2.val)else pT k r (i+1)
theorem X6{t:TypeId}{k:Ky}(hf:k.fits P t=true):∀(z:List (Ky×MapEntry))(i:Nat),(∀p∈z,p.2.key=p.1.val)->(∀p∈z,k.same p.1=true)->(Instr.findAsking t k.val (z.map (·.2)) i).run P w=.ok (pT k z i) w
 |[],i,_,_=>by simp[Instr.findAsking,pT]
 |p::r,i,hk,hs=>by
  have ih:=X6 hf r (i+1) (λq hq=>hk q (by simp[hq])) (λq hq=>hs q (by simp[hq]));simp only[aG,Instr.findAsking,pT,aV,hk p (by simp),UD hf (hs p (by simp)),aN];by_cases e:k=p.1
  ·simp[e]
  ·simp[e,ih]
theorem HD{d:TypeDesc}{t:TypeId}{c:KC}(hu:P.underlying t=some d)(hf:c.fits P t=true):∀(z:List (Ky×MapEntry))(i:Nat),(∀p∈z,p.2.key=p.1.val)->(∀p∈z,(Ky.one c).same p.1=true)->Instr.findNow d c.val (z.map (·.2)) i=some (pT (.one c) z i)
 |[],i,_,_=>by simp[Instr.findNow,pT]
 |p::r,i,hk,hs=>by
  have ih:=HD hu hf r (i+1) (λq hq=>hk q (by simp[hq])) (λq hq=>hs q (by simp[hq]));have hsp:=hs p (by simp);simp only[aG,Instr.findNow,pT,hk p (by simp)];cases hp:p.1 with
  |agg l=>rw[hp]at hsp;simp[Ky.same]at hsp
  |one c'=>
   rw[hp]at hsp;simp only[Ky.same]at hsp;have key:Instr.sameNow d c.val c'.val=some (decide (c=c')):=by
    cases c<;>cases c'<;>simp only[KC.same]at hsp<;>(try cases hsp)
    ·rename_i k n k' n';have:=of_decide_eq_true hsp;subst this;unfold KC.fits at hf;simp only at hf;split at hf
     ·rename_i k2 hu2;rw[hu]at hu2;simp at hu2;subst hu2;simp[Instr.sameNow,KC.val];exact jT.2 (by simp)
     ·cases hf
    ·rename_i x y;have:=uK hf;rw[hu]at this;simp at this;subst this;cases x<;>cases y<;>rfl
    ·rename_i x y;have:=oB hf;rw[hu]at this;simp at this;subst this;simp only[Instr.sameNow,KC.val,beq_toListBytes,bytes_beq];simp
   simp only[Ky.val,key,Ky.one.injEq];by_cases e:c=c'
   ·simp[e]
   ·simp only[e,decide_false,if_false];exact ih
theorem LF(hf:k.fits P t=true)(z:List (Ky×MapEntry))(hk:∀p∈z,p.2.key=p.1.val)(hs:∀p∈z,k.same p.1=true):(Instr.findKey t k.val (z.map (·.2))).run P w=.ok (pT k z 0) w:=by
 cases k with
 |one c=>
  have hd:∃d,P.underlying t=some d:=by
   cases c with
   |int k n=>unfold Ky.fits KC.fits at hf;simp only at hf;split at hf
             ·exact⟨_,by assumption⟩
             ·cases hf
   |bool b=>exact⟨_,uK hf⟩
   |str b=>exact⟨_,oB hf⟩
  obtain⟨d,hu⟩:=hd;simp only[Instr.findKey,aV,run_underlying hu,aN,Ky.val,HD hu hf z 0 hk hs,cB]
 |agg l=>
  have hu:∃fs,P.underlying t=some (.struct fs):=by
   unfold Ky.fits qE at hf;simp only at hf;split at hf
   ·exact⟨_,by assumption⟩
   ·cases hf
  obtain⟨fs,hu⟩:=hu;cases z with
  |nil=>simp[Instr.findKey,run_underlying hu,Instr.findNow,pT]
  |cons p r=>
   have hn:Instr.findNow (.struct fs) (Ky.agg l).val ((p::r).map (·.2)) 0=none:=by
    simp only[aG,Instr.findNow];rfl
   simp only[Instr.findKey,aV,run_underlying hu,aN,hn];exact X6 hf (p::r) 0 hk hs
end
theorem yR{α β:Type}{f:α->β}{l1 l:List β}(h:l1.Perm l):∀{l2:List α},l=l2.map f->∃l2':List α,l2'.Perm l2/\l1=l2'.map f:=by
 induction h with
 |nil=>
  intro l2 e;cases l2 with
  |nil=>exact⟨[],.nil,rfl⟩
  |cons a r=>simp at e
 |cons x h ih=>
  intro l2 e;cases l2 with
  |nil=>simp at e
  |cons a r=>
   simp at e;obtain⟨l',h1,h2⟩:=ih e.2;exact⟨a::l',h1.cons a,by simp[e.1,h2]⟩
 |swap x y l=>
  intro l2 e;cases l2 with
  |nil=>simp at e
  |cons a r=>
   cases r with
   |nil=>simp at e
   |cons b r=>
    simp at e;obtain⟨rfl,rfl,rfl⟩:=e;exact⟨b::a::r,.swap _ _ _,rfl⟩
 |trans h1 h2 ih1 ih2=>
  intro l2 e;obtain⟨l',g1,g2⟩:=ih2 e;obtain⟨l'',g3,g4⟩:=ih1 g2;exact⟨l'',g3.trans g1,g4⟩
structure MZ(w:World)(M:Nat->Prop)(m:Mem)(ρ:Nat->Value)(es:Array MapEntry)(clock:Nat)(kv:List (Ky×A))(z:List ((Ky×A)×MapEntry)):Prop where
 toList:es.toList=z.map (·.2)
 perm:(z.map (·.1)).Perm kv
 key:∀p∈z,p.2.key=p.1.1.val
 den:∀p∈z,A.Den w M m ρ p.1.2 p.2.val
 nodup:(z.map (·.1.1)).Nodup
 born:(z.map (·.2.born)).Nodup
 old:∀p∈z,p.2.born<clock
section
variable{w:World}{M:Nat->Prop}{m:Mem}{ρ:Nat->Value}{es:Array MapEntry}{clock:Nat}{kv:List (Ky×A)}
theorem IU{α β:Type}:∀{l:List α}{r:List β},l.length=r.length->(l.zip r).map (·.1)=l
 |[],[],_=>rfl
 |a::l,b::r,h=>by simp at h;simp[IU h]
 |[],_::_,h=>by simp at h
 |_::_,[],h=>by simp at h
theorem IV{α β:Type}:∀{l:List α}{r:List β},l.length=r.length->(l.zip r).map (·.2)=r
 |[],[],_=>rfl
 |a::l,b::r,h=>by simp at h;simp[IV h]
 |[],_::_,h=>by simp at h
 |_::_,[],h=>by simp at h
theorem aD5{l:List MapEntry}(h:M4 es clock (kv.map (·.1)) l)(hd:A.bR w M m ρ (kv.map (·.2)) (l.map (·.val))):∃z,MZ w M m ρ es clock kv z:=by
 have hlen:kv.length=l.length:=by have:=congrArg List.length h.keys;simpa using this.symm
 obtain⟨z,h1,h2⟩:=yR (f:=λp:(Ky×A)×MapEntry=>p.2) h.perm (IV hlen).symm;have hz:∀p∈z,∃j:Nat,kv[j]?=some p.1/\l[j]?=some p.2:=by
  intro p hp;have:=h1.mem_iff.1 hp;obtain⟨j,hj,e⟩:=dH.1 this;refine⟨j,?_,?_⟩
  ·have:(kv.zip l)[j]?=some p:=by rw[aC hj,e]
   rw[oH]at this;exact this.1
  ·have:(kv.zip l)[j]?=some p:=by rw[aC hj,e]
   rw[oH]at this;exact this.2
 rw[A.c9]at hd;refine⟨z,h2,?_,λp hp=>?_,λp hp=>?_,?_,?_,λp hp=>?_⟩
 ·have:=h1.map (·.1);rwa [IU hlen]at this
 ·obtain⟨j,e1,e2⟩:=hz p hp;have e3:(l.map (·.key))[j]?=some p.2.key:=by simp[e2]
  rw[h.keys]at e3;simp[e1]at e3;exact e3.symm
 ·obtain⟨j,e1,e2⟩:=hz p hp;exact hd.2 j _ _ (by simp[e1]) (by simp[e2])
 ·have:(z.map (·.1.1)).Perm (kv.map (·.1)):=by
   have:=(h1.map (·.1)).map (·.1);rw[IU hlen,bH]at this;exact this
  exact(this.nodup_iff).2 h.nodup
 ·have:(z.map (·.2.born)).Perm (l.map (·.born)):=by
   have:=(h1.map (·.2)).map (·.born);rw[IV hlen,bH]at this;exact this
  exact(this.nodup_iff).2 h.born
 ·obtain⟨j,e1,e2⟩:=hz p hp;exact h.old _ (c6 e2)
theorem aI9{z:List ((Ky×A)×MapEntry)}(h:MZ w M m ρ es clock kv z):∃l,M4 es clock (kv.map (·.1)) l/\A.bR w M m ρ (kv.map (·.2)) (l.map (·.val)):=by
 obtain⟨z',h1,h2⟩:=yR (f:=λp:(Ky×A)×MapEntry=>p.1) h.perm.symm rfl;refine⟨z'.map (·.2),⟨?_,?_,?_,?_,?_⟩,?_⟩
 ·rw[h.toList];exact(h1.map _).symm
 ·rw[h2,bH,bH,bH];exact cQ λp hp=>h.key p (h1.mem_iff.1 hp)
 ·rw[h2,bH];exact((h1.map (·.1.1)).nodup_iff).2 h.nodup
 ·rw[bH];exact((h1.map (·.2.born)).nodup_iff).2 h.born
 ·intro e he;obtain⟨p,hp,rfl⟩:=aM.1 he;exact h.old p (h1.mem_iff.1 hp)
 ·rw[A.c9];refine⟨by simp[h2],λj c y hc hy=>?_⟩;rw[h2]at hc;simp only[bH,cK,bU]at hc hy;obtain⟨p,hp,rfl⟩:=hc;obtain⟨q,hq,rfl⟩:=hy;rw[hp]at hq;cases hq;exact h.den p (h1.mem_iff.1 (c6 hp))
def fL(k:Ky):List (Ky×A)->Option A
 |[]=>none
 |p::r=>if k=p.1 then some p.2 else fL k r
theorem CP{k:Ky}{a:A}:∀{kv:List (Ky×A)},fL k kv=some a->(k,a)∈kv
 |[],h=>by simp[fL]at h
 |p::r,h=>by
  simp only[fL]at h;split at h
  ·rename_i e;simp at h;subst h;subst e;simp
  ·simp[CP h]
theorem uM{k:Ky}:∀{kv:List (Ky×A)},fL k kv=none->∀p∈kv,k≠p.1
 |[],_,p,hp=>by simp at hp
 |q::r,h,p,hp=>by
  simp only[fL]at h;split at h
  ·cases h
  ·rename_i e;simp only[aO]at hp;rcases hp with rfl|hp
   ·exact e
   ·exact uM h p hp
theorem CH{k:Ky}:∀{z:List ((Ky×A)×MapEntry)}{i n:Nat}{v:Value},pT k (z.map λp=>(p.1.1,p.2)) n=some (i,v)->∃p,z[i -n]?=some p/\n<=i/\p.1.1=k/\v=p.2.val
 |[],i,n,v,h=>by simp[pT]at h
 |p::r,i,n,v,h=>by
  simp only[aG,pT]at h;split at h
  ·rename_i e;simp at h;obtain⟨rfl,rfl⟩:=h;exact⟨p,by simp,bT _,e.symm,rfl⟩
  ·obtain⟨q,h1,h2,h3,h4⟩:=CH h;refine⟨q,?_,by omega,h3,h4⟩;rw[show i -n=(i -(n+1))+1 by omega];simpa using h1
theorem uI{k:Ky}:∀{z:List ((Ky×A)×MapEntry)}{n:Nat},pT k (z.map λp=>(p.1.1,p.2)) n=none->∀p∈z,k≠p.1.1
 |[],n,_,p,hp=>by simp at hp
 |q::r,n,h,p,hp=>by
  simp only[aG,pT]at h;split at h
  ·cases h
  ·rename_i e;simp only[aO]at hp;rcases hp with rfl|hp
   ·exact e
   ·exact uI h p hp
theorem MZ.find{z:List ((Ky×A)×MapEntry)}(h:MZ w M m ρ es clock kv z)(k:Ky):
 (pT k (z.map λp=>(p.1.1,p.2)) 0=none/\fL k kv=none)\/∃i p,pT k (z.map λp=>(p.1.1,p.2)) 0=some (i,p.2.val)/\z[i]?=some p/\p.1.1=k/\fL k kv=some p.1.2:=by
 cases hf:pT k (z.map λp=>(p.1.1,p.2)) 0 with
 |none=>
  left;refine⟨rfl,?_⟩;cases hg:fL k kv with
  |none=>rfl
  |some a=>
   have:=h.perm.mem_iff.2 (CP hg);obtain⟨p,hp,e⟩:=aM.1 this;exact absurd (by rw[e]) (uI hf p hp)
 |some r=>
  right;obtain⟨i,v⟩:=r;obtain⟨p,h1,_,h2,rfl⟩:=CH hf;refine⟨i,p,rfl,by simpa using h1,h2,?_⟩;have hm:p.1∈kv:=h.perm.mem_iff.1 (aM.2 ⟨p,c6 h1,rfl⟩);have hnd:(kv.map (·.1)).Nodup:=by
   have:=(h.perm.map (·.1)).nodup_iff;rw[bH]at this;exact this.1 h.nodup
  subst h2;cases hg:fL p.1.1 kv with
  |none=>exact absurd rfl (uM hg p.1 hm)
  |some a=>
   have h3:=CP hg;have:∀{kv:List (Ky×A)}{k:Ky}{a b:A},(kv.map (·.1)).Nodup->(k,a)∈kv->(k,b)∈kv->a=b:=by
    intro kv k a b;induction kv with
    |nil=>simp
    |cons q r ih=>
     intro hn h1 h2;simp only[aG,gR,aM]at hn;simp only[aO]at h1 h2;rcases h1 with h1|h1<;>rcases h2 with h2|h2
     ·rw[<-h1]at h2;cases h2;rfl
     ·exact absurd ⟨(k,b),h2,by rw[<-h1]⟩ hn.1
     ·exact absurd ⟨(k,a),h1,by rw[<-h2]⟩ hn.1
     ·exact ih hn.2 h1 h2
   rw[this hnd h3 hm]
end
def aHN:Value->Option KC
 |.int k n=>some (.int k n)
 |.bool b=>some (.bool b)
 |.string s=>some (.str s)
 |_=>none
theorem TD{c:KC}(h:aHN v=some c):v=c.val:=by
 cases v<;>simp[aHN]at h<;>(subst h;rfl)
def kcC:C->Option KC
 |.v x=>aHN x
 |_=>none
def kcA:A->Option KC
 |.d c=>kcC c
 |_=>none
def aDV:List C->Option (List KC)
 |[]=>some []
 |c::r=>match kcC c,aDV r with
  |some k,some l=>some (k::l)
  |_,_=>none
def aDU:List A->Option (List KC)
 |[]=>some []
 |c::r=>match kcA c,aDU r with
  |some k,some l=>some (k::l)
  |_,_=>none
def keyOf:A->Option Ky
 |.d (.v v)=>(aHN v).map .one
 |.d (.agg l)=>(aDV l).map .agg
 |.agg l=>(aDU l).map .agg
 |_=>none
section
variable{w:World}{M:Nat->Prop}{m:Mem}{ρ:Nat->Value}
theorem YH{c:C}{k:KC}{y:Value}(h:kcC c=some k)(hd:c.Den w M y):y=k.val:=by
 cases c<;>simp[kcC]at h
 simp only[C.Den]at hd;rw[hd];exact TD h
theorem aHM{c:A}{k:KC}{y:Value}(h:kcA c=some k)(hd:c.Den w M m ρ y):y=k.val:=by
 cases c<;>simp[kcA]at h
 simp only[A.Den]at hd;exact YH h hd
theorem TF:∀{l:List C}{ks:List KC}{ys:List Value},aDV l=some ks->C.bR w M l ys->ys=ks.map KC.val
 |[],ks,ys,h,hd=>by simp only[aDV,aA]at h;subst h;simpa only[C.bR,bM]using hd
 |c::r,ks,ys,h,hd=>by
  simp only[aDV]at h;split at h
  ·rename_i k l h1 h2;simp only[aA]at h;subst h;simp only[C.bR]at hd;obtain⟨y,yr,rfl,h3,h4⟩:=hd;rw[YH h1 h3,TF h2 h4];rfl
  ·cases h
theorem TE:∀{l:List A}{ks:List KC}{ys:List Value},aDU l=some ks->A.bR w M m ρ l ys->ys=ks.map KC.val
 |[],ks,ys,h,hd=>by simp only[aDU,aA]at h;subst h;simpa only[A.bR,bM]using hd
 |c::r,ks,ys,h,hd=>by
  simp only[aDU]at h;split at h
  ·rename_i k l h1 h2;simp only[aA]at h;subst h;simp only[A.bR]at hd;obtain⟨y,yr,rfl,h3,h4⟩:=hd;rw[aHM h1 h3,TE h2 h4];rfl
  ·cases h
theorem rF{x:A}{y:Value}(h:keyOf x=some k)(hd:x.Den w M m ρ y):y=k.val:=by
 cases x with
 |d c=>
  cases c with
  |v v=>
   simp only[keyOf,bU]at h;obtain⟨c,h1,rfl⟩:=h;simp only[A.Den,C.Den]at hd;rw[hd];exact TD h1
  |agg l=>
   simp only[keyOf,bU]at h;obtain⟨c,h1,rfl⟩:=h;simp only[A.Den,C.Den]at hd;obtain⟨vs,rfl,_,h2⟩:=hd;have:=TF h1 h2;simp only[Ky.val];rw[<-this]
  |_=>simp[keyOf]at h
 |agg l=>
  simp only[keyOf,bU]at h;obtain⟨c,h1,rfl⟩:=h;simp only[A.Den]at hd;obtain⟨vs,rfl,_,h2⟩:=hd;have:=TE h1 h2;simp only[Ky.val];rw[<-this]
 |_=>simp[keyOf]at h
end
def U2(P:Program)(t:TypeId):Option A:=
 match P.info? t with
 |some i=>match i.zero with
  |some (.agg _)=>(o5 P t).map λz=>.d (.agg z)
  |some _=>match o5 P t with
   |some [c]=>some (.d c)
   |_=>none
  |none=>none
 |none=>none
theorem O5{P:Program}{a:A}(h:U2 P t=some a)(w:World):∃v,(zeroValue t).run P w=.ok v w/\∀w M m ρ,a.Den w M m ρ v:=by
 unfold U2 at h;split at h
 ·rename_i i hi;split at h
  ·rename_i cs hz;simp only[bU]at h;obtain⟨z,h1,rfl⟩:=h;obtain⟨zv,h2,h3,⟨i',h4,h5⟩,h6⟩:=qA h1 w;rw[hi]at h4;cases h4;rw[hz]at h5;cases h5;exact⟨_,h2,λw M m ρ=>by simp only[A.Den,C.Den];exact⟨cs,rfl,h6,h3 w M⟩⟩
  ·rename_i v hne hz;split at h
   ·rename_i c h1;simp only[aA]at h;subst h;obtain⟨zv,h2,h3,⟨i',h4,h5⟩,h6⟩:=qA h1 w;rw[hi]at h4;cases h4;rw[hz]at h5;cases h5;refine⟨_,h2,λw M m ρ=>?_⟩;have h7:=h3 w M;have hc:v.cells= #[v]:=by cases v<;>first|rfl|exact(hne _ rfl).elim
    rw[hc]at h7;simp only[C.bR]at h7;obtain⟨y,yr,e,h8,_⟩:=h7;simp at e;simp only[A.Den];rw[e.1];exact h8
   ·cases h
  ·cases h
 ·cases h
def CR(P:Program)(t:TypeId):Option (TypeId×TypeId):=
 match P.underlying t with
 |some (.map k e)=>some (k,e)
 |_=>none
theorem vO{P:Program}{k e:TypeId}(h:CR P t=some (k,e)):P.underlying t=some (.map k e):=by
 unfold CR at h;split at h
 ·rename_i hu;simp at h;obtain⟨rfl,rfl⟩:=h;exact hu
 ·cases h
def kH(P:Program)(kt:TypeId)(k:Ky)(kv:List (Ky×A)):Bool:=k.fits P kt&&kv.all λp=>k.same p.1
def QK(ok:Bool)(a:A)(b:Bool):A:=if ok then .eL [a,.d (.v (.bool b))]else a
def lO(P:Program)(m:Mem)(t:TypeId)(x ix:A)(ok:Bool):Option E:=
 match CR P t,keyOf ix with
 |some (kt,et),some k=>match U2 P et with
  |some z=>match x with
   |.h i=>match m i with
    |some (.mp _ kv _)=>match fL k kv with
     |some a=>some (kH P kt k kv,QK ok a true,[])
     |none=>some (kH P kt k kv,QK ok z false,[])
    |_=>none
   |.d (.im ks vs)=>match fL k (ks.zip (vs.map A.d))with
    |some a=>some (kH P kt k (ks.zip (vs.map A.d)),QK ok a true,[])
    |none=>some (kH P kt k (ks.zip (vs.map A.d)),QK ok z false,[])
   |.d (.v (.map none))=>some (k.fits P kt,QK ok z false,[])
   |_=>none
  |none=>none
 |_,_=>none
def mW(P:Program)(m:Mem)(t:TypeId)(x ix a:A):Option E:=
 match CR P t,keyOf ix,x with
 |some (kt,_),some k,.h i=>match m i with
  |some (.mp false kv st)=>match fL k kv with
   |some _=>some (kH P kt k kv,.x,[(i,.mp false (kv.map λp=>if p.1=k then(k,a)else p) st)])
   |none=>some (kH P kt k kv,.x,[(i,.mp false (kv++[(k,a)]) (st.filter λp=>p.1 !=k&&p.1 !=.agg []))])
  |_=>none
 |_,_,_=>none
def tL(P:Program)(m:Mem)(t:TypeId)(x ix:A):Option E:=
 match CR P t,keyOf ix,x with
 |some (kt,_),some k,.h i=>match m i with
  |some (.mp false kv st)=>some (kH P kt k kv,.eL [],[(i,.mp false (kv.filter λp=>p.1 !=k) (st.filter λp=>p.1 !=k))])
  |_=>none
 |some (kt,_),some k,.d (.v (.map none))=>some (k.fits P kt,.eL [],[])
 |_,_,_=>none
section
variable{M0 S0:Nat->Prop}{w0:World}{N:Fr}{T:Nat->A}{m:Mem}{ρ:Nat->Value}{a:Act}{w:World}{P:Program}
theorem jS{es:Array MapEntry}(h:w.heap[b]?=some (.map es cl)):(getObj b).run P w=.ok (.map es cl) w:=by
 simp[getObj,Sem.run,h]
theorem HO(h:bC M0 S0 w0 N T m ρ a w){i:Nat}{fz:Bool}{kv:List (Ky×A)}{st:List (Ky×Nat)}(hi:m i=some (.mp fz kv st)):
 ∃b es cl z,ρ i=.map (some b)/\w.heap[b]?=some (.map es cl)/\MZ w (dD M0 m ρ) m ρ es cl kv z/\vW m ρ st es.toList cl:=by
 obtain⟨b,es,cl,l,h1,h2,h3,h4,h5,h6⟩:=h.res i _ hi;obtain⟨z,hz⟩:=aD5 h3 h4;exact⟨b,es,cl,z,h1,h2,hz,λp hp=>⟨(h6 p hp).1,λhd=>⟨λe he=>((h6 p hp).2 hd).1 e (h3.perm.mem_iff.1 he),((h6 p hp).2 hd).2⟩⟩⟩
theorem QL{ok b:Bool}{x:A}(h:x.Den w M m ρ v):(QK ok x b).Den w M m ρ (if ok=true then .tuple #[v,.bool b]else v):=by
 unfold QK;cases ok
 ·simpa using h
 ·simp only[if_true,A.Den];exact⟨_,rfl,by simp only[A.bR,A.Den,C.Den];exact⟨v,_,rfl,h,_,_,rfl,rfl,rfl⟩⟩
theorem DQ{kt:TypeId}(h:kH P kt k kv=true){M:Nat->Prop}{es:Array MapEntry}{cl:Nat}{z:List ((Ky×A)×MapEntry)}(hz:MZ w M m ρ es cl kv z):
 k.fits P kt=true/\(Instr.findKey kt k.val es.toList).run P w=.ok (pT k (z.map λp=>(p.1.1,p.2)) 0) w:=by
 unfold kH at h;simp only[aE,cV]at h;refine⟨h.1,?_⟩
 have:=LF (P:=P) (w:=w) h.1 (z.map λp=>(p.1.1,p.2)) (λp hp=>by obtain⟨q,hq,rfl⟩:=aM.1 hp;exact hz.key q hq) (λp hp=>by
  obtain⟨q,hq,rfl⟩:=aM.1 hp
  exact h.2 q.1 (hz.perm.mem_iff.1 (aM.2 ⟨q,hq,rfl⟩)))
 rw[bH]at this;rw[hz.toList];exact this
def TJ(ok:Bool)(zv:Value):Option (Nat×Value)->Value
 |some p=>if ok=true then .tuple #[p.2,.bool true]else p.2
 |none=>if ok=true then .tuple #[zv,.bool false]else zv
theorem ET{kt et:TypeId}{ok:Bool}{es:Array MapEntry}{r:Option (Nat×Value)}{zv:Value}{x:Value}(hu:P.underlying t=some (.map kt et))(hx:(x=.map none/\es= #[])\/∃b cl,x=.map (some b)/\w.heap[b]?=some (.map es cl))
 (hf:k.fits P kt=true)(hfind:(Instr.findKey kt k.val es.toList).run P w=.ok r w)(hz:(zeroValue et).run P w=.ok zv w):
 (Instr.lookup t x k.val ok).run P w=.ok (TJ ok zv r) w:=by
 rcases hx with⟨rfl,rfl⟩|⟨b,cl,rfl,hb⟩
 ·simp only[Instr.lookup,aV,run_underlying hu,aN,cB,mA _ 9995 hf,hfind];cases r with
  |none=>cases ok<;>simp[hz,TJ]
  |some p=>cases ok<;>simp[TJ]
 ·simp only[Instr.lookup,aV,run_underlying hu,aN,cB,jS hb,mA _ 9995 hf,hfind];cases r with
  |none=>cases ok<;>simp[hz,TJ]
  |some p=>cases ok<;>simp[TJ]
theorem aBO(h:bC M0 S0 w0 N T m ρ a w){t:TypeId}{x ix v:A}{y iy:Value}{ok:Bool}{pre:Bool}{ups:List (Nat×R)}(hx:x.Den w (dD M0 m ρ) m ρ y)(hix:ix.Den w (dD M0 m ρ) m ρ iy)
 (he:lO P m t x ix ok=some (pre,v,ups))(hp:pre=true):ups=[]/\∃z,(Instr.lookup t y iy ok).run P w=.ok z w/\v.Den w (dD M0 m ρ) m ρ z:=by
 unfold lO at he;split at he
 ·rename_i kt et k hm hk;have hu:=vO hm;have hkv:=rF hk hix;subst hkv;split at he
  ·rename_i zA hzA;obtain⟨zv,hz1,hz2⟩:=O5 hzA w;have fin:∀{es:Array MapEntry}{kv:List (Ky×A)}{cl:Nat}{z:List ((Ky×A)×MapEntry)}{b:Nat},y=.map (some b)->w.heap[b]?=some (.map es cl)->MZ w (dD M0 m ρ) m ρ es cl kv z->kH P kt k kv=true->
    ∃u,(Instr.lookup t y k.val ok).run P w=.ok u w/\(match fL k kv with|some a=>QK ok a true|none=>QK ok zA false).Den w (dD M0 m ρ) m ρ u:=by
    intro es kv cl z b hy hb hz hfk;obtain⟨hf,hfind⟩:=DQ hfk hz;have hr:=ET (ok:=ok) hu (.inr ⟨b,cl,hy,hb⟩) hf hfind hz1;refine⟨_,hr,?_⟩;rcases hz.find k with⟨e1,e2⟩|⟨i,p,e1,e2,e3,e4⟩
    ·rw[e1,e2];exact QL (hz2 _ _ _ _)
    ·rw[e1,e4];exact QL (hz.den p (c6 e2))
   split at he
   ·rename_i i;split at he
    ·rename_i fz kv st hi;obtain⟨b,es,cl,z,h1,h2,h3,_⟩:=HO h hi;simp only[A.Den]at hx;have hy:=(eH hx hi (by simp)).trans h1;have key:ups=[]/\pre=kH P kt k kv/\v=(match fL k kv with|some a=>QK ok a true|none=>QK ok zA false):=by
      split at he<;>(simp only[aA,aD]at he;obtain⟨rfl,rfl,rfl⟩:=he;rename_i hg;simp[hg])
     obtain⟨rfl,rfl,rfl⟩:=key;exact⟨rfl,fin hy h2 h3 hp⟩
    ·cases he
   ·rename_i ks vs;simp only[A.Den,C.Den]at hx;obtain⟨b,es,cl,l,hy,_,h2,h3,h4⟩:=hx;have hlen:ks.length=(vs.map A.d).length:=by
     have e1:=congrArg List.length h3.keys;have e2:=(C.c9.1 h4).1;simp at e1 e2⊢;omega
    obtain⟨z,hz⟩:=aD5 (m:=m) (ρ:=ρ) (M:=dD M0 m ρ) (kv:=ks.zip (vs.map A.d)) (by rw[IU hlen];exact h3) (by rw[IV hlen];exact A.iO.2 h4);have key:ups=[]/\pre=kH P kt k (ks.zip (vs.map A.d))/\v=(match fL k (ks.zip (vs.map A.d))with|some a=>QK ok a true|none=>QK ok zA false):=by
     split at he<;>(simp only[aA,aD]at he;obtain⟨rfl,rfl,rfl⟩:=he;rename_i hg;simp[hg])
    obtain⟨rfl,rfl,rfl⟩:=key;exact⟨rfl,fin hy h2 hz hp⟩
   ·simp only[aA,aD]at he;obtain⟨rfl,rfl,rfl⟩:=he;simp only[A.Den,C.Den]at hx;subst hx;have hfind:(Instr.findKey kt k.val (#[]:Array MapEntry).toList).run P w=.ok none w:=by
     have:=LF (P:=P) (w:=w) hp [] (by simp) (by simp);simpa [pT]using this
    exact⟨rfl,_,ET (ok:=ok) hu (.inl ⟨rfl,rfl⟩) hp hfind hz1,QL (hz2 _ _ _ _)⟩
   ·cases he
  ·cases he
 ·cases he
def _root_.Go.World.gW(w:World)(b:Nat)(o:Obj):World:={w with heap:=w.heap.setIfInBounds b o}
theorem tS{o o':Obj}(h:w.heap[b]?=some o'):(w.gW b o).heap[b]?=some o:=by
 have:=(aL.1 h).1;simp[World.gW,this]
theorem mJ(w:World)(b:Nat)(o:Obj):iF (λk=>k=b) w (w.gW b o):=
 ⟨rfl,rfl,rfl,by simp[World.gW],λk _ hk=>by
   show(w.heap.setIfInBounds b o)[k]?=_
   rw[eD (λe=>hk e.symm)]⟩
theorem pJ{es:Array MapEntry}{o:Obj}(h:w.heap[b]?=some (.map es cl)):(setObj b o).run P w=.ok () (w.gW b o):=by
 simp[setObj,Sem.run,h,World.gW]
theorem tQ(h:bC M0 S0 w0 N T m ρ a w){i b:Nat}{kv kv':List (Ky×A)}{st st':List (Ky×Nat)}{es es':Array MapEntry}{cl cl':Nat}(hi:m i=some (.mp false kv st))(hb:ρ i=.map (some b))(hh:w.heap[b]?=some (.map es cl))
 {z':List ((Ky×A)×MapEntry)}(hz:MZ w (dD M0 m ρ) m ρ es' cl' kv' z')(hst:vW m ρ st' es'.toList cl'):
 bC M0 S0 w0 N T (aX m i (.mp false kv' st')) ρ a (w.gW b (.map es' cl'))/\cI m (aX m i (.mp false kv' st')) ρ ρ:=by
 have hO:cI m (aX m i (.mp false kv' st')) ρ ρ:=by
  have:=cI.set (m:=m) (ρ:=ρ) i (.mp false kv' st') (ρ i) (λ_ _=>⟨by rw[hi];simp,rfl,λfz t es l e=>by rw[hi]at e;simp at e⟩)
  rwa [jP]at this
 refine⟨h.write hi rfl rfl (by simp) (mJ w b _) (λk _ e=>by rw[hb,e];rfl) ?_,hO⟩;intro _ hst' hm;obtain⟨l,h1,h2⟩:=aI9 hz;refine⟨b,es',cl',l,hb,tS hh,h1,A.dK hst' hm hO _ _ h2,by simp,vW.mono hO λp hp=>⟨(hst p hp).1,λhd=>⟨λe he=>((hst p hp).2 hd).1 e (h1.perm.mem_iff.2 he),((hst p hp).2 hd).2⟩⟩⟩
theorem KU{α:Type}(f g:α->α):∀(l:List α)(i:Nat),(∀j x,l[j]?=some x->g x=if j=i then f x else x)->l.modify i f=l.map g
 |[],i,_=>by cases i<;>rfl
 |x::l,0,h=>by
  have h0:=h 0 x rfl;simp only[List.modify_zero_cons,aG];rw[h0];simp only[if_true];congr 1;have:∀y∈l,g y=y:=λy hy=>by
   obtain⟨j,hj,e⟩:=dH.1 hy;have:=h (j+1) y (by simp[hj,e]);simpa using this
  rw[cQ this];simp
 |x::l,i+1,h=>by
  have h0:=h 0 x rfl;simp only[List.modify_succ_cons,aG];rw[h0];simp only[Nat.zero_ne_add_one,if_false];rw[KU f g l i λj y hy=>by have:=h (j+1) y (by simpa using hy);simpa using this]
theorem rH{α β:Type}{f:α->β}{l:List α}(hn:(l.map f).Nodup){i j:Nat}{x y:α}(hi:l[i]?=some x)(hj:l[j]?=some y)(e:f x=f y):i=j:=by
 have hi':=bA.1 hi;have hj':=bA.1 hj;obtain⟨h1,h2⟩:=hi';obtain⟨h3,h4⟩:=hj';have:=(jB (xs:=l.map f) (h₀:=by simpa using h1) (h₁:=by simpa using h3) hn).1 (by simp[h2,h4,e]);exact this
theorem MZ.set{es:Array MapEntry}{z:List ((Ky×A)×MapEntry)}(hz:MZ w M m ρ es cl kv z){k:Ky}{i:Nat}{p:(Ky×A)×MapEntry}(hp:z[i]?=some p)(hk:p.1.1=k){x:A}{v:Value}(hv:x.Den w M m ρ v):
 MZ w M m ρ (es.modify i λe=>{e with key:=k.val,val:=v}) cl (kv.map λq=>if q.1=k then(k,x)else q) (z.map λq=>if q.1.1=k then((k,x),{q.2 with key:=k.val,val:=v})else q):=by
 have hg:∀q:(Ky×A)×MapEntry,(if q.1.1=k then(((k,x),{q.2 with key:=k.val,val:=v}):(Ky×A)×MapEntry)else q).2.born=q.2.born:=by intro q;split<;>rfl
 have hg1:∀q:(Ky×A)×MapEntry,(if q.1.1=k then(((k,x),{q.2 with key:=k.val,val:=v}):(Ky×A)×MapEntry)else q).1.1=q.1.1:=by intro q;split<;>simp_all
 refine⟨?_,?_,?_,?_,?_,?_,?_⟩
 ·rw[lJ,hz.toList]
  rw[show(z.map (·.2)).modify i (λe=>{e with key:=k.val,val:=v})=(z.modify i λq=>(q.1,{q.2 with key:=k.val,val:=v})).map (·.2) by
   apply iQ;intro j;simp only[lC,cK];cases z[j]?<;>simp;split<;>rfl]
  rw[KU _ (λq=>if q.1.1=k then(q.1,{q.2 with key:=k.val,val:=v})else q) z i λj q hq=>by
   by_cases e:j=i
   · subst e;rw[hp]at hq;cases hq;simp[hk]
   · have:q.1.1≠k:=λe2=>e (rH hz.nodup hq hp (e2.trans hk.symm))
     simp[e,this]]
  rw[bH,bH];exact cQ λq _=>by simp only[Function.comp_apply];split<;>rfl
 ·have:=hz.perm.map (λq=>if q.1=k then(k,x)else q);rw[bH]at this⊢;refine(List.Perm.of_eq (cQ λq _=>?_)).trans this;simp only[Function.comp_apply];split<;>rfl
 ·intro q hq;obtain⟨q0,hq0,rfl⟩:=aM.1 hq;split
  ·rfl
  ·exact hz.key q0 hq0
 ·intro q hq;obtain⟨q0,hq0,rfl⟩:=aM.1 hq;split
  ·exact hv
  ·exact hz.den q0 hq0
 ·rw[bH];exact(cQ (λq _=>hg1 q):_=z.map (·.1.1))▸hz.nodup
 ·rw[bH];exact(cQ (λq _=>hg q):_=z.map (·.2.born))▸hz.born
 ·intro q hq;obtain⟨q0,hq0,rfl⟩:=aM.1 hq;rw[hg];exact hz.old q0 hq0
theorem MZ.push{M:Nat->Prop}{es:Array MapEntry}{cl:Nat}{kv:List (Ky×A)}{z:List ((Ky×A)×MapEntry)}(hz:MZ w M m ρ es cl kv z){k:Ky}(hk:∀p∈z,k≠p.1.1){x:A}{v:Value}(hv:x.Den w M m ρ v):
 MZ w M m ρ (es.push {key:=k.val,val:=v,born:=cl}) (cl+1) (kv++[(k,x)]) (z++[((k,x),{key:=k.val,val:=v,born:=cl})]):=by
 refine⟨?_,?_,?_,?_,?_,?_,?_⟩
 ·simp[hz.toList]
 ·simpa using hz.perm.append_right [(k,x)]
 ·intro p hp;simp at hp;rcases hp with hp|rfl
  ·exact hz.key p hp
  ·rfl
 ·intro p hp;simp at hp;rcases hp with hp|rfl
  ·exact hz.den p hp
  ·exact hv
 ·rw[bP,iS];refine⟨hz.nodup,by simp,?_⟩;intro a ha b hb e;simp at hb;subst hb;obtain⟨p,hp,rfl⟩:=aM.1 ha;exact hk p hp e.symm
 ·rw[bP,iS];refine⟨hz.born,by simp,?_⟩;intro a ha b hb e;simp at hb;subst hb;obtain⟨p,hp,rfl⟩:=aM.1 ha;have:=hz.old p hp;omega
 ·intro p hp;simp at hp;rcases hp with hp|rfl
  ·have:=hz.old p hp;omega
  ·simp
theorem HS(n:Nat)(c:KC):Instr.sameBits (n+1) c.val c.val=true:=by
 cases c<;>simp[KC.val,Instr.sameBits,beq_toListBytes]
theorem HT(n:Nat)(k:Ky):Instr.sameBits (n+2) k.val k.val=true:=by
 cases k with
 |one c=>exact HS (n+1) c
 |agg l=>
  simp only[Ky.val,Instr.sameBits,aE,cV];refine⟨by simp,?_⟩;intro p hp;obtain⟨x,y⟩:=p;have:x=y/\x∈l.map KC.val:=by
   have h1:=List.of_mem_zip hp;have:∀{l:List Value}{x y:Value},(x,y)∈l.zip l->x=y:=by
    intro l;induction l with
    |nil=>simp
    |cons a r ih=>intro x y h;simp at h;rcases h with⟨rfl,rfl⟩|h;rfl;exact ih h
   exact⟨this (by simpa using hp),by simpa using h1.1⟩
  obtain⟨rfl,h2⟩:=this;obtain⟨c,_,rfl⟩:=aM.1 h2;exact HS n c
theorem Ky.val_inj{a b:Ky}(h:a.val=b.val):a=b:=by
 have kc:∀{a b:KC},a.val=b.val->a=b:=by
  intro a b h;cases a<;>cases b<;>simp[KC.val]at h<;>simp_all
 cases a<;>cases b
 ·simp only[Ky.val]at h;rw[kc h]
 ·rename_i c l;cases c<;>simp[Ky.val,KC.val]at h
 ·rename_i l c;cases c<;>simp[Ky.val,KC.val]at h
 ·rename_i l1 l2;simp only[Ky.val,Value.agg.injEq]at h;have h':l1.map KC.val=l2.map KC.val:=by simpa using h
  congr 1;exact(List.map_inj_right (λa b=>kc)).1 h'
end
section
variable{M0 S0:Nat->Prop}{w0:World}{N:Fr}{T:Nat->A}{m:Mem}{ρ:Nat->Value}{a:Act}{w:World}{P:Program}
theorem UQ{st:List (Ky×Nat)}{es:Array MapEntry}{i:Nat}{z:List ((Ky×A)×MapEntry)}(hz:MZ w M m ρ es cl kv z){p:(Ky×A)×MapEntry}(hp:z[i]?=some p)(hk:p.1.1=k)
 {c:Nat}(h:vW m ρ st es.toList c):vW m ρ st (es.modify i λe=>{e with key:=k.val,val:=v}).toList c:=by
 refine λq hq=>⟨(h q hq).1,λhd=>⟨λe he hek=>?_,((h q hq).2 hd).2⟩⟩;obtain⟨j,hj⟩:=dY.1 he;rw[lJ,lC]at hj;have hpk:p.2.key=k.val:=by rw[<-hk];exact hz.key p (c6 hp)
 by_cases e:i=j
 ·subst e;have h1:es.toList[i]?=some p.2:=by rw[hz.toList];simp[hp]
  rw[h1]at hj;simp at hj;rw[<-hj]at hek⊢;exact((h q hq).2 hd).1 p.2 (c6 h1) (hpk.trans hek)
 ·simp[e]at hj;exact((h q hq).2 hd).1 _ (c6 (by simpa using hj)) hek
theorem OT{st:List (Ky×Nat)}{es:Array MapEntry}{c:Nat}(h:vW m ρ st es.toList c):vW m ρ (st.filter λp=>p.1 !=k&&p.1 !=.agg []) (es.push {key:=k.val,val:=v,born:=b}).toList (c+1):=by
 intro q hq;obtain⟨hq1,hq2⟩:=jU.1 hq;refine⟨(h q hq1).1,λhd=>⟨λe he hek=>?_,Nat.le_succ_of_le ((h q hq1).2 hd).2.1,λe=>by rw[e]at hq2;simp at hq2⟩⟩;simp at he;rcases he with he|rfl
 ·exact((h q hq1).2 hd).1 e (by simpa using he) hek
 ·have:=Ky.val_inj hek;simp[this]at hq2
theorem aFR{st st':List (Ky×Nat)}{l l':List MapEntry}{c:Nat}(h:vW m ρ st l c)(hs:∀p∈st',p∈st)(hl:∀e∈l',e∈l):vW m ρ st' l' c:=
 λp hp=>⟨(h p (hs p hp)).1,λhd=>⟨λe he=>((h p (hs p hp)).2 hd).1 e (hl e he),((h p (hs p hp)).2 hd).2⟩⟩
theorem H8{kt et:TypeId}{es:Array MapEntry}{r:Option (Nat×Value)}(hu:P.underlying t=some (.map kt et))(hb:w.heap[b]?=some (.map es cl))(hf:k.fits P kt=true)(hfind:(Instr.findKey kt k.val es.toList).run P w=.ok r w)
 (hr:∀i u,r=some (i,u)->∃e,es[i]?=some e/\e.key=k.val):
 (Instr.mapUpdate t (.map (some b)) k.val v).run P w=.ok () (w.gW b (match(generalizing:=false) r with|some p=>.map (es.modify p.1 λe=>{e with key:=k.val,val:=v}) cl|none=>.map (es.push {key:=k.val,val:=v,born:=cl}) (cl+1))):=by
 simp only[Instr.mapUpdate,aV,run_underlying hu,aN,jS hb,mA _ 9995 hf,hfind];cases r with
 |none=>exact pJ hb
 |some p=>
  obtain⟨e,h1,h2⟩:=hr p.1 p.2 rfl;simp only[h1,dF,gZ,h2,Instr.keyThatStays,HT 9998,if_true,cB,aN];exact pJ hb
theorem VR{es:Array MapEntry}{z:List ((Ky×A)×MapEntry)}(hz:MZ w M m ρ es cl kv z){k:Ky}:∀i u,pT k (z.map λp=>(p.1.1,p.2)) 0=some (i,u)->∃e,es[i]?=some e/\e.key=k.val:=by
 intro i u hf;obtain⟨p,h1,_,h2,_⟩:=CH hf;refine⟨p.2,?_,by rw[<-h2];exact hz.key p (c6 h1)⟩;have h1':z[i]?=some p:=by simpa using h1
 have:es.toList[i]?=some p.2:=by rw[hz.toList,cK,h1'];rfl
 simpa using this
theorem OP(h:bC M0 S0 w0 N T m ρ a w){t:TypeId}{x ix v u:A}{y iy vv:Value}{pre:Bool}{ups:List (Nat×R)}(hx:x.Den w (dD M0 m ρ) m ρ y)(hix:ix.Den w (dD M0 m ρ) m ρ iy)(hv:v.Den w (dD M0 m ρ) m ρ vv)
 (he:mW P m t x ix v=some (pre,u,ups))(hp:pre=true):∃w',(Instr.mapUpdate t y iy vv).run P w=.ok () w'/\bC M0 S0 w0 N T (aH m ups) ρ a w'/\cI m (aH m ups) ρ ρ/\u=.x:=by
 unfold mW at he;split at he
 ·rename_i kt et k i hm hk;have hu:=vO hm;have hkv:=rF hk hix;subst hkv;split at he
  ·rename_i kv st hi;obtain⟨b,es,cl,z,h1,h2,h3,h4⟩:=HO h hi;simp only[A.Den]at hx;have hy:=(eH hx hi (by simp)).trans h1;subst hy;have hpre:pre=kH P kt k kv:=by
    split at he<;>(simp only[aA,aD]at he;exact he.1.symm)
   rw[hpre]at hp;obtain⟨hf,hfind⟩:=DQ (w:=w) hp h3;have hrun:=H8 (v:=vv) hu h2 hf hfind (VR h3);rcases h3.find k with⟨e1,e2⟩|⟨j,p,e1,e2,e3,e4⟩
   ·rw[e2]at he;simp only[aA,aD]at he;obtain⟨_,rfl,rfl⟩:=he;rw[e1]at hrun;have hno:∀p∈z,k≠p.1.1:=uI e1;obtain⟨g1,g2⟩:=tQ h hi h1 h2 (h3.push hno hv) (OT h4);exact⟨_,hrun,g1,g2,rfl⟩
   ·rw[e4]at he;simp only[aA,aD]at he;obtain⟨_,rfl,rfl⟩:=he;rw[e1]at hrun;obtain⟨g1,g2⟩:=tQ h hi h1 h2 (h3.set e2 e3 hv) (UQ h3 e2 e3 h4);exact⟨_,hrun,g1,g2,rfl⟩
  ·cases he
 ·cases he
theorem yZ{α:Type}(f:α->Bool):∀(l:List α)(i:Nat),(∀j x,l[j]?=some x->f x=decide (j≠i))->l.eraseIdx i=l.filter f
 |[],i,_=>by simp
 |x::l,0,h=>by
  have h0:=h 0 x rfl;have:∀y∈l,f y=true:=λy hy=>by
   obtain⟨j,hj⟩:=dY.1 hy;have:=h (j+1) y (by simpa using hj);simpa using this
  simp only[List.eraseIdx_cons_zero,lZ,h0];simp;exact(oM.2 this).symm
 |x::l,i+1,h=>by
  have h0:=h 0 x rfl;simp only[gK,lZ,h0];rw[yZ f l i λj y hy=>by have:=h (j+1) y (by simpa using hy);simpa using this];simp
theorem rD{α β:Type}(f:α->β):∀(l:List α)(i:Nat),(l.map f).eraseIdx i=(l.eraseIdx i).map f
 |[],i=>by simp
 |x::l,0=>by simp
 |x::l,i+1=>by simp[rD f l i]
theorem MZ.erase{es:Array MapEntry}{z:List ((Ky×A)×MapEntry)}(hz:MZ w M m ρ es cl kv z){k:Ky}{i:Nat}{p:(Ky×A)×MapEntry}(hp:z[i]?=some p)(hk:p.1.1=k):
 MZ w M m ρ (es.eraseIdxIfInBounds i) cl (kv.filter λq=>q.1 !=k) (z.filter λq=>q.1.1 !=k):=by
 have hsub:∀q∈z.filter (λq=>q.1.1 !=k),q∈z:=λq hq=>(jU.1 hq).1;refine⟨?_,?_,λq hq=>hz.key q (hsub q hq),λq hq=>hz.den q (hsub q hq),?_,?_,λq hq=>hz.old q (hsub q hq)⟩
 ·have hi:i<es.size:=by
   have h1:es.toList[i]?=some p.2:=by rw[hz.toList];simp[hp]
   have:=(bA.1 h1).1;simpa using this
  rw[Array.eraseIdxIfInBounds,dif_pos hi,Array.toList_eraseIdx,hz.toList]
  rw[<-yZ (λq=>q.1.1 !=k) z i λj q hq=>by
   by_cases e:j=i
   · subst e;rw[hp]at hq;cases hq;simp[hk]
   · have:q.1.1≠k:=λe2=>e (rH hz.nodup hq hp (e2.trans hk.symm))
     simp[e,this]]
  exact rD _ z i
 ·have:=hz.perm.filter (λq=>q.1 !=k);rw[List.filter_map]at this;exact this
 ·exact hz.nodup.sublist ((List.filter_sublist).map _)
 ·exact hz.born.sublist ((List.filter_sublist).map _)
theorem aBN(h:bC M0 S0 w0 N T m ρ a w){t t' ty:TypeId}{x ix u:A}{y iy:Value}{pre:Bool}{ups:List (Nat×R)}(hx:x.Den w (dD M0 m ρ) m ρ y)(hix:ix.Den w (dD M0 m ρ) m ρ iy)
 (he:tL P m t x ix=some (pre,u,ups))(hp:pre=true):∃w',(Builtin.delete_ #[t,t'] ty #[y,iy]).run P w=.ok (.tuple #[]) w'/\bC M0 S0 w0 N T (aH m ups) ρ a w'/\cI m (aH m ups) ρ ρ/\u=.eL []:=by
 unfold tL at he;split at he
 ·rename_i kt et k i hm hk;have hu:=vO hm;have hkv:=rF hk hix;subst hkv;split at he
  ·rename_i kv st hi;simp only[aA,aD]at he;obtain⟨rfl,rfl,rfl⟩:=he;obtain⟨b,es,cl,z,h1,h2,h3,h4⟩:=HO h hi;simp only[A.Den]at hx;have hy:=(eH hx hi (by simp)).trans h1;subst hy;obtain⟨hf,hfind⟩:=DQ (w:=w) hp h3;have hrun:∃es',(Builtin.delete_ #[t,t'] ty #[.map (some b),k.val]).run P w=.ok (.tuple #[]) (w.gW b (.map es' cl))/\MZ w (dD M0 m ρ) m ρ es' cl (kv.filter λq=>q.1 !=k) (z.filter λq=>q.1.1 !=k)/\∀e∈es'.toList,e∈es.toList:=by
    rcases h3.find k with⟨e1,e2⟩|⟨j,p,e1,e2,e3,e4⟩
    ·refine⟨es,?_,?_,λe he=>he⟩
     ·simp only[Builtin.delete_,mZ,iK,jQ,aV,run_underlying hu,aN,jS h2,mA _ 9995 hf,hfind,e1,pJ h2,cB]
     ·have hno:∀p∈z,k≠p.1.1:=uI e1;have f1:z.filter (λq=>q.1.1 !=k)=z:=oM.2 λq hq=>by simpa using(hno q hq).symm
      have f2:kv.filter (λq=>q.1 !=k)=kv:=oM.2 λq hq=>by
       have:=uM e2 q hq;simpa using this.symm
      rw[f1,f2];exact h3
    ·refine⟨_,?_,h3.erase e2 e3,?_⟩
     ·simp only[Builtin.delete_,mZ,iK,jQ,aV,run_underlying hu,aN,jS h2,mA _ 9995 hf,hfind,e1,pJ h2,cB]
     ·intro e he;rw[(h3.erase e2 e3).toList]at he;obtain⟨q,hq,rfl⟩:=aM.1 he;rw[h3.toList];exact aM.2 ⟨q,(jU.1 hq).1,rfl⟩
   obtain⟨es',hr,hz',hsub⟩:=hrun;obtain⟨g1,g2⟩:=tQ h hi h1 h2 hz' (aFR (st':=st.filter λp=>p.1 !=k) h4 (λp hp=>(jU.1 hp).1) hsub);exact⟨_,hr,g1,g2,rfl⟩
  ·cases he
 ·rename_i kt et k hm hk;have hu:=vO hm;have hkv:=rF hk hix;subst hkv;simp only[aA,aD]at he;obtain⟨rfl,rfl,rfl⟩:=he;simp only[A.Den,C.Den]at hx;subst hx;refine⟨w,?_,h,cI.refl m ρ,rfl⟩;simp only[Builtin.delete_,mZ,iK,jQ,aV,run_underlying hu,aN,mA _ 9995 hp,cB]
 ·cases he
end
end Go.Pv
