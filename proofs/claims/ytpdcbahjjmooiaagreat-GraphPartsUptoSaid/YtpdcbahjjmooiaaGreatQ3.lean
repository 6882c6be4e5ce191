import Derived.Test.YtpdcbahjjmooiaaGreatQ2
import Derived.Laws.StructEq
/- Contracts of functions that the law reaches, and their logic. No conditions. -/
set_option linter.all false
set_option maxRecDepth 100000
set_option maxHeartbeats 8000000
open Go
namespace Go.Pv
open Go.RowKit
variable{i n b cl d:Nat}{t:TypeId}{k:Ky}{v y:Value}{x:A}{P:Program}{M:Nat->Prop}{kv:List (Ky×A)}{st:List (Ky×Nat)}
def KC.same:KC->KC->Bool
 |.int k _,.int k' _=>decide (k=k')
 |.bool _,.bool _=>true
 |.str _,.str _=>true
 |_,_=>false
def KC.fits(P:Program)(t:TypeId):KC->Bool
 |.int _ _=>match P.underlying t with
  |some (.int _)=>true
  |_=>false
 |.bool _=>IH P t
 |.str _=>yJ P t
def s5(P:Program)(sub:TypeId->List KC->Bool):List Field->Nat->List KC->Bool
 |[],_,[]=>true
 |[],_,_::_=>false
 |f::fs,i,l=>decide (f.offset=i)&&(decide (f.name≠ "_")&&(match oP P f.type with
  |some false=>(match l with
   |c::r=>c.fits P f.type&&s5 P sub fs (i+1) r
   |[]=>false)
  |some true=>decide (0<P.cellsOf f.type/\P.cellsOf f.type<=l.length)&&(sub f.type (l.take (P.cellsOf f.type))&&s5 P sub fs (i+P.cellsOf f.type) (l.drop (P.cellsOf f.type)))
  |none=>false))
def qE(P:Program):Nat->TypeId->List KC->Bool
 |0,_,_=>false
 |n+1,t,l=>match P.underlying t with
  |some (.struct fs)=> !P.stoodInHeld t&&s5 P (qE P n) fs.toList 0 l
  |_=>false
def KC.mC:List KC->List KC->Bool
 |[],[]=>true
 |a::r,b::s=>a.same b&&KC.mC r s
 |_,_=>false
def Ky.fits(P:Program)(t:TypeId):Ky->Bool
 |.one c=>c.fits P t
 |.agg l=>qE P 4 t l
def Ky.same:Ky->Ky->Bool
 |.one a,.one b=>a.same b
 |.agg a,.agg b=>KC.mC a b
 |_,_=>false
def UE:∀{a b:List KC},KC.mC a b=true->a.length=b.length
 |[],[],_=>rfl
 |a::r,b::s,h=>by simp[KC.mC,aE]at h;simp[UE h.2]
 |[],_::_,h=>by simp[KC.mC]at h
 |_::_,[],h=>by simp[KC.mC]at h
section
variable{P:Program}{w:World}
def bytes_beq(a b:ByteArray):(a.toList==b.toList)=decide (a=b):=by
 apply K0.2;simp only[beq_iff_eq,aUA]
 exact⟨λe=>by
  have e1:a.data.toList=b.data.toList:=by simpa [ByteArray.toList_eq]using e
  cases a;cases b;simp at e1;simp[e1],λe=>by rw[e]⟩
def UB(d:Nat){t:TypeId}{a b:KC}(hf:a.fits P t=true)(hs:a.same b=true):(Op.equalIn (d+1) t a.val b.val).run P w=.ok (decide (a=b)) w:=by
 cases a<;>cases b<;>simp only[KC.same]at hs<;>(try cases hs)
 ·rename_i k n k' n';have hs:=aUL hs;subst hs;unfold KC.fits at hf;simp only at hf;split at hf
  ·rename_i k2 hu;simp only[KC.val,run_equalIn_int w d t k k2 n n' hu];simp;exact K0.2 sM
  ·cases hf
 ·rename_i x y;simp only[KC.val,run_equalIn_bool' w d t x y (uK hf)];cases x<;>cases y<;>rfl
 ·rename_i x y;simp only[KC.val,run_equalIn_string w d t x y (oB hf),bytes_beq];simp
def LH:∀{a b:List KC}(n:Nat),KC.mC a b=true->KC.mC (a.take n) (b.take n)=true
 |_,_,0,_=>by simp[KC.mC]
 |[],[],_+1,_=>by simp[KC.mC]
 |a::r,b::s,n+1,h=>by
  simp[KC.mC,aE]at h;simp[cC,KC.mC,h.1,LH n h.2,Bool.and_self]
 |[],_::_,_,h=>by simp[KC.mC]at h
 |_::_,[],_,h=>by simp[KC.mC]at h
def LG:∀{a b:List KC}(n:Nat),KC.mC a b=true->KC.mC (a.drop n) (b.drop n)=true
 |_,_,0,h=>by simpa using h
 |[],[],_+1,_=>by simp[KC.mC]
 |a::r,b::s,n+1,h=>by
  simp[KC.mC,aE]at h;simpa using LG n h.2
 |[],_::_,_,h=>by simp[KC.mC]at h
 |_::_,[],_,h=>by simp[KC.mC]at h
def yF{xs:Array Value}{a:List KC}(hx:∀j c,a[j]?=some c->xs[i+j]?=some c.val)(hn:n<=a.length):xs.extract i (i+n)=((a.take n).map KC.val).toArray:=by
 apply Array.ext_getElem?;intro j;rw[Array.getElem?_extract];simp only[aDR,cK,cM];by_cases hj:j<n
 ·have hj2:j<a.length:=oM;have h1:=hx j a[j] (aC hj2);have h2:i+j<xs.size:=(aL.1 h1).1;have h3:i+(a.length -1)<xs.size:=by
   have:=hx (a.length -1) _ (aC oM);exact(aL.1 this).1
  rw[aUF oM,aUF hj,h1,aC hj2];rfl
 ·rw[aT7 oM,aT7 hj];rfl
def TU{f:TypeId}{cs:Array Value}{off:Nat}(h:oP P f=some true)(hp:0<P.cellsOf f):(part f cs off).run P w=.ok (.agg (cs.extract off (off+P.cellsOf f))) w:=by
 have⟨inf,hi⟩:=sA hp;have he:P.cellsOf f=inf.size:=by simp[Program.cellsOf,hi]
 simp[part,aV,lV h,aN,if_true,run_sizeOf hi,cB,he]
def R3(a b:List KC)(n:Nat):decide (a=b)=(decide (a.take n=b.take n)&&decide (a.drop n=b.drop n)):=by
 apply K0.2;simp only[aUA,aE];constructor
 ·rintro rfl;exact⟨rfl,rfl⟩
 ·rintro⟨h1,h2⟩;rw[<-List.take_append_drop n a,h1,h2,gJ]
def C0(d:Nat)(xs ys:Array Value)(sub:TypeId->List KC->Bool)(aVM:∀t a b,sub t a=true->KC.mC a b=true->(Op.equalIn (d+1) t (.agg (a.map KC.val).toArray) (.agg (b.map KC.val).toArray)).run P w=.ok (decide (a=b)) w):
 ∀(fs:List Field)(i:Nat)(a b:List KC),s5 P sub fs i a=true->KC.mC a b=true->
 (∀j c,a[j]?=some c->xs[i+j]?=some c.val)->(∀j c,b[j]?=some c->ys[i+j]?=some c.val)->(Op.eqFields (d+1) xs ys fs).run P w=.ok (decide (a=b)) w
 |[],i,[],b,hf,hs,_,_=>by
  cases b with
  |nil=>simp[Op.eqFields]
  |cons _ _=>simp[KC.mC]at hs
 |[],i,_::_,b,hf,hs,_,_=>by simp[s5]at hf
 |f::fs,i,a,b,hf,hs,hx,hy=>by
  simp only[s5,aE,aUA]at hf;obtain⟨rfl,h2,h3⟩:=hf;split at h3
  ·rename_i hag;split at h3
   ·rename_i c r;simp[aE]at h3;have⟨h4,h5⟩:=h3;cases b with
    |nil=>simp[KC.mC]at hs
    |cons c' r'=>
     simp[KC.mC,aE]at hs;have hx0:=hx 0 c rfl;have hy0:=hy 0 c' rfl;simp[iE]at hx0 hy0;have ih:=C0 d xs ys sub aVM fs (f.offset+1) r r' h5 hs.2 (λj e he=>by have:=hx (j+1) e (by simpa using he);rwa [show f.offset+(j+1)=f.offset+1+j by omega]at this) (λj e he=>by have:=hy (j+1) e (by simpa using he);rwa [show f.offset+(j+1)=f.offset+1+j by omega]at this);simp[Op.eqFields,h2,ne_eq,not_false_eq_true,if_true,aV,part,lV hag,aN,bY,if_false,hx0,hy0,cB,UB d h4 hs.1];by_cases e:c=c'
     ·subst e;simp only[decide_true,fR,bY,if_false,ih];simp
     ·simp[e]
   ·cases h3
  ·rename_i hag;simp only[aE]at h3;have⟨h4,h5,h6⟩:=h3;have⟨aWU,hle⟩:=aUL h4;have hlen:=UE hs;have ih:=C0 d xs ys sub aVM fs (f.offset+P.cellsOf f.type) (a.drop (P.cellsOf f.type)) (b.drop (P.cellsOf f.type)) h6 (LG _ hs)
    (λj e he=>by have:=hx (P.cellsOf f.type+j) e (by simpa using he);rwa [<-Nat.add_assoc]at this) (λj e he=>by have:=hy (P.cellsOf f.type+j) e (by simpa using he);rwa [<-Nat.add_assoc]at this)
   have hq:=aVM f.type _ _ h5 (LH (P.cellsOf f.type) hs);have ex:=yF hx hle;have ey:=yF (n:=P.cellsOf f.type) hy oM;simp only[Op.eqFields,h2,ne_eq,not_false_eq_true,if_true,aV,TU hag aWU,aN,ex,ey,hq];rw[R3 a b (P.cellsOf f.type)];by_cases e:a.take (P.cellsOf f.type)=b.take (P.cellsOf f.type)
   ·simp[e,decide_true,fR,bY,if_false,ih,cA]
   ·simp[e]
  ·cases h3
def OO(d:Nat):∀(dep:Nat)(t:TypeId)(a b:List KC),qE P dep t a=true->KC.mC a b=true->(Op.equalIn (d+dep+1) t (.agg (a.map KC.val).toArray) (.agg (b.map KC.val).toArray)).run P w=.ok (decide (a=b)) w
 |0,_,_,_,h,_=>by simp[qE]at h
 |dep+1,t,a,b,hf,hs=>by
  unfold qE at hf;split at hf
  ·rename_i fs hu;simp only[aE,eC]at hf;have hfo:P.fieldsOf t=fs:=by simp[Program.fieldsOf,hu]
   rw[run_equalIn_struct w (d+(dep+1)) t _ _ (by rw[hfo];exact hu) hf.1,hfo];exact C0 (d+dep) _ _ (qE P dep) (OO d dep) fs.toList 0 a b hf.2 hs (λj c h=>by simp[h]) (λj c h=>by simp[h])
  ·cases hf
def UW(l:List KC)(j:Nat)(c:KC)(h:l[j]?=some c):((l.map KC.val).toArray)[0+j]?=some c.val:=by
 simp[h]
def UC(d:Nat){t:TypeId}{a b:Ky}(hf:a.fits P t=true)(hs:a.same b=true):(Op.equalIn (d+5) t a.val b.val).run P w=.ok (decide (a=b)) w:=by
 cases a<;>cases b<;>simp[Ky.same]at hs<;>(try cases hs)
 ·simp only[Ky.val,UB (d+4) hf hs];simp
 ·rename_i x y;simp only[Ky.val,OO d 4 t x y hf hs];simp
def UD{a b:Ky}(hf:a.fits P t=true)(hs:a.same b=true):(Op.equal t a.val b.val).run P w=.ok (decide (a=b)) w:=UC 9995 hf hs
def HR(em:Bool)(n:Nat){t:TypeId}{c:KC}(hf:c.fits P t=true):(Instr.checkKey em (n+1) t c.val).run P w=.ok () w:=by
 cases c with
 |int k x=>
  unfold KC.fits at hf;simp only at hf;split at hf
  ·rename_i k2 hu;simp[Instr.checkKey,run_underlying hu,KC.val]
  ·cases hf
 |bool x=>simp[Instr.checkKey,run_underlying (uK hf),KC.val]
 |str x=>simp[Instr.checkKey,run_underlying (oB hf),KC.val]
def MM(em:Bool)(n:Nat)(cs:Array Value)(sub:TypeId->List KC->Bool)(aVM:∀t a,sub t a=true->(Instr.checkKey em (n+1) t (.agg (a.map KC.val).toArray)).run P w=.ok () w):
 ∀(fs:List Field)(i:Nat)(l:List KC),s5 P sub fs i l=true->(∀j c,l[j]?=some c->cs[i+j]?=some c.val)->
 (forIn fs PUnit.unit (λf(_:PUnit)=>if f.name≠ "_" then(do let v<-part f.type cs f.offset;Instr.checkKey em (n+1) f.type v;pure (ForInStep.yield PUnit.unit))else pure (ForInStep.yield PUnit.unit)):Sem PUnit).run P w=.ok PUnit.unit w
 |[],i,[],_,_=>sM
 |[],i,_::_,hf,_=>by simp[s5]at hf
 |f::fs,i,l,hf,hx=>by
  simp only[s5,aE,aUA]at hf;obtain⟨rfl,h2,h3⟩:=hf;split at h3
  ·rename_i hag;split at h3
   ·rename_i c r;simp[aE]at h3;have⟨h4,h5⟩:=h3;have hx0:=hx 0 c rfl;simp[iE]at hx0;have ih:=MM em n cs sub aVM fs (f.offset+1) r h5 (λj e he=>by have:=hx (j+1) e (by simpa using he);rwa [show f.offset+(j+1)=f.offset+1+j by omega]at this);simp only[List.forIn_cons,h2,ne_eq,not_false_eq_true,if_true,aV,part,lV hag,aN,bY,if_false,hx0,cB,HR em n h4];exact ih
   ·cases h3
  ·rename_i hag;simp only[aE]at h3;have⟨h4,h5,h6⟩:=h3;have⟨aWU,hle⟩:=aUL h4;have ih:=MM em n cs sub aVM fs (f.offset+P.cellsOf f.type) (l.drop (P.cellsOf f.type)) h6 (λj e he=>by have:=hx (P.cellsOf f.type+j) e (by simpa using he);rwa [<-Nat.add_assoc]at this);simp only[List.forIn_cons,h2,ne_eq,not_false_eq_true,if_true,aV,TU hag aWU,aN,yF hx hle,aVM _ _ h5,cB];exact ih
  ·cases h3
def ES(em:Bool)(n:Nat):∀(dep:Nat)(t:TypeId)(l:List KC),qE P dep t l=true->(Instr.checkKey em (n+dep+1) t (.agg (l.map KC.val).toArray)).run P w=.ok () w
 |0,_,_,h=>by simp[qE]at h
 |dep+1,t,l,hf=>by
  unfold qE at hf;split at hf
  ·rename_i fs hu;simp only[aE,eC]at hf;have:=MM (w:=w) em (n+dep) (l.map KC.val).toArray (qE P dep) (ES em n dep) fs.toList 0 l hf.2 (UW l);rw[Instr.checkKey];simp only[aV,run_underlying hu,aN];rw[<-Array.forIn_toList];rw[show n+(dep+1)=n+dep+1 by omega];simp only[this,aN,cB]
  ·cases hf
def mA(em:Bool)(n:Nat){t:TypeId}{k:Ky}(hf:k.fits P t=true):(Instr.checkKey em (n+5) t k.val).run P w=.ok () w:=by
 cases k with
 |one c=>exact HR em (n+4) hf
 |agg l=>exact ES em n 4 t l hf
def pT(k:Ky):List (Ky×MapEntry)->Nat->Option (Nat×Value)
 |[],_=>none
 |p::r,i=>if k=p.1 then some (i,p.2.val)else pT k r (i+1)
def X6{t:TypeId}{k:Ky}(hf:k.fits P t=true):∀(z:List (Ky×MapEntry))(i:Nat),(∀p∈z,p.2.key=p.1.val)->(∀p∈z,k.same p.1=true)->(Instr.findAsking t k.val (z.map (·.2)) i).run P w=.ok (pT k z i) w
 |[],i,_,_=>by simp[Instr.findAsking,pT]
 |p::r,i,hk,hs=>by
  have ih:=X6 hf r (i+1) (λq hq=>hk q (by simp[hq])) (λq hq=>hs q (by simp[hq]));simp[aG,Instr.findAsking,pT,aV,hk p sM,UD hf (hs p sM),aN];by_cases e:k=p.1
  ·simp[e]
  ·simp[e,ih]
def HD{d:TypeDesc}{t:TypeId}{c:KC}(hu:P.underlying t=some d)(hf:c.fits P t=true):∀(z:List (Ky×MapEntry))(i:Nat),(∀p∈z,p.2.key=p.1.val)->(∀p∈z,(Ky.one c).same p.1=true)->Instr.findNow d c.val (z.map (·.2)) i=some (pT (.one c) z i)
 |[],i,_,_=>by simp[Instr.findNow,pT]
 |p::r,i,hk,hs=>by
  have ih:=HD hu hf r (i+1) (λq hq=>hk q (by simp[hq])) (λq hq=>hs q (by simp[hq]));have hsp:=hs p sM;simp only[aG,Instr.findNow,pT,hk p sM];cases hp:p.1 with
  |agg l=>rw[hp]at hsp;simp[Ky.same]at hsp
  |one c'=>
   rw[hp]at hsp;simp only[Ky.same]at hsp;have key:Instr.sameNow d c.val c'.val=some (decide (c=c')):=by
    cases c<;>cases c'<;>simp only[KC.same]at hsp<;>(try cases hsp)
    ·rename_i k n k' n';have:=aUL hsp;subst this;unfold KC.fits at hf;simp only at hf;split at hf
     ·rename_i k2 hu2;rw[hu]at hu2;simp at hu2;subst hu2;simp[Instr.sameNow,KC.val];exact K0.2 sM
     ·cases hf
    ·rename_i x y;have:=uK hf;rw[hu]at this;simp at this;subst this;cases x<;>cases y<;>rfl
    ·rename_i x y;have:=oB hf;rw[hu]at this;simp at this;subst this;simp only[Instr.sameNow,KC.val,beq_toListBytes,bytes_beq];simp
   simp only[Ky.val,key,Ky.one.injEq];by_cases e:c=c'
   ·simp[e]
   ·simp only[e,decide_false,if_false];exact ih
def LF(hf:k.fits P t=true)(z:List (Ky×MapEntry))(hk:∀p∈z,p.2.key=p.1.val)(hs:∀p∈z,k.same p.1=true):(Instr.findKey t k.val (z.map (·.2))).run P w=.ok (pT k z 0) w:=by
 cases k with
 |one c=>
  have hd:∃d,P.underlying t=some d:=by
   cases c with
   |int k n=>unfold Ky.fits KC.fits at hf;simp only at hf;split at hf
             ·exact⟨_,aM⟩
             ·cases hf
   |bool b=>exact⟨_,uK hf⟩
   |str b=>exact⟨_,oB hf⟩
  have⟨d,hu⟩:=hd;simp[Instr.findKey,aV,run_underlying hu,aN,Ky.val,HD hu hf z 0 hk hs,cB]
 |agg l=>
  have hu:∃fs,P.underlying t=some (.struct fs):=by
   unfold Ky.fits qE at hf;simp only at hf;split at hf
   ·exact⟨_,aM⟩
   ·cases hf
  have⟨fs,hu⟩:=hu;cases z with
  |nil=>simp[Instr.findKey,run_underlying hu,Instr.findNow,pT]
  |cons p r=>
   have hn:Instr.findNow (.struct fs) (Ky.agg l).val ((p::r).map (·.2)) 0=none:=by
    simp[aG,Instr.findNow];rfl
   simp[Instr.findKey,aV,run_underlying hu,aN,hn];exact X6 hf (p::r) 0 hk hs
end
def yR{α β:Type}{f:α->β}{l1 l:List β}(h:l1.Perm l):∀{l2:List α},l=l2.map f->∃l2':List α,l2'.Perm l2/\l1=l2'.map f:=by
 induction h with
 |nil=>
  intro l2 e;cases l2 with
  |nil=>exact⟨[],.nil,rfl⟩
  |cons a r=>simp at e
 |cons x h ih=>
  intro l2 e;cases l2 with
  |nil=>simp at e
  |cons a r=>
   simp at e;have⟨l',h1,h2⟩:=ih e.2;exact⟨a::l',h1.cons a,by simp[e.1,h2]⟩
 |swap x y l=>
  intro l2 e;cases l2 with
  |nil=>simp at e
  |cons a r=>
   cases r with
   |nil=>simp at e
   |cons b r=>
    simp at e;obtain⟨rfl,rfl,rfl⟩:=e;exact⟨b::a::r,.swap _ _ _,rfl⟩
 |trans h1 h2 ih1 ih2=>
  intro l2 e;have⟨l',g1,g2⟩:=ih2 e;have⟨l'',g3,g4⟩:=ih1 g2;exact⟨l'',g3.trans g1,g4⟩
structure MZ(w:World)(M:Nat->Prop)(m:Mem)(ρ:Nat->Value)(es:Array MapEntry)(clock:Nat)(kv:List (Ky×A))(z:List ((Ky×A)×MapEntry)):Prop where
 toList:es.toList=z.map (·.2)
 perm:(z.map (·.1)).Perm kv
 key:∀p∈z,p.2.key=p.1.1.val
 den:∀p∈z,A.Den w M m ρ p.1.2 p.2.val
 nodup:(z.map (·.1.1)).Nodup
 born:(z.map (·.2.born)).Nodup
 old:∀p∈z,p.2.born<clock
section
variable{w:World}{M:Nat->Prop}{m:Mem}{ρ:Nat->Value}{es:Array MapEntry}{clock:Nat}{kv:List (Ky×A)}
def IU{α β:Type}:∀{l:List α}{r:List β},l.length=r.length->(l.zip r).map (·.1)=l
 |[],[],_=>rfl
 |a::l,b::r,h=>by simp at h;simp[IU h]
 |[],_::_,h=>by simp at h
 |_::_,[],h=>by simp at h
def IV{α β:Type}:∀{l:List α}{r:List β},l.length=r.length->(l.zip r).map (·.2)=r
 |[],[],_=>rfl
 |a::l,b::r,h=>by simp at h;simp[IV h]
 |[],_::_,h=>by simp at h
 |_::_,[],h=>by simp at h
def aD5{l:List MapEntry}(h:M4 es clock (kv.map (·.1)) l)(hd:A.bR w M m ρ (kv.map (·.2)) (l.map (·.val))):∃z,MZ w M m ρ es clock kv z:=by
 have hlen:kv.length=l.length:=by have:=congrArg List.length h.keys;simpa using this.symm
 have⟨z,h1,h2⟩:=yR (f:=λp:(Ky×A)×MapEntry=>p.2) h.perm (IV hlen).symm;have hz:∀p∈z,∃j:Nat,kv[j]?=some p.1/\l[j]?=some p.2:=by
  intro p hp;have:=h1.mem_iff.1 hp;have⟨j,hj,e⟩:=dH.1 this;refine⟨j,?_,?_⟩
  ·have:(kv.zip l)[j]?=some p:=by rw[aC hj,e]
   rw[oH]at this;exact this.1
  ·have:(kv.zip l)[j]?=some p:=by rw[aC hj,e]
   rw[oH]at this;exact this.2
 rw[A.xJ]at hd;refine⟨z,h2,?_,λp hp=>?_,λp hp=>?_,?_,?_,λp hp=>?_⟩
 ·have:=h1.map (·.1);rwa [IU hlen]at this
 ·have⟨j,e1,e2⟩:=hz p hp;have e3:(l.map (·.key))[j]?=some p.2.key:=by simp[e2]
  rw[h.keys]at e3;simp[e1]at e3;exact e3.symm
 ·have⟨j,e1,e2⟩:=hz p hp;exact hd.2 j _ _ (by simp[e1]) (by simp[e2])
 ·have:(z.map (·.1.1)).Perm (kv.map (·.1)):=by
   have:=(h1.map (·.1)).map (·.1);rw[IU hlen,bH]at this;exact this
  exact(this.nodup_iff).2 h.nodup
 ·have:(z.map (·.2.born)).Perm (l.map (·.born)):=by
   have:=(h1.map (·.2)).map (·.born);rw[IV hlen,bH]at this;exact this
  exact(this.nodup_iff).2 h.born
 ·have⟨j,e1,e2⟩:=hz p hp;exact h.old _ (l5 e2)
def aI9{z:List ((Ky×A)×MapEntry)}(h:MZ w M m ρ es clock kv z):∃l,M4 es clock (kv.map (·.1)) l/\A.bR w M m ρ (kv.map (·.2)) (l.map (·.val)):=by
 have⟨z',h1,h2⟩:=yR (f:=λp:(Ky×A)×MapEntry=>p.1) h.perm.symm rfl;refine⟨z'.map (·.2),⟨?_,?_,?_,?_,?_⟩,?_⟩
 ·rw[h.toList];exact(h1.map _).symm
 ·rw[h2,bH,bH,bH];exact cQ λp hp=>h.key p (h1.mem_iff.1 hp)
 ·rw[h2,bH];exact((h1.map (·.1.1)).nodup_iff).2 h.nodup
 ·rw[bH];exact((h1.map (·.2.born)).nodup_iff).2 h.born
 ·intro e he;obtain⟨p,hp,rfl⟩:=aA4.1 he;exact h.old p (h1.mem_iff.1 hp)
 ·rw[A.xJ];refine⟨by simp[h2],λj c y hc hy=>?_⟩;rw[h2]at hc;simp only[bH,cK,bU]at hc hy;obtain⟨p,hp,rfl⟩:=hc;obtain⟨q,hq,rfl⟩:=hy;rw[hp]at hq;cases hq;exact h.den p (h1.mem_iff.1 (l5 hp))
def fL(k:Ky):List (Ky×A)->Option A
 |[]=>none
 |p::r=>if k=p.1 then some p.2 else fL k r
def CP{k:Ky}{a:A}:∀{kv:List (Ky×A)},fL k kv=some a->(k,a)∈kv
 |[],h=>by simp[fL]at h
 |p::r,h=>by
  simp[fL]at h;split at h
  ·rename_i e;simp at h;subst h;subst e;simp
  ·simp[CP h]
def uM{k:Ky}:∀{kv:List (Ky×A)},fL k kv=none->∀p∈kv,k≠p.1
 |[],_,p,hp=>by simp at hp
 |q::r,h,p,hp=>by
  simp[fL]at h;split at h
  ·cases h
  ·rename_i e;simp[aO]at hp;rcases hp with rfl|hp
   ·exact e
   ·exact uM h p hp
def CH{k:Ky}:∀{z:List ((Ky×A)×MapEntry)}{i n:Nat}{v:Value},pT k (z.map λp=>(p.1.1,p.2)) n=some (i,v)->∃p,z[i -n]?=some p/\n<=i/\p.1.1=k/\v=p.2.val
 |[],i,n,v,h=>by simp[pT]at h
 |p::r,i,n,v,h=>by
  simp only[aG,pT]at h;split at h
  ·rename_i e;simp at h;obtain⟨rfl,rfl⟩:=h;exact⟨p,sM,bT _,e.symm,rfl⟩
  ·have⟨q,h1,h2,h3,h4⟩:=CH h;refine⟨q,?_,oM,h3,h4⟩;rw[show i -n=(i -(n+1))+1 by omega];simpa using h1
def uI{k:Ky}:∀{z:List ((Ky×A)×MapEntry)}{n:Nat},pT k (z.map λp=>(p.1.1,p.2)) n=none->∀p∈z,k≠p.1.1
 |[],n,_,p,hp=>by simp at hp
 |q::r,n,h,p,hp=>by
  simp[aG,pT]at h;split at h
  ·cases h
  ·rename_i e;simp[aO]at hp;rcases hp with rfl|hp
   ·exact e
   ·exact uI h p hp
def MZ.find{z:List ((Ky×A)×MapEntry)}(h:MZ w M m ρ es clock kv z)(k:Ky):
 (pT k (z.map λp=>(p.1.1,p.2)) 0=none/\fL k kv=none)\/∃i p,pT k (z.map λp=>(p.1.1,p.2)) 0=some (i,p.2.val)/\z[i]?=some p/\p.1.1=k/\fL k kv=some p.1.2:=by
 cases hf:pT k (z.map λp=>(p.1.1,p.2)) 0 with
 |none=>
  left;refine⟨rfl,?_⟩;cases hg:fL k kv with
  |none=>rfl
  |some a=>
   have:=h.perm.mem_iff.2 (CP hg);have⟨p,hp,e⟩:=aA4.1 this;exact absurd (by rw[e]) (uI hf p hp)
 |some r=>
  right;have⟨i,v⟩:=r;obtain⟨p,h1,_,h2,rfl⟩:=CH hf;refine⟨i,p,rfl,by simpa using h1,h2,?_⟩;have hm:p.1∈kv:=h.perm.mem_iff.1 (aA4.2 ⟨p,l5 h1,rfl⟩);have y4:(kv.map (·.1)).Nodup:=by
   have:=(h.perm.map (·.1)).nodup_iff;rw[bH]at this;exact this.1 h.nodup
  subst h2;cases hg:fL p.1.1 kv with
  |none=>exact absurd rfl (uM hg p.1 hm)
  |some a=>
   have h3:=CP hg;have:∀{kv:List (Ky×A)}{k:Ky}{a b:A},(kv.map (·.1)).Nodup->(k,a)∈kv->(k,b)∈kv->a=b:=by
    intro kv k a b;induction kv with
    |nil=>simp
    |cons q r ih=>
     intro hn h1 h2;simp only[aG,aAD,aA4]at hn;simp[aO]at h1 h2;rcases h1 with h1|h1<;>rcases h2 with h2|h2
     ·rw[<-h1]at h2;cases h2;rfl
     ·exact absurd ⟨(k,b),h2,by rw[<-h1]⟩ hn.1
     ·exact absurd ⟨(k,a),h1,by rw[<-h2]⟩ hn.1
     ·exact ih hn.2 h1 h2
   rw[this y4 h3 hm]
end
def aHN:Value->Option KC
 |.int k n=>some (.int k n)
 |.bool b=>some (.bool b)
 |.string s=>some (.str s)
 |_=>none
def TD{c:KC}(h:aHN v=some c):v=c.val:=by
 cases v<;>simp[aHN]at h<;>(subst h;rfl)
def kcC:C->Option KC
 |.v x=>aHN x
 |_=>none
def kcA:A->Option KC
 |.d c=>kcC c
 |_=>none
def aDV:List C->Option (List KC)
 |[]=>some []
 |c::r=>match kcC c,aDV r with
  |some k,some l=>some (k::l)
  |_,_=>none
def aDU:List A->Option (List KC)
 |[]=>some []
 |c::r=>match kcA c,aDU r with
  |some k,some l=>some (k::l)
  |_,_=>none
def keyOf:A->Option Ky
 |.d (.v v)=>(aHN v).map .one
 |.d (.agg l)=>(aDV l).map .agg
 |.agg l=>(aDU l).map .agg
 |_=>none
section
variable{w:World}{M:Nat->Prop}{m:Mem}{ρ:Nat->Value}
def YH{c:C}{k:KC}(h:kcC c=some k)(hd:c.Den w M y):y=k.val:=by
 cases c<;>simp[kcC]at h
 simp[C.Den]at hd;rw[hd];exact TD h
def aHM{c:A}{k:KC}(h:kcA c=some k)(hd:c.Den w M m ρ y):y=k.val:=by
 cases c<;>simp[kcA]at h
 simp[A.Den]at hd;exact YH h hd
def TF:∀{l:List C}{ks:List KC}{ys:List Value},aDV l=some ks->C.bR w M l ys->ys=ks.map KC.val
 |[],ks,ys,h,hd=>by simp only[aDV,aA]at h;subst h;simpa only[C.bR,bM]using hd
 |c::r,ks,ys,h,hd=>by
  simp only[aDV]at h;split at h
  ·rename_i k l h1 h2;simp only[aA]at h;subst h;simp only[C.bR]at hd;obtain⟨y,yr,rfl,h3,h4⟩:=hd;rw[YH h1 h3,TF h2 h4];rfl
  ·cases h
def TE:∀{l:List A}{ks:List KC}{ys:List Value},aDU l=some ks->A.bR w M m ρ l ys->ys=ks.map KC.val
 |[],ks,ys,h,hd=>by simp only[aDU,aA]at h;subst h;simpa only[A.bR,bM]using hd
 |c::r,ks,ys,h,hd=>by
  simp only[aDU]at h;split at h
  ·rename_i k l h1 h2;simp only[aA]at h;subst h;simp only[A.bR]at hd;obtain⟨y,yr,rfl,h3,h4⟩:=hd;rw[aHM h1 h3,TE h2 h4];rfl
  ·cases h
def rF(h:keyOf x=some k)(hd:x.Den w M m ρ y):y=k.val:=by
 cases x with
 |d c=>
  cases c with
  |v v=>
   simp[keyOf,bU]at h;obtain⟨c,h1,rfl⟩:=h;simp[A.Den,C.Den]at hd;rw[hd];exact TD h1
  |agg l=>
   simp[keyOf,bU]at h;obtain⟨c,h1,rfl⟩:=h;simp[A.Den,C.Den]at hd;obtain⟨vs,rfl,_,h2⟩:=hd;have:=TF h1 h2;simp[Ky.val];rw[<-this]
  |_=>simp[keyOf]at h
 |agg l=>
  simp[keyOf,bU]at h;obtain⟨c,h1,rfl⟩:=h;simp[A.Den]at hd;obtain⟨vs,rfl,_,h2⟩:=hd;have:=TE h1 h2;simp[Ky.val];rw[<-this]
 |_=>simp[keyOf]at h
end
def U2(P:Program)(t:TypeId):Option A:=
 match P.info? t with
 |some i=>match i.zero with
  |some (.agg _)=>(o5 P t).map λz=>.d (.agg z)
  |some _=>match o5 P t with
   |some [c]=>some (.d c)
   |_=>none
  |none=>none
 |none=>none
def O5{a:A}(h:U2 P t=some a)(w:World):∃v,(zeroValue t).run P w=.ok v w/\∀w M m ρ,a.Den w M m ρ v:=by
 unfold U2 at h;split at h
 ·rename_i i hi;split at h
  ·rename_i cs hz;simp[bU]at h;obtain⟨z,h1,rfl⟩:=h;have⟨zv,h2,h3,⟨i',h4,h5⟩,h6⟩:=qA h1 w;rw[hi]at h4;cases h4;rw[hz]at h5;cases h5;exact⟨_,h2,λw M m ρ=>by simp only[A.Den,C.Den];exact⟨cs,rfl,h6,h3 w M⟩⟩
  ·rename_i v hZ hz;split at h
   ·rename_i c h1;simp[aA]at h;subst h;have⟨zv,h2,h3,⟨i',h4,h5⟩,h6⟩:=qA h1 w;rw[hi]at h4;cases h4;rw[hz]at h5;cases h5;refine⟨_,h2,λw M m ρ=>?_⟩;have h7:=h3 w M;have hc:v.cells= #[v]:=by cases v<;>first|rfl|exact(hZ _ rfl).elim
    rw[hc]at h7;simp only[C.bR]at h7;have⟨y,yr,e,h8,_⟩:=h7;simp at e;simp[A.Den];rw[e.1];exact h8
   ·cases h
  ·cases h
 ·cases h
def CR(P:Program)(t:TypeId):Option (TypeId×TypeId):=
 match P.underlying t with
 |some (.map k e)=>some (k,e)
 |_=>none
def vO{k e:TypeId}(h:CR P t=some (k,e)):P.underlying t=some (.map k e):=by
 unfold CR at h;split at h
 ·rename_i hu;simp at h;have⟨rfl,rfl⟩:=h;exact hu
 ·cases h
def kH(P:Program)(kt:TypeId)(k:Ky)(kv:List (Ky×A)):Bool:=k.fits P kt&&kv.all λp=>k.same p.1
def QK(ok:Bool)(a:A)(b:Bool):A:=if ok then .eL [a,.d (.v (.bool b))]else a
def lO(P:Program)(m:Mem)(t:TypeId)(x ix:A)(ok:Bool):Option E:=
 match CR P t,keyOf ix with
 |some (kt,et),some k=>match U2 P et with
  |some z=>match x with
   |.h i=>match m i with
    |some (.mp _ kv _)=>match fL k kv with
     |some a=>some (kH P kt k kv,QK ok a true,[])
     |none=>some (kH P kt k kv,QK ok z false,[])
    |_=>none
   |.d (.im ks vs)=>match fL k (ks.zip (vs.map A.d))with
    |some a=>some (kH P kt k (ks.zip (vs.map A.d)),QK ok a true,[])
    |none=>some (kH P kt k (ks.zip (vs.map A.d)),QK ok z false,[])
   |.d (.v (.map none))=>some (k.fits P kt,QK ok z false,[])
   |_=>none
  |none=>none
 |_,_=>none
def mW(P:Program)(m:Mem)(t:TypeId)(x ix a:A):Option E:=
 match CR P t,keyOf ix,x with
 |some (kt,_),some k,.h i=>match m i with
  |some (.mp false kv st)=>match fL k kv with
   |some _=>some (kH P kt k kv,.x,[(i,.mp false (kv.map λp=>if p.1=k then(k,a)else p) st)])
   |none=>some (kH P kt k kv,.x,[(i,.mp false (kv++[(k,a)]) (st.filter λp=>p.1 !=k&&p.1 !=.agg []))])
  |_=>none
 |_,_,_=>none
def tL(P:Program)(m:Mem)(t:TypeId)(x ix:A):Option E:=
 match CR P t,keyOf ix,x with
 |some (kt,_),some k,.h i=>match m i with
  |some (.mp false kv st)=>some (kH P kt k kv,.eL [],[(i,.mp false (kv.filter λp=>p.1 !=k) (st.filter λp=>p.1 !=k))])
  |_=>none
 |some (kt,_),some k,.d (.v (.map none))=>some (k.fits P kt,.eL [],[])
 |_,_,_=>none
section
variable{M0 S0:Nat->Prop}{w0:World}{N:Fr}{T:Nat->A}{m:Mem}{ρ:Nat->Value}{a:Act}{w:World}{P:Program}
def jS{es:Array MapEntry}(h:w.heap[b]?=some (.map es cl)):(getObj b).run P w=.ok (.map es cl) w:=by
 simp[getObj,Sem.run,h]
def HO(h:bC M0 S0 w0 N T m ρ a w){i:Nat}{fz:Bool}{kv:List (Ky×A)}{st:List (Ky×Nat)}(hi:m i=some (.mp fz kv st)):
 ∃b es cl z,ρ i=.map (some b)/\w.heap[b]?=some (.map es cl)/\MZ w (dD M0 m ρ) m ρ es cl kv z/\vW m ρ st es.toList cl:=by
 have⟨b,es,cl,l,h1,h2,h3,h4,h5,h6⟩:=h.res i _ hi;have⟨z,hz⟩:=aD5 h3 h4;exact⟨b,es,cl,z,h1,h2,hz,λp hp=>⟨(h6 p hp).1,λhd=>⟨λe he=>((h6 p hp).2 hd).1 e (h3.perm.mem_iff.1 he),((h6 p hp).2 hd).2⟩⟩⟩
def QL{ok b:Bool}(h:x.Den w M m ρ v):(QK ok x b).Den w M m ρ (if ok=true then .tuple #[v,.bool b]else v):=by
 unfold QK;cases ok
 ·simpa using h
 ·simp only[if_true,A.Den];exact⟨_,rfl,by simp only[A.bR,A.Den,C.Den];exact⟨v,_,rfl,h,_,_,rfl,rfl,rfl⟩⟩
def DQ{kt:TypeId}(h:kH P kt k kv=true){M:Nat->Prop}{es:Array MapEntry}{cl:Nat}{z:List ((Ky×A)×MapEntry)}(hz:MZ w M m ρ es cl kv z):
 k.fits P kt=true/\(Instr.findKey kt k.val es.toList).run P w=.ok (pT k (z.map λp=>(p.1.1,p.2)) 0) w:=by
 unfold kH at h;simp only[aE,cV]at h;refine⟨h.1,?_⟩
 have:=LF (P:=P) (w:=w) h.1 (z.map λp=>(p.1.1,p.2)) (λp hp=>by obtain⟨q,hq,rfl⟩:=aA4.1 hp;exact hz.key q hq) (λp hp=>by
  obtain⟨q,hq,rfl⟩:=aA4.1 hp
  exact h.2 q.1 (hz.perm.mem_iff.1 (aA4.2 ⟨q,hq,rfl⟩)))
 rw[bH]at this;rw[hz.toList];exact this
def TJ(ok:Bool)(zv:Value):Option (Nat×Value)->Value
 |some p=>if ok=true then .tuple #[p.2,.bool true]else p.2
 |none=>if ok=true then .tuple #[zv,.bool false]else zv
def ET{kt et:TypeId}{ok:Bool}{es:Array MapEntry}{r:Option (Nat×Value)}{zv:Value}{x:Value}(hu:P.underlying t=some (.map kt et))(hx:(x=.map none/\es= #[])\/∃b cl,x=.map (some b)/\w.heap[b]?=some (.map es cl))
 (hf:k.fits P kt=true)(aWM:(Instr.findKey kt k.val es.toList).run P w=.ok r w)(hz:(zeroValue et).run P w=.ok zv w):
 (Instr.lookup t x k.val ok).run P w=.ok (TJ ok zv r) w:=by
 rcases hx with⟨rfl,rfl⟩|⟨b,cl,rfl,hb⟩
 ·simp[Instr.lookup,aV,run_underlying hu,aN,cB,mA _ 9995 hf,aWM];cases r with
  |none=>cases ok<;>simp[hz,TJ]
  |some p=>cases ok<;>simp[TJ]
 ·simp[Instr.lookup,aV,run_underlying hu,aN,cB,jS hb,mA _ 9995 hf,aWM];cases r with
  |none=>cases ok<;>simp[hz,TJ]
  |some p=>cases ok<;>simp[TJ]
def aBO(h:bC M0 S0 w0 N T m ρ a w){t:TypeId}{x ix v:A}{y iy:Value}{ok:Bool}{pre:Bool}{ups:List (Nat×R)}(hx:x.Den w (dD M0 m ρ) m ρ y)(hix:ix.Den w (dD M0 m ρ) m ρ iy)
 (he:lO P m t x ix ok=some (pre,v,ups))(hp:pre=true):ups=[]/\∃z,(Instr.lookup t y iy ok).run P w=.ok z w/\v.Den w (dD M0 m ρ) m ρ z:=by
 unfold lO at he;split at he
 ·rename_i kt et k hm hk;have hu:=vO hm;have hkv:=rF hk hix;subst hkv;split at he
  ·rename_i zA hzA;have⟨zv,XN,XO⟩:=O5 hzA w;have fin:∀{es:Array MapEntry}{kv:List (Ky×A)}{cl:Nat}{z:List ((Ky×A)×MapEntry)}{b:Nat},y=.map (some b)->w.heap[b]?=some (.map es cl)->MZ w (dD M0 m ρ) m ρ es cl kv z->kH P kt k kv=true->
    ∃u,(Instr.lookup t y k.val ok).run P w=.ok u w/\(match fL k kv with|some a=>QK ok a true|none=>QK ok zA false).Den w (dD M0 m ρ) m ρ u:=by
    intro es kv cl z b hy hb hz hfk;have⟨hf,aWM⟩:=DQ hfk hz;have hr:=ET (ok:=ok) hu (.inr ⟨b,cl,hy,hb⟩) hf aWM XN;refine⟨_,hr,?_⟩;rcases hz.find k with⟨e1,e2⟩|⟨i,p,e1,e2,e3,e4⟩
    ·rw[e1,e2];exact QL (XO _ _ _ _)
    ·rw[e1,e4];exact QL (hz.den p (l5 e2))
   split at he
   ·rename_i i;split at he
    ·rename_i fz kv st hi;have⟨b,es,cl,z,h1,h2,h3,_⟩:=HO h hi;simp[A.Den]at hx;have hy:=(eH hx hi sM).trans h1;have key:ups=[]/\pre=kH P kt k kv/\v=(match fL k kv with|some a=>QK ok a true|none=>QK ok zA false):=by
      split at he<;>(simp[aA,aD]at he;have⟨rfl,rfl,rfl⟩:=he;rename_i hg;simp[hg])
     obtain⟨rfl,rfl,rfl⟩:=key;exact⟨rfl,fin hy h2 h3 hp⟩
    ·cases he
   ·rename_i ks vs;simp only[A.Den,C.Den]at hx;have⟨b,es,cl,l,hy,_,h2,h3,h4⟩:=hx;have hlen:ks.length=(vs.map A.d).length:=by
     have e1:=congrArg List.length h3.keys;have e2:=(C.xJ.1 h4).1;simp at e1 e2⊢;omega
    obtain⟨z,hz⟩:=aD5 (m:=m) (ρ:=ρ) (M:=dD M0 m ρ) (kv:=ks.zip (vs.map A.d)) (by rw[IU hlen];exact h3) (by rw[IV hlen];exact A.iO.2 h4);have key:ups=[]/\pre=kH P kt k (ks.zip (vs.map A.d))/\v=(match fL k (ks.zip (vs.map A.d))with|some a=>QK ok a true|none=>QK ok zA false):=by
     split at he<;>(simp[aA,aD]at he;have⟨rfl,rfl,rfl⟩:=he;rename_i hg;simp[hg])
    obtain⟨rfl,rfl,rfl⟩:=key;exact⟨rfl,fin hy h2 hz hp⟩
   ·simp[aA,aD]at he;have⟨rfl,rfl,rfl⟩:=he;simp[A.Den,C.Den]at hx;subst hx;have aWM:(Instr.findKey kt k.val (#[]:Array MapEntry).toList).run P w=.ok none w:=by
     have:=LF (P:=P) (w:=w) hp [] sM sM;simpa [pT]using this
    exact⟨rfl,_,ET (ok:=ok) hu (.inl ⟨rfl,rfl⟩) hp aWM XN,QL (XO _ _ _ _)⟩
   ·cases he
  ·cases he
 ·cases he
def _root_.Go.World.gW(w:World)(b:Nat)(o:Obj):World:={w with heap:=w.heap.setIfInBounds b o}
def tS{o o':Obj}(h:w.heap[b]?=some o'):(w.gW b o).heap[b]?=some o:=by
 have:=(aL.1 h).1;simp[World.gW,this]
def mJ(w:World)(b:Nat)(o:Obj):iF (λk=>k=b) w (w.gW b o):=
 ⟨rfl,rfl,rfl,by simp[World.gW],λk _ hk=>by
   show(w.heap.setIfInBounds b o)[k]?=_
   rw[aB3 (λe=>hk e.symm)]⟩
def pJ{es:Array MapEntry}{o:Obj}(h:w.heap[b]?=some (.map es cl)):(setObj b o).run P w=.ok () (w.gW b o):=by
 simp[setObj,Sem.run,h,World.gW]
def tQ(h:bC M0 S0 w0 N T m ρ a w){i b:Nat}{kv kv':List (Ky×A)}{st st':List (Ky×Nat)}{es es':Array MapEntry}{cl cl':Nat}(hi:m i=some (.mp false kv st))(hb:ρ i=.map (some b))(hh:w.heap[b]?=some (.map es cl))
 {z':List ((Ky×A)×MapEntry)}(hz:MZ w (dD M0 m ρ) m ρ es' cl' kv' z')(HG:vW m ρ st' es'.toList cl'):
 bC M0 S0 w0 N T (aX m i (.mp false kv' st')) ρ a (w.gW b (.map es' cl'))/\gL m (aX m i (.mp false kv' st')) ρ ρ:=by
 have hO:gL m (aX m i (.mp false kv' st')) ρ ρ:=by
  have:=gL.set (m:=m) (ρ:=ρ) i (.mp false kv' st') (ρ i) (λ_ _=>⟨by rw[hi];simp,rfl,λfz t es l e=>by rw[hi]at e;simp at e⟩)
  rwa [jP]at this
 refine⟨h.write hi rfl rfl sM (mJ w b _) (λk _ e=>by rw[hb,e];rfl) ?_,hO⟩;intro _ aYC hm;have⟨l,h1,h2⟩:=aI9 hz;refine⟨b,es',cl',l,hb,tS hh,h1,A.dK aYC hm hO _ _ h2,sM,vW.mono hO λp hp=>⟨(HG p hp).1,λhd=>⟨λe he=>((HG p hp).2 hd).1 e (h1.perm.mem_iff.2 he),((HG p hp).2 hd).2⟩⟩⟩
def KU{α:Type}(f g:α->α):∀(l:List α)(i:Nat),(∀j x,l[j]?=some x->g x=if j=i then f x else x)->l.modify i f=l.map g
 |[],i,_=>by cases i<;>rfl
 |x::l,0,h=>by
  have h0:=h 0 x rfl;simp[List.modify_zero_cons,aG];rw[h0];simp[if_true];congr 1;have:∀y∈l,g y=y:=λy hy=>by
   have⟨j,hj,e⟩:=dH.1 hy;have:=h (j+1) y (by simp[hj,e]);simpa using this
  rw[cQ this];simp
 |x::l,i+1,h=>by
  have h0:=h 0 x rfl;simp[List.modify_succ_cons,aG];rw[h0];simp[Nat.zero_ne_add_one,if_false];rw[KU f g l i λj y hy=>by have:=h (j+1) y (by simpa using hy);simpa using this]
def rH{α β:Type}{f:α->β}{l:List α}(hn:(l.map f).Nodup){i j:Nat}{x y:α}(hi:l[i]?=some x)(hj:l[j]?=some y)(e:f x=f y):i=j:=by
 have hi':=bA.1 hi;have QB:=bA.1 hj;obtain⟨h1,h2⟩:=hi';obtain⟨h3,h4⟩:=QB;have:=(a4A (xs:=l.map f) (h₀:=by simpa using h1) (h₁:=by simpa using h3) hn).1 (by simp[h2,h4,e]);exact this
def MZ.set{es:Array MapEntry}{z:List ((Ky×A)×MapEntry)}(hz:MZ w M m ρ es cl kv z){k:Ky}{i:Nat}{p:(Ky×A)×MapEntry}(hp:z[i]?=some p)(hk:p.1.1=k){x:A}{v:Value}(hv:x.Den w M m ρ v):
 MZ w M m ρ (es.modify i λe=>{e with key:=k.val,val:=v}) cl (kv.map λq=>if q.1=k then(k,x)else q) (z.map λq=>if q.1.1=k then((k,x),{q.2 with key:=k.val,val:=v})else q):=by
 have hg:∀q:(Ky×A)×MapEntry,(if q.1.1=k then(((k,x),{q.2 with key:=k.val,val:=v}):(Ky×A)×MapEntry)else q).2.born=q.2.born:=by intro q;split<;>rfl
 have hg1:∀q:(Ky×A)×MapEntry,(if q.1.1=k then(((k,x),{q.2 with key:=k.val,val:=v}):(Ky×A)×MapEntry)else q).1.1=q.1.1:=by intro q;split<;>simp_all
 refine⟨?_,?_,?_,?_,?_,?_,?_⟩
 ·rw[lJ,hz.toList]
  rw[show(z.map (·.2)).modify i (λe=>{e with key:=k.val,val:=v})=(z.modify i λq=>(q.1,{q.2 with key:=k.val,val:=v})).map (·.2) by
   apply iQ;intro j;simp[lC,cK];cases z[j]?<;>simp;split<;>rfl]
  rw[KU _ (λq=>if q.1.1=k then(q.1,{q.2 with key:=k.val,val:=v})else q) z i λj q hq=>by
   by_cases e:j=i
   · subst e;rw[hp]at hq;cases hq;simp[hk]
   · have:q.1.1≠k:=λe2=>e (rH hz.nodup hq hp (e2.trans hk.symm))
     simp[e,this]]
  rw[bH,bH];exact cQ λq _=>by simp[Function.comp_apply];split<;>rfl
 ·have:=hz.perm.map (λq=>if q.1=k then(k,x)else q);rw[bH]at this⊢;refine(List.Perm.of_eq (cQ λq _=>?_)).trans this;simp[Function.comp_apply];split<;>rfl
 ·intro q hq;obtain⟨q0,hq0,rfl⟩:=aA4.1 hq;split
  ·rfl
  ·exact hz.key q0 hq0
 ·intro q hq;obtain⟨q0,hq0,rfl⟩:=aA4.1 hq;split
  ·exact hv
  ·exact hz.den q0 hq0
 ·rw[bH];exact(cQ (λq _=>hg1 q):_=z.map (·.1.1))▸hz.nodup
 ·rw[bH];exact(cQ (λq _=>hg q):_=z.map (·.2.born))▸hz.born
 ·intro q hq;obtain⟨q0,hq0,rfl⟩:=aA4.1 hq;rw[hg];exact hz.old q0 hq0
def MZ.push{M:Nat->Prop}{es:Array MapEntry}{cl:Nat}{kv:List (Ky×A)}{z:List ((Ky×A)×MapEntry)}(hz:MZ w M m ρ es cl kv z){k:Ky}(hk:∀p∈z,k≠p.1.1){x:A}{v:Value}(hv:x.Den w M m ρ v):
 MZ w M m ρ (es.push {key:=k.val,val:=v,born:=cl}) (cl+1) (kv++[(k,x)]) (z++[((k,x),{key:=k.val,val:=v,born:=cl})]):=by
 refine⟨?_,?_,?_,?_,?_,?_,?_⟩
 ·simp[hz.toList]
 ·simpa using hz.perm.append_right [(k,x)]
 ·intro p hp;simp at hp;rcases hp with hp|rfl
  ·exact hz.key p hp
  ·rfl
 ·intro p hp;simp at hp;rcases hp with hp|rfl
  ·exact hz.den p hp
  ·exact hv
 ·rw[bP,iS];refine⟨hz.nodup,sM,?_⟩;intro a ha b hb e;simp at hb;subst hb;obtain⟨p,hp,rfl⟩:=aA4.1 ha;exact hk p hp e.symm
 ·rw[bP,iS];refine⟨hz.born,sM,?_⟩;intro a ha b hb e;simp at hb;subst hb;obtain⟨p,hp,rfl⟩:=aA4.1 ha;have:=hz.old p hp;omega
 ·intro p hp;simp at hp;rcases hp with hp|rfl
  ·have:=hz.old p hp;omega
  ·simp
def HS(n:Nat)(c:KC):Instr.sameBits (n+1) c.val c.val=true:=by
 cases c<;>simp[KC.val,Instr.sameBits,beq_toListBytes]
def HT(n:Nat)(k:Ky):Instr.sameBits (n+2) k.val k.val=true:=by
 cases k with
 |one c=>exact HS (n+1) c
 |agg l=>
  simp only[Ky.val,Instr.sameBits,aE,cV];refine⟨sM,?_⟩;intro p hp;have⟨x,y⟩:=p;have:x=y/\x∈l.map KC.val:=by
   have h1:=List.of_mem_zip hp;have:∀{l:List Value}{x y:Value},(x,y)∈l.zip l->x=y:=by
    intro l;induction l with
    |nil=>simp
    |cons a r ih=>intro x y h;simp at h;rcases h with⟨rfl,rfl⟩|h;rfl;exact ih h
   exact⟨this (by simpa using hp),by simpa using h1.1⟩
  have⟨rfl,h2⟩:=this;obtain⟨c,_,rfl⟩:=aA4.1 h2;exact HS n c
def Ky.val_inj{a b:Ky}(h:a.val=b.val):a=b:=by
 have kc:∀{a b:KC},a.val=b.val->a=b:=by
  intro a b h;cases a<;>cases b<;>simp[KC.val]at h<;>simp_all
 cases a<;>cases b
 ·simp[Ky.val]at h;rw[kc h]
 ·rename_i c l;cases c<;>simp[Ky.val,KC.val]at h
 ·rename_i l c;cases c<;>simp[Ky.val,KC.val]at h
 ·rename_i l1 l2;simp[Ky.val,Value.agg.injEq]at h;have h':l1.map KC.val=l2.map KC.val:=by simpa using h
  congr 1;exact(List.map_inj_right (λa b=>kc)).1 h'
end
section
variable{M0 S0:Nat->Prop}{w0:World}{N:Fr}{T:Nat->A}{m:Mem}{ρ:Nat->Value}{a:Act}{w:World}{P:Program}
def UQ{es:Array MapEntry}{z:List ((Ky×A)×MapEntry)}(hz:MZ w M m ρ es cl kv z){p:(Ky×A)×MapEntry}(hp:z[i]?=some p)(hk:p.1.1=k)
 {c:Nat}(h:vW m ρ st es.toList c):vW m ρ st (es.modify i λe=>{e with key:=k.val,val:=v}).toList c:=by
 refine λq hq=>⟨(h q hq).1,λhd=>⟨λe he hek=>?_,((h q hq).2 hd).2⟩⟩;have⟨j,hj⟩:=dY.1 he;rw[lJ,lC]at hj;have hpk:p.2.key=k.val:=by rw[<-hk];exact hz.key p (l5 hp)
 by_cases e:i=j
 ·subst e;have h1:es.toList[i]?=some p.2:=by rw[hz.toList];simp[hp]
  rw[h1]at hj;simp at hj;rw[<-hj]at hek⊢;exact((h q hq).2 hd).1 p.2 (l5 h1) (hpk.trans hek)
 ·simp[e]at hj;exact((h q hq).2 hd).1 _ (l5 (by simpa using hj)) hek
def OT{es:Array MapEntry}{c:Nat}(h:vW m ρ st es.toList c):vW m ρ (st.filter λp=>p.1 !=k&&p.1 !=.agg []) (es.push {key:=k.val,val:=v,born:=b}).toList (c+1):=by
 intro q hq;obtain⟨hq1,WI⟩:=a39.1 hq;refine⟨(h q hq1).1,λhd=>⟨λe he hek=>?_,Nat.le_succ_of_le ((h q hq1).2 hd).2.1,λe=>by rw[e]at WI;simp at WI⟩⟩;simp at he;rcases he with he|rfl
 ·exact((h q hq1).2 hd).1 e (by simpa using he) hek
 ·have:=Ky.val_inj hek;simp[this]at WI
def aFR{st':List (Ky×Nat)}{l l':List MapEntry}{c:Nat}(h:vW m ρ st l c)(hs:∀p∈st',p∈st)(hl:∀e∈l',e∈l):vW m ρ st' l' c:=
 λp hp=>⟨(h p (hs p hp)).1,λhd=>⟨λe he=>((h p (hs p hp)).2 hd).1 e (hl e he),((h p (hs p hp)).2 hd).2⟩⟩
def H8{kt et:TypeId}{es:Array MapEntry}{r:Option (Nat×Value)}(hu:P.underlying t=some (.map kt et))(hb:w.heap[b]?=some (.map es cl))(hf:k.fits P kt=true)(aWM:(Instr.findKey kt k.val es.toList).run P w=.ok r w)
 (hr:∀i u,r=some (i,u)->∃e,es[i]?=some e/\e.key=k.val):
 (Instr.mapUpdate t (.map (some b)) k.val v).run P w=.ok () (w.gW b (match(generalizing:=false) r with|some p=>.map (es.modify p.1 λe=>{e with key:=k.val,val:=v}) cl|none=>.map (es.push {key:=k.val,val:=v,born:=cl}) (cl+1))):=by
 simp[Instr.mapUpdate,aV,run_underlying hu,aN,jS hb,mA _ 9995 hf,aWM];cases r with
 |none=>exact pJ hb
 |some p=>
  have⟨e,h1,h2⟩:=hr p.1 p.2 rfl;simp[h1,dF,gZ,h2,Instr.keyThatStays,HT 9998,if_true,cB,aN];exact pJ hb
def VR{es:Array MapEntry}{z:List ((Ky×A)×MapEntry)}(hz:MZ w M m ρ es cl kv z){k:Ky}:∀i u,pT k (z.map λp=>(p.1.1,p.2)) 0=some (i,u)->∃e,es[i]?=some e/\e.key=k.val:=by
 intro i u hf;have⟨p,h1,_,h2,_⟩:=CH hf;refine⟨p.2,?_,by rw[<-h2];exact hz.key p (l5 h1)⟩;have h1':z[i]?=some p:=by simpa using h1
 have:es.toList[i]?=some p.2:=by rw[hz.toList,cK,h1'];rfl
 simpa using this
def OP(h:bC M0 S0 w0 N T m ρ a w){t:TypeId}{x ix v u:A}{y iy vv:Value}{pre:Bool}{ups:List (Nat×R)}(hx:x.Den w (dD M0 m ρ) m ρ y)(hix:ix.Den w (dD M0 m ρ) m ρ iy)(hv:v.Den w (dD M0 m ρ) m ρ vv)
 (he:mW P m t x ix v=some (pre,u,ups))(hp:pre=true):∃w',(Instr.mapUpdate t y iy vv).run P w=.ok () w'/\bC M0 S0 w0 N T (aH m ups) ρ a w'/\gL m (aH m ups) ρ ρ/\u=.x:=by
 unfold mW at he;split at he
 ·rename_i kt et k i hm hk;have hu:=vO hm;have hkv:=rF hk hix;subst hkv;split at he
  ·rename_i kv st hi;have⟨b,es,cl,z,h1,h2,h3,h4⟩:=HO h hi;simp[A.Den]at hx;have hy:=(eH hx hi sM).trans h1;subst hy;have aZY:pre=kH P kt k kv:=by
    split at he<;>(simp[aA,aD]at he;exact he.1.symm)
   rw[aZY]at hp;have⟨hf,aWM⟩:=DQ (w:=w) hp h3;have aVL:=H8 (v:=vv) hu h2 hf aWM (VR h3);rcases h3.find k with⟨e1,e2⟩|⟨j,p,e1,e2,e3,e4⟩
   ·rw[e2]at he;simp[aA,aD]at he;have⟨_,rfl,rfl⟩:=he;rw[e1]at aVL;have pG:∀p∈z,k≠p.1.1:=uI e1;have⟨g1,g2⟩:=tQ h hi h1 h2 (h3.push pG hv) (OT h4);exact⟨_,aVL,g1,g2,rfl⟩
   ·rw[e4]at he;simp[aA,aD]at he;have⟨_,rfl,rfl⟩:=he;rw[e1]at aVL;have⟨g1,g2⟩:=tQ h hi h1 h2 (h3.set e2 e3 hv) (UQ h3 e2 e3 h4);exact⟨_,aVL,g1,g2,rfl⟩
  ·cases he
 ·cases he
def yZ{α:Type}(f:α->Bool):∀(l:List α)(i:Nat),(∀j x,l[j]?=some x->f x=decide (j≠i))->l.eraseIdx i=l.filter f
 |[],i,_=>sM
 |x::l,0,h=>by
  have h0:=h 0 x rfl;have:∀y∈l,f y=true:=λy hy=>by
   have⟨j,hj⟩:=dY.1 hy;have:=h (j+1) y (by simpa using hj);simpa using this
  simp only[List.eraseIdx_cons_zero,lZ,h0];simp;exact(aDY.2 this).symm
 |x::l,i+1,h=>by
  have h0:=h 0 x rfl;simp only[gK,lZ,h0];rw[yZ f l i λj y hy=>by have:=h (j+1) y (by simpa using hy);simpa using this];simp
def rD{α β:Type}(f:α->β):∀(l:List α)(i:Nat),(l.map f).eraseIdx i=(l.eraseIdx i).map f
 |[],i=>sM
 |x::l,0=>sM
 |x::l,i+1=>by simp[rD f l i]
def MZ.erase{es:Array MapEntry}{z:List ((Ky×A)×MapEntry)}(hz:MZ w M m ρ es cl kv z){k:Ky}{i:Nat}{p:(Ky×A)×MapEntry}(hp:z[i]?=some p)(hk:p.1.1=k):
 MZ w M m ρ (es.eraseIdxIfInBounds i) cl (kv.filter λq=>q.1 !=k) (z.filter λq=>q.1.1 !=k):=by
 have aVM:∀q∈z.filter (λq=>q.1.1 !=k),q∈z:=λq hq=>(a39.1 hq).1;refine⟨?_,?_,λq hq=>hz.key q (aVM q hq),λq hq=>hz.den q (aVM q hq),?_,?_,λq hq=>hz.old q (aVM q hq)⟩
 ·have hi:i<es.size:=by
   have h1:es.toList[i]?=some p.2:=by rw[hz.toList];simp[hp]
   have:=(bA.1 h1).1;simpa using this
  rw[Array.eraseIdxIfInBounds,dif_pos hi,Array.toList_eraseIdx,hz.toList]
  rw[<-yZ (λq=>q.1.1 !=k) z i λj q hq=>by
   by_cases e:j=i
   · subst e;rw[hp]at hq;cases hq;simp[hk]
   · have:q.1.1≠k:=λe2=>e (rH hz.nodup hq hp (e2.trans hk.symm))
     simp[e,this]]
  exact rD _ z i
 ·have:=hz.perm.filter (λq=>q.1 !=k);rw[List.filter_map]at this;exact this
 ·exact hz.nodup.sublist ((List.filter_sublist).map _)
 ·exact hz.born.sublist ((List.filter_sublist).map _)
def aBN(h:bC M0 S0 w0 N T m ρ a w){t t' ty:TypeId}{x ix u:A}{y iy:Value}{pre:Bool}{ups:List (Nat×R)}(hx:x.Den w (dD M0 m ρ) m ρ y)(hix:ix.Den w (dD M0 m ρ) m ρ iy)
 (he:tL P m t x ix=some (pre,u,ups))(hp:pre=true):∃w',(Builtin.delete_ #[t,t'] ty #[y,iy]).run P w=.ok (.tuple #[]) w'/\bC M0 S0 w0 N T (aH m ups) ρ a w'/\gL m (aH m ups) ρ ρ/\u=.eL []:=by
 unfold tL at he;split at he
 ·rename_i kt et k i hm hk;have hu:=vO hm;have hkv:=rF hk hix;subst hkv;split at he
  ·rename_i kv st hi;simp only[aA,aD]at he;obtain⟨rfl,rfl,rfl⟩:=he;obtain⟨b,es,cl,z,h1,h2,h3,h4⟩:=HO h hi;simp only[A.Den]at hx;have hy:=(eH hx hi sM).trans h1;subst hy;obtain⟨hf,aWM⟩:=DQ (w:=w) hp h3;have aVL:∃es',(Builtin.delete_ #[t,t'] ty #[.map (some b),k.val]).run P w=.ok (.tuple #[]) (w.gW b (.map es' cl))/\MZ w (dD M0 m ρ) m ρ es' cl (kv.filter λq=>q.1 !=k) (z.filter λq=>q.1.1 !=k)/\∀e∈es'.toList,e∈es.toList:=by
    rcases h3.find k with⟨e1,e2⟩|⟨j,p,e1,e2,e3,e4⟩
    ·refine⟨es,?_,?_,λe he=>he⟩
     ·simp only[Builtin.delete_,aDR,iK,jQ,aV,run_underlying hu,aN,jS h2,mA _ 9995 hf,aWM,e1,pJ h2,cB]
     ·have pG:∀p∈z,k≠p.1.1:=uI e1;have f1:z.filter (λq=>q.1.1 !=k)=z:=aDY.2 λq hq=>by simpa using(pG q hq).symm
      have f2:kv.filter (λq=>q.1 !=k)=kv:=aDY.2 λq hq=>by
       have:=uM e2 q hq;simpa using this.symm
      rw[f1,f2];exact h3
    ·refine⟨_,?_,h3.erase e2 e3,?_⟩
     ·simp only[Builtin.delete_,aDR,iK,jQ,aV,run_underlying hu,aN,jS h2,mA _ 9995 hf,aWM,e1,pJ h2,cB]
     ·intro e he;rw[(h3.erase e2 e3).toList]at he;obtain⟨q,hq,rfl⟩:=aA4.1 he;rw[h3.toList];exact aA4.2 ⟨q,(a39.1 hq).1,rfl⟩
   obtain⟨es',hr,hz',aVM⟩:=aVL;obtain⟨g1,g2⟩:=tQ h hi h1 h2 hz' (aFR (st':=st.filter λp=>p.1 !=k) h4 (λp hp=>(a39.1 hp).1) aVM);exact⟨_,hr,g1,g2,rfl⟩
  ·cases he
 ·rename_i kt et k hm hk;have hu:=vO hm;have hkv:=rF hk hix;subst hkv;simp only[aA,aD]at he;obtain⟨rfl,rfl,rfl⟩:=he;simp only[A.Den,C.Den]at hx;subst hx;refine⟨w,?_,h,gL.refl m ρ,rfl⟩;simp only[Builtin.delete_,aDR,iK,jQ,aV,run_underlying hu,aN,mA _ 9995 hp,cB]
 ·cases he
end
def pQ(P:Program)(m:Mem)(d:Nat)(t:TypeId)(x ix:A):Option E:=
 match CR P t,keyOf ix,x with
 |some (kt,et),some k,.h i=>match m i,U2 P et with
  |some (.mp false kv st),some z=>match fL k kv with
   |some a=>some (kH P kt k kv&&jN m d&&decide (k≠.agg []),.eL [a,.h d],[(d,.wL),(i,.mp false kv ((k,d)::st))])
   |none=>some (kH P kt k kv&&jN m d&&decide (k≠.agg []),.eL [z,.h d],[(d,.wL),(i,.mp false (kv++[(k,z)]) ((k,d)::st.filter λp=>p.1 !=k&&p.1 !=.agg []))])
  |_,_=>none
 |_,_,_=>none
def mV(m:Mem)(x s a:A):Option E:=
 match x,s with
 |.h i,.h sid=>match m i,m sid with
  |some (.mp false kv st),some .wL=>match st.find? λp=>p.2==sid with
   |some (k,_)=>match fL k kv with
    |some _=>some (true,.x,[(i,.mp false (kv.map λp=>if p.1=k then(k,a)else p) st)])
    |none=>none
   |none=>none
  |_,_=>none
 |_,_=>none
section
variable{M0 S0:Nat->Prop}{w0:World}{N:Fr}{T:Nat->A}{m:Mem}{ρ:Nat->Value}{a:Act}{w:World}{P:Program}
def MZ.mono{w':World}{M':Nat->Prop}{m':Mem}{ρ':Nat->Value}(hs:dV M w w')(hM:∀b,M' b->b<w.heap.size->M b)(hO:gL m m' ρ ρ'){es:Array MapEntry}{cl:Nat}{kv:List (Ky×A)}{z:List ((Ky×A)×MapEntry)}(h:MZ w M m ρ es cl kv z):MZ w' M' m' ρ' es cl kv z:=
 ⟨h.toList,h.perm,h.key,λp hp=>A.dC hs hM hO _ _ (h.den p hp),h.nodup,h.born,h.old⟩
def bC.aFS(h:bC M0 S0 w0 N T m ρ a w)(cX:∀b,M0 b->b<w0.heap.size){d:Nat}(hd:m d=none)(n:Nat):
 bC M0 S0 w0 N T (aX m d .wL) (dW ρ d (.int .i64 n)) a w/\gL m (aX m d .wL) ρ (dW ρ d (.int .i64 n))/\∀b,dD M0 (aX m d .wL) (dW ρ d (.int .i64 n)) b->dD M0 m ρ b:=by
 refine⟨h.rG cX (iF.refl _ w) hd rfl (by simp[blk]) (λ_ _ _=>⟨n,rfl⟩),gL.new _ _ hd,?_⟩;rintro b (e|⟨i,r,h1,h2,h3⟩)
 ·exact .inl e
 ·by_cases e:i=d
  ·subst e;simp[dW,blk]at h3
  ·exact .inr ⟨i,r,by simpa [aX,e]using h1,h2,by simpa [dW,e]using h3⟩
def modify_id{es:Array MapEntry}{f:MapEntry->MapEntry}(h:∀e,es[i]?=some e->f e=e):es.modify i f=es:=by
 apply Array.ext';rw[lJ];apply iQ;intro j;rw[lC];by_cases e:i=j
 ·subst e;cases hh:es.toList[i]? with
  |none=>simp
  |some x=>simp;exact h x (by simpa using hh)
 ·simp[e]
def UG(h:bC M0 S0 w0 N T m ρ a w)(cX:∀b,M0 b->b<w0.heap.size){d:Nat}{t:TypeId}{x ix u:A}{y iy:Value}{pre:Bool}{ups:List (Nat×R)}(hx:x.Den w (dD M0 m ρ) m ρ y)(hix:ix.Den w (dD M0 m ρ) m ρ iy)
 (he:pQ P m d t x ix=some (pre,u,ups))(hp:pre=true):∃v w' ρ',(Instr.mapEntry t y iy).run P w=.ok v w'/\bC M0 S0 w0 N T (aH m ups) ρ' a w'/\gL m (aH m ups) ρ ρ'/\u.Den w' (dD M0 (aH m ups) ρ') (aH m ups) ρ' v:=by
 unfold pQ at he;split at he
 ·rename_i kt et k i hm hk;have hu:=vO hm;have hkv:=rF hk hix;subst hkv;split at he
  ·rename_i kv st zA hi hzA;obtain⟨zv,XN,XO⟩:=O5 hzA w;obtain⟨b,es,cl,z,h1,h2,h3,h4⟩:=HO h hi;simp only[A.Den]at hx;have hy:=(eH hx hi sM).trans h1;subst hy;have aZY:pre=(kH P kt k kv&&jN m d&&decide (k≠.agg [])):=by
    split at he<;>(simp only[aA,aD]at he;exact he.1.symm)
   rw[aZY,aE,aE]at hp;obtain⟨hp,a00⟩:=hp;have a00:=aUL a00;have hd:=hG hp.2;have hid:i≠d:=by rintro rfl;rw[hi]at hd;cases hd
   obtain⟨hf,aWM⟩:=DQ (w:=w) hp.1 h3;have key:∀(n:Nat){kv':List (Ky×A)}{es':Array MapEntry}{cl':Nat}{z':List ((Ky×A)×MapEntry)}{st':List (Ky×Nat)},MZ w (dD M0 m ρ) m ρ es' cl' kv' z'->vW m ρ st' es'.toList cl'->(∀e∈es'.toList,e.key=k.val->e.born=n)->n<=cl'->
    bC M0 S0 w0 N T (aX (aX m d .wL) i (.mp false kv' ((k,d)::st'))) (dW ρ d (.int .i64 n)) a (w.gW b (.map es' cl'))/\gL m (aX (aX m d .wL) i (.mp false kv' ((k,d)::st'))) ρ (dW ρ d (.int .i64 n)):=by
    intro n kv' es' cl' z' st' hz' aYC hn hnc;obtain⟨g1,g2,g3⟩:=h.aFS cX hd n;have hi':aX m d .wL i=some (.mp false kv st):=by simp[aX,hid,hi]
    have a2O:vW (aX m d .wL) (dW ρ d (.int .i64 n)) ((k,d)::st') es'.toList cl':=by
     intro p hp;simp only[aO]at hp;rcases hp with rfl|hp
     ·exact⟨by simp[aX],λ_=>⟨λe he hk=>by rw[hn e he hk];simp[dX,dW],by simpa [dX,dW]using hnc,λe=>absurd e a00⟩⟩
     ·exact vW.mono g2 aYC p hp
    obtain⟨k1,k2⟩:=tQ g1 hi' (by simp[dW,hid,h1]) h2 (hz'.mono (dV.refl _ w) (λb hb _=>g3 b hb) g2) a2O;exact⟨k1,g2.trans k2⟩
   rcases h3.find k with⟨e1,e2⟩|⟨j,p,e1,e2,e3,e4⟩
   ·rw[e2]at he;simp only[aA,aD]at he;obtain⟨_,rfl,rfl⟩:=he;rw[e1]at aWM;have pG:∀p∈z,k≠p.1.1:=uI e1;have hz':=h3.push pG (XO w (dD M0 m ρ) m ρ)
    obtain⟨k1,k2⟩:=key cl hz' (OT h4) (λe he hek=>by
     rw[hz'.toList]at he;obtain⟨q,hq,rfl⟩:=aA4.1 he;simp at hq;rcases hq with hq|rfl
     · exact absurd (Ky.val_inj (by rw[<-hek];exact(h3.key q hq))) (λe=>pG q hq e)
     · rfl) oM
    refine⟨.tuple #[zv,goInt cl],_,_,?_,k1,k2,?_⟩
    ·simp only[Instr.mapEntry,aV,run_underlying hu,aN,jS h2,mA _ 9995 hf,aWM,XN,pJ h2,cB]
    ·simp only[aH,A.Den];exact⟨_,rfl,by simp only[A.bR];exact⟨_,_,rfl,XO _ _ _ _,_,_,rfl,by simp only[A.Den];exact⟨by simp[aX];split<;>simp,λ_=>by simp[dW,goInt]⟩,rfl⟩⟩
   ·rw[e4]at he;simp only[aA,aD]at he;obtain⟨_,rfl,rfl⟩:=he;rw[e1]at aWM;have hpm:=l5 e2;have hej:es[j]?=some p.2:=by
     have:es.toList[j]?=some p.2:=by rw[h3.toList];simp[e2]
     simpa using this
    have hpk:p.2.key=k.val:=by rw[<-e3];exact h3.key p hpm
    obtain⟨k1,k2⟩:=key p.2.born h3 h4 (λe he hek=>by
     rw[h3.toList]at he;obtain⟨q,hq,rfl⟩:=aA4.1 he;have:q.1.1=p.1.1:=Ky.val_inj (by rw[<-h3.key q hq,hek,e3]);obtain⟨jq,hjq⟩:=dY.1 hq;have:=rH h3.nodup hjq e2 this;subst this
     rw[e2]at hjq;cases hjq;rfl) (Nat.le_of_lt (h3.old p hpm))
    refine⟨.tuple #[p.2.val,goInt p.2.born],_,_,?_,k1,k2,?_⟩
    ·have aZS:es.modify j (λe=>{e with key:=k.val})=es:=modify_id λe he=>by rw[hej]at he;cases he;rw[<-hpk]
     simp only[Instr.mapEntry,aV,run_underlying hu,aN,jS h2,mA _ 9995 hf,aWM,hej,dF,gZ,hpk,Instr.keyThatStays,HT 9998,if_true,cB,aZS,pJ h2]
    ·simp only[aH,A.Den];have aWJ:A.Den (w.gW b (.map es cl)) (dD M0 (aX (aX m d .wL) i (.mp false kv ((k,d)::st))) (dW ρ d (.int .i64 p.2.born))) (aX (aX m d .wL) i (.mp false kv ((k,d)::st))) (dW ρ d (.int .i64 p.2.born)) p.1.2 p.2.val:=by
      have Q2:∀c,dD M0 (aX (aX m d .wL) i (.mp false kv ((k,d)::st))) (dW ρ d (.int .i64 p.2.born)) c->c<w.heap.size->dD M0 m ρ c:=by
       rintro c (e|⟨i',r,q1,q2,q3⟩) _
       ·exact .inl e
       ·by_cases ei:i'=i
        ·subst ei;exact .inr ⟨i',_,hi,rfl,by simpa [dW,hid]using q3⟩
        ·by_cases ed:i'=d
         ·subst ed;simp[dW,blk]at q3
         ·exact .inr ⟨i',r,by simpa [aX,ei,ed]using q1,q2,by simpa [dW,ed]using q3⟩
      refine A.dC ?_ Q2 k2 _ _ (h3.den p hpm);exact(mJ w b _).stays λc _ e=>.inr ⟨i,_,hi,rfl,by rw[h1,e];rfl⟩
     exact⟨_,rfl,by simp only[A.bR];exact⟨_,_,rfl,aWJ,_,_,rfl,by simp only[A.Den];exact⟨by simp[aX];split<;>simp,λ_=>by simp[dW,goInt]⟩,rfl⟩⟩
  ·cases he
 ·cases he
def MV(h:bC M0 S0 w0 N T m ρ a w){t:TypeId}{x s v u:A}{y sy vv:Value}{pre:Bool}{ups:List (Nat×R)}(hx:x.Den w (dD M0 m ρ) m ρ y)(hs:s.Den w (dD M0 m ρ) m ρ sy)(hv:v.Den w (dD M0 m ρ) m ρ vv)
 (he:mV m x s v=some (pre,u,ups)):∃w',(Instr.entryStore t y sy vv).run P w=.ok () w'/\bC M0 S0 w0 N T (aH m ups) ρ a w'/\gL m (aH m ups) ρ ρ/\u=.x:=by
 unfold mV at he;split at he
 ·rename_i i sid;split at he
  ·rename_i kv st hi hsi;split at he
   ·rename_i k sid' hfi;split at he
    ·rename_i a0 hg;simp[aA,aD]at he;have⟨rfl,rfl,rfl⟩:=he;have⟨b,es,cl,z,h1,h2,h3,h4⟩:=HO h hi;simp[A.Den]at hx hs;have hy:=(eH hx hi sM).trans h1;subst hy;have hsy:=eH hs hsi sM;have⟨n,hn⟩:=h.res sid _ hsi;rw[hn]at hsy;subst hsy;have aWE:=cT hfi;have a2M:sid'=sid:=by have:=iD hfi;simpa using this
     subst a2M;have HG:=eH (h4 _ aWE) hsi sM;rcases h3.find k with⟨_,e2⟩|⟨j,p,e1,e2,e3,e4⟩
     ·rw[e2]at hg;cases hg
     have hpm:=l5 e2;have hpk:p.2.key=k.val:=by rw[<-e3];exact h3.key p hpm
     have hej:es.toList[j]?=some p.2:=by rw[h3.toList];simp[e2]
     have hbn:p.2.born=n:=by
      have:=HG.1 p.2 (l5 hej) hpk;rw[this];simp[dX,hn]
     have a2D:es.findIdx? (λe=>(e.born:Int)==(n:Int))=some j:=by
      have htl:es.findIdx? (λe=>(e.born:Int)==(n:Int))=es.toList.findIdx? (λe=>(e.born:Int)==(n:Int)):=by
       conv=>lhs;rw[<-Array.toArray_toList (xs:=es)]
       exact List.findIdx?_toArray _ _
      rw[htl,kP];have hjl:=(bA.1 hej).1;have hjv:=(bA.1 hej).2;refine⟨hjl,by rw[hjv];simp[hbn],λj' QB=>?_⟩;have hj'l:j'<es.toList.length:=oM;have hz':j'<z.length:=by have:=congrArg List.length h3.toList;simp at this hj'l;omega
      have e5:es.toList[j']=(z[j']).2:=by
       have:es.toList[j']?=some (z[j']).2:=by rw[h3.toList];simp[hz']
       exact(bA.1 this).2
      rw[e5];simp[beq_iff_eq];intro e6
      have:=rH h3.born (aC hz') e2 (by have:(z[j']).2.born=n:=by exact_mod_cast e6
                                       rw[this,hbn])
      omega
     have aZS:es.modify j (λe=>{e with val:=vv})=es.modify j (λe=>{e with key:=k.val,val:=vv}):=by
      apply Array.ext';rw[lJ,lJ];apply iQ;intro j';rw[lC,lC];by_cases e:j=j'
      ·subst e;rw[hej];simp[hpk]
      ·simp[e]
     have⟨g1,g2⟩:=tQ h hi h1 h2 (h3.set e2 e3 hv) (UQ h3 e2 e3 h4);refine⟨_,?_,g1,g2,rfl⟩;simp[Instr.entryStore,aV,cB,aN,jS h2,asInt,asIntOf,a2D,aZS,pJ h2]
    ·cases he
   ·cases he
  ·cases he
 ·cases he
end
def jC(d:Nat):Nat->List Nat
 |0=>[]
 |n+1=>d::jC (d+1) n
def sI:List Nat->List (Nat×R)
 |[]=>[]
 |i::r=>(i,.wL)::sI r
def vK(m:Mem):List Nat->Bool
 |[]=>true
 |i::r=>jN m i&&vK m r
def JP(P:Program)(m:Mem)(d:Nat)(t:TypeId)(x:A):Option E:=
 match x with
 |.h i=>match m i,CR P t with
  |some (.mp false kv st),some _=>some (jN m d&&(jN m (d+1)&&(vK m (jC (d+2) kv.length)&&(fL (.agg []) kv).isNone)),.h d,
    (d+1,.wL)::sI (jC (d+2) kv.length)++[(i,.mp false kv ((.agg [],d+1)::(kv.zip (jC (d+2) kv.length)).map λp=>(p.1.1,p.2))),(d,.it i (d+1) (jC (d+2) kv.length) [])])
  |_,_=>none
 |.d (.v (.map none))=>match CR P t with
  |some _=>some (jN m d,.h d,[(d,.AV)])
  |none=>none
 |.d (.v (.string s))=>some (yJ P t&&jN m d,.h d,[(d,.si s 0)])
 |_=>none
def wY:i∈jC d n↔d<=i/\i<d+n:=by
 induction n generalizing d with
 |zero=>simp only[jC,K9,false_iff];omega
 |succ n ih=>simp[jC,ih];omega
def aDQ(d n:Nat):(jC d n).length=n:=by
 induction n generalizing d with
 |zero=>rfl
 |succ n ih=>simp[jC,ih]
def TB{j:Nat}(h:j<n):(jC d n)[j]?=some (d+j):=by
 induction n generalizing d j with
 |zero=>omega
 |succ n ih=>
  cases j with
  |zero=>simp[jC]
  |succ j=>simp[jC,jQ];rw[ih oM];congr 1;omega
def VY(d n:Nat):(jC d n).Nodup:=by
 induction n generalizing d with
 |zero=>simp[jC]
 |succ n ih=>simp[jC,aAD];exact⟨λh=>by have:=wY.1 h;omega,ih _⟩
section
variable{M0 S0:Nat->Prop}{w0:World}{N:Fr}{T:Nat->A}{m:Mem}{ρ:Nat->Value}{a:Act}{w:World}{P:Program}
def bC.stamps(cX:∀b,M0 b->b<w0.heap.size):∀(ns:List Nat)(d:Nat){m:Mem}{ρ:Nat->Value},bC M0 S0 w0 N T m ρ a w->vK m (jC d ns.length)=true->
 ∃ρ',bC M0 S0 w0 N T (aH m (sI (jC d ns.length))) ρ' a w/\gL m (aH m (sI (jC d ns.length))) ρ ρ'/\(∀b,dD M0 (aH m (sI (jC d ns.length))) ρ' b->dD M0 m ρ b)/\
  (∀(j n:Nat),ns[j]?=some n->ρ' (d+j)=.int .i64 (n:Int)/\aH m (sI (jC d ns.length)) (d+j)=some .wL)/\∀i,(i<d\/d+ns.length<=i)->aH m (sI (jC d ns.length)) i=m i/\ρ' i=ρ i
 |[],d,m,ρ,h,_=>⟨ρ,h,gL.refl m ρ,λ_ e=>e,sM,λi _=>⟨rfl,rfl⟩⟩
 |n::ns,d,m,ρ,h,hf=>by
  simp only[aQ,jC,vK,aE]at hf;obtain⟨g1,g2,g3⟩:=h.aFS cX (hG hf.1) n;have hf':vK (aX m d .wL) (jC (d+1) ns.length)=true:=by
   have:∀(l:List Nat),(∀i∈l,i≠d)->vK m l=true->vK (aX m d .wL) l=true:=by
    intro l;induction l with
    |nil=>intro _ h;exact h
    |cons i r ih=>
     intro hi h;simp[vK,aE]at h⊢;refine⟨?_,ih (λj hj=>hi j (by simp[hj])) h.2⟩;have hid:=hi i sM;unfold jN at*;simp[aX,hid,if_false];exact h.1
   exact this _ (λi hi=>by have:=wY.1 hi;omega) hf.2
  have⟨ρ',k1,k2,k3,k4,k5⟩:=bC.stamps cX ns (d+1) g1 hf';refine⟨ρ',k1,g2.trans k2,λb hb=>g3 b (k3 b hb),λj n' hj=>?_,λi hi=>?_⟩
  ·cases j with
   |zero=>
    simp at hj;subst hj;have⟨q1,q2⟩:=k5 d oM;simp[iE];exact⟨by rw[q2];simp[dW],by show aH (aX m d .wL) (sI (jC (d+1) ns.length)) d=_;rw[q1];simp[aX]⟩
   |succ j=>
    have:=k4 j n' (by simpa using hj);rw[show d+(j+1)=d+1+j by omega];exact this
  ·simp[aQ]at hi;have⟨q1,q2⟩:=k5 i oM;have hid:i≠d:=oM;exact⟨by show aH (aX m d .wL) (sI (jC (d+1) ns.length)) i=_;rw[q1];simp[aX,hid],by rw[q2];simp[dW,hid]⟩
def aFD(h:bC M0 S0 w0 N T m ρ a w)(cX:∀b,M0 b->b<w0.heap.size){d:Nat}{t:TypeId}{x u:A}{y:Value}{pre:Bool}{ups:List (Nat×R)}(hx:x.Den w (dD M0 m ρ) m ρ y)
 (he:JP P m d t x=some (pre,u,ups))(hp:pre=true):∃v w' ρ',(Instr.range t y).run P w=.ok v w'/\bC M0 S0 w0 N T (aH m ups) ρ' a w'/\gL m (aH m ups) ρ ρ'/\u.Den w' (dD M0 (aH m ups) ρ') (aH m ups) ρ' v:=by
 unfold JP at he;split at he
 ·rename_i i;split at he
  ·rename_i kv st kt hi hm;obtain⟨kt,et⟩:=kt;have hu:=vO hm;simp only[aA,aD]at he;obtain⟨rfl,rfl,rfl⟩:=he;simp only[aE]at hp;obtain⟨hp0,hp1,hp2,hp3⟩:=hp;obtain⟨b,es,cl,z,h1,h2,h3,h4⟩:=HO h hi;simp only[A.Den]at hx;have hy:=(eH hx hi sM).trans h1;subst hy;have hd:=hG hp0;have hd1:=hG hp1;have hid:i≠d:=by rintro rfl;rw[hi]at hd;cases hd
   have a0Y:i≠d+1:=by rintro rfl;rw[hi]at hd1;cases hd1
   obtain⟨f1,f2,f3⟩:=h.aFS cX hd1 cl;have hfl:vK (aX m (d+1) .wL) (jC (d+2) kv.length)=true:=by
    have:∀(l:List Nat),(∀i∈l,i≠d+1)->vK m l=true->vK (aX m (d+1) .wL) l=true:=by
     intro l;induction l with
     |nil=>intro _ h;exact h
     |cons i r ih=>
      intro hi h;simp only[vK,aE]at h⊢;refine⟨?_,ih (λj hj=>hi j (by simp[hj])) h.2⟩;have hid:=hi i sM;unfold jN at*;simp only[aX,hid,if_false];exact h.1
    exact this _ (λi hi=>by have:=wY.1 hi;omega) hp2
   obtain⟨z',XN,XO⟩:=yR (f:=λp:(Ky×A)×MapEntry=>p.1) h3.perm.symm rfl;have hlen:kv.length=z'.length:=by rw[XO];simp
   have hns:(z'.map (·.2.born)).length=kv.length:=by simp[hlen]
   obtain⟨ρ1,k1,k2,k3,k4,k5⟩:=bC.stamps cX (z'.map (·.2.born)) (d+2) f1 (by rw[hns];exact hfl);rw[hns]at k1 k2 k3 k4 k5;have a0I:∀j,d+2<=j->j<d+2+kv.length->m j=none:=by
    intro j hj1 hj2;have:∀(l:List Nat),vK m l=true->j∈l->m j=none:=by
     intro l;induction l with
     |nil=>simp
     |cons q r ih=>
      intro hf hj;simp only[vK,aE]at hf;simp only[aO]at hj;rcases hj with rfl|hj
      ·exact hG hf.1
      ·exact ih hf.2 hj
    exact this _ hp2 (wY.2 ⟨hj1,hj2⟩)
   have hio:i<d+2\/d+2+kv.length<=i:=by
    rcases eQ i (d+2)with q|q
    ·exact .inl q
    ·rcases eQ i (d+2+kv.length)with q2|q2
     ·have:=a0I i q q2;rw[hi]at this;cases this
     ·exact .inr q2
   generalize Q2:aH (aX m (d+1) .wL) (sI (jC (d+2) kv.length))=mu at k1 k2 k3 k4 k5;obtain⟨q1,q2⟩:=k5 i hio;rw[show aX m (d+1) .wL i=m i by simp[aX,a0Y]]at q1;rw[show dW ρ (d+1) (.int .i64 (cl:Int)) i=ρ i by simp[dW,a0Y]]at q2;obtain⟨q3,_⟩:=k5 d oM;rw[show aX m (d+1) .wL d=m d by simp[aX]]at q3;obtain⟨q5,q6⟩:=k5 (d+1) oM;rw[show aX m (d+1) .wL (d+1)=some .wL by simp[aX]]at q5;rw[show dW ρ (d+1) (.int .i64 (cl:Int)) (d+1)=.int .i64 (cl:Int) by simp[dW]]at q6;have hO2:gL m mu ρ ρ1:=f2.trans k2;have HG:vW mu ρ1 ((.agg [],d+1)::(kv.zip (jC (d+2) kv.length)).map λp=>(p.1.1,p.2)) es.toList cl:=by
    intro p hp;simp only[aO]at hp;rcases hp with rfl|hp
    ·refine⟨by rw[q5];simp,λ_=>⟨λe he hek=>?_,by simp[dX,q6],λ_=>by simp[dX,q6]⟩⟩;exfalso;rw[h3.toList]at he;obtain⟨qz,hqz,rfl⟩:=aA4.1 he;have e1:qz.1.1=.agg []:=Ky.val_inj (by rw[<-h3.key qz hqz,hek]);have zI:qz.1∈kv:=h3.perm.mem_iff.1 (aA4.2 ⟨qz,hqz,rfl⟩);cases hg:fL (.agg []) kv with
     |none=>exact uM hg qz.1 zI e1.symm
     |some _=>rw[hg]at hp3;cases hp3
    ·obtain⟨pq,hpq,rfl⟩:=aA4.1 hp;obtain⟨j,hj⟩:=dY.1 hpq;rw[oH]at hj;have hjl:j<kv.length:=(bA.1 hj.1).1;have hj2:=hj.2;rw[TB hjl]at hj2;simp at hj2;have hj1:=hj.1;rw[XO]at hj1;simp only[cK,bU]at hj1;obtain⟨pz,hpz,a1P⟩:=hj1;obtain⟨r1,r2⟩:=k4 j pz.2.born (by simp[hpz]);have a04:=XN.mem_iff.1 (l5 hpz);rw[<-hj2]
     refine⟨by rw[r2];simp,λ_=>⟨λe he hek=>?_,by simp only[dX,r1,hP];exact Nat.le_of_lt (h3.old pz a04),λe=>by
      exfalso;have zI:pz.1∈kv:=h3.perm.mem_iff.1 (aA4.2 ⟨pz,a04,rfl⟩);cases hg:fL (.agg []) kv with
      |none=>exact uM hg pz.1 zI (by rw[a1P];exact e.symm)
      |some _=>rw[hg]at hp3;cases hp3⟩⟩
     simp only[dX,r1,hP];rw[h3.toList]at he;obtain⟨qz,hqz,rfl⟩:=aA4.1 he;have e1:qz.1.1=pz.1.1:=Ky.val_inj (by rw[<-h3.key qz hqz,hek,a1P]);obtain⟨j1,hj1⟩:=dY.1 hqz;obtain⟨j2,hj2⟩:=dY.1 a04;have:=rH h3.nodup hj1 hj2 e1;subst this;rw[hj1]at hj2;cases hj2;rfl
   obtain⟨g1,g2⟩:=tQ k1 (q1.trans hi) (q2.trans h1) h2 (h3.mono (dV.refl _ w) (λb hb _=>f3 b (k3 b hb)) hO2) HG;have hpo:w.gW b (.map es cl)=w:=by
    have aVU:=(aL.1 h2).1;have:w.heap.setIfInBounds b (.map es cl)=w.heap:=by
     apply Array.ext_getElem?;intro j;by_cases e:b=j
     ·subst e;have:=(aL.1 h2).2;simp[aVU,this]
     ·rw[aB3 e]
    simp only[World.gW,this]
   rw[hpo]at g1;generalize hmw:R.mp false kv ((.agg [],d+1)::(kv.zip (jC (d+2) kv.length)).map λp=>(p.1.1,p.2))=rm at g1 g2;have hd':aX mu i rm d=none:=by simp[aX,Ne.symm hid,q3,hd]
   have aZQ:∀j,d+2<=j->j<d+2+kv.length->aX mu i rm j=some .wL/\∃pz:(Ky×A)×MapEntry,z'[j -(d+2)]?=some pz/\ρ1 j=.int .i64 pz.2.born:=by
    intro j hj1 hj2;have hji:j≠i:=by rintro rfl;have:=a0I j hj1 hj2;rw[hi]at this;cases this
    have hjz:j -(d+2)<z'.length:=oM;obtain⟨r1,r2⟩:=k4 (j -(d+2)) z'[j -(d+2)].2.born (by simp[hjz]);rw[show d+2+(j -(d+2))=j by omega]at r1 r2;exact⟨by simp[aX,hji,r2],_,aC hjz,r1⟩
   have h5:bC M0 S0 w0 N T (aX (aX mu i rm) d (.it i (d+1) (jC (d+2) kv.length) [])) (dW ρ1 d (.pointer (some ⟨w.heap.size,0,none⟩))) a (w.alloc (.mapIter (some b) cl #[] cl)):=by
    refine g1.rG cX (jF w _) hd' rfl (by simp[blk]) ?_;intro hO HG hm;refine⟨w.heap.size,b,cl,#[],rfl,heap_alloc_new w _,⟨by simp[aX,hid],λ_=>by simp[dW,hid,q2,h1]⟩,⟨by simp[aX,Ne.symm a0Y,q5],λ_=>by simp[dX,dW,q6]⟩,?_⟩;refine⟨sM,λj hj=>?_,λ_=>⟨VY _ _,?_,λj hj=>?_,sM,sM⟩⟩
    ·have QB:=wY.1 hj;have:=(aZQ j QB.1 QB.2).1;have hjd:j≠d:=oM;rw[show aX (aX mu i rm) d (R.it i (d+1) (jC (d+2) kv.length) []) j=some .wL by rw[<-this];simp[aX,hjd]];simp
    ·have e1:(jC (d+2) kv.length).map (dX (dW ρ1 d (.pointer (some ⟨w.heap.size,0,none⟩))))=z'.map (·.2.born):=by
      apply iQ;intro j;rcases eQ j kv.length with hj|hj
      ·obtain⟨_,pz,r1,r2⟩:=aZQ (d+2+j) oM oM;rw[show d+2+j -(d+2)=j by omega]at r1;have hZ:d+2+j≠d:=oM;simp[cK,TB hj,r1,dX,dW,hZ,r2]
      ·rw[lD (by simp[aDQ];omega),lD zM]
     rw[e1];exact((XN.map (·.2.born)).nodup_iff).2 h3.born
    ·have QB:=wY.1 hj;obtain⟨_,pz,r1,r2⟩:=aZQ j QB.1 QB.2;have hZ:j≠d:=oM;refine⟨?_,sM⟩;simp only[dX,dW,hZ,if_false,r2,hP];exact h3.old pz (XN.mem_iff.1 (l5 r1))
   have hap:aH m ((d+1,.wL)::sI (jC (d+2) kv.length)++[(i,rm),(d,.it i (d+1) (jC (d+2) kv.length) [])])=aX (aX mu i rm) d (.it i (d+1) (jC (d+2) kv.length) []):=by
    rw[vX];simp only[aH,Q2]
   rw[hap];refine⟨.pointer (some ⟨w.heap.size,0,none⟩),_,_,?_,h5,(hO2.trans g2).trans (gL.new _ _ hd'),?_⟩
   ·simp only[Instr.range,aV,run_underlying hu,aN,jS h2,cB,run_newObj,kN]
   ·simp only[A.Den];exact⟨by simp[aX],λ_=>by simp[dW]⟩
  ·cases he
 ·split at he
  ·rename_i kt hm;obtain⟨kt,et⟩:=kt;have hu:=vO hm;simp only[aA,aD]at he;obtain⟨rfl,rfl,rfl⟩:=he;simp only[A.Den,C.Den]at hx;subst hx;refine⟨.pointer (some ⟨w.heap.size,0,none⟩),w.alloc (.mapIter none 0 #[] 0),dW ρ d (.pointer (some ⟨w.heap.size,0,none⟩)),?_,?_,gL.new _ _ (hG hp),?_⟩
   ·simp only[Instr.range,aV,run_underlying hu,aN,cB,run_newObj,kN]
   ·exact h.rG cX (jF w _) (hG hp) rfl (by simp[blk]) λ_ _ _=>⟨w.heap.size,rfl,heap_alloc_new w _⟩
   ·simp only[aH,A.Den];exact⟨by simp[aX],λ_=>by simp[dW]⟩
  ·cases he
 ·rename_i s;simp only[aA,aD]at he;obtain⟨rfl,rfl,rfl⟩:=he;rw[aE]at hp;simp only[A.Den,C.Den]at hx;subst hx;refine⟨.pointer (some ⟨w.heap.size,0,none⟩),w.alloc (.stringIter s 0),dW ρ d (.pointer (some ⟨w.heap.size,0,none⟩)),?_,?_,gL.new _ _ (hG hp.2),?_⟩
  ·simp only[Instr.range,aV,run_underlying (oB hp.1),aN,cB,run_newObj,kN]
  ·exact h.rG cX (jF w _) (hG hp.2) rfl (by simp[blk]) λ_ _ _=>⟨w.heap.size,rfl,heap_alloc_new w _⟩
  ·simp only[aH,A.Den];exact⟨by simp[aX],λ_=>by simp[dW]⟩
 ·cases he
end
abbrev Out:=A×List (Nat×R)
def aI8(c:KC):C:=.v c.val
def ZA:Ky->A
 |.one c=>.d (.v c.val)
 |.agg l=>.d (.agg (l.map aI8))
def UP(k:Ky):List (Ky×Nat)->Option Nat
 |[]=>none
 |p::r=>if k=p.1 then some p.2 else UP k r
def leftOf(st:List (Ky×Nat))(start seen:List Nat):List (Ky×A)->Option (List (Ky×A×Nat))
 |[]=>some []
 |p::r=>match UP p.1 st,leftOf st start seen r with
  |some s,some l=>if s∈start then(if s∈seen then some l else some ((p.1,p.2,s)::l))else none
  |_,_=>none
def uW(m:Mem):List Nat->Bool
 |[]=>true
 |i::r=>(match m i with|some .wL=>true|_=>false)&&uW m r
def IE(m:Mem)(x:A)(isS:Bool):Option (Bool×List Out):=
 match x with
 |.h d=>match m d,isS with
  |some (.it i sc start seen),false=>match m i with
   |some (.mp _ kv st)=>match leftOf st start seen kv with
    |some []=>some (uW m (sc::start)&&decide ((Ky.agg [],sc)∈st),[(.eL [.d (.v (.bool false))],[])])
    |some l=>some (uW m (sc::start)&&decide ((Ky.agg [],sc)∈st),l.map λq=>(.eL [.d (.v (.bool true)),ZA q.1,q.2.1],[(d,.it i sc start (q.2.2::seen))]))
    |none=>none
   |_=>none
  |some .AV,false=>some (true,[(.eL [.d (.v (.bool false))],[])])
  |some (.si s pos),true=>if pos<s.size then some (true,[(.eL [.d (.v (.bool true)),.d (.v (.int .i64 pos)),.d (.v (.int .i32 (Utf8.decode s pos).1))],[(d,.si s (pos+(Utf8.decode s pos).2))])])
   else some (true,[(.eL [.d (.v (.bool false))],[])])
  |_,_=>none
 |_=>none
def BI{k:Ky}{s:Nat}:∀{st:List (Ky×Nat)},UP k st=some s->(k,s)∈st
 |[],h=>by simp[UP]at h
 |p::r,h=>by
  simp[UP]at h;split at h
  ·rename_i e;simp at h;subst h;subst e;simp
  ·simp[BI h]
def HM{st:List (Ky×Nat)}{start seen:List Nat}:∀{kv:List (Ky×A)}{l:List (Ky×A×Nat)},leftOf st start seen kv=some l->
 ∀p∈kv,∃s,(p.1,s)∈st/\s∈start/\((s∈seen)\/(s∉seen/\(p.1,p.2,s)∈l))
 |[],l,h,p,hp=>by simp at hp
 |q::r,l,h,p,hp=>by
  simp only[leftOf]at h;split at h
  ·rename_i s l' h1 h2;split at h
   ·rename_i h3;simp only[aO]at hp;have key:∀p∈r,∃s,(p.1,s)∈st/\s∈start/\((s∈seen)\/(s∉seen/\(p.1,p.2,s)∈l')):=HM h2;split at h
    ·rename_i h4;simp[aA]at h;subst h;rcases hp with rfl|hp
     ·exact⟨s,BI h1,h3,.inl h4⟩
     ·exact key p hp
    ·rename_i h4;simp[aA]at h;subst h;rcases hp with rfl|hp
     ·exact⟨s,BI h1,h3,.inr ⟨h4,sM⟩⟩
     ·have⟨s',g1,g2,g3⟩:=key p hp;exact⟨s',g1,g2,g3.imp id λ⟨a,b⟩=>⟨a,by simp[b]⟩⟩
   ·cases h
  ·cases h
def AH{st:List (Ky×Nat)}{start seen:List Nat}:∀{kv:List (Ky×A)}{l:List (Ky×A×Nat)},leftOf st start seen kv=some l->∀q∈l,(q.1,q.2.1)∈kv/\(q.1,q.2.2)∈st/\q.2.2∈start/\q.2.2∉seen
 |[],l,h,q,hq=>by simp[leftOf]at h;subst h;simp at hq
 |p::r,l,h,q,hq=>by
  simp only[leftOf]at h;split at h
  ·rename_i s l' h1 h2;split at h
   ·rename_i h3;split at h
    ·simp only[aA]at h;subst h;obtain⟨a,b⟩:=AH h2 q hq;exact⟨by simp[a],b⟩
    ·rename_i h4;simp[aA]at h;subst h;simp[aO]at hq;rcases hq with rfl|hq
     ·exact⟨sM,BI h1,h3,h4⟩
     ·have⟨a,b⟩:=AH h2 q hq;exact⟨by simp[a],b⟩
   ·cases h
  ·cases h
section
variable{M0 S0:Nat->Prop}{w0:World}{N:Fr}{T:Nat->A}{m:Mem}{ρ:Nat->Value}{a:Act}{w:World}{P:Program}
def yU:∀{l:List Nat},uW m l=true->∀i∈l,m i=some .wL
 |[],_,i,hi=>by simp at hi
 |j::r,h,i,hi=>by
  simp only[uW,aE]at h;simp only[aO]at hi;rcases hi with rfl|hi
  ·have h1:=h.1;split at h1
   ·assumption
   ·cases h1
  ·exact yU h.2 i hi
def IJ(k:Ky)(M:Nat->Prop):(ZA k).Den w M m ρ k.val:=by
 cases k with
 |one c=>simp[ZA,A.Den,C.Den,Ky.val]
 |agg l=>
  simp only[ZA,A.Den,C.Den,Ky.val];refine⟨_,rfl,?_,?_⟩
  ·intro u hu;simp at hu;obtain⟨c,_,rfl⟩:=hu;cases c<;>rfl
  ·simp[List.toArray];induction l with
   |nil=>simp[C.bR]
   |cons c r ih=>simp only[aG,C.bR];exact⟨_,_,rfl,by simp[aI8,C.Den],by simpa using ih⟩
def uN{o o':Obj}(h:w.heap[b]?=some o')(hc:∀c e f,o'≠.cells c e f):(setObj b o).run P w=.ok () (w.gW b o):=by
 cases o'<;>first
  |(exact absurd rfl (hc _ _ _))
  |simp[setObj,Sem.run,h,World.gW]
def aIF(h:bC M0 S0 w0 N T m ρ a w){x:A}{isS:Bool}{y:Value}{ty:TypeId}{pre:Bool}{outs:List Out}(hx:x.Den w (dD M0 m ρ) m ρ y)(he:IE m x isS=some (pre,outs))(hp:pre=true):
 ∃o∈outs,∃v w',(Instr.next y isS ty).run P w=.ok v w'/\bC M0 S0 w0 N T (aH m o.2) ρ a w'/\gL m (aH m o.2) ρ ρ/\o.1.Den w' (dD M0 (aH m o.2) ρ) (aH m o.2) ρ v:=by
 have aY0:∀{w':World}{m':Mem}{M:Nat->Prop},(A.eL [.d (.v (.bool false))]).Den w' M m' ρ (.tuple #[.bool false]):=by
  intro w' m' M;simp only[A.Den,A.bR,C.Den];exact⟨_,rfl,_,_,rfl,rfl,rfl⟩
 unfold IE at he;split at he
 ·rename_i d;simp[A.Den]at hx;split at he
  ·rename_i i sc start seen hd;have hy:=eH hx hd sM;split at he
   ·rename_i fz kv st hi;have⟨b,mb,si,sa,e1,e2,e3,e5,e6⟩:=h.res d _ hd;have⟨b',es,cl,z,g1,g2,g3,g4⟩:=HO h hi;have e3':=eH e3 hi sM;rw[g1]at e3';simp at e3';subst e3';rw[e1]at hy;subst hy;have aZY:pre=(uW m (sc::start)&&decide ((Ky.agg [],sc)∈st)):=by
     split at he<;>first
      |(simp[aA,aD]at he;exact he.1.symm)
      |cases he
    rw[aZY,aE]at hp;have aYJ:=yU hp.1;have hsc:=aUL hp.2;have a06:dX ρ sc=si:=eH e5 (aYJ sc sM) sM;have aZ1:si=cl:=by
     have:=(eH (g4 _ hsc) (aYJ sc sM) sM).2.2 rfl;rw[a06]at this;exact this
    have⟨y4,a01,aWV,aVM,a0E⟩:=e6.2.2 (λj hj e=>by rw[aYJ j (by simp[hj])]at e;cases e);have a0G:∀p∈z,∀s,(p.1.1,s)∈st->s∈start->p.2.born=dX ρ s:=by
     intro p hp s hs hss;have:=(eH (g4 _ hs) (aYJ s (by simp[hss])) sM).1 p.2 (by rw[g3.toList];exact aA4.2 ⟨p,hp,rfl⟩) (g3.key p hp);exact this
    have a0K:∀{l},leftOf st start seen kv=some l->∀p∈z,∃s,s∈start/\p.2.born=dX ρ s/\(s∈seen\/(s∉seen/\(p.1.1,p.1.2,s)∈l)):=by
     intro l hl p hp;have⟨s,q1,q2,q3⟩:=HM hl p.1 (g3.perm.mem_iff.1 (aA4.2 ⟨p,hp,rfl⟩));exact⟨s,q2,a0G p hp s q1 q2,q3⟩
    have a18:∀{l},leftOf st start seen kv=some l->∀e,e∈es.filter (λe=> !sa.contains e.born)↔∃p∈z,e=p.2/\∃s,s∈start/\p.2.born=dX ρ s/\s∉seen/\(p.1.1,p.1.2,s)∈l:=by
     intro l hl e;rw[rN];constructor
     ·rintro⟨h1,h2⟩;have h1':e∈es.toList:=by simpa using h1
      rw[g3.toList]at h1';obtain⟨p,hp,rfl⟩:=aA4.1 h1';have⟨s,q1,q2,q3⟩:=a0K hl p hp;have:=(aWV s q1).2;rw[<-q2]at this;rw[this]at h2;have hns:s∉seen:=by simpa using h2
      exact⟨p,hp,rfl,s,q1,q2,hns,(q3.resolve_left hns).2⟩
     ·rintro⟨p,hp,rfl,s,q1,q2,q3,_⟩;refine⟨?_,?_⟩
      ·have:p.2∈es.toList:=by rw[g3.toList];exact aA4.2 ⟨p,hp,rfl⟩
       simpa using this
      ·have:=(aWV s q1).2;rw[q2,this];simpa using q3
    have aZW:∀{l},leftOf st start seen kv=some l->∀e∈es,e.born<si:=by
     intro l hl e he;have he':e∈es.toList:=by simpa using he
     rw[g3.toList]at he';obtain⟨p,hp,rfl⟩:=aA4.1 he';have⟨s,q1,q2,_⟩:=a0K hl p hp;rw[q2];exact(aWV s q1).1
    have aYO:∀{l},leftOf st start seen kv=some l->(!sa.isEmpty&& !es.isEmpty&&es.all (λe=>decide (e.born≥si)))=false:=by
     intro l hl;cases hE:es.isEmpty with
     |true=>simp
     |false=>
      have:∃e,e∈es:=by
       have:0<es.size:=by
        rcases pM es.size with q|q
        ·simp[Array.isEmpty,q]at hE
        ·exact q
       exact⟨es[0],sM⟩
      have⟨e,he⟩:=this;have h1:=aZW hl e he;have:es.all (λe=>decide (e.born≥si))=false:=by
       rw[Array.all_eq_false'];exact⟨e,he,zM⟩
      simp[this]
    have hold:∀{l},leftOf st start seen kv=some l->(es.filter (λe=> !sa.contains e.born)).filter (λe=>decide (e.born<si))=es.filter (λe=> !sa.contains e.born)/\(es.filter (λe=> !sa.contains e.born)).filter (λe=>decide (e.born≥si))= #[]:=by
     intro l hl;constructor
     ·rw[Array.filter_eq_self];intro e he;have:=aZW hl e (rN.1 he).1;simpa using this
     ·rw[Array.filter_eq_empty_iff];intro e he;have:=aZW hl e (rN.1 he).1;simp;omega
    have CL:m d=some (.it i sc start seen):=hd;have aZB:∀(n:Nat),0<n->∃k w1,(choose (.mapNext n)).run P w=.ok k w1/\k<n/\bC M0 S0 w0 N T m ρ a w1/\w1.heap=w.heap:=by
     intro n hn;by_cases h1:n<=1
     ·exact⟨0,w,by simp[choose,Sem.run,Question.forced,h1],hn,h,rfl⟩
     ·refine⟨(Question.mapNext n).cut (w.tape w.drawn (.mapNext n)),{w with drawn:=w.drawn+1},?_,by simp[Question.cut];exact u5 _ hn,h.drew _,rfl⟩;simp[choose,Sem.run,Question.forced,h1,decide_false,bY,if_false]
    cases hl:leftOf st start seen kv with
    |none=>rw[hl]at he;cases he
    |some l=>
     rw[hl]at he;have⟨o1,o2⟩:=hold hl;have hc:=aYO hl;have hf:=a18 hl;cases l with
     |nil=>
      simp[aA,aD]at he;have⟨_,rfl⟩:=he;have a0X:es.filter (λe=> !sa.contains e.born)= #[]:=by
       apply jA;rcases pM (es.filter (λe=> !sa.contains e.born)).size with q|q
       ·exact q
       ·have aWE:(es.filter (λe=> !sa.contains e.born))[0]'q∈es.filter (λe=> !sa.contains e.born):=Array.getElem_mem q;have⟨p,_,_,s,_,_,_,hm⟩:=(hf _).1 aWE;simp at hm
      refine⟨_,aR.2 rfl,.tuple #[.bool false],w,?_,h,gL.refl m ρ,aY0⟩;simp only[Instr.next,aV];rw[show(getObj b).run P w=.ok (.mapIter (some b') si sa si) w by simp[getObj,Sem.run,e2]];simp only[aN,aV];rw[jS g2];simp only[aN,aV,hc,bY,if_false,cB,a0X];simp[choose,Sem.run,Question.forced]
     |cons q l'=>
      simp only[aA,aD]at he;have⟨_,rfl⟩:=he;generalize hF:es.filter (λe=> !sa.contains e.born)=F at o1 o2 hf;have aWU:0<F.size:=by
       have⟨q1,q2,q3,q4⟩:=AH hl q sM;have⟨p,hp,hp2⟩:=aA4.1 (g3.perm.mem_iff.2 q1);have:p.2∈F:=(hf p.2).2 ⟨p,hp,rfl,q.2.2,q3,a0G p hp q.2.2 (by rw[hp2];exact q2) q3,q4,by rw[hp2];simp⟩;rcases pM F.size with z0|z0
       ·have:=jA z0;subst this;simp at*
       ·exact z0
      have⟨k,w1,hk1,EN,hk3,hk4⟩:=aZB F.size aWU;have⟨p,hpz,hpe,s,hs1,hs2,hs3,hs4⟩:=(hf F[k]).1 sM;have a1W:w1.heap[b]?=some (.mapIter (some b') si sa si):=by rw[hk4];exact e2
      have hO:gL m (aX m d (.it i sc start (s::seen))) ρ ρ:=by
       have:=gL.set (m:=m) (ρ:=ρ) d (.it i sc start (s::seen)) (ρ d) (λ_ _=>⟨by rw[CL];simp,rfl,λfz t es l e=>by rw[CL]at e;simp at e⟩)
       rwa [jP]at this
      refine⟨_,aA4.2 ⟨_,hs4,rfl⟩,.tuple #[.bool true,F[k].key,F[k].val],w1.gW b (.mapIter (some b') si (sa.push F[k].born) cl),?_,?_,hO,?_⟩
      ·simp only[Instr.next,aV];rw[show(getObj b).run P w=.ok (.mapIter (some b') si sa si) w by simp[getObj,Sem.run,e2]];simp only[aN,aV];rw[jS g2];have hZ:F.isEmpty=false:=by unfold Array.isEmpty;exact aU0 oM
       simp only[aN,aV,hc,bY,if_false,cB,hF,o1,o2,hZ,Array.empty_append,Array.append_empty,Array.size_map,hk1,Array.getElem?_map,cF EN,dF];rw[uN a1W sM];simp
      ·refine hk3.write CL rfl rfl sM (mJ w1 b _) (λc _ e=>by rw[e1,e];rfl) λhO' aYC zI=>?_;refine⟨b,b',si,_,e1,by rw[tS a1W,aZ1],e3.mono hO' λe _ q=>e.trans q,e5.mono hO' λe _ q=>q,?_⟩
       refine⟨λj hj=>by
        simp[aO]at hj;rcases hj with rfl|hj
        · exact hs1
        · exact aVM j hj,λj hj=>by
        have hjd:j≠d:=by rintro rfl;have:=aYJ j (by simp[hj]);rw[CL]at this;cases this
        simp[aX,hjd,aYJ j (by simp[hj])],λ_=>⟨y4,a01,λj hj=>⟨(aWV j hj).1,?_⟩,λj hj=>by
         simp[aO]at hj;rcases hj with rfl|hj
         · exact hs1
         · exact aVM j hj,by simp[hpe,hs2]⟩⟩
       have hcj:=(aWV j hj).2;have hbk:F[k].born=dX ρ s:=by rw[hpe];exact hs2
       rw[Array.contains_push,hcj,hbk];by_cases hjs:j=s
       ·subst hjs;simp
       ·have hZ:dX ρ j≠dX ρ s:=λe=>hjs (by
         have⟨j1,hj1⟩:=dY.1 hj;obtain⟨j2,hj2⟩:=dY.1 hs1;have:=rH a01 hj1 hj2 e
         subst this;rw[hj1]at hj2;cases hj2;rfl)
        simp[hjs,hZ]
      ·have a0B:F[k].key=p.1.1.val:=by rw[hpe];exact g3.key p hpz
       have aYK:A.Den (w1.gW b (.mapIter (some b') si (sa.push F[k].born) cl)) (dD M0 (aX m d (.it i sc start (s::seen))) ρ) (aX m d (.it i sc start (s::seen))) ρ p.1.2 F[k].val:=by
        rw[hpe];have aY9:dV (dD M0 m ρ) w (w1.gW b (.mapIter (some b') si (sa.push p.2.born) cl)):=by
         refine⟨by simp[World.gW,hk4],λc hc1 wF=>?_⟩;have hcb:c≠b:=by rintro rfl;exact wF (.inr ⟨d,_,CL,rfl,by rw[e1];rfl⟩)
         show(w1.heap.setIfInBounds b _)[c]?=_;rw[aB3 (Ne.symm hcb),hk4]
        refine A.dC aY9 ?_ hO _ _ (g3.den p hpz);rintro c (e|⟨i',r,q1,q2,q3⟩) _
        ·exact .inl e
        ·by_cases ei:i'=d
         ·subst ei;exact .inr ⟨i',_,CL,rfl,q3⟩
         ·exact .inr ⟨i',r,by simpa [aX,ei]using q1,q2,q3⟩
       simp only[aH,A.Den];refine⟨_,rfl,?_⟩;simp only[A.bR];exact⟨_,_,rfl,by simp[A.Den,C.Den],_,_,rfl,by rw[a0B];exact IJ _ _,_,_,rfl,aYK,rfl⟩
   ·cases he
  ·rename_i hd;simp only[aA,aD]at he;obtain⟨_,rfl⟩:=he;obtain⟨b,e1,e2⟩:=h.res d _ hd;have hy:=eH hx hd sM;rw[e1]at hy;subst hy;refine⟨_,aR.2 rfl,.tuple #[.bool false],w,?_,h,gL.refl m ρ,aY0⟩;simp[Instr.next,getObj,Sem.run,e2]
  ·rename_i s pos hd;obtain⟨b,e1,e2⟩:=h.res d _ hd;have hy:=eH hx hd sM;rw[e1]at hy;subst hy;split at he
   ·rename_i cX;simp only[aA,aD]at he;obtain⟨_,rfl⟩:=he;have hO:gL m (aX m d (.si s (pos+(Utf8.decode s pos).2))) ρ ρ:=by
     have:=gL.set (m:=m) (ρ:=ρ) d (.si s (pos+(Utf8.decode s pos).2)) (ρ d) (λ_ _=>⟨by rw[hd];simp,rfl,λfz t es l e=>by rw[hd]at e;simp at e⟩)
     rwa [jP]at this
    refine⟨_,aR.2 rfl,.tuple #[.bool true,goInt pos,.int .i32 (Utf8.decode s pos).1],w.gW b (.stringIter s (pos+(Utf8.decode s pos).2)),?_,?_,hO,?_⟩
    ·simp only[Instr.next,aV];rw[show(getObj b).run P w=.ok (.stringIter s pos) w by simp[getObj,Sem.run,e2]];simp only[aN,cX,if_true,aV];rw[uN e2 sM];simp
    ·exact h.write hd rfl rfl sM (mJ w b _) (λk _ e=>by rw[e1,e];rfl) λ_ _ _=>⟨b,e1,tS e2⟩
    ·simp only[A.Den,A.bR,C.Den];exact⟨_,rfl,_,_,rfl,rfl,_,_,rfl,rfl,_,_,rfl,rfl,rfl⟩
   ·rename_i cX;simp only[aA,aD]at he;obtain⟨_,rfl⟩:=he;refine⟨_,aR.2 rfl,.tuple #[.bool false],w,?_,h,gL.refl m ρ,aY0⟩;simp only[Instr.next,aV];rw[show(getObj b).run P w=.ok (.stringIter s pos) w by simp[getObj,Sem.run,e2]];simp[cX]
  ·cases he
 ·cases he
end
def JK(m:Mem)(x:A):Option E:=
 match x with
 |.h d=>match m d with
  |some (.it i sc start (s::_))=>match m i with
   |some (.mp _ kv st)=>match st.find? λp=>p.2==s&&p.1 !=.agg []with
    |some (k,_)=>match fL k kv with
     |some a=>some (uW m (sc::start)&&decide ((Ky.agg [],sc)∈st),.eL [ZA k,a],[])
     |none=>none
    |none=>none
   |_=>none
  |_=>none
 |_=>none
def vJ{α:Type}{p:α->Bool}:∀{l:List α}{x:α},x∈l->p x=true->(∀y∈l,p y=true->y=x)->l.find? p=some x
 |[],x,h,_,_=>by simp at h
 |y::l,x,h,hp,hu=>by
  simp[eN];cases hy:p y with
  |true=>rw[hu y sM hy]
  |false=>
   simp only;simp[aO]at h;rcases h with rfl|h
   ·rw[hp]at hy;cases hy
   ·exact vJ h hp λz hz=>hu z (by simp[hz])
section
variable{M0 S0:Nat->Prop}{w0:World}{N:Fr}{T:Nat->A}{m:Mem}{ρ:Nat->Value}{a:Act}{w:World}{P:Program}
def aE8(h:bC M0 S0 w0 N T m ρ a w){x v:A}{y:Value}{pre:Bool}{ups:List (Nat×R)}(hx:x.Den w (dD M0 m ρ) m ρ y)(he:JK m x=some (pre,v,ups))(hp:pre=true):
 ups=[]/\∃z,(Instr.entry y).run P w=.ok z w/\v.Den w (dD M0 m ρ) m ρ z:=by
 unfold JK at he;split at he
 ·rename_i d;simp[A.Den]at hx;split at he
  ·rename_i i sc start s seen hd;have hy:=eH hx hd sM;split at he
   ·rename_i fz kv st hi;split at he
    ·rename_i k s' hfi;split at he
     ·rename_i a0 hg;simp[aA,aD]at he;have⟨rfl,rfl,rfl⟩:=he;have⟨b,mb,si,sa,e1,e2,e3,e5,e6⟩:=h.res d _ hd;have⟨b',es,cl,z,g1,g2,g3,g4⟩:=HO h hi;have e3':=eH e3 hi sM;rw[g1]at e3';simp at e3';subst e3';rw[e1]at hy;subst hy;rw[aE]at hp;have aYJ:=yU hp.1;have hsc:=aUL hp.2;have a06:dX ρ sc=si:=eH e5 (aYJ sc sM) sM;have aZ1:si=cl:=by
       have:=(eH (g4 _ hsc) (aYJ sc sM) sM).2.2 rfl;rw[a06]at this;exact this
      have⟨y4,a01,aWV,aVM,a0E⟩:=e6.2.2 (λj hj e=>by rw[aYJ j (by simp[hj])]at e;cases e);have aWE:=cT hfi;have hs':s'=s:=by have:=iD hfi;simp at this;exact this.1
      subst hs';rcases g3.find k with⟨_,q2⟩|⟨j,p,q1,q2,q3,q4⟩
      ·rw[q2]at hg;cases hg
      rw[q4]at hg;simp[aA]at hg;subst hg;have hpz:=l5 q2;have hpe:p.2∈es.toList:=by rw[g3.toList];exact aA4.2 ⟨p,hpz,rfl⟩
      have hpk:p.2.key=k.val:=by rw[<-q3];exact g3.key p hpz
      have hbn:=(eH (g4 _ aWE) (aYJ s' (by simp[aVM s' sM])) sM).1 p.2 hpe hpk;have aWM:es.find? (λe=>e.born==dX ρ s')=some p.2:=by
       have:es.find? (λe=>e.born==dX ρ s')=es.toList.find? (λe=>e.born==dX ρ s'):=by
        conv=>lhs;rw[<-Array.toArray_toList (xs:=es)]
        exact List.find?_toArray _ _
       rw[this];refine vJ hpe (by simp[hbn]) λe he hb=>?_;rw[g3.toList]at he;obtain⟨q,hq,rfl⟩:=aA4.1 he;have⟨jq,hjq⟩:=dY.1 hq;have:=rH g3.born hjq q2 (by rw[hbn];simpa using hb);subst this;rw[q2]at hjq;cases hjq;rfl
      refine⟨rfl,.tuple #[p.2.key,p.2.val],?_,?_⟩
      ·simp only[Instr.entry,aV];rw[show(getObj b).run P w=.ok (.mapIter (some b') si sa si) w by simp[getObj,Sem.run,e2]];simp only[aN,a0E,List.head?_cons,dF,aV];rw[jS g2];simp[aN,aZ1,bne_self_eq_false,bY,if_false,aV,cB,aWM]
      ·simp only[A.Den,A.bR];exact⟨_,rfl,_,_,rfl,by rw[hpk];exact IJ _ _,_,_,rfl,g3.den p hpz,rfl⟩
     ·cases he
    ·cases he
   ·cases he
  ·cases he
 ·cases he
def PU(P:Program)(t:TypeId)(x y:A):Option (Bool×Bool):=
 match keyOf x,keyOf y with
 |some (.agg a),some (.agg b)=>some ((Ky.agg a).fits P t&&(Ky.agg a).same (.agg b)&& !P.eqGuardType P.depth t,decide (a=b))
 |_,_=>none
def aE9{op:BinOp}{y:A}{u:Value}{ox oy:Operand}{pre b:Bool}(hx:x.Den w M m ρ u)(hy:y.Den w M m ρ v)(he:PU P t x y=some (pre,b))(hp:pre=true)(I5:op=.eql\/op=.neq):
 (do eqGuard op t ox oy u v;binOp op t u v).run P w=.ok (.bool (if op=.eql then b else !b)) w:=by
 unfold PU at he;split at he
 ·rename_i k l h1 h2;simp[aA,aD]at he;have⟨rfl,rfl⟩:=he;have e1:=rF h1 hx;have e2:=rF h2 hy;subst e1;subst e2;simp[aE,eC]at hp;have hq:=UC (w:=w) 9995 hp.1.1 hp.1.2;simp[Ky.val]at hq⊢;simp[aV,run_eqGuard_agg w op t ox oy _ _ hp.2,aN];rcases I5 with rfl|rfl
  ·rw[run_eql_struct w];simp only[hq,aN];simp
  ·rw[run_neq_struct w];simp only[hq,aN];simp
 ·cases he
def zY(P:Program)(t:TypeId)(x ix:A):Option E:=
 match x,ix with
 |.d (.v (.string s)),.d (.v (.int _ n))=>match s[n.toNat]? with
  |some b=>some (yJ P t&&decide (0<=n),.d (.v (.int .u8 b.toNat)),[])
  |none=>none
 |.agg l,.d (.v (.int _ n))=>match P.underlying t with
  |some (.array len e)=>match oP P e with
   |some true=>some (decide (0<=n/\n<len/\n.toNat*P.cellsOf e+P.cellsOf e<=l.length),.agg ((l.drop (n.toNat*P.cellsOf e)).take (P.cellsOf e)),[])
   |some false=>some (decide (0<=n/\n<len/\n.toNat*P.cellsOf e<l.length),l.getD (n.toNat*P.cellsOf e) .x,[])
   |none=>none
  |_=>none
 |.d (.agg l),.d (.v (.int _ n))=>match P.underlying t with
  |some (.array len e)=>match oP P e with
   |some true=>some (decide (0<=n/\n<len/\n.toNat*P.cellsOf e+P.cellsOf e<=l.length),.d (.agg ((l.drop (n.toNat*P.cellsOf e)).take (P.cellsOf e))),[])
   |some false=>some (decide (0<=n/\n<len/\n.toNat*P.cellsOf e<l.length),.d (l.getD (n.toNat*P.cellsOf e) default),[])
   |none=>none
  |_=>none
 |_,_=>none
def EU{vs:Array Value}{o:Nat}{l:List A}(h0:∀u∈vs.toList,u.oneCell'=true)(hd:A.bR w M m ρ l vs.toList):
 (oP P t=some true->o+P.cellsOf t<=l.length->∃y,(part t vs o).run P w=.ok y w/\(A.agg ((l.drop o).take (P.cellsOf t))).Den w M m ρ y)/\
 (oP P t=some false->o<l.length->∃y,(part t vs o).run P w=.ok y w/\(l.getD o .x).Den w M m ρ y):=by
 have hlen:=(A.xJ.1 hd).1;constructor
 ·intro hg hle;refine⟨.agg (vs.extract o (o+P.cellsOf t)),by simp[part,lV hg,mB hg],?_⟩;simp only[A.Den];have e1:(vs.extract o (o+P.cellsOf t)).toList=(vs.toList.drop o).take (P.cellsOf t):=by
   rw[sK];simp[oG]
  exact⟨_,rfl,by rw[e1];exact λu hu=>h0 u (dI (dJ hu)),by rw[e1];exact A.mT _ (A.lL _ hd)⟩
 ·intro hg cX;have aVU:o<vs.toList.length:=oM;refine⟨vs.toList[o],?_,?_⟩
  ·have:vs[o]?=some vs.toList[o]:=by simp at aVU;simp[aVU]
   simp[part,lV hg,this]
  ·rw[bF,aC cX];exact(A.xJ.1 hd).2 _ _ _ (aC cX) (aC aVU)
def aFB{ix v:A}{iy:Value}{pre:Bool}{ups:List (Nat×R)}(hx:x.Den w M m ρ y)(hix:ix.Den w M m ρ iy)(he:zY P t x ix=some (pre,v,ups))(hp:pre=true):
 ups=[]/\∃z,(Instr.index t y iy).run P w=.ok z w/\v.Den w M m ρ z:=by
 unfold zY at he;split at he
 ·rename_i s k n;simp[A.Den,C.Den]at hx hix;subst hx;subst hix;split at he
  ·rename_i b hb;simp[aA,aD]at he;have⟨rfl,rfl,rfl⟩:=he;rw[aE]at hp;have h0:=aUL hp.2;exact⟨rfl,.int .u8 b.toNat,by simp[Instr.index,asIntOf,run_underlying (oB hp.1),h0,hb],by simp[A.Den,C.Den]⟩
  ·cases he
 ·rename_i l k n;simp[A.Den,C.Den]at hix;subst hix;simp only[A.Den]at hx;obtain⟨vs,rfl,h0,hd⟩:=hx;split at he
  ·rename_i len e hu;split at he
   ·rename_i hg;simp only[aA,aD]at he;have⟨rfl,rfl,rfl⟩:=he;have⟨p1,p2,p3⟩:=aUL hp;have⟨z,r1,r2⟩:=(EU (P:=P) (t:=e) (o:=n.toNat*P.cellsOf e) h0 hd).1 hg p3;exact⟨rfl,z,by simp[Instr.index,asIntOf,run_underlying hu,p1,p2,mB hg,r1],r2⟩
   ·rename_i hg;simp only[aA,aD]at he;have⟨rfl,rfl,rfl⟩:=he;have⟨p1,p2,p3⟩:=aUL hp;have⟨z,r1,r2⟩:=(EU (P:=P) (t:=e) (o:=n.toNat*P.cellsOf e) h0 hd).2 hg p3;exact⟨rfl,z,by simp[Instr.index,asIntOf,run_underlying hu,p1,p2,mB hg,r1],r2⟩
   ·cases he
  ·cases he
 ·rename_i l k n;simp[A.Den,C.Den]at hix;subst hix;simp only[A.Den,C.Den]at hx;obtain⟨vs,rfl,h0,hd⟩:=hx;have hd':A.bR w M m ρ (l.map A.d) vs.toList:=A.iO.2 hd;split at he
  ·rename_i len e hu;split at he
   ·rename_i hg;simp only[aA,aD]at he;have⟨rfl,rfl,rfl⟩:=he;have⟨p1,p2,p3⟩:=aUL hp;have⟨z,r1,r2⟩:=(EU (P:=P) (t:=e) (o:=n.toNat*P.cellsOf e) h0 hd').1 hg (by simpa using p3);refine⟨rfl,z,by simp[Instr.index,asIntOf,run_underlying hu,p1,p2,mB hg,r1],?_⟩;rw[<-List.map_drop,<-List.map_take]at r2;simp only[A.Den,C.Den]at r2⊢;have⟨us,q1,q2,q3⟩:=r2;exact⟨us,q1,q2,A.iO.1 q3⟩
   ·rename_i hg;simp only[aA,aD]at he;have⟨rfl,rfl,rfl⟩:=he;obtain⟨p1,p2,p3⟩:=aUL hp;obtain⟨z,r1,r2⟩:=(EU (P:=P) (t:=e) (o:=n.toNat*P.cellsOf e) h0 hd').2 hg (by simpa using p3);refine⟨rfl,z,by simp[Instr.index,asIntOf,run_underlying hu,p1,p2,mB hg,r1],?_⟩;rw[bF,cK,aC p3]at r2;rw[bF,aC p3];exact r2
   ·cases he
  ·cases he
 ·cases he
end
def jZ(P:Program)(m:Mem)(T:Nat->A)(d:Nat)(o:Oper):Option E:=
 match o.op with
 |.lookup t x ix ok=>lO P m t (dN T x) (dN T ix) ok
 |.mapUpdate t x k v=>mW P m t (dN T x) (dN T k) (dN T v)
 |.insert t x k v=>mW P m t (dN T x) (dN T k) (dN T v)
 |.mapEntry t x k=>pQ P m d t (dN T x) (dN T k)
 |.entryStore t x s v=>mV m (dN T x) (dN T s) (dN T v)
 |.range t x=>JP P m d t (dN T x)
 |.entry x=>JK m (dN T x)
 |.index t x ix=>zY P t (dN T x) (dN T ix)
 |.binOp op t x y _=>match j9 P m T d o with
  |some e=>some e
  |none=>match op with
   |.eql=>(PU P t (dN T x) (dN T y)).map λr=>(r.1,.d (.v (.bool r.2)),[])
   |.neq=>(PU P t (dN T x) (dN T y)).map λr=>(r.1,.d (.v (.bool (!r.2))),[])
   |_=>none
 |.call c=>match j9 P m T d o with
  |some e=>some e
  |none=>match c.callee,c.args.toList,c.argTypes.toList with
   |.builtin .delete,[x,k],[t,_]=>tL P m t (dN T x) (dN T k)
   |_,_,_=>none
 |_=>j9 P m T d o
section
variable{M0 S0:Nat->Prop}{w0:World}{N:Fr}{T:Nat->A}{m:Mem}{ρ:Nat->Value}{a:Act}{w:World}{P:Program}
def aE5(h:bC M0 S0 w0 N T m ρ a w)(cX:∀b,M0 b->b<w0.heap.size){o:Oper}{d:Nat}{pre:Bool}{v:A}{ups:List (Nat×R)}(he:jZ P m T d o=some (pre,v,ups))(hp:pre=true):G1 P M0 S0 w0 N T m ρ a w o v (aH m ups):=by
 unfold jZ at he;split at he
 ·rename_i t x ix ok ho;obtain⟨rfl,z,hr,hv⟩:=aBO (P:=P) h (cU h x) (cU h ix) he hp;exact eO h (by simp[execOp,ho,hr]) hv
 ·rename_i t x k v' ho;obtain⟨w',hr,hs,hO,rfl⟩:=OP (P:=P) h (cU h x) (cU h k) (cU h v') he hp;exact⟨undef,w',ρ,_,by simp[execOp,ho,hr],.inr ⟨rfl,rfl⟩,hs,hO,by simp[A.Den]⟩
 ·rename_i t x k v' ho;obtain⟨w',hr,hs,hO,rfl⟩:=OP (P:=P) h (cU h x) (cU h k) (cU h v') he hp;exact⟨undef,w',ρ,_,by simp[execOp,ho,hr],.inr ⟨rfl,rfl⟩,hs,hO,by simp[A.Den]⟩
 ·rename_i t x k ho;have⟨z,w',ρ',hr,hs,hO,hv⟩:=UG (P:=P) h cX (cU h x) (cU h k) he hp;exact⟨z,w',ρ',_,by simp[execOp,ho,hr],.inl rfl,hs,hO,hv⟩
 ·rename_i t x s v' ho;obtain⟨w',hr,hs,hO,rfl⟩:=MV (P:=P) (t:=t) h (cU h x) (cU h s) (cU h v') he;exact⟨undef,w',ρ,_,by simp[execOp,ho,hr],.inr ⟨rfl,rfl⟩,hs,hO,by simp[A.Den]⟩
 ·rename_i t x ho;have⟨z,w',ρ',hr,hs,hO,hv⟩:=aFD (P:=P) h cX (cU h x) he hp;exact⟨z,w',ρ',_,by simp[execOp,ho,hr],.inl rfl,hs,hO,hv⟩
 ·rename_i x ho;obtain⟨rfl,z,hr,hv⟩:=aE8 (P:=P) h (cU h x) he hp;exact eO h (by simp[execOp,ho,hr]) hv
 ·rename_i t x ix ho;obtain⟨rfl,z,hr,hv⟩:=aFB (P:=P) (w:=w) (cU h x) (cU h ix) he hp;exact eO h (by simp[execOp,ho,hr]) hv
 ·rename_i op t x y ty ho;split at he
  ·rename_i e heq;simp[aA]at he;subst he;exact aFC h cX heq hp
  ·split at he
   ·simp only[bU]at he;have⟨⟨p,b⟩,h1,h2⟩:=he;simp[aD]at h2;obtain⟨rfl,rfl,rfl⟩:=h2;have hr:=aE9 (P:=P) (w:=w) (op:=.eql) (ox:=x) (oy:=y) (cU h x) (cU h y) h1 hp (.inl rfl);refine eO h (y:=.bool b) ?_ (by simp[A.Den,C.Den]);simp only[execOp,ho,aV]at hr⊢;rw[hr];simp
   ·simp only[bU]at he;have⟨⟨p,b⟩,h1,h2⟩:=he;simp[aD]at h2;obtain⟨rfl,rfl,rfl⟩:=h2;have hr:=aE9 (P:=P) (w:=w) (op:=.neq) (ox:=x) (oy:=y) (cU h x) (cU h y) h1 hp (.inr rfl);refine eO h (y:=.bool (!b)) ?_ (by simp[A.Den,C.Den]);simp only[execOp,ho,aV]at hr⊢;rw[hr];simp
   ·cases he
 ·rename_i c ho;split at he
  ·rename_i e heq;simp only[aA]at he;subst he;exact aFC h cX heq hp
  ·obtain⟨callee,args,tys⟩:=c;simp only at he;split at he
   ·rename_i x k t t' h2 h3;have e1:=ME h2;have e2:=ME h3;subst e1;subst e2;obtain⟨w',hr,hs,hO,rfl⟩:=aBN (P:=P) (t':=t') (ty:=o.type) h (cU h x) (cU h k) he hp;refine⟨.tuple #[],w',ρ,_,by simp[execOp,ho,resolve,invoke,builtin,hr],.inl rfl,hs,hO,?_⟩;simp only[A.Den,A.bR];exact⟨#[],rfl,rfl⟩
   ·cases he
 ·exact aFC h cX he hp
def zX{m:Mem}{T:Nat->A}{o:Oper}{e:E}(h:jZ P m T d o=some e):jO o=true:=by
 unfold jO;split
 ·rename_i c ho;simp[jZ,j9,ho]at h
 ·rfl
def qT.aKI{o:Oper}{T:Nat->A}{m:Mem}{pre:Bool}{v:A}{ups:List (Nat×R)}(he:jZ P m T d o=some (pre,v,ups))(hp:pre=true):qT P o T m v (aH m ups):=by
 intro ro N M0 S0 w0 ρ a w h cX next Q hn
 have⟨y,w',ρ',res,hr,aX0,hs,hO,hv⟩:=aE5 h cX he hp;exact qQ (zX he) hr aX0 (hn y w' ρ' hs hO hv)
end
inductive Tr(α:Type)where
 |nil
 |node(v:Option α)(l r:Tr α)
def Tr.DX{α:Type}(f:Nat):Tr α->Nat->Option α:=
 Nat.rec (motive:=λ_=>Tr α->Nat->Option α) (λt _=>Tr.casesOn (motive:=λ_=>Option α) t none (λv _ _=>v))
  (λ_ ih t n=>Tr.casesOn (motive:=λ_=>Option α) t none (λv l r=>Bool.casesOn (motive:=λ_=>Option α) (Nat.beq n 0) (Bool.casesOn (motive:=λ_=>Option α) (Nat.beq (Nat.mod n 2) 0) (ih l (Nat.div n 2)) (ih r (Nat.pred (Nat.div n 2)))) v)) f
def Tr.zG{α:Type}(x:α)(f:Nat):Tr α->Nat->Tr α:=
 Nat.rec (motive:=λ_=>Tr α->Nat->Tr α) (λt _=>Tr.casesOn (motive:=λ_=>Tr α) t (.node (some x) .nil .nil) (λ_ l r=>.node (some x) l r))
  (λ_ ih t n=>Tr.casesOn (motive:=λ_=>Tr α) t
    (Bool.casesOn (motive:=λ_=>Tr α) (Nat.beq n 0) (Bool.casesOn (motive:=λ_=>Tr α) (Nat.beq (Nat.mod n 2) 0) (.node none (ih .nil (Nat.div n 2)) .nil) (.node none .nil (ih .nil (Nat.pred (Nat.div n 2))))) (.node (some x) .nil .nil))
    (λv l r=>Bool.casesOn (motive:=λ_=>Tr α) (Nat.beq n 0) (Bool.casesOn (motive:=λ_=>Tr α) (Nat.beq (Nat.mod n 2) 0) (.node v (ih l (Nat.div n 2)) r) (.node v l (ih r (Nat.pred (Nat.div n 2))))) (.node (some x) l r))) f
def A3(a b:Nat):Nat.beq a b=decide (a=b):=by
 cases h:Nat.beq a b with
 |true=>simp[bB h]
 |false=>have:=Nat.ne_of_beq_eq_false h;simp[this]
def BD{α:Type}(c:Bool)(a b:α):Bool.casesOn (motive:=λ_=>α) c a b=if c=true then b else a:=by cases c<;>rfl
def Tr.AB{α:Type}:∀(f n:Nat),Tr.DX f (.nil:Tr α) n=none
 |0,_=>rfl
 |_+1,_=>rfl
def Tr.tM{α:Type}(f:Nat)(v:Option α)(l r:Tr α)(n:Nat):Tr.DX (f+1) (.node v l r) n=if n=0 then v else if n %2=0 then Tr.DX f r (n/2 -1)else Tr.DX f l (n/2):=by
 have e:Tr.DX (f+1) (.node v l r) n=Bool.casesOn (motive:=λ_=>Option α) (Nat.beq n 0) (Bool.casesOn (motive:=λ_=>Option α) (Nat.beq (Nat.mod n 2) 0) (Tr.DX f l (Nat.div n 2)) (Tr.DX f r (Nat.pred (Nat.div n 2)))) v:=rfl;rw[e,BD,BD,A3,A3];simp[aUA];rfl
def Tr.NU{α:Type}(v:Option α)(l r:Tr α)(n:Nat):Tr.DX 0 (.node v l r) n=v:=rfl
def Tr.aFF{α:Type}(x:α)(f n:Nat):Tr.zG x (f+1) .nil n=if n=0 then .node (some x) .nil .nil else if n %2=0 then .node none .nil (Tr.zG x f .nil (n/2 -1))else .node none (Tr.zG x f .nil (n/2)) .nil:=by
 have e:Tr.zG x (f+1) .nil n=Bool.casesOn (motive:=λ_=>Tr α) (Nat.beq n 0) (Bool.casesOn (motive:=λ_=>Tr α) (Nat.beq (Nat.mod n 2) 0) (.node none (Tr.zG x f .nil (Nat.div n 2)) .nil) (.node none .nil (Tr.zG x f .nil (Nat.pred (Nat.div n 2))))) (.node (some x) .nil .nil):=rfl;rw[e,BD,BD,A3,A3];simp[aUA];rfl
def Tr.aBQ{α:Type}(x:α)(f n:Nat)(v:Option α)(l r:Tr α):Tr.zG x (f+1) (.node v l r) n=if n=0 then .node (some x) l r else if n %2=0 then .node v l (Tr.zG x f r (n/2 -1))else .node v (Tr.zG x f l (n/2)) r:=by
 have e:Tr.zG x (f+1) (.node v l r) n=Bool.casesOn (motive:=λ_=>Tr α) (Nat.beq n 0) (Bool.casesOn (motive:=λ_=>Tr α) (Nat.beq (Nat.mod n 2) 0) (.node v (Tr.zG x f l (Nat.div n 2)) r) (.node v l (Tr.zG x f r (Nat.pred (Nat.div n 2))))) (.node (some x) l r):=rfl;rw[e,BD,BD,A3,A3];simp[aUA];rfl
def Fit(f n:Nat):Prop:=n+1<2^(f+1)
def Fit.zero(h:Fit 0 n):n=0:=by unfold Fit at h;simp at h;omega
def Fit.left{f:Nat}(h:Fit (f+1) n)(hn:¬n %2=0):Fit f (n/2):=by
 unfold Fit at h⊢;rw[Nat.pow_succ]at h;omega
def Fit.right{f:Nat}(h:Fit (f+1) n)(h0:¬n=0)(hn:n %2=0):Fit f (n/2 -1):=by
 unfold Fit at h⊢;rw[Nat.pow_succ]at h;omega
def X8(n:Nat):Fit (Nat.log2 (n+1)) n:=Nat.lt_log2_self
def Tr.FV{α:Type}(x:α):∀(f g:Nat)(t:Tr α)(n k:Nat),Fit f n->Fit g k->Tr.DX g (Tr.zG x f t n) k=if k=n then some x else Tr.DX g t k
 |0,g,t,n,k,h1,h2=>by
  have hn:n=0:=h1.zero;subst hn;have e:∃l r,Tr.zG x 0 t 0=.node (some x) l r/\((t=.nil/\l=.nil/\r=.nil)\/∃v,t=.node v l r):=by
   cases t with
   |nil=>exact⟨_,_,rfl,.inl ⟨rfl,rfl,rfl⟩⟩
   |node v l r=>exact⟨_,_,rfl,.inr ⟨v,rfl⟩⟩
  have⟨l,r,e,ht⟩:=e;rw[e];cases g with
  |zero=>
   have hk:k=0:=h2.zero;subst hk;rw[aUF rfl];rfl
  |succ g=>
   rw[Tr.tM];by_cases hk:k=0
   ·rw[aUF hk,aUF hk]
   ·rw[aT7 hk,aT7 hk];rcases ht with⟨rfl,rfl,rfl⟩|⟨v,rfl⟩
    ·rw[Tr.AB,Tr.AB,Tr.AB,ite_self]
    ·rw[Tr.tM,aT7 hk]
 |f+1,g,t,n,k,h1,h2=>by
  have e:∃v l r,(t=.nil/\v=none/\l=.nil/\r=.nil\/t=.node v l r)/\Tr.zG x (f+1) t n=if n=0 then .node (some x) l r else if n %2=0 then .node v l (Tr.zG x f r (n/2 -1))else .node v (Tr.zG x f l (n/2)) r:=by
   cases t with
   |nil=>exact⟨none,.nil,.nil,.inl ⟨rfl,rfl,rfl,rfl⟩,Tr.aFF x f n⟩
   |node v l r=>exact⟨v,l,r,.inr rfl,Tr.aBQ x f n v l r⟩
  have⟨v,l,r,ht,e⟩:=e;have aXT:∀g k,Fit g k->Tr.DX g t k=if k=0 then v else if k %2=0 then Tr.DX (g -1) r (k/2 -1)else Tr.DX (g -1) l (k/2):=by
   intro g k hk;rcases ht with⟨rfl,rfl,rfl,rfl⟩|rfl
   ·simp[Tr.AB,ite_self]
   ·cases g with
    |zero=>have:k=0:=hk.zero
           subst this;rfl
    |succ g=>rw[Tr.tM];rfl
  rw[e,aXT g k h2];cases g with
  |zero=>
   have hk:k=0:=h2.zero;subst hk;by_cases hn:n=0
   ·subst hn;simp[Tr.NU]
   ·rw[aT7 hn,aT7 (Ne.symm hn)];split<;>simp[Tr.NU]
  |succ g=>
   simp[Nat.add_sub_cancel];by_cases hn:n=0
   ·subst hn;rw[aUF rfl,Tr.tM];by_cases hk:k=0
    ·rw[aUF hk,aUF hk]
    ·rw[aT7 hk,aT7 hk,aT7 hk]
   ·rw[aT7 hn];by_cases hm:n %2=0
    ·rw[aUF hm,Tr.tM];by_cases hk:k=0
     ·rw[aUF hk,aUF hk,aT7 oM]
     ·rw[aT7 hk,aT7 hk];by_cases EN:k %2=0
      ·rw[aUF EN,aUF EN,Tr.FV x f g r (n/2 -1) (k/2 -1) (h1.right hn hm) (h2.right hk EN)];by_cases e:k=n
       ·subst e;simp
       ·rw[aT7 e,aT7 oM]
      ·rw[aT7 EN,aT7 EN,aT7 (by rintro rfl;exact EN hm)]
    ·rw[aT7 hm,Tr.tM];by_cases hk:k=0
     ·rw[aUF hk,aUF hk,aT7 oM]
     ·rw[aT7 hk,aT7 hk];by_cases EN:k %2=0
      ·rw[aUF EN,aUF EN,aT7 (by rintro rfl;exact hm EN)]
      ·rw[aT7 EN,aT7 EN,Tr.FV x f g l (n/2) (k/2) (h1.left hm) (h2.left EN)];by_cases e:k=n
       ·subst e;simp
       ·rw[aT7 e,aT7 oM]
def Tr.get{α:Type}(t:Tr α)(n:Nat):Option α:=Tr.DX (Nat.log2 (Nat.succ n)) t n
def Tr.set{α:Type}(f:Nat)(t:Tr α)(n:Nat)(x:α):Tr α:=Tr.zG x (Nat.log2 (Nat.succ n)) t n
def Tr.get_nil{α:Type}(n:Nat):(Tr.nil:Tr α).get n=none:=Tr.AB _ _
def Tr.rV{α:Type}(f:Nat)(t:Tr α)(n k:Nat)(x:α):(Tr.set f t n x).get k=if k=n then some x else t.get k:=
 Tr.FV x _ _ t n k (X8 n) (X8 k)
def Tr.MW(f:Nat):Tr R->List (Nat×R)->Tr R
 |t,[]=>t
 |t,(i,r)::u=>Tr.MW f (Tr.set f t i r) u
def Tr.nV(f:Nat):∀(u:List (Nat×R))(t:Tr R),(Tr.MW f t u).get=aH t.get u
 |[],t=>rfl
 |(i,r)::u,t=>by
  simp[Tr.MW,aH];rw[Tr.nV f u];congr 1;funext k;rw[Tr.rV];rfl
def Tr.fn(t:Tr A):Nat->A:=λn=>Option.casesOn (motive:=λ_=>A) (Tr.get t n) .x (λv=>v)
def Tr.aCW(t:Tr A)(n:Nat):t.fn n=(t.get n).getD .x:=by
 show(Option.casesOn (motive:=λ_=>A) (Tr.get t n) .x (λv=>v):A)=(Tr.get t n).getD .x;cases Tr.get t n<;>rfl
def Tr.FU(f:Nat)(t:Tr A)(n:Nat)(x:A):(Tr.set f t n x).fn=lI t.fn (some n) x:=by
 funext k;simp only[Tr.aCW,Tr.rV,lI];by_cases e:k=n
 ·subst e;simp
 ·have:¬(some n=some k):=λh=>e (by simpa using h.symm);simp[e,this]
end Go.Pv
