/- PassesDrops holds of every core (no condition): a part of the proof: an abstract interpreter of the code that is proved sound, models of the functions, and laws of these models. -/
import Derived.Test.YtcdinjhcnhepeaaGreatDoorD02
import Derived.KernelRfl
set_option linter.unusedVariables false
set_option linter.unusedSimpArgs false
namespace Ab
open Go
section
variable{α R S A:Type}
theorem p_wrap(k:IntKind)(n:Int):al.wrap k n=k.wrap n:=rfl
theorem aiu(a b:Int):al.add a b=a+b:=rfl
theorem Z8(a b:Int):al.sub a b=a - b:=rfl
theorem p_mul(a b:Int):al.mul a b=a*b:=rfl
theorem dp(a b:Int):al.aJ a b=decide (a=b):=rfl
theorem iF(a b:Int):al.aV a b=decide (a<b):=rfl
theorem Gk(a b:Int):al.pK a b=decide (a≤b):=rfl
theorem sH(a b:ByteArray):al.seq a b=decide (a=b):=rfl
theorem dm(a:Bool):al.not a= !a:=rfl
theorem p_beq(a b:Bool):al.beq a b=(a==b):=rfl
theorem bK(c a b:Bool):al.pick c a b=(bif c then a else b):=rfl
theorem p_bsz(a:ByteArray):al.Lb a=a.size:=rfl
theorem p_ln{α:Type}(l:List α):Md.al.ln l=l.length:=rfl
theorem p_lenM(l:List α):aq l=(l.length:Int):=rfl
theorem p_sizM(b:ByteArray):la b=(b.size:Int):=rfl
theorem p_letM(a:α)(f:α→R):an0 a f=f a:=rfl
theorem iter_eq{body:(S→Option R)→S→Option R}(F:S→Option R)(P:S→Prop)(μ:S→Nat)
  (hs: ∀(self:S→Option R) (st:S),P st→(∀st',P st'→μ st'<μ st→self st'=F st')→body self st=F st): ∀(n:Nat) (st:S),P st→μ st<n→iter body n st=F st
 |0,_,_,h=>absurd h (Nat.not_lt_zero _)
 |n+1,st,hp,h=>hs _ st hp fun st' h1 h2=>iter_eq F P μ hs n st' h1 (by omega)
theorem bA{body:(S→Option R)→S→Option R}(mk:A→Nat→S)(G:A→List α→Nat→Option R)(P:A→Nat→Prop)(l:List α)(hl:l.length≤9223372036854775806)
  (h1: ∀(self:S→Option R) (a:A) (i:Nat) (x:α) (r:List α),P a i→l.drop i=x::r→i<l.length→gI l (i:Int)=some x→al.aV (i:Int) (aq l)=true→al.wrap .i64 (al.add (i:Int) 1)=((i+1:Nat):Int)→
   (∀a',P a' (i+1)→self (mk a' (i+1))=G a' r (i+1))→body self (mk a i)=G a (x::r) i)
  (h2: ∀(self:S→Option R) (a:A),P a l.length→al.aV (l.length:Int) (aq l)=false→body self (mk a l.length)=G a [] l.length)(n:Nat)(hn:l.length<n)(a:A)(ha:P a 0):iter body n (mk a 0)=G a l 0:=by
 have key: ∀(r:List α) (i n:Nat) (a:A),P a i→l.drop i=r→i≤l.length→r.length<n→iter body n (mk a i)=G a r i:=by
  intro r
  induction r with
  |nil=>
   intro i n a hp hd hi hn
   obtain⟨m,rfl⟩: ∃m,n=m+1:=⟨n - 1,by simp at hn;omega⟩
   have VH:l.length≤i:=by simpa using hd
   have:i=l.length:=by omega
   subst this
   exact h2 _ a hp (by show decide ((l.length:Int)<l.length)=false;simp)
  |cons x r ih=>
   intro i n a hp hd hi hn
   obtain⟨m,rfl⟩: ∃m,n=m+1:=⟨n - 1,by simp at hn;omega⟩
   have aU:i<l.length:=by
    rcases Nat.lt_or_ge i l.length with h|h
    ·exact h
    ·rw[List.drop_eq_nil_of_le h]at hd;cases hd
   have hx:l[i]? =some x:=by
    have:=List.getElem?_drop (xs:=l) (i:=i) (j:=0)
    rw[hd]at this;simpa using this.symm
   have na:l.drop (i+1)=r:=by
    have:(l.drop i).drop 1=l.drop (i+1):=by rw[List.drop_drop]
    rw[←this,hd];rfl
   refine h1 _ a i x r hp hd aU (by unfold gI;rw[if_pos (by omega)];simpa using hx) (by show decide ((i:Int)<l.length)=true;simp;omega) (by show IntKind.wrap .i64 ((i:Int)+1)=_;rw[ga (by omega)];rfl) fun a' Ub=>?_
   exact ih (i+1) m a' Ub na aU (by simp at hn;omega)
 exact key l 0 n a ha rfl (Nat.zero_le _) hn
theorem gv{body:(Int→Option R)→Int→Option R}(G:List α→Nat→Option R)(l:List α)(hl:l.length≤9223372036854775806)
  (h1: ∀(self:Int→Option R) (i:Nat) (x:α) (r:List α),l.drop i=x::r→i<l.length→gI l (i:Int)=some x→al.aV (i:Int) (aq l)=true→al.wrap .i64 (al.add (i:Int) 1)=((i+1:Nat):Int)→
   self ((i+1:Nat):Int)=G r (i+1)→body self (i:Int)=G (x::r) i)
  (h2: ∀(self:Int→Option R),al.aV (l.length:Int) (aq l)=false→body self (l.length:Int)=G [] l.length)(n:Nat)(hn:l.length<n):iter body n 0=G l 0:=
 bA (A:={u:Unit // True}) (mk:=fun _ i=>(i:Int)) (fun _=>G) (fun _ _=>True) l hl (fun self _ i x r _ hd hi e1 e2 e3 ih=>h1 self i x r hd hi e1 e2 e3 (ih ⟨(),trivial⟩ trivial)) (fun self _ _ e=>h2 self e) n hn ⟨(),trivial⟩ trivial
theorem aaR{p:List α}{x:α}{r:List α}:gI (p++x::r) (p.length:Int)=some x:=by simp[gI]
theorem dZ{l:List α}{i:Nat}:gI l (i:Int)=l[i]? :=by simp[gI]
theorem lt_at{p:List α}{x:α}{r:List α}:((p.length:Int)<((p++x::r).length:Int))=True:=by simp;omega
theorem Dg{n:Nat}(h:n≤9223372036854775807):IntKind.wrap .i64 (n:Int)=n:=ga (by omega)
theorem FW{n:Nat}(h:n<9223372036854775807):IntKind.wrap .i64 ((n:Int)+1)=((n+1:Nat):Int):=by rw[ga (by omega)];rfl
def fk(q:α→Bool)(l:List α):Int:=match l.findIdx? q with|some i=>(i:Int)|none=> -1
theorem idxI_nil(q:α→Bool):fk q []= -1:=rfl
theorem OH(q:α→Bool)(l:List α):fk q l<l.length:=by
 unfold fk
 cases h:l.findIdx? q with
 |none=>simp;omega
 |some i=>have:=(List.findIdx?_eq_some_iff_getElem.1 h).1;simp;omega
theorem Iu(q:α→Bool)(l:List α): -1≤fk q l:=by
 unfold fk
 split<;>omega
theorem zq(q:α→Bool)(l:List α):decide (0≤fk q l)=l.any q:=by
 unfold fk
 cases h:l.findIdx? q with
 |none=>
  have:=List.findIdx?_eq_none_iff.1 h
  have:l.any q=false:=by rw[List.any_eq_false];intro x hx;simp[this x hx]
  rw[this];rfl
 |some i=>
  obtain⟨h1,h2,_⟩:=List.findIdx?_eq_some_iff_getElem.1 h
  have:l.any q=true:=List.any_eq_true.2 ⟨l[i],List.getElem_mem h1,h2⟩
  rw[this];simp
theorem idxI_app{q:α→Bool}{p r:List α}(h: ∀x∈p,q x=false):(match r.findIdx? q with|some i=>((p.length+i:Nat):Int)|none=> -1)=fk q (p++r):=by
 unfold fk
 have:p.findIdx? q=none:=List.findIdx?_eq_none_iff.2 h
 rw[List.findIdx?_append,this]
 cases r.findIdx? q<;>simp
 omega
def D8(p:α→Option Bool)(l:List α)(self:Int→Option Int)(z:Int):Option Int:=
 bif al.aV z (aq l)then(gI l z).bind fun x=>(p x).bind fun y=>bif y then some z else self (al.wrap .i64 (al.add z 1))else some (-1)
theorem c5{p:α→Option Bool}(q:α→Bool){l:List α}(hp: ∀x∈l,p x=some (q x)){n:Nat}(hn:l.length<n)(hl:l.length≤9223372036854775806):iter (D8 p l) n 0=some (fk q l):=by
 have:=gv (R:=Int) (body:=D8 p l) (fun r i=>match r.findIdx? q with|some j=>some ((i+j:Nat):Int)|none=>some (-1)) l hl ?_ ?_ n hn
 ·refine this.trans ?_
  unfold fk
  cases l.findIdx? q<;>simp
 ·intro self i x r hd hi e1 e2 e3 ih
  have hx:p x=some (q x):=hp x (List.mem_of_mem_drop (i:=i) (by rw[hd];simp))
  unfold D8
  rw[e2,cond_true,e1,Option.bind_some,hx,Option.bind_some,e3,List.findIdx?_cons]
  cases hq:q x with
  |true=>simp
  |false=>
   rw[cond_false,ih]
   cases r.findIdx? q<;>simp
   omega
 ·intro self e
  unfold D8
  rw[e]
  rfl
theorem cL{o:Option Int}{q:α→Bool}{l:List α}(h:o=some (fk q l)):(o.bind fun y=>some (al.pK 0 y))=some (l.any q):=by
 rw[h,Option.bind_some,Gk,zq]
theorem vY{g:Bool}{b:Bool}{x:Option α}{d y:α}(h:g=b→x=some y):cJ g b x d=some (if g=b then y else d):=by
 unfold cJ
 by_cases hg:g=b
 ·subst hg;simp[h rfl]
 ·have:(g==b)=false:=by simpa using hg
  rw[this,if_neg hg];rfl
theorem KT{g:Bool}{x:Option α}{d y:α}(h:g=true→x=some y):cJ g true x d=some (bif g then y else d):=by
 unfold cJ
 cases g with
 |true=>simpa using h rfl
 |false=>rfl
theorem Iy{g:Bool}{x:Option α}{d y:α}(h:g=false→x=some y):cJ g false x d=some (bif g then d else y):=by
 unfold cJ
 cases g with
 |false=>simpa using h rfl
 |true=>rfl
def IF{β:Type}(p:α→β→Option Bool)(l:List α)(m:List β)(self:Int→Option Bool)(z:Int):Option Bool:=
 bif al.aV z (aq l)then(gI l z).bind fun x=>(gI m z).bind fun y=>(p x y).bind fun b=>bif al.not b then some false else self (al.wrap .i64 (al.add z 1))else some true
def EN{β:Type}(q:α→β→Bool):List α→List β→Bool
 |x::r,y::s=>q x y&&EN q r s
 |[],[]=>true
 |_,_=>false
theorem kX{l:List α}{i:Nat}{x:α}{r:List α}(h:l.drop i=x::r):gI l (i:Int)=some x:=by
 have:=List.getElem?_drop (xs:=l) (i:=i) (j:=0)
 rw[h]at this
 unfold gI
 rw[if_pos (by omega)]
 simpa using this.symm
theorem eqFunc{β:Type}{p:α→β→Option Bool}(q:α→β→Bool){l:List α}{m:List β}(VE:l.length=m.length)(hp: ∀x∈l,∀y∈m,p x y=some (q x y)){n:Nat}(hn:l.length<n)(hl:l.length≤9223372036854775806):iter (IF p l m) n 0=some (EN q l m):=by
 have:=gv (R:=Bool) (body:=IF p l m) (fun r i=>some (EN q r (m.drop i))) l hl ?_ ?_ n hn
 ·simpa using this
 ·intro self i x r hd hi e1 e2 e3 ih
  obtain⟨y,s,hy⟩: ∃y s,m.drop i=y::s:=by
   cases h:m.drop i with
   |nil=>simp at h;omega
   |cons y s=>exact⟨y,s,rfl⟩
  have hx:p x y=some (q x y):=hp x (List.mem_of_mem_drop (i:=i) (by rw[hd];simp)) y (List.mem_of_mem_drop (i:=i) (by rw[hy];simp))
  have hs:m.drop (i+1)=s:=by rw[←List.drop_drop,hy];rfl
  unfold IF
  rw[e2,cond_true,e1,Option.bind_some,kX hy,Option.bind_some,hx,Option.bind_some,e3,ih,hy,hs,dm]
  simp only[EN]
  cases q x y<;>rfl
 ·intro self e
  unfold IF
  rw[e]
  have:m.drop l.length=[]:=by simp[VE]
  rw[this]
  rfl
theorem Vd{β:Type}{q:α→β→Bool}: ∀{l:List α} {m:List β},l.length≠m.length→EN q l m=false
 |[],[],h=>absurd rfl h
 |[],_::_,_=>rfl
 |_::_,[],_=>rfl
 |x::r,y::s,h=>by simp only[EN];rw[Vd (l:=r) (m:=s) (by simpa using h),Bool.and_false]
theorem uD[DecidableEq α]: ∀{l m:List α},EN (fun x y=>decide (x=y)) l m=decide (l=m)
 |[],[]=>rfl
 |[],_::_=>rfl
 |_::_,[]=>rfl
 |x::r,y::s=>by simp only[EN,uD (l:=r) (m:=s),List.cons.injEq];by_cases h:x=y<;>by_cases h2:r=s<;>simp[h,h2]
theorem bd{b:Nat}{l:List α}{x:α}(hb:b≤64)(hl:l.length≤1099511627775):aI b l x=some (l++[x]):=by
 unfold aI
 rw[if_pos]
 refine⟨?_,by omega⟩
 calc (l.length+1)*b≤(l.length+1)*64:=Nat.mul_le_mul_left _ hb
  _≤70368744177664:=by omega
theorem ZE{b:Nat}{l m:List α}(hb:b≤64)(hl:l.length+m.length≤1099511627775):CA b l m=some (l++m):=by
 unfold CA
 rw[if_pos]
 refine⟨?_,by omega⟩
 calc (l.length+m.length)*b≤(l.length+m.length)*64:=Nat.mul_le_mul_left _ hb
  _≤70368744177664:=by omega
theorem vM{b:Nat}{k:Nat}{x:α}(hb:b≤64)(hl:k≤1099511627775):vc b (k:Int) x=some (List.replicate k x):=by
 unfold vc
 rw[if_pos]
 ·simp
 ·refine⟨by omega,by omega,?_⟩
  have:(k:Int)*b≤(k:Int)*64:=Int.mul_le_mul_of_nonneg_left (by omega) (by omega)
  omega
theorem nR{l:List α}{k:Nat}{x:α}(h:k<l.length):gg l k x=some (l.set k x):=if_pos h
theorem BP{m:Nat}{z:Int}(h:0≤z)(h2:z<m):gN m z=some z.toNat:=if_pos ⟨h,h2⟩
theorem oU{m i:Nat}(h:i<m):gN m (i:Int)=some i:=by rw[BP (by omega) (by omega)];simp
theorem OT{l:List α}{z:Int}(h:0≤z)(h2:z.toNat<l.length):gI l z=some l[z.toNat]:=by unfold gI;rw[if_pos h];simp[h2]
theorem KU{l:List α}{k:Nat}(h:k<l.length):gK l k=some l[k]:=by unfold gK;simp[h]
theorem ckM_ok{n:Nat}{l:List α}(h:l.length=n):lW n l=some ():=if_pos h
theorem kL{n:Nat}{l:List α}(h:n=l.length):dM n l=some ():=if_pos h
theorem GJ{l:List α}{k:Nat}(h:k≤l.length):EC l 0 (k:Int)=some (l.take k):=by
 unfold EC
 rw[if_pos ⟨by omega,by omega,by omega⟩];simp
theorem Qu{l:List α}{k:Nat}(h:k≤l.length):EC l (k:Int) (aq l)=some (l.drop k):=by
 unfold EC aq
 rw[if_pos ⟨by omega,by omega,by omega⟩];simp
end
end Ab
namespace Ab
open Go
set_option maxRecDepth 10000
def opS(o:aL):Prop:=o.name.size≤40∧o.args.length≤9
def brS(x:ae):Prop:=x.head.size≤40∧x.ops.length≤70∧ ∀o∈x.ops,opS o
def blS(b:aj):Prop:=b.name.size≤40∧b.ag.length≤9∧ ∀x∈b.ag,brS x
def coS(c:ah):Prop:=c.blocks.length≤16∧ ∀b∈c.blocks,blS b
def ND(o:aL):Bool:=decide (40<o.name.size)||decide (9<o.args.length)
def NC(x:ae):Bool:=(decide (40<x.head.size)||decide (70<x.ops.length))||x.ops.any ND
def NF(b:aj):Bool:=(decide (40<b.name.size)||decide (9<b.ag.length))||b.ag.any NC
def Va(c:ah):Bool:=decide (16<c.blocks.length)||c.blocks.any NF
theorem dQ(a b:Bool):(bif a then true else b)=(a||b):=by cases a<;>rfl
theorem mZ(a b:Bool):(bif a then b else false)=(a&&b):=by cases a<;>rfl
theorem tU(a b:Nat):decide ((a:Int)<(b:Int))=decide (a<b):=by simp
theorem le_cast(a b:Nat):decide ((a:Int)≤(b:Int))=decide (a≤b):=by simp
theorem eq_cast(a b:Nat):decide ((a:Int)=(b:Int))=decide (a=b):=by simp[Int.ofNat_inj]
theorem any_len{α:Type}{l:List α}{q:α→Bool}{k:Nat}(h: ∀(hl:l.length≤k),True):True:=trivial
theorem aq8(n:Nat)(o:aL):gZ al .al n o=some (ND o):=by
 unfold gZ ND
 simp only[Option.bind_some,iF,bK,aq,la,dQ]
 rw[show(40:Int)=((40:Nat):Int)from rfl,show(9:Int)=((9:Nat):Int)from rfl,tU,tU]
theorem ak2{n:Nat}{l:List aL}(h:l.length<n)(h':l.length≤100):eM al .al n l=some (l.any ND):=
 cL (c5 (p:=gZ al .al n) ND (fun x _=>aq8 n x) h (by omega))
theorem aq7{n:Nat}(hn:100<n)(x:ae):kM al .al n x=some (NC x):=by
 unfold kM NC
 simp only[Option.bind_some,iF,bK,aq,la,dQ]
 rw[show(40:Int)=((40:Nat):Int)from rfl,show(70:Int)=((70:Nat):Int)from rfl,tU,tU]
 rw[vY (y:=x.ops.any ND) fun hg=>ak2 (by simp at hg;omega) (by simp at hg;omega)]
 cases hg:(decide (40<x.head.size)||decide (70<x.ops.length))<;>simp
theorem ak1{n:Nat}(hn:100<n){l:List ae}(h':l.length≤9):dE al .al n l=some (l.any NC):=
 cL (c5 (p:=kM al .al n) NC (fun x _=>aq7 hn x) (by omega) (by omega))
theorem aq6{n:Nat}(hn:100<n)(x:aj):oh al .al n x=some (NF x):=by
 unfold oh NF
 simp only[Option.bind_some,iF,bK,aq,la,dQ]
 rw[show(40:Int)=((40:Nat):Int)from rfl,show(9:Int)=((9:Nat):Int)from rfl,tU,tU]
 rw[vY (y:=x.ag.any NC) fun hg=>ak1 hn (by simp at hg;omega)]
 cases hg:(decide (40<x.name.size)||decide (9<x.ag.length))<;>simp
theorem ak0{n:Nat}(hn:100<n){l:List aj}(h':l.length≤16):dP al .al n l=some (l.any NF):=
 cL (c5 (p:=oh al .al n) NF (fun x _=>aq6 hn x) (by omega) (by omega))
theorem agO{n:Nat}(hn:100<n)(c:ah):sP al .al n c=some (Va c):=by
 unfold sP Va
 simp only[Option.bind_some,iF,bK,aq,la,dQ]
 rw[show(16:Int)=((16:Nat):Int)from rfl,tU]
 rw[vY (y:=c.blocks.any NF) fun hg=>ak0 hn (by simp at hg;omega)]
 cases hg:(decide (16<c.blocks.length))<;>simp
theorem Qz{c:ah}(h:Va c=false):coS c:=by
 simp only[Va,NF,NC,ND,Bool.or_eq_false_iff,decide_eq_false_iff_not,Nat.not_lt,List.any_eq_false,Bool.not_eq_true,Bool.or_eq_true,not_or,decide_eq_true_eq,List.any_eq_true,not_exists,not_and]at h
 exact⟨h.1,fun b hb=>⟨(h.2 b hb).1.1,(h.2 b hb).1.2,fun x hx=>⟨((h.2 b hb).2 x hx).1.1,((h.2 b hb).2 x hx).1.2,fun o ho=>((h.2 b hb).2 x hx).2 o ho⟩⟩⟩
theorem agN{n:Nat}{l:List Int}(h:l.length≤1000):rE al .al n l=some l:=by
 unfold rE
 rw[ZE (by omega) (by simp;omega)]
 rfl
theorem anM{n:Nat}(hn:100<n){x:ae}(hx:brS x)(k:List aL×Int→Option ah):iter (lM al .al n (aq x.ops) x k) n ([],0)=k (x.ops,(x.ops.length:Int)):=by
 have:=bA (body:=lM al .al n (aq x.ops) x k) (mk:=fun a i=>(a,(i:Int))) (fun a r i=>k (a++r,(x.ops.length:Int))) (fun a i=>a.length=i) x.ops (by have:=hx.2.1;omega) ?_ ?_ n (by have:=hx.2.1;omega) [] rfl
 ·simpa using this
 ·intro self a i o r ha hd hi e1 e2 e3 ih
  have ho:=hx.2.2 o (List.mem_of_mem_drop (i:=i) (by rw[hd];simp))
  have hl:=hx.2.1
  simp only[lM,e2,cond_true,e1,Option.bind_some,agN (show o.args.length≤1000 by have:=ho.2;omega)]
  rw[bd (by omega) (by omega),Option.bind_some,e3,ih _ (by simp[ha])]
  simp
 ·intro self a ha e
  simp only[lM,e,cond_false]
  simp
theorem anN{n:Nat}(hn:100<n){b:aj}(hb:blS b)(k:List ae×Int→Option ah):iter (lN al .al n (aq b.ag) b k) n ([],0)=k (b.ag,(b.ag.length:Int)):=by
 have:=bA (body:=lN al .al n (aq b.ag) b k) (mk:=fun a i=>(a,(i:Int))) (fun a r i=>k (a++r,(b.ag.length:Int))) (fun a i=>a.length=i) b.ag (by have:=hb.2.1;omega) ?_ ?_ n (by have:=hb.2.1;omega) [] rfl
 ·simpa using this
 ·intro self a i o r ha hd hi e1 e2 e3 ih
  have ho:=hb.2.2 o (List.mem_of_mem_drop (i:=i) (by rw[hd];simp))
  have hl:=hb.2.1
  simp only[lN,e2,cond_true,e1,Option.bind_some,anM hn ho]
  rw[bd (by omega) (by omega),Option.bind_some,e3,ih _ (by simp[ha])]
  simp
 ·intro self a ha e
  simp only[lN,e,cond_false]
  simp
theorem agJ{n:Nat}(hn:100<n){c:ah}(hc:coS c):nE al .al n c=some c:=by
 unfold nE
 rw[Option.bind_some]
 have:=bA (body:=oe al .al n c (aq c.blocks) (fun(vQ,B7)=>some (⟨vQ⟩:ah))) (mk:=fun a i=>(a,(i:Int))) (fun a r i=>some ⟨a++r⟩) (fun a i=>a.length=i) c.blocks (by have:=hc.1;omega) ?_ ?_ n (by have:=hc.1;omega) [] rfl
 ·simpa using this
 ·intro self a i o r ha hd hi e1 e2 e3 ih
  have ho:=hc.2 o (List.mem_of_mem_drop (i:=i) (by rw[hd];simp))
  have hl:=hc.1
  simp only[oe,e2,cond_true,e1,Option.bind_some,anN hn ho]
  rw[bd (by omega) (by omega),Option.bind_some,e3,ih _ (by simp[ha])]
  simp
 ·intro self a ha e
  simp only[oe,e,cond_false]
  simp
def pJ(c:UInt8):Bool:=decide (97≤c.toNat)&&decide (c.toNat≤122)
def bR(s:ByteArray):List UInt8:=s.data.toList
def eP(s:ByteArray):Bool:=(decide (1≤s.size)&&decide (s.size≤8))&&(bR s).all pJ
theorem EJ(s:ByteArray):(bR s).length=s.size:=rfl
theorem Nv(s:ByteArray)(i:Nat):gB s (i:Int)=(bR s)[i]?.map fun c=>(c.toNat:Int):=by
 unfold gB
 rw[if_pos (by omega)]
 have:s[(i:Int).toNat]? =(bR s)[i]? :=by
  simp only[bR,Int.toNat_natCast]
  by_cases h:i<s.size
  ·rw[getElem?_pos s i h,List.getElem?_eq_getElem (by simpa[←ByteArray.size_data]using h)]
   rfl
  ·rw[getElem?_neg s i h,List.getElem?_eq_none (by simpa[←ByteArray.size_data]using h)]
 rw[this]
theorem Uu{s:ByteArray}{i:Nat}{c:UInt8}(h:gI (bR s) (i:Int)=some c):gB s (i:Int)=some (c.toNat:Int):=by
 rw[Nv,←dZ,h];rfl
theorem vp{n:Nat}(hn:100<n)(s:ByteArray):lE al .al n s=some (eP s):=by
 unfold lE As eP
 simp only[Option.bind_some,iF,bK,la,dQ]
 by_cases hs:1≤s.size∧s.size≤8
 ·have h1:(decide ((s.size:Int)<1)||decide ((8:Int)<s.size))=false:=by simp;omega
  rw[h1,cond_false,decide_eq_true hs.1,decide_eq_true hs.2,Bool.true_and,Bool.true_and]
  refine gv (R:=Bool) (fun r i=>some (r.all pJ)) (bR s) (by rw[EJ];omega) ?_ ?_ n (by rw[EJ];omega)
  ·intro self i c r hd hi e1 e2 e3 ih
   have hz:la s=aq (bR s):=rfl
   simp only[nU,hz,Option.bind_some,e2,cond_true,Uu e1,e3,ih,vY (fun _=>rfl)]
   simp only[iF,bK,dQ,List.all_cons]
   by_cases h1:(c.toNat:Int)<97
   ·have:pJ c=false:=by unfold pJ;simp;omega
    simp[h1,this]
   ·by_cases h2:(122:Int)<c.toNat
    ·have:pJ c=false:=by unfold pJ;simp;omega
     have h3:(97:Int)≤c.toNat:=by omega
     simp[h1,h2,h3,this]
    ·have:pJ c=true:=by unfold pJ;simp;omega
     have h3:(97:Int)≤c.toNat:=by omega
     simp[h1,h2,h3,this]
  ·intro self e
   have hz:la s=aq (bR s):=rfl
   simp only[nU,hz,Option.bind_some,e,cond_false]
   rfl
 ·have h1:(decide ((s.size:Int)<1)||decide ((8:Int)<s.size))=true:=by simp;omega
  have h2:(decide (1≤s.size)&&decide (s.size≤8))=false:=by simp;omega
  rw[h1,cond_true,h2,Bool.false_and]
def wT:ByteArray:=⟨#[97,98,99,100,101,102,103,104,105,106,107,108,109,110,111,112,113,114,115,116,117,118,119,120,121,122]⟩
def xc:List Bool:=(List.range 256).map fun i=>decide (97≤i)&&decide (i≤122)
theorem W5(m:Nat):iK al .al (m+30) wT=some (xc,true):=by kernel_rfl
theorem RE{c:UInt8}:gK xc c.toNat=some (pJ c):=by
 have h:=c.toNat_lt
 unfold gK xc pJ
 simp[h]
theorem all_take{l:List UInt8}{q:UInt8→Bool}{k:Nat}(h:l.all q=true):(l.take k).all q=true:=by
 rw[List.all_eq_true]at h ⊢
 exact fun x hx=>h x (List.mem_of_mem_take hx)
theorem ahL(k:ByteArray→Option ByteArray): ∀(m:Nat) (z:ByteArray) (n:Nat),z.size=m→m<n→m≤1000→ ∃t,iter (cE al .al 0 (xc,true) k) n z=k t∧t.size≤m∧((bR z).all pJ=true→t.size=0)∧((bR z).all pJ=false→(bR t).all pJ=false):=by
 intro m
 induction m with
 |zero=>
  intro z n hz hn hm
  obtain⟨n,rfl⟩: ∃j,n=j+1:=⟨n - 1,by omega⟩
  refine⟨z,?_,by omega,fun _=>hz,fun h=>h⟩
  show cE al .al 0 (xc,true) k _ z=k z
  simp[cE,la,hz,iF]
 |succ m ih=>
  intro z n hz hn hm
  obtain⟨n,rfl⟩: ∃j,n=j+1:=⟨n - 1,by omega⟩
  have hlen:(bR z).length=m+1:=hz
  have Uj:(bR z)[m]? =some ((bR z)[m]'(by omega)):=List.getElem?_eq_getElem _
  generalize hc:(bR z)[m]'(by omega)=c at Uj
  have T5:al.wrap .i64 (al.sub ((m+1:Nat):Int) 1)=(m:Int):=by show IntKind.wrap .i64 (((m+1:Nat):Int) - 1)=_;rw[show(((m+1:Nat):Int) - 1)=(m:Int)by omega];exact Dg (by omega)
  have hg:gB z (m:Int)=some (c.toNat:Int):=by rw[Nv,Uj];rfl
  have aU:al.aV 0 ((m+1:Nat):Int)=true:=by rw[iF];exact decide_eq_true (by omega)
  show∃t,cE al .al 0 (xc,true) k (iter (cE al .al 0 (xc,true) k) n) z=k t∧_
  simp only[cE,la,hz,Option.bind_some,aU,cond_true,T5,hg,oU (show c.toNat<256 from c.toNat_lt),RE,dm]
  have Iv:bR z=(bR z).take m++[c]:=by
   rw[←hc,List.take_append_getElem,List.take_of_length_le (by omega)]
  cases hq:pJ c with
  |false=>
   refine⟨z,by simp,by omega,fun h=>?_,fun h=>h⟩
   rw[Iv,List.all_append]at h
   simp[hq]at h
  |true=>
   have afm:EE z 0 (m:Int)=some (z.extract 0 m):=by
    unfold EE
    rw[if_pos ⟨by omega,by omega,by omega⟩];simp
   obtain⟨t,h1,h2,h3,h4⟩:=ih (z.extract 0 m) n (by rw[ByteArray.size_extract];omega) (by omega) (by omega)
   have hb:bR (z.extract 0 m)=(bR z).take m:=by
    unfold bR
    rw[ByteArray.data_extract,Array.toList_extract,List.extract_eq_take_drop]
    simp
   have jE:(bR z).all pJ=(bR (z.extract 0 m)).all pJ:=by
    conv=>lhs;rw[Iv]
    rw[List.all_append,hb];simp[hq]
   refine⟨t,?_,by omega,fun h=>h3 (by rw[←jE];exact h),fun h=>h4 (by rw[←jE];exact h)⟩
   simp only[Bool.not_true,cond_false,afm,Option.bind_some]
   exact h1
theorem ahK(k:ByteArray→Option ByteArray): ∀(m:Nat) (z:ByteArray) (n:Nat),z.size=m→m<n→m≤1000→ ∃t,iter (bV al .al 0 (xc,true) k) n z=k t∧t.size≤m∧((bR z).all pJ=true→t.size=0)∧((bR z).all pJ=false→(bR t).all pJ=false):=by
 intro m
 induction m with
 |zero=>
  intro z n hz hn hm
  obtain⟨n,rfl⟩: ∃j,n=j+1:=⟨n - 1,by omega⟩
  refine⟨z,?_,by omega,fun _=>hz,fun h=>h⟩
  show bV al .al 0 (xc,true) k _ z=k z
  simp[bV,la,hz,iF]
 |succ m ih=>
  intro z n hz hn hm
  obtain⟨n,rfl⟩: ∃j,n=j+1:=⟨n - 1,by omega⟩
  have hlen:(bR z).length=m+1:=hz
  obtain⟨c,r,hcr⟩: ∃c r,bR z=c::r:=by
   cases h:bR z with
   |nil=>rw[h]at hlen;simp at hlen
   |cons c r=>exact⟨c,r,rfl⟩
  have hg:gB z 0=some (c.toNat:Int):=by have:=Nv z 0;rw[hcr]at this;exact this
  have aU:al.aV 0 ((m+1:Nat):Int)=true:=by rw[iF];exact decide_eq_true (by omega)
  show∃t,bV al .al 0 (xc,true) k (iter (bV al .al 0 (xc,true) k) n) z=k t∧_
  simp only[bV,la,hz,Option.bind_some,aU,cond_true,hg,oU (show c.toNat<256 from c.toNat_lt),RE,dm]
  cases hq:pJ c with
  |false=>
   refine⟨z,by simp,by omega,fun h=>?_,fun h=>h⟩
   rw[hcr]at h
   simp[hq]at h
  |true=>
   have afm:EE z 1 ((m+1:Nat):Int)=some (z.extract 1 (m+1)):=by
    unfold EE
    rw[if_pos ⟨by omega,by omega,by omega⟩];rfl
   obtain⟨t,h1,h2,h3,h4⟩:=ih (z.extract 1 (m+1)) n (by rw[ByteArray.size_extract];omega) (by omega) (by omega)
   have hb:bR (z.extract 1 (m+1))=r:=by
    have:bR (z.extract 1 (m+1))=(bR z).extract 1 (m+1):=by
     unfold bR
     rw[ByteArray.data_extract,Array.toList_extract]
    rw[this,hcr,List.extract_eq_take_drop]
    have hr:r.length=m:=by rw[hcr]at hlen;simpa using hlen
    simp[hr]
    rw[←hr];simp
   have jE:(bR z).all pJ=(bR (z.extract 1 (m+1))).all pJ:=by
    rw[hcr,hb];simp[hq]
   refine⟨t,?_,by omega,fun h=>h3 (by rw[←jE];exact h),fun h=>h4 (by rw[←jE];exact h)⟩
   simp only[Bool.not_true,cond_false,afm,Option.bind_some]
   exact h1
theorem PB{s:ByteArray}:s.size=0↔s=⟨#[]⟩:=by
 constructor
 ·intro h
  obtain⟨⟨l⟩⟩:=s
  have:l.length=0:=h
  cases l with
  |nil=>rfl
  |cons a r=>simp at this
 ·rintro rfl;rfl
theorem ZG{n:Nat}(hn:100<n){s:ByteArray}(hs:s.size≤50): ∃t,jv al .al n s wT=some t∧((bR s).all pJ=true↔t=⟨#[]⟩):=by
 obtain⟨m,rfl⟩: ∃m,n=m+30:=⟨n - 30,by omega⟩
 unfold jv
 have hl:al.seq wT ⟨#[]⟩=false:=by kernel_rfl
 have hz:la wT=26:=by kernel_rfl
 rw[hl,hz]
 simp only[bK,sH,Option.bind_some,dp]
 by_cases h0:s=⟨#[]⟩
 ·subst h0
  refine⟨⟨#[]⟩,rfl,?_⟩
  simp[bR]
 ·rw[decide_eq_false h0,cond_false,cond_false]
  have hd:decide ((26:Int)=1)=false:=by decide
  simp only[hd,cond_false]
  obtain⟨t1,a1,a2,a3,a4⟩:=ahL (fun ea=>iter (bV al .al 0 (xc,true) (fun Bf=>some Bf)) (m+30) ea) s.size s (m+30) rfl (by omega) (by omega)
  obtain⟨t2,b1,b2,b3,b4⟩:=ahK (fun Bf=>some Bf) t1.size t1 (m+30) rfl (by omega) (by omega)
  refine⟨t2,?_,?_⟩
  ·simp only[cJ,show((false==true)=false)from rfl,cond_false,Option.bind_some,W5,lW,List.length_replicate,if_true,cond_true]
   have:iter (cE al Md.al (m+30) (xc,true) fun ea=>iter (bV al Md.al (m+30) (xc,true) fun Bf=>some Bf) (m+30) ea) (m+30) s=iter (cE al .al 0 (xc,true) fun ea=>iter (bV al .al 0 (xc,true) (fun Bf=>some Bf)) (m+30) ea) (m+30) s:=rfl
   rw[this,a1]
   exact b1
  ·cases jE:(bR s).all pJ with
   |true=>
    have e1:=a3 jE
    have e2:t2.size=0:=by omega
    exact⟨fun _=>PB.1 e2,fun _=>rfl⟩
   |false=>
    have e2:=b4 (a4 jE)
    refine⟨(fun h=>by cases h),fun h=>?_⟩
    subst h
    simp[bR]at e2
theorem uC{n:Nat}(hn:100<n)(s:ByteArray):nG al .al n s=some (eP s):=by
 unfold nG eP
 simp only[Option.bind_some,iF,Gk,bK,la,mZ,sH]
 have hd:(decide ((0:Int)<s.size)&&decide ((s.size:Int)≤8))=(decide (1≤s.size)&&decide (s.size≤8)):=by
  rw[Bool.eq_iff_iff];simp;omega
 rw[hd]
 cases hg:(decide (1≤s.size)&&decide (s.size≤8))with
 |false=>
  rw[vY (y:=default) (fun h=>by cases h)]
  simp
 |true=>
  have hs:s.size≤50:=by simp at hg;omega
  obtain⟨t,h1,h2⟩:=ZG hn hs
  have:cJ true true (jv al .al n s wT) default=some t:=h1
  show(cJ true true (jv al .al n s wT) default).bind _=_
  rw[this,Option.bind_some]
  congr 1
  rw[Bool.eq_iff_iff]
  simpa using h2.symm
def xA(x:ae):Bool:=decide (1≤x.ops.length)&&decide (x.ops.length≤60)
def tT(x:ae):Bool:=decide (0≤x.kids)&&decide (x.kids≤4)
def jh(x:ae):Bool:=decide (x.head=⟨#[]⟩)
def rW(x:ae):Bool:=jh x||eP x.head
def alone(n:Nat)(x:ae):Bool:=jh x&&(decide (1<n)|| !decide (x.kids=0))
def eqv(x y:ae):Bool:=decide (x.head=y.head)&&decide (x.kids=y.kids)
def dup:List ae→List ae→Bool
 |_,[]=>false
 |p,x::r=>p.any (eqv x)||dup (p++[x]) r
def oS(b:aj):Int:=
 bif decide (b.ag.length<1)||decide (6<b.ag.length)|| !b.ag.all xA then 2
 else bif decide (b.arity<0)||decide (4<b.arity)|| !b.ag.all tT then 3
 else bif !eP b.name|| !b.ag.all rW then 4
 else bif b.ag.any (alone b.ag.length)||(decide (b.arity=0)&& !b.ag.all jh)then 7
 else bif dup [] b.ag then 5 else 0
theorem rA{α:Type}(q:α→Bool)(l:List α):(!l.any fun x=> !q x)=l.all q:=by
 induction l with
 |nil=>rfl
 |cons x r ih=>simp only[List.any_cons,List.all_cons,Bool.not_or,Bool.not_not,ih]
theorem every{o:Option Bool}{q:ae→Bool}{l:List ae}(h:o=some (l.any fun x=> !q x)):(o.bind fun y=>some (al.not y))=some (l.all q):=by
 rw[h,Option.bind_some,dm,rA]
section
variable{n:Nat}(hn:100<n)
 include hn
theorem ev1{l:List ae}(h:l.length≤16):jq al .al n l=some (l.all xA):=
 every (cL (c5 (p:=gF al .al n) (fun x=> !xA x) (fun x _=>by
  show some (!(bif (decide ((0:Int)<x.ops.length))then(decide ((x.ops.length:Int)≤60))else false))=_
  rw[mZ];unfold xA
  rw[show decide ((0:Int)<x.ops.length)=decide (1≤x.ops.length)by rw[decide_eq_decide];omega,show decide ((x.ops.length:Int)≤60)=decide (x.ops.length≤60)by rw[decide_eq_decide];omega]) (by omega) (by omega)))
theorem ev2{l:List ae}(h:l.length≤16):jo al .al n l=some (l.all tT):=
 every (cL (c5 (p:=gE al .al n) (fun x=> !tT x) (fun x _=>by
  show some (!(bif (decide ((0:Int)≤x.kids))then(decide (x.kids≤4))else false))=_
  rw[mZ];rfl) (by omega) (by omega)))
theorem ev3{l:List ae}(h:l.length≤16):jn al .al n l=some (l.all rW):=
 every (cL (c5 (p:=gD al .al n) (fun x=> !rW x) (fun x _=>by
  show(Option.bind (kZ al .al n x) fun y1=>some (al.not y1))=_
  unfold kZ jH
  rw[Option.bind_some,Iy (y:=eP x.head) fun _=>uC hn _]
  simp only[Option.bind_some,dm,bK,sH,rW,jh]
  cases decide (x.head=⟨#[]⟩)<;>rfl) (by omega) (by omega)))
theorem ev4{l:List ae}(h:l.length≤16):jm al .al n l=some (l.all jh):=
 every (cL (c5 (p:=gC al .al n) (fun x=> !jh x) (fun x _=>rfl) (by omega) (by omega)))
theorem ev5{l:List ae}(h:l.length≤16)(b:aj):dD al .al n l b=some (l.any (alone b.ag.length)):=
 cL (c5 (p:=fun x=>kY al .al n x b) (alone b.ag.length) (fun x _=>by
  unfold kY jH alone jh
  simp only[Option.bind_some,dm,bK,sH,iF,dp,aq,dQ,mZ]
  rw[show decide ((1:Int)<b.ag.length)=decide (1<b.ag.length)by rw[decide_eq_decide];omega]) (by omega) (by omega))
theorem ix8{l:List ae}(h:l.length≤16)(x:ae):ej al .al n l x=some (fk (fun y=>eqv y x) l):=
 c5 (p:=fun y=>mR al .al n y x) (fun y=>eqv y x) (fun y _=>by
  show some (bif (decide (y.head=x.head))then(decide (y.kids=x.kids))else false)=_
  rw[mZ];rfl) (by omega) (by omega)
theorem ix9{l:List ae}(h:l.length≤16)(x:ae):ei al .al n l x=some (fk (fun y=>eqv y x) l):=
 c5 (p:=fun y=>mQ al .al n y x) (fun y=>eqv y x) (fun y _=>by
  show some (bif (decide (y.head=x.head))then(decide (y.kids=x.kids))else false)=_
  rw[mZ];rfl) (by omega) (by omega)
end
def zo(x:ae):ByteArray×Int:=(x.head,x.kids)
theorem rJ(x y:ae):eqv x y=true↔zo x=zo y:=by simp[eqv,zo]
def F5(l:List ae)(x:ae):Bool:=(l.drop ((fk (fun y=>eqv y x) l).toNat+1)).any fun y=>eqv y x
theorem O3: ∀(r p:List ae),(p.map zo).Nodup→(dup p r=true↔ ¬((p++r).map zo).Nodup)
 |[],p,hp=>by simp[dup,hp]
 |x::r,p,hp=>by
  simp only[dup,Bool.or_eq_true,List.any_eq_true]
  by_cases hx: ∃y,y∈p∧eqv x y=true
  ·constructor
   ·intro _ X1
    obtain⟨y,hy,he⟩:=hx
    rw[List.map_append,List.nodup_append]at X1
    exact X1.2.2 (zo y) (List.mem_map_of_mem hy) (zo x) (by simp) ((rJ x y).1 he).symm
   ·intro _;exact .inl hx
  ·have Ub:((p++[x]).map zo).Nodup:=by
    rw[List.map_append,List.nodup_append]
    refine⟨hp,by simp,fun a ha b hb KP=>hx ?_⟩
    obtain⟨y,hy,rfl⟩:=List.mem_map.1 ha
    have:b=zo x:=by simpa using hb
    exact⟨y,hy,(rJ x y).2 (this▸KP).symm⟩
   have:=O3 r (p++[x]) Ub
   rw[List.append_assoc]at this
   constructor
   ·rintro(h|h)
    ·exact absurd h hx
    ·exact this.1 h
   ·intro h;exact .inr (this.2 h)
theorem Pw(l:List ae):(l.any (F5 l)=true↔ ¬(l.map zo).Nodup):=by
 constructor
 ·intro h X1
  obtain⟨x,hx,h⟩:=List.any_eq_true.1 h
  unfold F5 at h
  obtain⟨y,hy,he⟩:=List.any_eq_true.1 h
  have hex:l.any (fun y=>eqv y x)=true:=List.any_eq_true.2 ⟨x,hx,by rw[rJ]⟩
  rw[←zq]at hex
  have hex:0≤fk (fun y=>eqv y x) l:=by simpa using hex
  unfold fk at hex hy
  cases hf:l.findIdx? (fun y=>eqv y x)with
  |none=>rw[hf]at hex;simp at hex
  |some i=>
   rw[hf]at hy
   obtain⟨h1,h2,_⟩:=List.findIdx?_eq_some_iff_getElem.1 hf
   have Iv:l=l.take (i+1)++l.drop (i+1):=(List.take_append_drop _ _).symm
   rw[Iv,List.map_append,List.nodup_append]at X1
   simp at hy
   exact X1.2.2 (zo l[i]) (List.mem_map_of_mem (by rw[List.mem_take_iff_getElem];exact⟨i,by omega,rfl⟩)) (zo y) (List.mem_map_of_mem hy) (((rJ _ _).1 h2).trans ((rJ _ _).1 he).symm)
 ·intro h
  rcases Bool.eq_false_or_eq_true (l.any (F5 l))with hc|hc
  ·exact hc
  ·exfalso
   apply h
   rw[List.any_eq_false]at hc
   unfold List.Nodup
   rw[List.pairwise_iff_getElem]
   intro i j hi hj hij he
   simp only[List.length_map]at hi hj
   have he:zo l[i]=zo l[j]:=by simpa using he
   refine hc l[i] (List.getElem_mem _) ?_
   unfold F5
   rw[List.any_eq_true]
   refine⟨l[j],?_,(rJ _ _).2 he.symm⟩
   have hle:(fk (fun y=>eqv y l[i]) l).toNat≤i:=by
    unfold fk
    cases hf:l.findIdx? (fun y=>eqv y l[i])with
    |none=>simp
    |some k=>
     obtain⟨k1,k2,k3⟩:=List.findIdx?_eq_some_iff_getElem.1 hf
     show k≤i
     rcases Nat.lt_or_ge i k with aU|VH
     ·have:=k3 i aU
      exact absurd ((rJ l[i] l[i]).2 rfl) this
     ·exact VH
   rw[List.mem_drop_iff_getElem]
   exact⟨j - ((fk (fun y=>eqv y l[i]) l).toNat+1),by omega,by congr 1;omega⟩
theorem Px(l:List ae):l.any (F5 l)=dup [] l:=by
 rw[Bool.eq_iff_iff,Pw,O3 l [] (by simp)];rfl
section
variable{n:Nat}(hn:100<n)
 include hn
theorem ix7{b:aj}(h:b.ag.length≤16):cD al .al n b.ag b=some (dup [] b.ag):=by
 rw[←Px]
 refine cL (c5 (p:=fun x=>hZ al .al n x b) (F5 b.ag) (fun x hx=>?_) (by omega) (by omega))
 show hZ al .al n x b=_
 unfold hZ
 rw[ix8 hn h,Option.bind_some]
 have h1:=OH (fun y=>eqv y x) b.ag
 have h2:0≤fk (fun y=>eqv y x) b.ag:=by
  have:=zq (fun y=>eqv y x) b.ag
  rw[List.any_eq_true.2 ⟨x,hx,by rw[rJ]⟩]at this
  simpa using this
 have h3:al.wrap .i64 (al.add (fk (fun y=>eqv y x) b.ag) 1)=(((fk (fun y=>eqv y x) b.ag).toNat+1:Nat):Int):=by
  show IntKind.wrap .i64 _=_
  rw[aiu,ga (by omega)]
  omega
 rw[h3,Qu (by omega),Option.bind_some,ix9 hn (by simp;omega),Option.bind_some,Gk,zq]
 rfl
theorem RN{b:aj}(h:b.ag.length≤16):uB al .al n b=some (oS b):=by
 unfold uB oS
 simp only[Option.bind_some,aq]
 rw[Iy (y:=b.ag.all xA) fun _=>ev1 hn h,Option.bind_some]
 rw[Iy (y:=b.ag.all tT) fun _=>ev2 hn h]
 simp only[Option.bind_some,uC hn]
 rw[Iy (y:=b.ag.all rW) fun _=>ev3 hn h]
 simp only[Option.bind_some,ev5 hn h]
 rw[KT (y:=b.ag.all jh) fun _=>ev4 hn h]
 simp only[Option.bind_some]
 have h7:cD al .al n b.ag ⟨b.name,b.arity,b.ag⟩=some (dup [] b.ag):=ix7 hn h
 rw[h7]
 simp only[Option.bind_some,iF,bK,dm,dp,dQ,mZ]
 rw[show decide ((b.ag.length:Int)<1)=decide (b.ag.length<1)by rw[decide_eq_decide];omega,show decide ((6:Int)<b.ag.length)=decide (6<b.ag.length)by rw[decide_eq_decide];omega]
 cases decide (b.ag.length<1)<;>cases decide (6<b.ag.length)<;>cases b.ag.all xA<;>simp
 cases decide (b.arity<0)<;>cases decide (4<b.arity)<;>cases b.ag.all tT<;>simp
 cases eP b.name<;>cases b.ag.all rW<;>simp
 cases b.ag.any (alone b.ag.length)<;>simp
 cases decide (b.arity=0)<;>cases b.ag.all jh<;>cases dup [] b.ag<;>simp
end
end Ab
namespace Ab
open Go
set_option maxRecDepth 10000
theorem rX(n:Nat)(a b c:Int):eg al .al n a b c=some (decide (a<b)||decide (c<a)):=by
 unfold eg
 rw[bK,iF,iF,dQ]
theorem tV{α R:Type}{body:(Int→Option R)→Int→Option R}{k:Int→Option R}(e:R)(q:α→Bool)(l:List α)(hl:l.length≤1000)
  (h1: ∀(self:Int→Option R) (i:Nat) (x:α),x∈l→gI l (i:Int)=some x→al.aV (i:Int) (aq l)=true→al.wrap .i64 (al.add (i:Int) 1)=((i+1:Nat):Int)→body self (i:Int)=bif q x then some e else self ((i+1:Nat):Int))
  (h2: ∀(self:Int→Option R),al.aV (l.length:Int) (aq l)=false→body self (l.length:Int)=k (l.length:Int)){n:Nat}(hn:l.length<n):iter body n 0=bif l.any q then some e else k (l.length:Int):=by
 refine gv (fun r _=>bif r.any q then some e else k (l.length:Int)) l (by omega) ?_ ?_ n hn
 ·intro self i x r hd hi e1 e2 e3 ih
  rw[h1 self i x (List.mem_of_mem_drop (i:=i) (by rw[hd];simp)) e1 e2 e3,ih,List.any_cons]
  cases q x<;>rfl
 ·intro self e
  exact h2 self e
theorem Qr{l:List ae}{i:Nat}{x:ae}{b:aj}(hb:b.ag=l)(hx:gI l (i:Int)=some x)(hi:i<l.length){n:Nat}(hn:100<n)(hl:l.length≤16)(k:Int→Option Int):
  iter (ew al .al n b (i:Int) k) n 0=bif (l.take i).any (eqv x)then some 5 else k ((l.take i).length:Int):=by
 have hlen:aq (l.take i)=(i:Int):=by unfold aq;simp;omega
 refine tV 5 (eqv x) (l.take i) (by simp;omega) ?_ ?_ (by simp;omega)
 ·intro self j y hy e1 e2 e3
  have hj:gI l (j:Int)=some y:=by
   rw[dZ]at e1 ⊢
   rw[List.getElem?_take]at e1
   split at e1
   ·exact e1
   ·cases e1
  rw[hlen]at e2
  simp only[ew,e2,cond_true,hb,hx,hj,Option.bind_some,e3]
  rw[KT (y:=x) fun _=>rfl,Option.bind_some,KT (y:=y) fun _=>rfl,Option.bind_some]
  simp only[bK,sH,dp,eqv]
  cases decide (x.head=y.head)<;>simp
 ·intro self e
  rw[hlen]at e
  simp only[ew,e,cond_false]
section
variable{n:Nat}(hn:100<n)
 include hn
theorem FJ{b:aj}(hb:b.ag.length≤16):jy al .al n b=some (oS b):=by
 unfold jy
 simp only[Option.bind_some,rX,aq]
 rw[show decide ((b.ag.length:Int)<1)=decide (b.ag.length<1)by rw[decide_eq_decide];omega,show decide ((6:Int)<b.ag.length)=decide (6<b.ag.length)by rw[decide_eq_decide];omega]
 cases h0:(decide (b.ag.length<1)||decide (6<b.ag.length))with
 |true=>unfold oS;rw[h0];simp
 |false=>
 rw[cond_false]
 have w1: ∀k:Int→Option Int,iter (eC al .al n b k) n 0=bif b.ag.any (fun x=> !xA x)then some 2 else k (b.ag.length:Int):=by
  intro k
  refine tV (R:=Int) 2 (fun x=> !xA x) b.ag (by omega) ?a1 ?a2 (by omega)
  case a1=>
   intro self i x hx e1 e2 e3
   simp only[eC,Option.bind_some,e2,cond_true,e1,e3,rX]
   congr 1
   unfold xA aq
   rw[show decide ((x.ops.length:Int)<1)= !decide (1≤x.ops.length)by rw[←decide_not,decide_eq_decide];omega,show decide ((60:Int)<x.ops.length)= !decide (x.ops.length≤60)by rw[←decide_not,decide_eq_decide];omega,Bool.not_and]
  case a2=>intro self e;simp only[eC,Option.bind_some,e,cond_false]
 have w2: ∀k:Int→Option Int,iter (eB al .al n b k) n 0=bif b.ag.any (fun x=> !tT x)then some 3 else k (b.ag.length:Int):=by
  intro k
  refine tV (R:=Int) 3 (fun x=> !tT x) b.ag (by omega) ?b1 ?b2 (by omega)
  case b1=>
   intro self i x hx e1 e2 e3
   simp only[eB,Option.bind_some,e2,cond_true,e1,e3,rX]
   congr 1
   unfold tT
   rw[show decide (x.kids<0)= !decide (0≤x.kids)by rw[←decide_not,decide_eq_decide];omega,show decide ((4:Int)<x.kids)= !decide (x.kids≤4)by rw[←decide_not,decide_eq_decide];omega,Bool.not_and]
  case b2=>intro self e;simp only[eB,Option.bind_some,e,cond_false]
 have w3: ∀k:Int→Option Int,iter (ez al .al n b k) n 0=bif b.ag.any (fun x=> !rW x)then some 4 else k (b.ag.length:Int):=by
  intro k
  refine tV (R:=Int) 4 (fun x=> !rW x) b.ag (by omega) ?c1 ?c2 (by omega)
  case c1=>
   intro self i x hx e1 e2 e3
   simp only[ez,Option.bind_some,e2,cond_true,e1,e3]
   rw[KT (y:=x) fun _=>rfl,Option.bind_some,KT (y:=eP x.head) fun h=>by rw[h,cond_true];exact vp hn _]
   simp only[Option.bind_some,bK,dm,sH,rW,jh]
   cases decide (x.head=⟨#[]⟩)<;>simp
  case c2=>intro self e;simp only[ez,Option.bind_some,e,cond_false]
 have w4: ∀k:Int→Option Int,iter (ey al .al n b k) n 0=bif b.ag.any (fun x=>alone b.ag.length x||(!jh x&&decide (b.arity=0)))then some 7 else k (b.ag.length:Int):=by
  intro k
  refine tV (R:=Int) 7 (fun x=>alone b.ag.length x||(!jh x&&decide (b.arity=0))) b.ag (by omega) ?d1 ?d2 (by omega)
  case d1=>
   intro self i x hx e1 e2 e3
   simp only[ey,Option.bind_some,e2,cond_true,e1,e3]
   congr 1
   simp only[bK,dm,sH,dp,iF,alone,jh,aq,dQ,mZ]
   rw[show decide ((1:Int)<b.ag.length)=decide (1<b.ag.length)by rw[decide_eq_decide];omega]
  case d2=>intro self e;simp only[ey,Option.bind_some,e,cond_false]
 have h5: ∀k:Int→Option Int,iter (dt al .al n b k) n 0=bif dup [] b.ag then some 5 else k (b.ag.length:Int):=by
  intro k
  have:=bA (A:={u:Unit // True}) (body:=dt al .al n b k) (mk:=fun _ i=>(i:Int)) (fun _ r i=>bif dup (b.ag.take i) r then some 5 else k (b.ag.length:Int)) (fun _ _=>True) b.ag (by omega) ?_ ?_ n (by omega) ⟨(),trivial⟩ trivial
  ·simpa using this
  ·intro self a i x r _ hd hi e1 e2 e3 ih
   have ih:=ih ⟨(),trivial⟩ trivial
   simp only[dt,Option.bind_some,e2,cond_true]
   rw[Qr rfl e1 hi hn hb,e3,ih]
   have ht:b.ag.take (i+1)=b.ag.take i++[x]:=by
    have hx:b.ag[i]? =some x:=by rwa [dZ]at e1
    rw[List.take_add_one,hx];rfl
   rw[ht]
   simp only[dup]
   cases(b.ag.take i).any (eqv x)<;>rfl
  ·intro self a _ e
   simp only[dt,Option.bind_some,e,cond_false,dup]
 simp only[w1,w2,w3,w4,h5,rX,vp hn,Option.bind_some,dm]
 unfold oS
 have I4: ∀q:ae→Bool,(b.ag.any fun x=> !q x)= !b.ag.all q:=fun q=>by rw[←rA,Bool.not_not]
 rw[h0,I4,I4,I4]
 have hd:(b.ag.any fun x=>alone b.ag.length x||(!jh x&&decide (b.arity=0)))=(b.ag.any (alone b.ag.length)||(decide (b.arity=0)&& !b.ag.all jh)):=by
  rw[←I4]
  generalize alone b.ag.length=q
  induction b.ag with
  |nil=>simp
  |cons x r ih=>
   simp only[List.any_cons]
   rw[ih]
   cases q x<;>cases jh x<;>cases decide (b.arity=0)<;>cases r.any q<;>simp
 rw[hd]
 cases b.ag.all xA<;>simp
 cases decide (b.arity<0)<;>cases decide (4<b.arity)<;>cases b.ag.all tT<;>simp
 cases eP b.name<;>cases b.ag.all rW<;>simp
 cases b.ag.any (alone b.ag.length)<;>simp
 cases decide (b.arity=0)<;>cases b.ag.all jh<;>cases dup [] b.ag<;>simp
end
end Ab
namespace Ab
open Go
set_option maxRecDepth 10000
def looks(o:aL):Bool:=decide (o.kind=1)||decide (o.kind=2)
def cj(o:aL):Bool:=decide (o.kind=4)||decide (o.kind=5)
def RC(out:List Bool)(o:aL):Bool:=decide (o.kind=5)||(decide (o.kind=3)&&o.args.any fun a=>out.getD a.toNat false)
def F9(out:List Bool)(ops:List aL):List Bool:=ops.foldl (fun out o=>out++[RC out o]) out
def p7(ops:List aL):List Bool:=F9 [] ops
theorem F8: ∀(ops:List aL) (out:List Bool),(F9 out ops).length=out.length+ops.length
 |[],out=>rfl
 |o::r,out=>by
  have:=F8 r (out++[RC out o])
  simp only[F9,List.foldl_cons]at this ⊢
  rw[this];simp;omega
theorem F7(ops:List aL):(p7 ops).length=ops.length:=by unfold p7;rw[F8];simp
def Jq(ops:List aL):Prop:= ∀(j:Nat) (o:aL),ops[j]? =some o→o.kind=3→ ∀a∈o.args,0≤a∧a<j
theorem CX{l:List Bool}{a:Int}(h:0≤a∧a<l.length):gI l a=some (l.getD a.toNat false):=by
 rw[OT h.1 (by omega)]
 simp[List.getD,show a.toNat<l.length by omega]
theorem AA{ops:List aL}{i:Nat}{o:aL}(h:gI ops (i:Int)=some o):ops[i]? =some o:=by rwa [dZ]at h
section
variable{n:Nat}(hn:100<n)
 include hn
theorem W0{l:List Bool}{args:List Int}(ha:args.length≤50)(h: ∀a∈args,0≤a∧a<l.length):ep al .al n args l=some (args.any fun a=>l.getD a.toNat false):=
 cL (c5 (p:=fun a=>mP al .al n a l) (fun a=>l.getD a.toNat false) (fun a hx=>by
  unfold mP
  rw[CX (h a hx)];rfl) (by omega) (by omega))
theorem RD{l:List Bool}{args:List Int}(ha:args.length≤50)(h: ∀a∈args,0≤a∧a<l.length):eo al .al n args l=some (args.any fun a=>l.getD a.toNat false):=
 cL (c5 (p:=fun a=>pL al .al n a l) (fun a=>l.getD a.toNat false) (fun a hx=>by
  unfold pL
  rw[CX (h a hx)];rfl) (by omega) (by omega))
theorem WZ{ops:List aL}(hs:ops.length≤70)(ha: ∀o∈ops,o.args.length≤50)(ht:Jq ops):wZ al .al n ops=some (p7 ops):=by
 unfold wZ
 rw[Option.bind_some]
 have:=bA (body:=oI al .al n ops (aq ops) (fun(l7,z8)=>some l7)) (mk:=fun a i=>(a,(i:Int))) (fun a r i=>some (F9 a r)) (fun a i=>a.length=i) ops (by omega) ?_ ?_ n (by omega) [] rfl
 ·simpa[p7]using this
 ·intro self a i o r hl hd hi e1 e2 e3 ih
  have hm:o∈ops:=List.mem_of_mem_drop (i:=i) (by rw[hd];simp)
  simp only[oI,e2,cond_true,e1,Option.bind_some]
  rw[Iy (y:=bif al.aJ o.kind 3 then o.args.any (fun x=>a.getD x.toNat false)else default) fun _=>KT fun h3=>W0 hn (ha o hm) fun x hx=>by
   have:=ht i o (AA e1) (by simpa[dp]using h3) x hx
   omega]
  rw[Option.bind_some,bd (by omega) (by omega),Option.bind_some,e3,ih _ (by simp[hl])]
  simp only[F9,List.foldl_cons,bK,dp]
  congr 4
  unfold RC
  cases decide (o.kind=5)<;>cases decide (o.kind=3)<;>rfl
 ·intro self a ha e
  simp only[oI,e,cond_false]
  rfl
theorem Mc{ops:List aL}{l:List Bool}{i:Nat}{o:aL}(ho:gI ops (i:Int)=some o)(ha:o.args.length≤50)(h:o.kind=3→ ∀a∈o.args,0≤a∧a<l.length)(k:Bool×Int→Option (List Bool))(z:Bool):
  iter (jA al .al n ops l (i:Int) k) n (z,0)=k ((z||(decide (o.kind=3)&&o.args.any fun a=>l.getD a.toNat false)),(o.args.length:Int)):=by
 refine bA (body:=jA al .al n ops l (i:Int) k) (mk:=fun a i=>(a,(i:Int))) (fun z r _=>k ((z||(decide (o.kind=3)&&r.any fun a=>l.getD a.toNat false)),(o.args.length:Int))) (fun _ _=>True) o.args (by omega) ?_ ?_ n (by omega) z trivial
 ·intro self z j a r _ hd hj e1 e2 e3 ih
  have hm:a∈o.args:=List.mem_of_mem_drop (i:=j) (by rw[hd];simp)
  simp only[jA,ho,Option.bind_some,e2,cond_true]
  rw[Iy (y:=o) fun _=>rfl,Option.bind_some]
  cases z with
  |true=>
   simp only[cJ,cond_true,cond_false,beq_self_eq_true,show(true==false)=false from rfl,Option.bind_some,e3,bK,ih _ trivial,Bool.true_or]
  |false=>
   simp only[cond_false]
   rw[Iy (y:=bif al.aJ o.kind 3 then o else default) fun _=>KT fun _=>rfl,Option.bind_some]
   cases h3:decide (o.kind=3)with
   |false=>
    have h3':al.aJ o.kind 3=false:=h3
    simp only[cJ,h3',cond_true,cond_false,beq_self_eq_true,show(false==true)=false from rfl,Option.bind_some,e3,bK,ih _ trivial,Bool.false_or,h3,Bool.false_and]
   |true=>
    have h3':al.aJ o.kind 3=true:=h3
    simp only[cJ,h3',cond_true,cond_false,beq_self_eq_true,Option.bind_some,e1,CX (h (by simpa using h3) a hm),e3,bK,ih _ trivial,Bool.false_or,h3,Bool.true_and,List.any_cons]
 ·intro self z _ e
  simp only[jA,ho,Option.bind_some,e,cond_false,List.any_nil,Bool.and_false,Bool.or_false]
theorem Mb{ops:List aL}(hs:ops.length≤70)(ha: ∀o∈ops,o.args.length≤50)(ht:Jq ops):tL al .al n ops=some (p7 ops):=by
 unfold tL
 have:=bA (body:=ml al .al n ops (fun(l7,z8)=>some l7)) (mk:=fun a i=>(a,(i:Int))) (fun a r i=>some (F9 a r)) (fun a i=>a.length=i) ops (by omega) ?_ ?_ n (by omega) [] rfl
 ·simpa[p7]using this
 ·intro self a i o r hl hd hi e1 e2 e3 ih
  have hm:o∈ops:=List.mem_of_mem_drop (i:=i) (by rw[hd];simp)
  simp only[ml,Option.bind_some,e2,cond_true,e1]
  rw[Mc hn e1 (ha o hm) fun h3 x hx=>by have:=ht i o (AA e1) h3 x hx;omega]
  dsimp only
  rw[bd (by omega) (by omega),Option.bind_some,e3,ih _ (by simp[hl])]
  rfl
 ·intro self a ha e
  simp only[ml,Option.bind_some,e,cond_false]
  rfl
end
def find(c:ah)(s:ByteArray):Int:=fk (fun b=>decide (b.name=s)) c.blocks
def Kj(b:aj)(x:ae)(o:aL):Int:=bif decide (o.kind=1)then IntKind.wrap .i64 (b.arity - 1)else bif decide (o.kind=2)then IntKind.wrap .i64 (x.kids - 1)else 0
def before(i:Nat)(a:Int):Bool:=decide (0≤a)&&decide (a<i)
def zW(c:ah)(z:Int):Int:=((c.blocks[z.toNat]?).map (·.arity)).getD 0
def I1(c:ah)(b:aj)(x:ae)(i:Nat)(o:aL):Int:=
 bif decide (o.kind<1)||decide (5<o.kind)then 3
 else bif (looks o&& !decide (o.name=⟨#[]⟩))||(!looks o&& !eP o.name)then 4
 else bif decide (o.num<0)||decide (Kj b x o<o.num)then 1
 else bif (looks o&&decide (0<o.args.length))||(decide (o.kind=3)&&decide (4<o.args.length))then 2
 else bif !o.args.all (before i)||(cj o&&decide (find c o.name<0))then 1
 else bif !cj o then 0
 else bif !decide ((o.args.length:Int)=zW c (find c o.name))||o.args.any (fun a=>(p7 (x.ops.take i)).getD a.toNat false)then 7 else 0
section
variable{n:Nat}(hn:100<n)
 include hn
theorem Ld{c:ah}(hc:c.blocks.length≤50)(s:ByteArray):cK al .al n s c=some (find c s):=by
 have:eL al .al n c.blocks s=some (find c s):=
  c5 (p:=fun b=>mS al .al n b s) (fun b=>decide (b.name=s)) (fun b _=>rfl) (by omega) (by omega)
 unfold cK
 rw[this];rfl
theorem K0{l:List Int}(hl:l.length≤50)(i:Nat):iG al .al n l (i:Int)=some (l.all (before i)):=by
 have:er al .al n l (i:Int)=some (l.any fun a=> !before i a):=
  cL (c5 (p:=fun a=>kg al .al n a (i:Int)) (fun a=> !before i a) (fun a _=>by
   show some (!(bif decide ((0:Int)≤a)then decide (a<(i:Int))else false))=_
   rw[mZ];rfl) (by omega) (by omega))
 unfold iG
 rw[this,Option.bind_some,dm,rA]
theorem OV(c:ah)(s:ByteArray):find c s<c.blocks.length:=have _:=hn;OH _ _
theorem aiA{c:ah}{b:aj}{x:ae}{i:Nat}{o:aL}(hc:c.blocks.length≤50)(hs:x.ops.length≤70)(ha: ∀o∈x.ops,o.args.length≤50)(ho:gI x.ops (i:Int)=some o)(ht:Jq (x.ops.take i)):zT al .al n c b x (i:Int)=some (I1 c b x i o):=by
 have hi:i<x.ops.length:=(List.getElem?_eq_some_iff.1 (AA ho)).1
 have hm:o∈x.ops:=List.mem_of_getElem? (AA ho)
 unfold zT I1
 rw[ho,Option.bind_some]
 have m1:Gp ([]:List (Int×Int)) 1 (al.wrap .i64 (al.sub b.arity 1))=some [(1,IntKind.wrap .i64 (b.arity - 1))]:=rfl
 have m2:Gp [((1:Int),IntKind.wrap .i64 (b.arity - 1))] 2 (al.wrap .i64 (al.sub x.kids 1))=some [(1,IntKind.wrap .i64 (b.arity - 1)),(2,IntKind.wrap .i64 (x.kids - 1))]:=rfl
 have m3:jS [((1:Int),IntKind.wrap .i64 (b.arity - 1)),(2,IntKind.wrap .i64 (x.kids - 1))] o.kind 0=Kj b x o:=by
  unfold jS Kj
  simp only[List.find?_cons,List.find?_nil]
  by_cases h1:o.kind=1
  ·simp[h1]
  ·have Q0: ¬(1:Int)=o.kind:=fun h=>h1 h.symm
   by_cases h2:o.kind=2
   ·simp[h2]
   ·have Qn: ¬(2:Int)=o.kind:=fun h=>h2 h.symm
    simp[h1,h2,Q0,Qn]
 rw[m1,Option.bind_some,m2,Option.bind_some,m3,Option.bind_some]
 have e8:(bif al.aJ o.kind 1 then true else al.aJ o.kind 2)=looks o:=by rw[dQ];rfl
 have iH:(bif al.aJ o.kind 4 then true else al.aJ o.kind 5)=cj o:=by rw[dQ];rfl
 simp only[bK,e8,iH,dm]
 rw[Iy (y:=bif !looks o then eP o.name else default) fun _=>KT fun _=>uC hn _]
 simp only[Option.bind_some,iF,dm,sH,dQ,mZ,aq,dp,K0 hn (ha o hm)]
 have hf:=OV hn c o.name
 have VH: -1≤find c o.name:=Iu _ _
 have zy:cK al .al n o.name ⟨c.blocks⟩=some (find c o.name):=Ld hn hc _
 rw[Iy (y:=bif cj o then find c o.name else default) fun _=>KT fun _=>zy,Option.bind_some]
 simp only[GJ (show i≤x.ops.length by omega),Option.bind_some,WZ hn (show(x.ops.take i).length≤70 by simp;omega) (fun o' h'=>ha o' (List.mem_of_mem_take h')) ht,zy]
 rw[show decide ((0:Int)<o.args.length)=decide (0<o.args.length)by rw[decide_eq_decide];omega,show decide ((4:Int)<o.args.length)=decide (4<o.args.length)by rw[decide_eq_decide];omega]
 cases hk:(decide (o.kind<1)||decide (5<o.kind))<;>simp only[cond_true,cond_false]
 have e4:((looks o&& !decide (o.name=⟨#[]⟩))||(!looks o&& !(bif looks o&& !decide (o.name=⟨#[]⟩)then default else bif !looks o then eP o.name else default)))=((looks o&& !decide (o.name=⟨#[]⟩))||(!looks o&& !eP o.name)):=by
  cases looks o<;>cases decide (o.name=⟨#[]⟩)<;>cases eP o.name<;>rfl
 rw[e4]
 cases((looks o&& !decide (o.name=⟨#[]⟩))||(!looks o&& !eP o.name))<;>simp only[cond_true,cond_false]
 cases(decide (o.num<0)||decide (Kj b x o<o.num))<;>simp only[cond_true,cond_false]
 cases((looks o&&decide (0<o.args.length))||(decide (o.kind=3)&&decide (4<o.args.length)))<;>simp only[cond_true,cond_false]
 cases jE:o.args.all (before i)with
 |false=>simp
 |true=>
  simp only[Bool.not_true,Bool.false_or,cond_false]
  cases OQ:cj o with
  |false=>simp
  |true=>
   simp only[cond_true,Bool.true_and,Bool.not_true,cond_false]
   by_cases fB:find c o.name<0
   ·simp[fB]
   ·rw[decide_eq_false fB]
    simp only[cond_false]
    rw[OT (by omega) (by omega),Option.bind_some]
    have Fz:zW c (find c o.name)=(c.blocks[(find c o.name).toNat]'(by omega)).arity:=by
     unfold zW
     rw[List.getElem?_eq_getElem (by omega)];rfl
    rw[Fz]
    rw[Iy (y:=o.args.any fun a=>(p7 (x.ops.take i)).getD a.toNat false) fun _=>RD hn (ha o hm) fun a hx=>by
     have:=List.all_eq_true.1 jE a hx
     simp only[before,Bool.and_eq_true,decide_eq_true_eq]at this
     rw[F7];simp;omega]
    rw[Option.bind_some]
    generalize (o.args.any fun a=>(p7 (x.ops.take i)).getD a.toNat false)=q
    cases decide ((o.args.length:Int)=(c.blocks[(find c o.name).toNat]'(by omega)).arity)<;>cases q<;>rfl
end
end Ab
namespace Ab
open Go
set_option maxRecDepth 10000
section
variable{n:Nat}(hn:100<n)
 include hn
theorem DA{c:ah}(hc:c.blocks.length≤50)(s:ByteArray):nB al .al n c s=some (find c s):=by
 have:iter (D8 (fun b:aj=>some (decide (b.name=s))) c.blocks) n 0=some (find c s):=c5 (fun b:aj=>decide (b.name=s)) (fun b _=>rfl) (by omega) (by omega)
 exact this
theorem Nz{c:ah}{b:aj}{x:ae}{i:Nat}{o:aL}(hc:c.blocks.length≤50)(hs:x.ops.length≤70)(ha: ∀o∈x.ops,o.args.length≤50)(ho:gI x.ops (i:Int)=some o)(ht:Jq (x.ops.take i)):kB al .al n c b x (i:Int)=some (I1 c b x i o):=by
 have hi:i<x.ops.length:=(List.getElem?_eq_some_iff.1 (AA ho)).1
 have hm:o∈x.ops:=List.mem_of_getElem? (AA ho)
 have hl:=ha o hm
 unfold kB
 have w1: ∀k:Int→Option Int,iter (gY al .al n (i:Int) o k) n 0=bif o.args.any (fun a=> !before i a)then some 1 else k (o.args.length:Int):=by
  intro k
  refine tV (R:=Int) 1 (fun a=> !before i a) o.args (by omega) ?_ ?_ (by omega)
  ·intro self j a hx e1 e2 e3
   simp only[gY,Option.bind_some,e2,cond_true,e1,e3,rX]
   congr 1
   have:al.wrap .i64 (al.sub (i:Int) 1)=(i:Int) - 1:=by show IntKind.wrap .i64 _=_;rw[Z8,ga (by omega)]
   rw[this]
   unfold before
   rw[show decide (a<0)= !decide (0≤a)by rw[←decide_not,decide_eq_decide];omega,show decide ((i:Int) - 1<a)= !decide (a<i)by rw[←decide_not,decide_eq_decide];omega,Bool.not_and]
  ·intro self e
   simp only[gY,Option.bind_some,e,cond_false]
 have aU:(p7 (x.ops.take i)).length=i:=by rw[F7];simp;omega
 have w2:o.args.all (before i)=true→ ∀k:Int→Option Int,iter (gX al .al n o (p7 (x.ops.take i)) k) n 0=bif o.args.any (fun a=>(p7 (x.ops.take i)).getD a.toNat false)then some 7 else k (o.args.length:Int):=by
  intro jE k
  refine tV (R:=Int) (α:=Int) 7 (fun a=>(p7 (x.ops.take i)).getD a.toNat false) o.args (by omega) ?_ ?_ (show o.args.length<n by omega)
  ·intro self j a hx e1 e2 e3
   have hb:0≤a∧a<(p7 (x.ops.take i)).length:=by
    have:=List.all_eq_true.1 jE a hx
    simp only[before,Bool.and_eq_true,decide_eq_true_eq]at this
    omega
   simp only[gX,Option.bind_some,e2,cond_true,e1,e3,CX hb]
  ·intro self e
   simp only[gX,Option.bind_some,e,cond_false]
 have hf:=OV hn c o.name
 have VH: -1≤find c o.name:=Iu _ _
 have ajW:nB al .al n ⟨c.blocks⟩ o.name=some (find c o.name):=DA hn hc _
 rw[ho,Option.bind_some,rX,Option.bind_some]
 unfold I1
 cases hk:(decide (o.kind<1)||decide (5<o.kind))with
 |true=>rfl
 |false=>
 have jt:1≤o.kind∧o.kind≤5:=by simp at hk;omega
 simp only[cond_false]
 rw[Iy (y:=bif al.aV 2 o.kind then eP o.name else default) fun _=>KT fun _=>vp hn _,Option.bind_some]
 have e8:looks o=decide (o.kind≤2):=by unfold looks;rw[←Bool.decide_or,decide_eq_decide];omega
 have iH:cj o=decide (3<o.kind):=by unfold cj;rw[←Bool.decide_or,decide_eq_decide];omega
 have h2:decide ((2:Int)<o.kind)= !looks o:=by rw[e8,←decide_not,decide_eq_decide];omega
 simp only[bK,dm,sH,Gk,iF,dQ,mZ,h2,←e8]
 have e4:((looks o&& !decide (o.name=⟨#[]⟩))||(!looks o&& !(bif looks o&& !decide (o.name=⟨#[]⟩)then default else bif !looks o then eP o.name else default)))=((looks o&& !decide (o.name=⟨#[]⟩))||(!looks o&& !eP o.name)):=by
  cases looks o<;>cases decide (o.name=⟨#[]⟩)<;>cases eP o.name<;>rfl
 rw[e4]
 cases((looks o&& !decide (o.name=⟨#[]⟩))||(!looks o&& !eP o.name))<;>simp only[cond_true,cond_false]
 have hw1:al.wrap .i64 (al.sub b.arity 1)=IntKind.wrap .i64 (b.arity - 1):=rfl
 have hw2:al.wrap .i64 (al.sub x.kids 1)=IntKind.wrap .i64 (x.kids - 1):=rfl
 rw[hw1,hw2,KT (y:=decide (o.num<0)||decide (IntKind.wrap .i64 (b.arity - 1)<o.num)) fun _=>rX _ _ _ _,Option.bind_some]
 rw[Iy (y:=bif al.aJ o.kind 2 then decide (o.num<0)||decide (IntKind.wrap .i64 (x.kids - 1)<o.num)else default) fun _=>KT fun _=>rX _ _ _ _,Option.bind_some]
 have e5:((al.aJ o.kind 1&&bif al.aJ o.kind 1 then decide (o.num<0)||decide (IntKind.wrap .i64 (b.arity - 1)<o.num)else default)||(al.aJ o.kind 2&&bif (al.aJ o.kind 1&&bif al.aJ o.kind 1 then decide (o.num<0)||decide (IntKind.wrap .i64 (b.arity - 1)<o.num)else default)then default else bif al.aJ o.kind 2 then decide (o.num<0)||decide (IntKind.wrap .i64 (x.kids - 1)<o.num)else default)||(!looks o&& !al.aJ o.num 0))=(decide (o.num<0)||decide (Kj b x o<o.num)):=by
  simp only[dp,Kj,looks]
  by_cases k1:o.kind=1
  ·simp[k1]
  ·by_cases k2:o.kind=2
   ·simp[k2]
   ·simp[k1,k2]
    rw[Bool.eq_iff_iff];simp;omega
 rw[e5]
 cases(decide (o.num<0)||decide (Kj b x o<o.num))<;>simp only[cond_true,cond_false]
 simp only[Option.bind_some,aq,dp]
 rw[show decide ((0:Int)<o.args.length)=decide (0<o.args.length)by rw[decide_eq_decide];omega,show decide ((4:Int)<o.args.length)=decide (4<o.args.length)by rw[decide_eq_decide];omega]
 cases((looks o&&decide (0<o.args.length))||(decide (o.kind=3)&&decide (4<o.args.length)))<;>simp only[cond_true,cond_false]
 have apF:(o.args.any fun a=> !before i a)= !o.args.all (before i):=by rw[←rA,Bool.not_not]
 rw[w1,apF]
 cases jE:o.args.all (before i)with
 |false=>simp
 |true=>
  simp only[Bool.not_true,Bool.false_or,cond_false]
  have h3:decide (o.kind≤3)= !cj o:=by rw[iH,←decide_not,decide_eq_decide];omega
  rw[h3,ajW]
  cases OQ:cj o with
  |false=>simp
  |true=>
   simp only[Bool.not_true,cond_false,Option.bind_some,Bool.true_and]
   by_cases fB:find c o.name<0
   ·simp[fB]
   ·rw[decide_eq_false fB]
    simp only[cond_false]
    rw[OT (by omega) (by omega),Option.bind_some]
    have Fz:zW c (find c o.name)=(c.blocks[(find c o.name).toNat]'(by omega)).arity:=by
     unfold zW
     rw[List.getElem?_eq_getElem (by omega)];rfl
    rw[Fz,GJ (by omega),Option.bind_some,Mb hn (show(x.ops.take i).length≤70 by simp;omega) (fun o' h'=>ha o' (List.mem_of_mem_take h')) ht,Option.bind_some,w2 jE]
    generalize (o.args.any fun a=>(p7 (x.ops.take i)).getD a.toNat false)=q
    cases decide ((o.args.length:Int)=(c.blocks[(find c o.name).toNat]'(by omega)).arity)<;>cases q<;>rfl
end
def jf(c:ah)(b:aj)(x:ae):Nat→List aL→Option Int
 |_,[]=>none
 |i,o::r=>bif decide (I1 c b x i o=0)then jf c b x (i+1) r else some (I1 c b x i o)
def xR(x:ae):Bool:=decide (x.result<0)||decide ((x.ops.length:Int)≤x.result)
def nt(c:ah)(b:aj)(x:ae):Option Int:=(jf c b x 0 x.ops).or (bif xR x then some 1 else none)
def fI(b:aj):Option Int:=bif decide (oS b=0)then none else some (oS b)
def qo(c:ah):Nat→List aj→Bool
 |_,[]=>false
 |i,b::r=>decide (find c b.name<i)||qo c (i+1) r
def dr(c:ah):Int:=
 bif decide (c.blocks.length<1)||decide (12<c.blocks.length)then 2 else
 ((c.blocks.findSome? fI).or (bif qo c 0 c.blocks then some 5 else c.blocks.findSome? (fun b=>b.ag.findSome? (nt c b)))).getD 0
theorem wR{α R:Type}{body:(Int→Option R)→Int→Option R}{k:Int→Option R}(f:α→Option R)(l:List α)(hl:l.length≤1000)
  (h1: ∀(self:Int→Option R) (i:Nat) (x:α),x∈l→gI l (i:Int)=some x→al.aV (i:Int) (aq l)=true→al.wrap .i64 (al.add (i:Int) 1)=((i+1:Nat):Int)→body self (i:Int)=(f x).or (self ((i+1:Nat):Int)))
  (h2: ∀(self:Int→Option R),al.aV (l.length:Int) (aq l)=false→body self (l.length:Int)=k (l.length:Int)){n:Nat}(hn:l.length<n):iter body n 0=(l.findSome? f).or (k (l.length:Int)):=by
 refine gv (fun r _=>(r.findSome? f).or (k (l.length:Int))) l (by omega) ?_ ?_ n hn
 ·intro self i x r hd hi e1 e2 e3 ih
  rw[h1 self i x (List.mem_of_mem_drop (i:=i) (by rw[hd];simp)) e1 e2 e3,ih,List.findSome?_cons]
  cases f x<;>rfl
 ·intro self e
  exact h2 self e
def CT(c:ah)(b:aj)(x:ae)(i:Nat):Prop:= ∀(j:Nat) (o:aL),j<i→x.ops[j]? =some o→I1 c b x j o=0
theorem JB{c:ah}{b:aj}{x:ae}{i:Nat}{o:aL}(h:I1 c b x i o=0): ∀a∈o.args,0≤a∧a<i:=by
 have:o.args.all (before i)=true:=by
  rcases Bool.eq_false_or_eq_true (o.args.all (before i))with hc|hc
  ·exact hc
  ·exfalso
   unfold I1 at h
   rw[hc]at h
   revert h
   cases(decide (o.kind<1)||decide (5<o.kind))<;>simp
   cases((looks o&& !decide (o.name=⟨#[]⟩))||(!looks o&& !eP o.name))<;>simp
   cases(decide (o.num<0)||decide (Kj b x o<o.num))<;>simp
   cases((looks o&&decide (0<o.args.length))||(decide (o.kind=3)&&decide (4<o.args.length)))<;>simp
 intro a ha
 have:=List.all_eq_true.1 this a ha
 simpa[before]using this
theorem BD{c:ah}{b:aj}{x:ae}{i:Nat}(h:CT c b x i):Jq (x.ops.take i):=fun j o ho _ a ha=>by
 rw[List.getElem?_take]at ho
 split at ho
 ·exact JB (h j o (by omega) ho) a ha
 ·cases ho
theorem Ox{body:(Int→Option Int)→Int→Option Int}{k:Int→Option Int}(c:ah)(b:aj)(x:ae)(hl:x.ops.length≤1000)
  (h1: ∀(self:Int→Option Int) (i:Nat) (o:aL),CT c b x i→gI x.ops (i:Int)=some o→al.aV (i:Int) (aq x.ops)=true→al.wrap .i64 (al.add (i:Int) 1)=((i+1:Nat):Int)→body self (i:Int)=bif !decide (I1 c b x i o=0)then some (I1 c b x i o)else self ((i+1:Nat):Int))
  (h2: ∀(self:Int→Option Int),al.aV (x.ops.length:Int) (aq x.ops)=false→body self (x.ops.length:Int)=k (x.ops.length:Int)){n:Nat}(hn:x.ops.length<n):iter body n 0=(jf c b x 0 x.ops).or (k (x.ops.length:Int)):=by
 have key: ∀(r:List aL) (i n:Nat),CT c b x i→x.ops.drop i=r→i≤x.ops.length→r.length<n→iter body n (i:Int)=(jf c b x i r).or (k (x.ops.length:Int)):=by
  intro r
  induction r with
  |nil=>
   intro i n hz hd hi hn
   obtain⟨m,rfl⟩: ∃m,n=m+1:=⟨n - 1,by simp at hn;omega⟩
   have VH:x.ops.length≤i:=by simpa using hd
   have:i=x.ops.length:=by omega
   subst this
   exact h2 _ (by show decide ((x.ops.length:Int)<x.ops.length)=false;simp)
  |cons o r ih=>
   intro i n hz hd hi hn
   obtain⟨m,rfl⟩: ∃m,n=m+1:=⟨n - 1,by simp at hn;omega⟩
   have aU:i<x.ops.length:=by
    rcases Nat.lt_or_ge i x.ops.length with h|h
    ·exact h
    ·rw[List.drop_eq_nil_of_le h]at hd;cases hd
   have ho:=kX hd
   have na:x.ops.drop (i+1)=r:=by
    have:(x.ops.drop i).drop 1=x.ops.drop (i+1):=by rw[List.drop_drop]
    rw[←this,hd];rfl
   refine(h1 _ i o hz ho (by show decide ((i:Int)<x.ops.length)=true;simp;omega) (by show IntKind.wrap .i64 ((i:Int)+1)=_;rw[ga (by omega)];rfl)).trans ?_
   simp only[jf]
   by_cases hzero:I1 c b x i o=0
   ·have KG:CT c b x (i+1):=fun j o' hj uX=>by
     rcases Nat.lt_or_ge j i with h|h
     ·exact hz j o' h uX
     ·have:j=i:=by omega
      subst this
      rw[AA ho]at uX;cases uX;exact hzero
    rw[decide_eq_true hzero]
    exact ih (i+1) m KG na aU (by simp at hn;omega)
   ·rw[decide_eq_false hzero];rfl
 exact key x.ops 0 n (fun j o hj=>absurd hj (Nat.not_lt_zero _)) rfl (Nat.zero_le _) hn
structure Fa(c:ah):Prop where
 bl:c.blocks.length≤16
 br: ∀b∈c.blocks,b.ag.length≤16
 op: ∀b∈c.blocks,∀x∈b.ag,x.ops.length≤70
 ar: ∀b∈c.blocks,∀x∈b.ag,∀o∈x.ops,o.args.length≤50
theorem coS.ck{c:ah}(h:coS c):Fa c:=
 ⟨h.1,fun b hb=>by have:=(h.2 b hb).2.1;omega,fun b hb x hx=>((h.2 b hb).2.2 x hx).2.1,fun b hb x hx o ho=>by have:=(((h.2 b hb).2.2 x hx).2.2 o ho).2;omega⟩
theorem or_some{α:Type}(a:Option α)(d:α):a.or (some d)=some (a.getD d):=by cases a<;>rfl
section
variable{n:Nat}(hn:100<n)
 include hn
theorem zZ{c:ah}(hc:Fa c):c4 al .al n c=some (dr c):=by
 unfold c4 dr
 simp only[Option.bind_some,bK,iF,dQ,aq]
 rw[show decide ((c.blocks.length:Int)<1)=decide (c.blocks.length<1)by rw[decide_eq_decide];omega,show decide ((12:Int)<c.blocks.length)=decide (12<c.blocks.length)by rw[decide_eq_decide];omega]
 have w1: ∀k:Int→Option Int,iter (mX al .al n c (aq c.blocks) k) n 0=(c.blocks.findSome? fI).or (k (c.blocks.length:Int)):=fun k=>by
  refine wR (n:=n) fI c.blocks (by have:=hc.bl;omega) ?_ ?_ (by have:=hc.bl;omega)
  ·intro self i b hb e1 e2 e3
   simp only[mX,e2,cond_true,e1,Option.bind_some,RN hn (hc.br b hb),e3,dm,dp,fI]
   cases decide (oS b=0)<;>rfl
  ·intro self e;simp only[mX,e,cond_false]
 have w2: ∀k:Int→Option Int,iter (mW al .al n c (aq c.blocks) k) n 0=bif qo c 0 c.blocks then some 5 else k (c.blocks.length:Int):=fun k=>by
  refine gv (fun r i=>bif qo c i r then some 5 else k (c.blocks.length:Int)) c.blocks (by have:=hc.bl;omega) ?_ ?_ n (by have:=hc.bl;omega)
  ·intro self i b r hd hi e1 e2 e3 ih
   have hb:cK al .al n b.name ⟨c.blocks⟩=some (find c b.name):=Ld hn (show c.blocks.length≤50 by have:=hc.bl;omega) _
   simp only[mW,e2,cond_true,e1,Option.bind_some,hb,e3,ih]
   simp only[iF,qo]
   cases decide (find c b.name<(i:Int))<;>rfl
  ·intro self e;simp only[mW,e,cond_false,qo]
 have w5: ∀b∈c.blocks,∀x∈b.ag,∀k:Int→Option Int,iter (mT al .al n c (aq x.ops) b x k) n 0=(jf c b x 0 x.ops).or (k (x.ops.length:Int)):=fun b hb x hx k=>by
  refine Ox (n:=n) c b x (by have:=hc.op b hb x hx;omega) ?_ ?_ (by have:=hc.op b hb x hx;omega)
  ·intro self i o hz e1 e2 e3
   have ho:zT al .al n ⟨c.blocks⟩ b x (i:Int)=some (I1 c b x i o):=aiA hn (show c.blocks.length≤50 by have:=hc.bl;omega) (hc.op b hb x hx) (hc.ar b hb x hx) e1 (BD hz)
   simp only[mT,e2,cond_true,ho,Option.bind_some,e3,dm,dp]
  ·intro self e;simp only[mT,e,cond_false]
 have w4: ∀b∈c.blocks,∀k:Int→Option Int,iter (mU al .al n c (aq b.ag) b k) n 0=(b.ag.findSome? (nt c b)).or (k (b.ag.length:Int)):=fun b hb k=>by
  refine wR (n:=n) (nt c b) b.ag (by have:=hc.br b hb;omega) ?_ ?_ (by have:=hc.br b hb;omega)
  ·intro self i x hx e1 e2 e3
   simp only[mU,e2,cond_true,e1,Option.bind_some,w5 b hb x hx,e3]
   simp only[nt,xR,bK,iF,Gk,dQ,aq]
   cases jf c b x 0 x.ops with
   |some e=>rfl
   |none=>
    cases(decide (x.result<0)||decide ((x.ops.length:Int)≤x.result))<;>rfl
  ·intro self e;simp only[mU,e,cond_false]
 have w3: ∀k:Int→Option Int,iter (mV al .al n c (aq c.blocks) k) n 0=(c.blocks.findSome? (fun b=>b.ag.findSome? (nt c b))).or (k (c.blocks.length:Int)):=fun k=>by
  refine wR (n:=n) (fun b=>b.ag.findSome? (nt c b)) c.blocks (by have:=hc.bl;omega) ?_ ?_ (by have:=hc.bl;omega)
  ·intro self i b hb e1 e2 e3
   simp only[mV,e2,cond_true,e1,Option.bind_some,w4 b hb,e3]
  ·intro self e;simp only[mV,e,cond_false]
 simp only[aq]at w1 w2 w3
 simp only[w1,w2,w3,or_some]
 cases(decide (c.blocks.length<1)||decide (12<c.blocks.length))with
 |true=>rfl
 |false=>
  simp only[cond_false]
  cases qo c 0 c.blocks<;>cases c.blocks.findSome? fI<;>cases c.blocks.findSome? (fun b=>b.ag.findSome? (nt c b))<;>rfl
theorem JH{c:ah}(hc:Fa c):lD al .al n c=some (dr c):=by
 unfold lD dr
 simp only[Option.bind_some,rX,aq]
 rw[show decide ((c.blocks.length:Int)<1)=decide (c.blocks.length<1)by rw[decide_eq_decide];omega,show decide ((12:Int)<c.blocks.length)=decide (12<c.blocks.length)by rw[decide_eq_decide];omega]
 have w1: ∀k:Int→Option Int,iter (kG al .al n c k) n 0=(c.blocks.findSome? fI).or (k (c.blocks.length:Int)):=fun k=>by
  refine wR (n:=n) fI c.blocks (by have:=hc.bl;omega) ?_ ?_ (by have:=hc.bl;omega)
  ·intro self i b hb e1 e2 e3
   simp only[kG,Option.bind_some,e2,cond_true,e1,FJ hn (hc.br b hb),e3,dm,dp,fI]
   cases decide (oS b=0)<;>rfl
  ·intro self e;simp only[kG,Option.bind_some,e,cond_false]
 have w2: ∀k:Int→Option Int,iter (kF al .al n c k) n 0=bif qo c 0 c.blocks then some 5 else k (c.blocks.length:Int):=fun k=>by
  refine gv (fun r i=>bif qo c i r then some 5 else k (c.blocks.length:Int)) c.blocks (by have:=hc.bl;omega) ?_ ?_ n (by have:=hc.bl;omega)
  ·intro self i b r hd hi e1 e2 e3 ih
   simp only[kF,Option.bind_some,e2,cond_true,e1,DA hn (show c.blocks.length≤50 by have:=hc.bl;omega),e3,ih]
   simp only[iF,qo]
   cases decide (find c b.name<(i:Int))<;>rfl
  ·intro self e;simp only[kF,Option.bind_some,e,cond_false,qo]
 have w5: ∀b∈c.blocks,∀x∈b.ag,∀z,gI c.blocks z=some b→ ∀k:Int→Option Int,iter (kC al .al n c x z k) n 0=(jf c b x 0 x.ops).or (k (x.ops.length:Int)):=fun b hb x hx z hz k=>by
  refine Ox (n:=n) c b x (by have:=hc.op b hb x hx;omega) ?_ ?_ (by have:=hc.op b hb x hx;omega)
  ·intro self i o KG e1 e2 e3
   have ho:kB al .al n ⟨c.blocks⟩ b x (i:Int)=some (I1 c b x i o):=Nz hn (show c.blocks.length≤50 by have:=hc.bl;omega) (hc.op b hb x hx) (hc.ar b hb x hx) e1 (BD KG)
   simp only[kC,Option.bind_some,e2,cond_true,hz,ho,e3,dm,dp]
  ·intro self e;simp only[kC,Option.bind_some,e,cond_false]
 have w4: ∀b∈c.blocks,∀z,gI c.blocks z=some b→ ∀k:Int→Option Int,iter (kD al .al n c z k) n 0=(b.ag.findSome? (nt c b)).or (k (b.ag.length:Int)):=fun b hb z hz k=>by
  refine wR (n:=n) (nt c b) b.ag (by have:=hc.br b hb;omega) ?_ ?_ (by have:=hc.br b hb;omega)
  ·intro self i x hx e1 e2 e3
   have hs:al.wrap .i64 (al.sub (x.ops.length:Int) 1)=(x.ops.length:Int) - 1:=by
    have:=hc.op b hb x hx
    show IntKind.wrap .i64 _=_
    rw[Z8,ga (by omega)]
   simp only[kD,hz,Option.bind_some,e2,cond_true,e1,w5 b hb x hx z hz,e3]
   simp only[nt,xR,aq,rX,hs,Option.bind_some]
   rw[show decide ((x.ops.length:Int) - 1<x.result)=decide ((x.ops.length:Int)≤x.result)by rw[decide_eq_decide];omega]
   cases jf c b x 0 x.ops with
   |some e=>rfl
   |none=>
    cases(decide (x.result<0)||decide ((x.ops.length:Int)≤x.result))<;>rfl
  ·intro self e;simp only[kD,hz,Option.bind_some,e,cond_false]
 have w3: ∀k:Int→Option Int,iter (kE al .al n c k) n 0=(c.blocks.findSome? (fun b=>b.ag.findSome? (nt c b))).or (k (c.blocks.length:Int)):=fun k=>by
  refine wR (n:=n) (fun b=>b.ag.findSome? (nt c b)) c.blocks (by have:=hc.bl;omega) ?_ ?_ (by have:=hc.bl;omega)
  ·intro self i b hb e1 e2 e3
   simp only[kE,Option.bind_some,e2,cond_true,w4 b hb _ e1,e3]
  ·intro self e;simp only[kE,Option.bind_some,e,cond_false]
 simp only[w1,w2,w3,or_some]
 cases(decide (c.blocks.length<1)||decide (12<c.blocks.length))with
 |true=>rfl
 |false=>
  simp only[cond_false]
  cases qo c 0 c.blocks<;>cases c.blocks.findSome? fI<;>cases c.blocks.findSome? (fun b=>b.ag.findSome? (nt c b))<;>rfl
end
end Ab
namespace Ab
open Go
set_option maxRecDepth 10000
structure kT(x:ae):Prop where
 len:x.ops.length≤70
 ar: ∀o∈x.ops,o.args.length≤50
 args: ∀(i:Nat) (o:aL),x.ops[i]? =some o→ ∀a∈o.args,0≤a∧a<i
 res:0≤x.result∧x.result<x.ops.length
theorem vJ{c:ah}{b:aj}{x:ae}: ∀{r:List aL} {i:Nat},jf c b x i r=none→ ∀(j:Nat) (o:aL),r[j]? =some o→I1 c b x (i+j) o=0
 |[],i,_,j,o,h=>by simp at h
 |p::r,i,h,j,o,ho=>by
  simp only[jf]at h
  by_cases hz:I1 c b x i p=0
  ·rw[decide_eq_true hz,cond_true]at h
   cases j with
   |zero=>simp at ho;subst ho;exact hz
   |succ j=>have:=vJ h j o (by simpa using ho);rwa [show i+(j+1)=i+1+j by omega]
  ·rw[decide_eq_false hz]at h;cases h
theorem Gl{c:ah}{b:aj}{x:ae}: ∀{r:List aL} {i:Nat} {e:Int},jf c b x i r=some e→e≠0
 |[],i,e,h=>by simp[jf]at h
 |p::r,i,e,h=>by
  simp only[jf]at h
  by_cases hz:I1 c b x i p=0
  ·rw[decide_eq_true hz,cond_true]at h;exact Gl h
  ·rw[decide_eq_false hz,cond_false]at h;cases h;exact hz
theorem U5{c:ah}{b:aj}{x:ae}{e:Int}(h:nt c b x=some e):e≠0:=by
 unfold nt at h
 cases h1:jf c b x 0 x.ops with
 |some e'=>rw[h1]at h;cases h;exact Gl h1
 |none=>
  rw[h1]at h
  cases h2:xR x with
  |true=>rw[h2]at h;cases h;decide
  |false=>rw[h2]at h;cases h
structure uM(c:ah):Prop where
 some:1≤c.blocks.length∧c.blocks.length≤12
 right: ∀b∈c.blocks,oS b=0
 names:qo c 0 c.blocks=false
 ops: ∀b∈c.blocks,∀x∈b.ag,jf c b x 0 x.ops=none∧xR x=false
theorem lg{c:ah}(h:dr c=0):uM c:=by
 unfold dr at h
 cases h0:(decide (c.blocks.length<1)||decide (12<c.blocks.length))with
 |true=>rw[h0]at h;cases h
 |false=>
  rw[h0,cond_false]at h
  have h1:c.blocks.findSome? fI=none:=by
   cases h1:c.blocks.findSome? fI with
   |none=>rfl
   |some e=>
    rw[h1]at h
    obtain⟨b,_,hb⟩:=List.exists_of_findSome?_eq_some h1
    unfold fI at hb
    by_cases hz:oS b=0
    ·rw[decide_eq_true hz]at hb;cases hb
    ·rw[decide_eq_false hz]at hb;cases hb;exact absurd h hz
  rw[h1,Option.none_or]at h
  have h2:qo c 0 c.blocks=false:=by
   cases h2:qo c 0 c.blocks with
   |false=>rfl
   |true=>rw[h2]at h;cases h
  rw[h2,cond_false]at h
  have h3:c.blocks.findSome? (fun b=>b.ag.findSome? (nt c b))=none:=by
   cases h3:c.blocks.findSome? (fun b=>b.ag.findSome? (nt c b))with
   |none=>rfl
   |some e=>
    rw[h3]at h
    obtain⟨b,_,hb⟩:=List.exists_of_findSome?_eq_some h3
    obtain⟨x,_,hx⟩:=List.exists_of_findSome?_eq_some hb
    exact absurd h (U5 hx)
  refine⟨by simp only[Bool.or_eq_false_iff,decide_eq_false_iff_not]at h0;omega,fun b hb=>?_,h2,fun b hb x hx=>?_⟩
  ·have:=List.findSome?_eq_none_iff.1 h1 b hb
   unfold fI at this
   by_cases hz:oS b=0
   ·exact hz
   ·rw[decide_eq_false hz]at this;cases this
  ·have:=List.findSome?_eq_none_iff.1 (List.findSome?_eq_none_iff.1 h3 b hb) x hx
   unfold nt at this
   cases h4:jf c b x 0 x.ops with
   |some e=>rw[h4]at this;cases this
   |none=>
    rw[h4,Option.none_or]at this
    refine⟨rfl,?_⟩
    cases h5:xR x with
    |false=>rfl
    |true=>rw[h5]at this;cases this
theorem uM.x{c:ah}(h:uM c)(hc:Fa c){b:aj}(hb:b∈c.blocks){x:ae}(hx:x∈b.ag):kT x:=by
 obtain⟨h1,h2⟩:=h.ops b hb x hx
 refine⟨hc.op b hb x hx,hc.ar b hb x hx,fun i o ho=>?_,?_⟩
 ·have:=vJ h1 i o ho
  rw[Nat.zero_add]at this
  exact JB this
 ·unfold xR at h2;simp at h2;omega
theorem AP{A S R:Type}{body:(S→Option R)→S→Option R}(mk:A→Int→S)(G:A→Nat→Option R)(P:A→Nat→Prop)(N:Nat)(hN:N≤1000000)
  (h1: ∀(self:S→Option R) (a:A) (i:Nat),P a (i+1)→i<N→al.pK 0 (i:Int)=true→al.wrap .i64 (al.sub (i:Int) 1)=(i:Int) - 1→(∀a',P a' i→self (mk a' ((i:Int) - 1))=G a' i)→body self (mk a (i:Int))=G a (i+1))
  (h2: ∀(self:S→Option R) (a:A),P a 0→al.pK 0 (-1)=false→body self (mk a (-1))=G a 0)(n:Nat)(hn:N<n)(a:A)(ha:P a N):iter body n (mk a ((N:Int) - 1))=G a N:=by
 have key: ∀(i n:Nat) (a:A),P a i→i≤N→i<n→iter body n (mk a ((i:Int) - 1))=G a i:=by
  intro i
  induction i with
  |zero=>
   intro n a ha _ hn
   obtain⟨m,rfl⟩: ∃m,n=m+1:=⟨n - 1,by omega⟩
   exact h2 _ a ha rfl
  |succ i ih=>
   intro n a ha hi hn
   obtain⟨m,rfl⟩: ∃m,n=m+1:=⟨n - 1,by omega⟩
   have e:(((i+1:Nat):Int) - 1)=(i:Int):=by omega
   rw[e]
   exact h1 _ a i ha (by omega) (by show decide ((0:Int)≤i)=true;exact decide_eq_true (by omega)) (by show IntKind.wrap .i64 ((i:Int) - 1)=_;rw[ga (by omega)]) fun a' ha'=>ih m a' ha' (by omega) (by omega)
 exact key N n a ha (Nat.le_refl _) hn
def fg(u:Bool)(args:List Int)(l:List Bool):List Bool:=args.foldl (fun l a=>l.set a.toNat (l.getD a.toNat false||u)) l
def uH(x:ae):Nat→List Bool→List Bool
 |0,l=>l
 |i+1,l=>match x.ops[i]? with
  |none=>l
  |some o=>uH x i (fg (l.getD i false||decide ((i:Int)=x.result)||cj o) o.args (l.set i (l.getD i false||decide ((i:Int)=x.result)||cj o)))
def ll(x:ae):List Bool:=uH x x.ops.length (List.replicate x.ops.length false)
theorem jC(u:Bool): ∀(args:List Int) (l:List Bool),(fg u args l).length=l.length
 |[],l=>rfl
 |a::r,l=>by
  have:=jC u r (l.set a.toNat (l.getD a.toNat false||u))
  unfold fg at this ⊢
  rw[List.foldl_cons,this,List.length_set]
theorem F1(x:ae): ∀(i:Nat) (l:List Bool),(uH x i l).length=l.length
 |0,l=>rfl
 |i+1,l=>by
  unfold uH
  cases x.ops[i]? with
  |none=>rfl
  |some o=>dsimp only;rw[F1,jC,List.length_set]
theorem FZ(x:ae):(ll x).length=x.ops.length:=by unfold ll;rw[F1];simp
theorem fm(l:List Bool)(i j:Nat)(v:Bool):(l.set i v).getD j false=if i=j∧i<l.length then v else l.getD j false:=by
 simp only[List.getD_eq_getElem?_getD,List.getElem?_set]
 by_cases h:i=j
 ·subst h
  by_cases h2:i<l.length
  ·simp[h2]
  ·simp[h2]
 ·simp[h]
theorem TM{u:Bool}{i:Nat}: ∀{args:List Int} {l:List Bool},(∀a∈args,0≤a∧a<i)→(fg u args l).getD i false=l.getD i false
 |[],l,_=>rfl
 |a::r,l,h=>by
  have:=TM (u:=u) (i:=i) (args:=r) (l:=l.set a.toNat (l.getD a.toNat false||u)) fun b hb=>h b (by simp[hb])
  unfold fg at this ⊢
  rw[List.foldl_cons,this,fm,if_neg]
  have:=h a (by simp)
  omega
theorem BH: ∀(args:List Int) (l:List Bool),fg false args l=l
 |[],l=>rfl
 |a::r,l=>by
  have:=BH r l
  unfold fg at this ⊢
  rw[List.foldl_cons,Bool.or_false]
  have hs:l.set a.toNat (l.getD a.toNat false)=l:=by
   apply List.ext_getElem?
   intro j
   rw[List.getElem?_set]
   by_cases h:a.toNat=j
   ·subst h
    by_cases h2:a.toNat<l.length
    ·simp[h2,List.getD_eq_getElem?_getD]
    ·simp[h2]
   ·simp[h]
  rw[hs];exact this
theorem AG{u:Bool}{r:Nat}: ∀{args:List Int} {l:List Bool},r<l.length→fg u args (l.set r true)=(fg u args l).set r true
 |[],l,_=>rfl
 |a::s,l,h=>by
  have:=AG (u:=u) (r:=r) (args:=s) (l:=l.set a.toNat (l.getD a.toNat false||u)) (by simpa using h)
  unfold fg at this ⊢
  rw[List.foldl_cons,List.foldl_cons,←this]
  congr 1
  by_cases hr:r=a.toNat
  ·subst hr
   rw[fm,if_pos ⟨rfl,h⟩,Bool.true_or,List.set_set,List.set_set]
  ·rw[fm,if_neg (by omega),List.set_comm _ _ hr]
theorem F0{x:ae}{r:Nat}(hx:x.result=(r:Int)): ∀(i:Nat) (l:List Bool),r<i→r<l.length→i≤x.ops.length→uH x i (l.set r true)=uH x i l
 |0,l,h,_,_=>absurd h (Nat.not_lt_zero _)
 |i+1,l,h,hl,hi=>by
  unfold uH
  rw[List.getElem?_eq_getElem (show i<x.ops.length by omega)]
  dsimp only
  generalize x.ops[i]=o
  by_cases hr:r=i
  ·subst hr
   rw[fm,if_pos ⟨rfl,hl⟩,List.set_set,Bool.true_or,Bool.true_or,hx]
   simp
  ·have cM: ¬(i:Int)=x.result:=by rw[hx];omega
   rw[fm,if_neg (by omega),List.set_comm _ _ hr,AG (by simpa using hl)]
   exact F0 hx i _ (by omega) (by rw[jC];simpa using hl) (by omega)
section
variable{n:Nat}(hn:100<n)
 include hn
theorem Cp{l:List Bool}{k:Nat}(h:k<l.length):gK l k=some (l.getD k false):=have _:=hn;by
 rw[KU h];simp[List.getD_eq_getElem?_getD,h]
theorem LV{x:ae}{l0:List Bool}{i:Nat}{o:aL}(ho:gI x.ops (i:Int)=some o)(hx:kT x)(hl0:l0.length=x.ops.length)(k:List Bool×Int→Option (List Bool))(u:Bool)(l:List Bool)(hl:l.length=x.ops.length)(hu:l.getD i false=u):
  iter (jz al .al n x l0 (i:Int) k) n (l,0)=k (fg u o.args l,(o.args.length:Int)):=by
 have hi:i<x.ops.length:=(List.getElem?_eq_some_iff.1 (AA ho)).1
 have hm:o∈x.ops:=List.mem_of_getElem? (AA ho)
 have VI:=hx.ar o hm
 refine bA (body:=jz al .al n x l0 (i:Int) k) (mk:=fun a i=>(a,(i:Int))) (fun l r _=>k (fg u r l,(o.args.length:Int))) (fun l _=>l.length=x.ops.length∧l.getD i false=u) o.args (by omega) ?_ ?_ n (by omega) l ⟨hl,hu⟩
 ·intro self l j a r ⟨hl,hu⟩ hd hj e1 e2 e3 ih
  have ha:=hx.args i o (AA ho) a (List.mem_of_mem_drop (i:=j) (by rw[hd];simp))
  have ke:Md.al.ln l0=x.ops.length:=hl0
  simp only[jz,ho,Option.bind_some,e2,cond_true,e1,ke,BP (show 0≤a from ha.1) (show a<(x.ops.length:Nat)by omega),Cp hn (show a.toNat<l.length by omega),oU hi]
  rw[Iy (y:=i) fun _=>rfl,Option.bind_some]
  rw[Iy (y:=u) fun h=>by rw[h,cond_false,Cp hn (show i<l.length by omega),hu],Option.bind_some,nR (by omega),Option.bind_some,e3,ih _ ⟨by simpa using hl,by rw[fm,if_neg (by omega)];exact hu⟩]
  unfold fg
  rw[List.foldl_cons,bK]
  cases l.getD a.toNat false<;>rfl
 ·intro self l ⟨hl,hu⟩ e
  simp only[jz,ho,Option.bind_some,e,cond_false]
  rfl
theorem Ma{x:ae}(hx:kT x)(hk: ∀o∈x.ops,cj o=decide (3<o.kind)):tK al .al n x=some (ll x):=by
 have hlen:=hx.len
 unfold tK
 rw[Option.bind_some]
 have hm:vc 1 (aq x.ops) false=some (List.replicate x.ops.length false):=vM (by omega) (by omega)
 have hw:al.wrap .i64 (al.sub (aq x.ops) 1)=(x.ops.length:Int) - 1:=by show IntKind.wrap .i64 ((x.ops.length:Int) - 1)=_;rw[ga (by omega)]
 rw[hm,Option.bind_some,hw]
 refine AP (body:=mj al .al n x (List.replicate x.ops.length false) _) (mk:=fun a z=>(a,z)) (fun l i=>some (uH x i l)) (fun l _=>l.length=x.ops.length) x.ops.length (by omega) ?_ ?_ n (by omega) _ (by simp)
 ·intro self l i hl hi e2 e3 ih
  have ho:x.ops[i]? =some x.ops[i]:=List.getElem?_eq_getElem hi
  have hg:gI x.ops (i:Int)=some x.ops[i]:=by rw[dZ];exact ho
  have ke:Md.al.ln (List.replicate x.ops.length false)=x.ops.length:=by simp[Md.al]
  simp only[mj,e2,cond_true,ke,oU hi,Option.bind_some,Cp hn (show i<l.length by omega)]
  rw[Iy (y:=x.ops[i]) fun _=>hg,Option.bind_some,nR (by omega),Option.bind_some]
  have hu:(al.pick (al.pick (l.getD i false) true (al.aJ (i:Int) x.result)) true (al.aV 3 (bif al.pick (l.getD i false) true (al.aJ (i:Int) x.result)then default else x.ops[i]).kind))=(l.getD i false||decide ((i:Int)=x.result)||cj x.ops[i]):=by
   rw[hk _ (List.getElem_mem hi)]
   simp only[bK,dp,iF,dQ]
   cases(l.getD i false||decide ((i:Int)=x.result))<;>rfl
  rw[hu,LV hn hg hx (by simp) _ _ _ (by simpa using hl) (by rw[fm,if_pos ⟨rfl,by omega⟩])]
  dsimp only
  rw[e3,ih _ (by rw[jC];simpa using hl)]
  conv=>rhs;unfold uH
  rw[ho]
 ·intro self l hl e
  simp only[mj,e,cond_false]
  rw[kL (by simp[Md.al,hl])]
  rfl
theorem Qy{c:ah}(hc:Fa c)(h0:dr c=0){i j:Nat}{b:aj}{x:ae}(hb:gI c.blocks (i:Int)=some b)(hx:gI b.ag (j:Int)=some x):rL al .al n c (i:Int) (j:Int)=some (x,0):=by
 have hi:i<c.blocks.length:=by rw[dZ]at hb;exact(List.getElem?_eq_some_iff.1 hb).1
 have hj:j<b.ag.length:=by rw[dZ]at hx;exact(List.getElem?_eq_some_iff.1 hx).1
 unfold rL
 rw[zZ hn hc,h0]
 simp only[Option.bind_some,dm,dp,bK,iF,Gk,dQ]
 rw[Iy (y:=b) fun _=>hb]
 have h1:(decide ((i:Int)<0)||decide (aq c.blocks≤(i:Int))||decide ((j:Int)<0))=false:=by
  unfold aq;simp;omega
 have h2:decide (aq b.ag≤(j:Int))=false:=by unfold aq;simp;omega
 simp only[h1,cond_false,Option.bind_some,h2,hb,hx]
 rfl
theorem Jn{x:ae}{l0:List Bool}{i:Nat}{o:aL}(ho:gI x.ops (i:Int)=some o)(hx:kT x)(hl0:l0.length=x.ops.length)(k:List Bool×Int→Option (List Bool×Int))(l:List Bool)(hl:l.length=x.ops.length):
  iter (lP al .al n l0 (aq o.args) o k) n (l,0)=k (fg true o.args l,(o.args.length:Int)):=by
 have hi:i<x.ops.length:=(List.getElem?_eq_some_iff.1 (AA ho)).1
 have hm:o∈x.ops:=List.mem_of_getElem? (AA ho)
 have VI:=hx.ar o hm
 refine bA (body:=lP al .al n l0 (aq o.args) o k) (mk:=fun a i=>(a,(i:Int))) (fun l r _=>k (fg true r l,(o.args.length:Int))) (fun l _=>l.length=x.ops.length) o.args (by omega) ?_ ?_ n (by omega) l hl
 ·intro self l j a r hl hd hj e1 e2 e3 ih
  have ha:=hx.args i o (AA ho) a (List.mem_of_mem_drop (i:=j) (by rw[hd];simp))
  have ke:Md.al.ln l0=x.ops.length:=hl0
  simp only[lP,e2,cond_true,e1,Option.bind_some,ke,BP (show 0≤a from ha.1) (show a<(x.ops.length:Nat)by omega),Cp hn (show a.toNat<l.length by omega),nR (show a.toNat<l.length by omega),e3]
  rw[ih _ (by simpa using hl)]
  unfold fg
  rw[List.foldl_cons,Bool.or_true]
 ·intro self l hl e
  simp only[lP,e,cond_false]
  rfl
theorem K6{c:ah}(hc:Fa c)(h0:dr c=0){i j:Nat}{b:aj}{x:ae}(hb:gI c.blocks (i:Int)=some b)(hxg:gI b.ag (j:Int)=some x)(hx:kT x):xa al .al n c (i:Int) (j:Int)=some (ll x,0):=by
 have hlen:=hx.len
 have r7:=hx.res
 unfold xa
 rw[Qy hn hc h0 hb hxg,Option.bind_some]
 have hz:al.not (al.aJ (x,(0:Int)).2 0)=false:=rfl
 rw[hz,cond_false,Option.bind_some]
 have hm:vc 1 (aq x.ops) false=some (List.replicate x.ops.length false):=vM (by omega) (by omega)
 have hw:al.wrap .i64 (al.sub (aq x.ops) 1)=(x.ops.length:Int) - 1:=by show IntKind.wrap .i64 ((x.ops.length:Int) - 1)=_;rw[ga (by omega)]
 have ke:Md.al.ln (List.replicate x.ops.length false)=x.ops.length:=by simp[Md.al]
 simp only[hm,Option.bind_some,hw,ke,BP r7.1 r7.2,Cp hn (show x.result.toNat<(List.replicate x.ops.length false).length by simp;omega),nR (show x.result.toNat<(List.replicate x.ops.length false).length by simp;omega)]
 have hr:x.result=(x.result.toNat:Int):=by omega
 have:=AP (body:=oJ al .al n (List.replicate x.ops.length false) (x,0) fun(wU,QK)=>(dM x.ops.length wU).bind fun ZY=>some (wU,0)) (mk:=fun a z=>(a,z)) (fun l i=>some (uH x i l,(0:Int))) (fun l i=>l.length=x.ops.length∧l.getD x.result.toNat false=true) x.ops.length (by omega) ?_ ?_ n (by omega) ((List.replicate x.ops.length false).set x.result.toNat true) ⟨by simp,by rw[fm,if_pos ⟨rfl,by simp;omega⟩]⟩
 ·refine this.trans ?_
  rw[F0 hr _ _ (by omega) (by simp;omega) (Nat.le_refl _)]
  rfl
 ·intro self l i ⟨hl,hlr⟩ hi e2 e3 ih
  have ho:x.ops[i]? =some x.ops[i]:=List.getElem?_eq_getElem hi
  have hg:gI x.ops (i:Int)=some x.ops[i]:=by rw[dZ];exact ho
  have hu:al.pick (al.pick (l.getD i false) true (al.aJ x.ops[i].kind 4)) true (al.aJ x.ops[i].kind 5)=(l.getD i false||decide ((i:Int)=x.result)||cj x.ops[i]):=by
   simp only[bK,dp,dQ,cj,Bool.or_assoc]
   by_cases h:(i:Int)=x.result
   ·have:l.getD i false=true:=by rw[show i=x.result.toNat by omega];exact hlr
    rw[this];simp
   ·rw[decide_eq_false h];simp
  simp only[oJ,e2,cond_true,hg,Option.bind_some,ke,oU hi,Cp hn (show i<l.length by omega),nR (show i<l.length by omega),hu]
  rw[Cp hn (by simpa using(show i<l.length by omega)),Option.bind_some,fm,if_pos ⟨rfl,by omega⟩]
  cases hv:(l.getD i false||decide ((i:Int)=x.result)||cj x.ops[i])with
  |true=>
   simp only[cond_true,Option.bind_some]
   rw[Jn hn hg hx (by simp) _ _ (by simpa using hl)]
   dsimp only
   have ajS:(fg true x.ops[i].args (l.set i true)).getD x.result.toNat false=true:=by
    have h1:(l.set i true).set x.result.toNat true=l.set i true:=by
     apply List.ext_getElem?
     intro q
     rw[List.getElem?_set]
     by_cases hq:x.result.toNat=q
     ·subst hq
      have h2:(l.set i true).getD x.result.toNat false=true:=by rw[fm];split;rfl;exact hlr
      have h3:x.result.toNat<(l.set i true).length:=by simp;omega
      rw[if_pos rfl,if_pos h3]
      rw[List.getD_eq_getElem?_getD,List.getElem?_eq_getElem h3]at h2
      rw[List.getElem?_eq_getElem h3]
      simp at h2
      simp[h2]
     ·rw[if_neg hq]
    rw[←h1,AG (by simp;omega),fm,if_pos ⟨rfl,by rw[jC];simp;omega⟩]
   rw[e3,ih _ ⟨by rw[jC];simpa using hl,ajS⟩]
   conv=>rhs;unfold uH
   rw[ho]
   dsimp only
   rw[hv]
  |false=>
   simp only[cond_false]
   rw[e3,ih _ ⟨by simpa using hl,by
    rw[fm,if_neg];exact hlr
    rintro⟨h1,h2⟩
    have:decide ((i:Int)=x.result)=true:=decide_eq_true (by omega)
    rw[this]at hv;simp at hv⟩]
   conv=>rhs;unfold uH
   rw[ho]
   dsimp only
   rw[hv,BH]
 ·intro self l ⟨hl,_⟩ e
  simp only[oJ,e,cond_false]
  rw[kL hl.symm]
  rfl
end
end Ab
namespace Ab
open Go
set_option maxRecDepth 10000
section
variable{α R S A:Type}
theorem AO{body:(S→Option R)→S→Option R}(mk:A→Nat→S)(G:A→List α→Nat→Option R)(P:A→Nat→Prop)(l:List α)(hl:l.length≤9223372036854775806)
  (h1: ∀(self:S→Option R) (a:A) (i:Nat) (x:α) (r:List α),P a i→l.drop i=x::r→i<l.length→gI l (i:Int)=some x→al.aV (i:Int) (aq l)=true→al.wrap .i64 (al.add (i:Int) 1)=((i+1:Nat):Int)→
   (∀a',P a' (i+1)→self (mk a' (i+1))=G a' r (i+1))→body self (mk a i)=G a (x::r) i)
  (h2: ∀(self:S→Option R) (a:A),P a l.length→al.aV (l.length:Int) (aq l)=false→body self (mk a l.length)=G a [] l.length)(n i:Nat)(hi:i≤l.length)(hn:l.length<n)(a:A)(ha:P a i):iter body n (mk a i)=G a (l.drop i) i:=by
 have key: ∀(r:List α) (i n:Nat) (a:A),P a i→l.drop i=r→i≤l.length→r.length<n→iter body n (mk a i)=G a r i:=by
  intro r
  induction r with
  |nil=>
   intro i n a hp hd hi hn
   obtain⟨m,rfl⟩: ∃m,n=m+1:=⟨n - 1,by simp at hn;omega⟩
   have VH:l.length≤i:=by simpa using hd
   have:i=l.length:=by omega
   subst this
   exact h2 _ a hp (by show decide ((l.length:Int)<l.length)=false;simp)
  |cons x r ih=>
   intro i n a hp hd hi hn
   obtain⟨m,rfl⟩: ∃m,n=m+1:=⟨n - 1,by simp at hn;omega⟩
   have aU:i<l.length:=by
    rcases Nat.lt_or_ge i l.length with h|h
    ·exact h
    ·rw[List.drop_eq_nil_of_le h]at hd;cases hd
   have na:l.drop (i+1)=r:=by
    have:(l.drop i).drop 1=l.drop (i+1):=by rw[List.drop_drop]
    rw[←this,hd];rfl
   refine h1 _ a i x r hp hd aU (kX hd) (by show decide ((i:Int)<l.length)=true;simp;omega) (by show IntKind.wrap .i64 ((i:Int)+1)=_;rw[ga (by omega)];rfl) fun a' Ub=>?_
   exact ih (i+1) m a' Ub na aU (by simp at hn;omega)
 exact key (l.drop i) i n a ha rfl hi (by simp;omega)
end
def bE(sl:List Int)(args:List Int):List Int:=args.map fun a=>sl.getD a.toNat 0
theorem k8(sl args:List Int):(bE sl args).length=args.length:=by simp[bE]
theorem zC{sl:List Int}{a:Int}(h:0≤a)(h2:a<sl.length):gI sl a=some (sl.getD a.toNat 0):=by
 unfold gI
 rw[if_pos (by omega)]
 have:a.toNat<sl.length:=by omega
 simp[List.getD_eq_getElem?_getD,this]
section
variable{n:Nat}(hn:100<n)
 include hn
theorem Dv{hd:ByteArray}{kd z:Int}{ops:List aL}{sl args:List Int}(ha: ∀a∈args,0≤a∧a<sl.length)(hl:args.length≤50):bw al .al n hd kd ops z sl args=some (bE sl args):=by
 unfold bw
 rw[Option.bind_some]
 have:=bA (body:=cW al .al n sl args (aq args) fun(z7,l8)=>some l8) (mk:=fun(l:List Int) i=>((i:Int),l)) (fun l r _=>some (l++bE sl r)) (fun l i=>l.length=i) args (by omega) ?_ ?_ n (by omega) [] rfl
 ·simpa using this
 ·intro self l i x r hp hd hi e1 e2 e3 ih
  have hx:=ha x (List.mem_of_mem_drop (i:=i) (by rw[hd];simp))
  simp only[cW,e2,cond_true,e1,Option.bind_some,zC hx.1 hx.2]
  rw[bd (by omega) (by omega),Option.bind_some,e3,ih _ (by simp[hp])]
  simp[bE]
 ·intro self l hp e
  simp only[cW,e,cond_false]
  simp[bE]
theorem Gr{o:aL}{sl:List Int}(ha: ∀a∈o.args,0≤a∧a<sl.length)(hl:o.args.length≤50):fa al .al n o sl=some ⟨o.kind,o.name,o.num,bE sl o.args⟩:=by
 unfold fa
 have:=bA (body:=iY al .al n o sl fun(l7,z8)=>some (⟨o.kind,o.name,o.num,l7⟩:aL)) (mk:=fun(l:List Int) i=>(l,(i:Int))) (fun l r _=>some ⟨o.kind,o.name,o.num,l++bE sl r⟩) (fun l i=>l.length=i) o.args (by omega) ?_ ?_ n (by omega) [] rfl
 ·simpa using this
 ·intro self l i x r hp hd hi e1 e2 e3 ih
  have hx:=ha x (List.mem_of_mem_drop (i:=i) (by rw[hd];simp))
  simp only[iY,e2,cond_true,e1,Option.bind_some,zC hx.1 hx.2]
  rw[bd (by omega) (by omega),Option.bind_some,e3,ih _ (by simp[hp])]
  simp[bE]
 ·intro self l hp e
  simp only[iY,Option.bind_some,e,cond_false]
  simp[bE]
end
theorem K7{l m:List Int}(h:m.length=l.length):lQ m.length l m=l:=by
 unfold lQ
 rw[h,Nat.min_self,List.take_length,List.drop_eq_nil_of_le (by omega),List.append_nil]
theorem IU{y:List Int}{l:List aL}{k z:Int}{nm:ByteArray}(hy:y.length≤1000)(hl:l.length≤1000):
  ((some (aq y)).bind fun n41=>
   (vc 8 n41 0).bind fun Gu=>
   (some (lQ (Md.al.ln Gu) y Gu)).bind fun Lt=>
   (some (oK (Md.al.ln Gu) y)).bind fun n44=>
   bif (al.aJ n41 0)then
    (aI 56 l (⟨k,nm,z,[]⟩:aL)).bind fun OB=>
    (some (aq OB)).bind fun n46=>
    some ((al.wrap .i64 (al.sub n46 1)),OB)
   else
    (dM (Md.al.ln Gu) Lt).bind fun u47=>
    (aI 56 l (⟨k,nm,z,Lt⟩:aL)).bind fun QR=>
    (some (aq QR)).bind fun TA=>
    some ((al.wrap .i64 (al.sub TA 1)),QR))=some ((l.length:Int),l++[⟨k,nm,z,y⟩]):=by
 have hm:vc 8 (aq y) (0:Int)=some (List.replicate y.length 0):=vM (by omega) (by omega)
 have hc:lQ (Md.al.ln (List.replicate y.length (0:Int))) y (List.replicate y.length 0)=y:=K7 (by simp)
 have hw: ∀o:aL,al.wrap .i64 (al.sub (aq (l++[o])) 1)=(l.length:Int):=fun o=>by
  show IntKind.wrap .i64 (((l++[o]).length:Int) - 1)=_
  rw[List.length_append,List.length_singleton,show(((l.length+1:Nat):Int) - 1)=(l.length:Int)by omega,Dg (by omega)]
 rw[Option.bind_some,hm,Option.bind_some,Option.bind_some,Option.bind_some,hc]
 by_cases h0:y=[]
 ·subst h0
  have:al.aJ (aq ([]:List Int)) 0=true:=rfl
  rw[this,cond_true,bd (by omega) (by omega),Option.bind_some,Option.bind_some,hw]
 ·have:al.aJ (aq y) 0=false:=by
   show decide ((y.length:Int)=0)=false
   have:y.length≠0:=fun h=>h0 (List.eq_nil_of_length_eq_zero h)
   exact decide_eq_false (by omega)
  rw[this,cond_false,kL (by simp[Md.al]),Option.bind_some,bd (by omega) (by omega),Option.bind_some,Option.bind_some,hw]
def bare(b:aj):aj:=⟨b.name,b.arity,[]⟩
def qV(F:ae→ae)(b:aj):aj:=⟨b.name,b.arity,b.ag.map F⟩
def dI(F:ae→ae)(bs:List aj)(i j:Nat):List aj:=(bs.take i).map (qV F)++(match bs.drop i with
 |[]=>[]
 |b::r=>⟨b.name,b.arity,(b.ag.take j).map F⟩::r.map bare)
theorem EK{F:ae→ae}{bs:List aj}:dI F bs 0 0=bs.map bare:=by
 unfold dI
 cases bs<;>simp[bare]
theorem wA{F:ae→ae}{bs:List aj}{i:Nat}{b:aj}{r:List aj}(h:bs.drop i=b::r):dI F bs i b.ag.length=dI F bs (i+1) 0:=by
 unfold dI
 have h1:bs.drop (i+1)=r:=by rw[←List.drop_drop,h];rfl
 have h2:bs.take (i+1)=bs.take i++[b]:=by
  have:=List.getElem?_drop (xs:=bs) (i:=i) (j:=0)
  rw[h]at this
  rw[List.take_add_one]
  simp at this
  rw[←this];rfl
 rw[h,h1,h2]
 dsimp only
 rw[List.take_length,List.map_append,List.append_assoc]
 congr 1
 cases r<;>simp[bare,qV]
theorem yw{F:ae→ae}{bs:List aj}:dI F bs bs.length 0=bs.map (qV F):=by
 unfold dI
 rw[List.take_length,List.drop_length];simp
theorem NA{F:ae→ae}{bs:List aj}{i j:Nat}:(dI F bs i j).length=bs.length:=by
 unfold dI
 cases h:bs.drop i with
 |nil=>
  have:=congrArg List.length h
  simp at this
  simp;omega
 |cons b r=>
  have:=congrArg List.length h
  simp at this
  simp;omega
theorem yu{F:ae→ae}{bs:List aj}{i j:Nat}{b:aj}{r:List aj}(h:bs.drop i=b::r):gK (dI F bs i j) i=some ⟨b.name,b.arity,(b.ag.take j).map F⟩:=by
 have hl:=congrArg List.length h
 simp at hl
 have:min i bs.length=i:=by omega
 unfold dI gK
 rw[h]
 rw[List.getElem?_append_right (by simp;omega)]
 simp[this]
theorem yt{F:ae→ae}{bs:List aj}{i j:Nat}{b:aj}{r:List aj}{x:ae}{s:List ae}(h:bs.drop i=b::r)(hx:b.ag.drop j=x::s):
  gg (dI F bs i j) i (⟨b.name,b.arity,(b.ag.take j).map F++[F x]⟩:aj)=some (dI F bs i (j+1)):=by
 have hl:=congrArg List.length h
 simp at hl
 have hm:min i bs.length=i:=by omega
 rw[nR (by rw[NA];omega)]
 have h2:b.ag.take (j+1)=b.ag.take j++[x]:=by
  have:=List.getElem?_drop (xs:=b.ag) (i:=j) (j:=0)
  rw[hx]at this
  rw[List.take_add_one]
  simp at this
  rw[←this];rfl
 unfold dI
 rw[h]
 dsimp only
 rw[List.set_append_right _ _ (by simp;omega),h2]
 simp[hm]
end Ab
namespace Ab
open Go
set_option maxRecDepth 10000
def kR(u:List Bool):List aL→Nat→List aL×List Int→List aL×List Int
 |[],_,st=>st
 |o::r,i,st=>kR u r (i+1) (bif u.getD i false then(st.1++[⟨o.kind,o.name,o.num,bE st.2 o.args⟩],st.2++[(st.1.length:Int)])else(st.1,st.2++[0]))
def rK(x:ae):ae:=⟨x.head,x.kids,(kR (ll x) x.ops 0 ([],[])).1,(kR (ll x) x.ops 0 ([],[])).2.getD x.result.toNat 0⟩
theorem GI(u:List Bool): ∀(r:List aL) (i:Nat) (st:List aL×List Int),(kR u r i st).2.length=st.2.length+r.length
 |[],i,st=>rfl
 |o::r,i,st=>by
  unfold kR
  rw[GI u r]
  cases u.getD i false<;>simp<;>omega
section
variable{n:Nat}(hn:100<n)
 include hn
theorem Qs{x:ae}(hx:kT x){u:List Bool}(hu:u.length=x.ops.length){e:Int}(k:List aL×List Int×Int→Option (ah×Int)):
  iter (ij al .al n (aq x.ops) x (u,e) k) n ([],[],0)=k ((kR u x.ops 0 ([],[])).1,(kR u x.ops 0 ([],[])).2,(x.ops.length:Int)):=by
 have hlen:=hx.len
 refine bA (body:=ij al .al n (aq x.ops) x (u,e) k) (mk:=fun(a:List aL×List Int) i=>(a.1,a.2,(i:Int))) (fun a r i=>k ((kR u r i a).1,(kR u r i a).2,(x.ops.length:Int))) (fun a i=>a.2.length=i∧a.1.length≤i) x.ops (by omega) ?_ ?_ n (by omega) ([],[]) ⟨rfl,Nat.le_refl _⟩
 ·rintro self ⟨out,sl⟩ i o r ⟨E9,KK⟩ hd hi e1 e2 e3 ih
  have ho:x.ops[i]? =some o:=by rw[←dZ];exact e1
  have hm:o∈x.ops:=List.mem_of_getElem? ho
  dsimp only at E9 KK
  have cQ: ∀a∈o.args,0≤a∧a<sl.length:=fun a ha=>by have:=hx.args i o ho a ha;omega
  have hui:gI u (i:Int)=some (u.getD i false):=by rw[dZ];simp[List.getD_eq_getElem?_getD,show i<u.length by omega]
  simp only[ij,e2,cond_true,e1,Option.bind_some,hui,Dv hn cQ (hx.ar o hm)]
  have Nt:=IU (y:=bE sl o.args) (l:=out) (k:=o.kind) (z:=o.num) (nm:=o.name) (by rw[k8];have:=hx.ar o hm;omega) (by omega)
  simp only[Option.bind_some]at Nt
  rw[Nt]
  rw[dm]
  conv=>rhs;unfold kR
  cases u.getD i false with
  |true=>
   simp only[Bool.not_true,cond_false,Option.bind_some,cond_true]
   rw[bd (by omega) (by omega),Option.bind_some,Option.bind_some,e3]
   exact ih (out++[⟨o.kind,o.name,o.num,bE sl o.args⟩],sl++[(out.length:Int)]) ⟨by simp[E9],by simp;omega⟩
  |false=>
   simp only[Bool.not_false,cond_true,cond_false]
   rw[bd (by omega) (by omega),Option.bind_some,Option.bind_some,e3]
   exact ih (out,sl++[0]) ⟨by simp[E9],by dsimp only;omega⟩
 ·rintro self ⟨out,sl⟩ _ e
  simp only[ij,e,cond_false]
  rfl
theorem Nx{x:ae}(hx:kT x)(hk: ∀o∈x.ops,cj o=decide (3<o.kind)):nT al .al n x=some (rK x):=by
 have hlen:=hx.len
 have r7:=hx.res
 have hul:(ll x).length=x.ops.length:=FZ x
 unfold nT
 have OO:vc 8 (aq x.ops) (0:Int)=some (List.replicate x.ops.length 0):=vM (by omega) (by omega)
 rw[Ma hn hx hk,Option.bind_some,Option.bind_some,OO,Option.bind_some]
 have:=bA (body:=gW al .al n x (List.replicate x.ops.length 0) (ll x) fun(tw,qQ,eh)=>
   (gN (Md.al.ln (List.replicate x.ops.length (0:Int))) x.result).bind fun k20=>(gK tw k20).bind fun wJ=>some (⟨x.head,x.kids,qQ,wJ⟩:ae)) (mk:=fun(a:List aL×List Int) i=>(a.2++List.replicate (x.ops.length - i) (0:Int),a.1,(i:Int)))
   (fun a r i=>some ⟨x.head,x.kids,(kR (ll x) r i a).1,(kR (ll x) r i a).2.getD x.result.toNat 0⟩) (fun a i=>a.2.length=i∧a.1.length≤i) x.ops (by omega) ?_ ?_ n (by omega) ([],[]) ⟨rfl,Nat.le_refl _⟩
 ·simpa[rK]using this
 ·rintro self ⟨out,sl⟩ i o r ⟨E9,KK⟩ hd hi e1 e2 e3 ih
  have ho:x.ops[i]? =some o:=by rw[←dZ];exact e1
  have hm:o∈x.ops:=List.mem_of_getElem? ho
  dsimp only at E9 KK
  have hui:gI (ll x) (i:Int)=some ((ll x).getD i false):=by rw[dZ];simp[List.getD_eq_getElem?_getD,show i<(ll x).length by omega]
  have ke:Md.al.ln (List.replicate x.ops.length (0:Int))=x.ops.length:=by simp[Md.al]
  have hsp:List.replicate (x.ops.length - i) (0:Int)=0::List.replicate (x.ops.length - (i+1)) 0:=by
   rw[show x.ops.length - i=(x.ops.length - (i+1))+1 by omega,List.replicate_succ]
  simp only[gW,Option.bind_some,e2,cond_true,e1,hui,ke,oU hi]
  conv=>rhs;unfold kR
  cases(ll x).getD i false with
  |true=>
   have Cl:(sl++List.replicate (x.ops.length - i) (0:Int)).set i (out.length:Int)=(sl++[(out.length:Int)])++List.replicate (x.ops.length - (i+1)) 0:=by
    rw[hsp,List.set_append_right _ _ (by omega),E9]
    simp
   have hL:((sl++[(out.length:Int)])++List.replicate (x.ops.length - (i+1)) (0:Int)).length=x.ops.length:=by simp;omega
   have Nh:bE ((sl++[(out.length:Int)])++List.replicate (x.ops.length - (i+1)) 0) o.args=bE sl o.args:=by
    unfold bE
    apply List.map_congr_left
    intro a ha
    have:=hx.args i o ho a ha
    rw[List.append_assoc]
    simp only[List.getD_eq_getElem?_getD]
    rw[List.getElem?_append_left (by omega)]
   rw[cond_true,KU (show i<(sl++List.replicate (x.ops.length - i) (0:Int)).length by simp;omega),Option.bind_some,nR (show i<(sl++List.replicate (x.ops.length - i) (0:Int)).length by simp;omega),Option.bind_some]
   have hz:aq out=(out.length:Int):=rfl
   rw[hz,Cl,kL hL.symm,Option.bind_some,Gr hn (fun a ha=>by have:=hx.args i o ho a ha;omega) (hx.ar o hm),Option.bind_some,Nh,bd (by omega) (by omega),Option.bind_some,e3]
   exact ih (out++[⟨o.kind,o.name,o.num,bE sl o.args⟩],sl++[(out.length:Int)]) ⟨by simp[E9],by simp;omega⟩
  |false=>
   rw[cond_false,e3]
   have:=ih (out,sl++[0]) ⟨by simp[E9],by dsimp only;omega⟩
   dsimp only at this
   rw[hsp]
   rw[List.append_assoc]at this
   exact this
 ·rintro self ⟨out,sl⟩ ⟨E9,_⟩ e
  dsimp only at E9
  have ke:Md.al.ln (List.replicate x.ops.length (0:Int))=x.ops.length:=by simp[Md.al]
  simp only[gW,Option.bind_some,e,cond_false,ke,BP r7.1 r7.2,kR,Nat.sub_self,List.replicate_zero,List.append_nil]
  rw[KU (by omega),Option.bind_some]
  congr 2
  rw[List.getD_eq_getElem?_getD,List.getElem?_eq_getElem (by omega)];rfl
end
end Ab
namespace Ab
open Go
set_option maxRecDepth 10000
theorem wo{α:Type}{l:List α}{i:Nat}{x:α}{r:List α}(h:l.drop i=x::r):l[i]? =some x:=by rw[←dZ];exact kX h
theorem dW{α:Type}{l:List α}{i:Nat}{x:α}{r:List α}(h:l.drop i=x::r):x∈l:=List.mem_of_getElem? (wo h)
section
variable{n:Nat}(hn:100<n)
 include hn
theorem UN{c:ah}(hc:Fa c)(h0:dr c=0)(hg:uM c){i:Nat}{b:aj}{rb:List aj}(hb:c.blocks.drop i=b::rb){l9:List aj}(Uk:l9.length=c.blocks.length)(k:List Bool×List aj×Int→Option (ah×Int))(R:Option (ah×Int))
  (hk: ∀u,k (u,dI rK c.blocks (i+1) 0,(b.ag.length:Int))=R)(u:List Bool):iter (ik al .al n c l9 (aq b.ag) b (i:Int) k) n (u,dI rK c.blocks i 0,0)=R:=by
 have Ns:=dW hb
 have hbr:=hc.br b Ns
 have hi:i<c.blocks.length:=(List.getElem?_eq_some_iff.1 (wo hb)).1
 refine bA (body:=ik al .al n c l9 (aq b.ag) b (i:Int) k) (mk:=fun(a:List Bool×List aj) j=>(a.1,a.2,(j:Int))) (fun _ _ _=>R) (fun a j=>a.2=dI rK c.blocks i j) b.ag (by omega) ?_ ?_ n (by omega) (u,_) rfl
 ·rintro self ⟨u,L⟩ j x r hp hd hj e1 e2 e3 ih
  dsimp only at hp
  subst hp
  have hx:=hg.x hc Ns (dW hd)
  have r7:=hx.res
  have hU:=K6 hn hc h0 (i:=i) (j:=j) (kX hb) e1 hx
  have hg0: ∀{a b:Int},gK [a,b] 0=some a:=rfl
  have hg1: ∀{a b:Int},gK [a,b] 1=some b:=rfl
  simp only[ik,e2,cond_true,e1,Option.bind_some,show lW 2 (List.replicate 2 (0:Int))=some ()from rfl,show∀a b:Int,lW 2 [a,b]=some ()from fun _ _=>rfl,show gN 2 0=some 0 from rfl,show gN 2 1=some 1 from rfl,hg0,hg1,hU]
  rw[Qs hn hx (FZ x)]
  have Ui:=GI (ll x) x.ops 0 ([],[])
  have hr:gI (kR (ll x) x.ops 0 ([],[])).2 x.result=some ((kR (ll x) x.ops 0 ([],[])).2.getD x.result.toNat 0):=zC r7.1 (by rw[Ui];simpa using r7.2)
  have ke:Md.al.ln l9=c.blocks.length:=Uk
  simp only[hr,Option.bind_some,ke,oU hi,yu hb]
  rw[bd (by omega) (by simp;omega),Option.bind_some]
  have:=yt (F:=rK) hb hd
  unfold rK at this ⊢
  rw[this,Option.bind_some,e3]
  exact ih (ll x,_) rfl
 ·rintro self ⟨u,L⟩ hp e
  dsimp only at hp
  subst hp
  simp only[ik,e,cond_false]
  rw[wA hb];exact hk u
theorem UO{c:ah}(hc:Fa c)(h0:dr c=0)(hg:uM c){l9:List aj}(Uk:l9.length=c.blocks.length)(k:List Bool×List aj×Int→Option (ah×Int))(R:Option (ah×Int))
  (hk: ∀u,k (u,c.blocks.map (qV rK),(c.blocks.length:Int))=R)(u:List Bool):iter (il al .al n c l9 (aq c.blocks) k) n (u,c.blocks.map bare,0)=R:=by
 have OQ:=hc.bl
 refine(bA (body:=il al .al n c l9 (aq c.blocks) k) (mk:=fun(a:List Bool×List aj) j=>(a.1,a.2,(j:Int))) (fun _ _ _=>R) (fun a j=>a.2=dI rK c.blocks j 0) c.blocks (by omega) ?_ ?_ n (by omega) (u,_) EK.symm)
 ·rintro self ⟨u,L⟩ i b r hp hd hi e1 e2 e3 ih
  dsimp only at hp
  subst hp
  simp only[il,e2,cond_true,e1,Option.bind_some]
  refine UN hn hc h0 hg hd Uk _ R (fun u=>?_) u
  dsimp only
  rw[e3];exact ih (u,_) rfl
 ·rintro self ⟨u,L⟩ hp e
  dsimp only at hp
  subst hp
  simp only[il,e,cond_false]
  rw[yw];exact hk u
theorem UP{c:ah}(OQ:c.blocks.length≤16)(k:List aj×Int→Option (ah×Int)){b:aj}{r:List aj}(hb:c.blocks=b::r):iter (im al .al n c (aq c.blocks) k) n ([bare b],1)=k (c.blocks.map bare,(c.blocks.length:Int)):=by
 have:=AO (body:=im al .al n c (aq c.blocks) k) (mk:=fun(a:List aj) j=>(a,(j:Int))) (fun a r _=>k (a++r.map bare,(c.blocks.length:Int))) (fun a i=>a.length=i) c.blocks (by omega) ?_ ?_ n 1 (by rw[hb];simp) (by omega) [bare b] rfl
 ·refine this.trans ?_
  rw[hb];rfl
 ·intro self l i x r hp hd hi e1 e2 e3 ih
  simp only[im,e2,cond_true,e1,Option.bind_some]
  rw[bd (by omega) (by omega),Option.bind_some,e3,ih _ (by simp[hp])]
  simp[bare]
 ·intro self l hp e
  simp only[im,e,cond_false]
  simp
theorem ZI{c:ah}(hc:Fa c):je al .al n c=some (bif decide (dr c=0)then(⟨c.blocks.map (qV rK)⟩,0)else(⟨[]⟩,dr c)):=by
 unfold je
 rw[zZ hn hc,Option.bind_some,dm,dp]
 by_cases h0:dr c=0
 ·have hg:=lg h0
  have OQ:=hc.bl
  obtain⟨b,r,hb⟩: ∃b r,c.blocks=b::r:=by
   cases h:c.blocks with
   |nil=>have:=hg.some.1;rw[h]at this;simp at this
   |cons b r=>exact⟨b,r,rfl⟩
  rw[decide_eq_true h0,Bool.not_true,cond_false,cond_true,Option.bind_some]
  have h1:al.aV 0 (aq c.blocks)=true:=by show decide ((0:Int)<c.blocks.length)=true;rw[hb];simp
  have h2:gI c.blocks 0=some b:=by rw[hb];rfl
  have hw:al.wrap .i64 (al.add 0 1)=1:=by show IntKind.wrap .i64 1=1;rw[ga (by omega)]
  rw[h1,cond_true,h2,Option.bind_some,bd (by omega) (by simp),Option.bind_some,hw]
  refine(UP hn OQ _ hb).trans ?_
  dsimp only
  rw[Option.bind_some]
  refine UO hn hc h0 hg (by simp) _ _ (fun u=>?_) []
  dsimp only
  rw[kL (by simp[Md.al]),Option.bind_some]
 ·rw[decide_eq_false h0,Bool.not_false,cond_true,cond_false]
theorem Tj{c:ah}{p:Int}{F:ae→ae}{i:Nat}{b:aj}{rb:List aj}(hb:c.blocks.drop i=b::rb)(hbl:b.ag.length≤16)(k:List ae×Int→Option ah)
  (hF: ∀(self:List ae×Int→Option ah) (l:List ae) (j:Nat) (x:ae),l.length≤16→x∈b.ag→gI b.ag (j:Int)=some x→al.aV (j:Int) (aq b.ag)=true→al.wrap .i64 (al.add (j:Int) 1)=((j+1:Nat):Int)→
   dy al .al n c p (i:Int) k self (l,(j:Int))=self (l++[F x],((j+1:Nat):Int))):iter (dy al .al n c p (i:Int) k) n ([],0)=k (b.ag.map F,(b.ag.length:Int)):=by
 have:=bA (body:=dy al .al n c p (i:Int) k) (mk:=fun(a:List ae) j=>(a,(j:Int))) (fun a r _=>k (a++r.map F,(b.ag.length:Int))) (fun a i=>a.length=i) b.ag (by omega) ?_ ?_ n (by omega) [] rfl
 ·simpa using this
 ·intro self l j x r hp hd hj e1 e2 e3 ih
  rw[hF self l j x (by omega) (dW hd) e1 e2 e3,ih _ (by simp[hp])]
  simp
 ·intro self l hp e
  simp only[dy,kX hb,Option.bind_some,e,cond_false]
  simp
theorem H2{c:ah}(hc:Fa c){p:Int}{F:ae→ae}
  (hF: ∀(i:Nat) (b:aj) (rb:List aj),c.blocks.drop i=b::rb→ ∀(k:List ae×Int→Option ah) (self:List ae×Int→Option ah) (l:List ae) (j:Nat) (x:ae),l.length≤16→x∈b.ag→gI b.ag (j:Int)=some x→al.aV (j:Int) (aq b.ag)=true→al.wrap .i64 (al.add (j:Int) 1)=((j+1:Nat):Int)→
   dy al .al n c p (i:Int) k self (l,(j:Int))=self (l++[F x],((j+1:Nat):Int))):cB al .al n c p=some ⟨c.blocks.map (qV F)⟩:=by
 have OQ:=hc.bl
 unfold cB
 have:=bA (body:=mi al .al n c p fun(Lu,z25)=>some (⟨Lu⟩:ah)) (mk:=fun(a:List aj) j=>(a,(j:Int))) (fun a r _=>some (⟨a++r.map (qV F)⟩:ah)) (fun a i=>a.length=i) c.blocks (by omega) ?_ ?_ n (by omega) [] rfl
 ·simpa using this
 ·intro self l i b r hp hd hi e1 e2 e3 ih
  simp only[mi,Option.bind_some,e2,cond_true,e1]
  rw[Tj hn hd (hc.br b (dW hd)) _ (hF i b r hd _)]
  dsimp only
  rw[bd (by omega) (by omega),Option.bind_some,e3,ih _ (by simp[hp])]
  simp[qV]
 ·intro self l hp e
  simp only[mi,Option.bind_some,e,cond_false]
  simp
theorem J1{c:ah}(hc:Fa c)(h0:dr c=0)(hk: ∀b∈c.blocks,∀x∈b.ag,∀o∈x.ops,cj o=decide (3<o.kind)):cB al .al n c 1=some ⟨c.blocks.map (qV rK)⟩:=by
 have hg:=lg h0
 refine H2 hn hc fun i b rb hb k self l j x hl hx e1 e2 e3=>?_
 have Ns:=dW hb
 simp only[dy,kX hb,Option.bind_some,e2,cond_true,e1,show al.aJ 1 1=true from rfl,Nx hn (hg.x hc Ns hx) (hk b Ns x hx)]
 rw[bd (by omega) (by omega),Option.bind_some,e3]
end
end Ab
namespace Ab
open Go
set_option maxRecDepth 10000
section
variable{α β:Type}
theorem pP{body:(Int→Option Bool)→Int→Option Bool}(q:α→β→Bool){l:List α}{m:List β}(VE:l.length=m.length)(R:Option Bool)(hl:l.length≤9223372036854775806)
  (h1: ∀(self:Int→Option Bool) (i:Nat) (x:α) (y:β),gI l (i:Int)=some x→gI m (i:Int)=some y→x∈l→y∈m→al.aV (i:Int) (aq l)=true→al.wrap .i64 (al.add (i:Int) 1)=((i+1:Nat):Int)→
   body self (i:Int)=bif q x y then self ((i+1:Nat):Int)else some false)
  (h2: ∀(self:Int→Option Bool),al.aV (l.length:Int) (aq l)=false→body self (l.length:Int)=R){n:Nat}(hn:l.length<n):iter body n 0=bif EN q l m then R else some false:=by
 have:=gv (R:=Bool) (body:=body) (fun r i=>bif EN q r (m.drop i)then R else some false) l hl ?_ ?_ n hn
 ·simpa using this
 ·intro self i x r hd hi e1 e2 e3 ih
  obtain⟨y,s,hy⟩: ∃y s,m.drop i=y::s:=by
   cases h:m.drop i with
   |nil=>simp at h;omega
   |cons y s=>exact⟨y,s,rfl⟩
  have hs:m.drop (i+1)=s:=by rw[←List.drop_drop,hy];rfl
  rw[h1 self i x y e1 (kX hy) (dW hd) (dW hy) e2 e3,ih,hy,hs]
  simp only[EN]
  cases q x y<;>simp
 ·intro self e
  have:m.drop l.length=[]:=by simp[VE]
  rw[h2 self e,this]
  rfl
end
theorem bif_bif{b c:Bool}{R:Option Bool}:(bif b then some c else some false)=some (b&&c):=by cases b<;>rfl
def opEq(x y:aL):Bool:=decide (x=y)
def brEq(x y:ae):Bool:=decide (x=y)
def blEq(x y:aj):Bool:=decide (x=y)
theorem J8{x y:aL}:decide (x=y)=(decide (x.kind=y.kind)&&decide (x.name=y.name)&&decide (x.num=y.num)&&decide (x.args=y.args)):=by
 cases x;cases y;simp[Bool.and_assoc]
theorem U4{x y:ae}:decide (x=y)=(decide (x.head=y.head)&&decide (x.kids=y.kids)&&decide (x.ops=y.ops)&&decide (x.result=y.result)):=by
 cases x;cases y;simp[Bool.and_assoc]
theorem U9{x y:aj}:decide (x=y)=(decide (x.name=y.name)&&decide (x.arity=y.arity)&&decide (x.ag=y.ag)):=by
 cases x;cases y;simp[Bool.and_assoc]
theorem AL{α:Type}[DecidableEq α]{l m:List α}(h:l.length≠m.length):decide (l=m)=false:=decide_eq_false fun e=>h (by rw[e])
structure Szd(c:ah):Prop where
 bl:c.blocks.length≤1000
 br: ∀b∈c.blocks,b.ag.length≤1000
 op: ∀b∈c.blocks,∀x∈b.ag,x.ops.length≤1000
 ar: ∀b∈c.blocks,∀x∈b.ag,∀o∈x.ops,o.args.length≤1000
theorem ieq_dec(a b:Nat):al.aJ (a:Int) (b:Int)=decide (a=b):=by
 show decide ((a:Int)=b)=_
 by_cases h:a=b
 ·subst h;simp
 ·rw[decide_eq_false h,decide_eq_false (by omega)]
section
variable{n:Nat}(hn:1000<n)
 include hn
theorem Aq{x y:ae}(BM:x.ops.length≤1000)(Fz: ∀o∈x.ops,o.args.length≤1000):jx al .al n x y=some (decide (x=y)):=by
 unfold jx
 simp only[Option.bind_some,bK,dQ,dm,sH,dp]
 rw[U4]
 by_cases hl:x.ops.length=y.ops.length
 ·have h0:decide (aq x.ops=aq y.ops)=true:=decide_eq_true (by show(x.ops.length:Int)=y.ops.length;omega)
  rw[pP (fun x y=>decide (x=y)) hl (some true) (by omega) ?_ ?_ (by omega),uD,h0]
  ·cases decide (x.head=y.head)<;>cases decide (x.kids=y.kids)<;>cases decide (x.result=y.result)<;>cases decide (x.ops=y.ops)<;>rfl
  ·intro self i o q e1 e2 ho hq e3 e4
   have ha:=Fz o ho
   simp only[gp,Option.bind_some,e3,cond_true,e1,e2,bK,dQ,dm,sH,dp]
   rw[J8]
   by_cases hla:o.args.length=q.args.length
   ·have h1:decide (aq o.args=aq q.args)=true:=decide_eq_true (by show(o.args.length:Int)=q.args.length;omega)
    rw[pP (fun x y=>decide (x=y)) hla (self ((i+1:Nat):Int)) (by omega) ?_ ?_ (by omega),uD,h1]
    ·cases decide (o.kind=q.kind)<;>cases decide (o.name=q.name)<;>cases decide (o.num=q.num)<;>cases decide (o.args=q.args)<;>rfl
    ·intro Gc j a b f1 f2 _ _ f3 f4
     simp only[gn,Option.bind_some,f3,cond_true,f1,f2,dm,dp,f4]
     cases decide (a=b)<;>rfl
    ·intro Gc f
     simp only[gn,Option.bind_some,f,cond_false,e4]
   ·have h1:decide (aq o.args=aq q.args)=false:=decide_eq_false (by show¬(o.args.length:Int)=q.args.length;omega)
    rw[h1,AL hla]
    simp
  ·intro self f
   simp only[gp,Option.bind_some,f,cond_false]
 ·have h1:decide (aq x.ops=aq y.ops)=false:=decide_eq_false (by show¬(x.ops.length:Int)=y.ops.length;omega)
  rw[h1,AL hl]
  simp
theorem qf{c d:ah}(h:Szd c):aH al .al n c d=some (decide (c=d)):=by
 have hcd:decide (c=d)=decide (c.blocks=d.blocks):=by cases c;cases d;simp
 rw[hcd]
 unfold aH
 simp only[Option.bind_some,dm,dp]
 by_cases hl:c.blocks.length=d.blocks.length
 ·have h0:decide (aq c.blocks=aq d.blocks)=true:=decide_eq_true (by show(c.blocks.length:Int)=d.blocks.length;omega)
  have hb:=h.bl
  rw[pP (fun x y=>decide (x=y)) hl (some true) (by omega) ?_ ?_ (by omega),uD,h0]
  ·cases decide (c.blocks=d.blocks)<;>rfl
  ·intro self i x y e1 e2 hx hy e3 e4
   have hbr:=h.br x hx
   simp only[pI,Option.bind_some,e3,cond_true,e1,e2,bK,dQ,dm,sH,dp]
   rw[U9]
   by_cases hla:x.ag.length=y.ag.length
   ·have h1:decide (aq x.ag=aq y.ag)=true:=decide_eq_true (by show(x.ag.length:Int)=y.ag.length;omega)
    rw[pP (fun x y=>decide (x=y)) hla (self ((i+1:Nat):Int)) (by omega) ?_ ?_ (by omega),uD,h1]
    ·cases decide (x.name=y.name)<;>cases decide (x.arity=y.arity)<;>cases decide (x.ag=y.ag)<;>rfl
    ·intro Gc j a b f1 f2 ha _ f3 f4
     simp only[pH,Option.bind_some,f3,cond_true,f1,f2,dm,f4,Aq hn (h.op x hx a ha) (h.ar x hx a ha)]
     cases decide (a=b)<;>rfl
    ·intro Gc f
     simp only[pH,Option.bind_some,f,cond_false,e4]
   ·have h1:decide (aq x.ag=aq y.ag)=false:=decide_eq_false (by show¬(x.ag.length:Int)=y.ag.length;omega)
    rw[h1,AL hla]
    simp
  ·intro self f
   simp only[pI,Option.bind_some,f,cond_false]
 ·have h1:decide (aq c.blocks=aq d.blocks)=false:=decide_eq_false (by show¬(c.blocks.length:Int)=d.blocks.length;omega)
  rw[h1,AL hl]
  simp
end
end Ab
namespace Ab
open Go
set_option maxRecDepth 10000
section
variable{κ β:Type}[DecidableEq κ]
theorem fw{e:κ×List β}{l:List (κ×List β)}{k:κ}:jS (e::l) k []=if e.1=k then e.2 else jS l k []:=by
 unfold jS
 rw[List.find?_cons]
 by_cases h:e.1=k
 ·rw[if_pos h,decide_eq_true h];rfl
 ·rw[if_neg h,decide_eq_false h]
theorem Jy{k:κ}: ∀{l:List (κ×List β)} {i:Nat},l.findIdx? (fun e=>decide (e.1=k))=some i→ ∃e,l[i]? =some e∧e.1=k∧jS l k []=e.2∧ ∀v k',jS (l.set i (e.1,v)) k' []=if k'=k then v else jS l k' []
 |[],i,h=>by simp at h
 |e::l,i,h=>by
  rw[List.findIdx?_cons]at h
  by_cases he:e.1=k
  ·rw[decide_eq_true he]at h
   simp at h
   subst h
   refine⟨e,rfl,he,by rw[fw,if_pos he],fun v k'=>?_⟩
   rw[List.set_cons_zero,fw,fw,he]
   by_cases hk:k'=k
   ·rw[if_pos hk,if_pos hk.symm]
   ·rw[if_neg hk,if_neg (Ne.symm hk),if_neg (Ne.symm hk)]
  ·rw[decide_eq_false he]at h
   simp at h
   obtain⟨j,hj,rfl⟩:=h
   obtain⟨e',h1,h2,h3,h4⟩:=Jy (l:=l) (i:=j) (by simpa using hj)
   refine⟨e',by simpa using h1,h2,by rw[fw,if_neg he];exact h3,fun v k'=>?_⟩
   rw[List.set_cons_succ,fw,fw,h4]
   by_cases hk:k'=k
   ·subst hk;rw[if_pos rfl,if_neg he,if_pos rfl]
   ·rw[if_neg hk,if_neg hk]
theorem D6{k:κ}: ∀{l:List (κ×List β)},l.findIdx? (fun e=>decide (e.1=k))=none→jS l k []=[]∧ ∀v k',jS (l++[(k,v)]) k' []=if k'=k then v else jS l k' []
 |[],_=>⟨rfl,fun v k'=>by
  rw[List.nil_append,fw]
  by_cases hk:k'=k
  ·rw[if_pos hk,if_pos hk.symm]
  ·rw[if_neg hk,if_neg (Ne.symm hk)]⟩
 |e::l,h=>by
  rw[List.findIdx?_cons]at h
  by_cases he:e.1=k
  ·rw[decide_eq_true he]at h;simp at h
  ·rw[decide_eq_false he]at h
   obtain⟨h1,h2⟩:=D6 (l:=l) (by simpa using h)
   refine⟨by rw[fw,if_neg he];exact h1,fun v k'=>?_⟩
   rw[List.cons_append,fw,fw,h2]
   by_cases hk:k'=k
   ·subst hk;rw[if_pos rfl,if_neg he,if_pos rfl]
   ·rw[if_neg hk,if_neg hk]
theorem Yq{l:List (κ×List β)}{k:κ}: ∃l' i,K4 l k=(l',i,jS l k [])∧ ∀v,∃l'',Hy l' i v=some l''∧ ∀k',jS l'' k' []=if k'=k then v else jS l k' []:=by
 unfold K4
 cases h:l.findIdx? (fun e=>decide (e.1=k))with
 |some i=>
  obtain⟨e,h1,h2,h3,h4⟩:=Jy h
  refine⟨l,i,?_,fun v=>⟨l.set i (e.1,v),?_,h4 v⟩⟩
  ·dsimp only;rw[h1,h3];rfl
  ·unfold Hy;rw[h1];rfl
 |none=>
  obtain⟨h1,h2⟩:=D6 h
  refine⟨l++[(k,[])],l.length,?_,fun v=>⟨l++[(k,v)],?_,h2 v⟩⟩
  ·dsimp only;rw[h1]
  ·unfold Hy
   rw[List.getElem?_append_right (by omega)]
   simp
end
def mD(o:aL):aP:=⟨o.kind,o.name,o.num⟩
def idxs(κ:aP):List aL→Nat→List Int
 |[],_=>[]
 |o::r,i=>(bif decide (mD o=κ)then [(i:Int)]else [])++idxs κ r (i+1)
def ak7(met:List (aP×List Int))(out:List aL):Prop:= ∀κ,jS met κ []=idxs κ out 0
def mz(sl:List Int)(o:aL):aL:=⟨o.kind,o.name,o.num,bE sl o.args⟩
def eu:List aL→List aL×List Int→List aL×List Int
 |[],st=>st
 |o::r,st=>eu r (bif decide (0≤fk (fun q=>decide (q=mz st.2 o)) st.1)then(st.1,st.2++[fk (fun q=>decide (q=mz st.2 o)) st.1])else(st.1++[mz st.2 o],st.2++[(st.1.length:Int)]))
def mf(x:ae):ae:=⟨x.head,x.kids,(eu x.ops ([],[])).1,(eu x.ops ([],[])).2.getD x.result.toNat 0⟩
theorem Dx: ∀(r:List aL) (st:List aL×List Int),(eu r st).2.length=st.2.length+r.length
 |[],st=>rfl
 |o::r,st=>by
  unfold eu
  rw[Dx r]
  cases decide (0≤fk (fun q=>decide (q=mz st.2 o)) st.1)<;>simp<;>omega
theorem KE(κ:aP)(y:aL): ∀(out:List aL) (i:Nat),idxs κ (out++[y]) i=idxs κ out i++(bif decide (mD y=κ)then [((i+out.length:Nat):Int)]else [])
 |[],i=>by simp[idxs]
 |o::r,i=>by
  simp only[List.cons_append,idxs,KE κ y r (i+1),List.append_assoc,List.length_cons]
  rw[show i+1+r.length=i+(r.length+1)by omega]
theorem KD{κ:aP}: ∀{out:List aL} {i:Nat} {z:Int},z∈idxs κ out i→ ∃j o,z=((i+j:Nat):Int)∧out[j]? =some o∧mD o=κ
 |[],i,z,h=>by simp[idxs]at h
 |o::r,i,z,h=>by
  simp only[idxs,List.mem_append]at h
  rcases h with h|h
  ·by_cases hk:mD o=κ
   ·rw[decide_eq_true hk]at h
    simp at h
    exact⟨0,o,by simpa using h,rfl,hk⟩
   ·rw[decide_eq_false hk]at h;simp at h
  ·obtain⟨j,q,h1,h2,h3⟩:=KD h
   exact⟨j+1,q,by rw[h1];omega,by simpa using h2,h3⟩
theorem Ea(κ:aP): ∀(out:List aL) (i:Nat),(idxs κ out i).length≤out.length
 |[],i=>by simp[idxs]
 |o::r,i=>by
  have:=Ea κ r (i+1)
  simp only[idxs,List.length_append,List.length_cons]
  cases decide (mD o=κ)<;>simp<;>omega
theorem GG{y:aL}: ∀(r p:List aL),(idxs (mD y) r p.length).find? (fun j=>decide (gI (p++r) j=some y))=(r.findIdx? fun q=>decide (q=y)).map fun i=>((p.length+i:Nat):Int)
 |[],p=>by simp[idxs]
 |o::r,p=>by
  have ih:=GG (y:=y) r (p++[o])
  rw[List.length_append,List.length_singleton,List.append_assoc,List.singleton_append]at ih
  simp only[idxs]
  rw[List.find?_append,ih,List.findIdx?_cons]
  by_cases ho:o=y
  ·subst ho
   simp[aaR]
  ·rw[decide_eq_false ho]
   have Fx:((bif decide (mD o=mD y)then [(p.length:Int)]else []).find? fun j=>decide (gI (p++o::r) j=some y))=none:=by
    cases decide (mD o=mD y)with
    |true=>simp[aaR,ho]
    |false=>rfl
   rw[Fx]
   cases r.findIdx? (fun q=>decide (q=y))with
   |none=>rfl
   |some i=>simp;omega
theorem Ux{y:aL}{out:List aL}:(idxs (mD y) out 0).find? (fun j=>decide (gI out j=some y))=bif decide (0≤fk (fun q=>decide (q=y)) out)then some (fk (fun q=>decide (q=y)) out)else none:=by
 have:=GG (y:=y) out []
 rw[List.nil_append,List.length_nil]at this
 rw[this]
 unfold fk
 cases out.findIdx? (fun q=>decide (q=y))with
 |none=>rfl
 |some i=>simp
section
variable{n:Nat}(hn:100<n)
 include hn
theorem K3{l m:List Int}(hl:l.length≤100):dq al .al n l m=some (decide (l=m)):=by
 unfold dq
 simp only[Option.bind_some,dm,dp]
 by_cases VE:l.length=m.length
 ·have h0:decide (aq l=aq m)=true:=decide_eq_true (by show(l.length:Int)=m.length;omega)
  rw[h0,pP (fun x y=>decide (x=y)) VE (some true) (by omega) ?_ ?_ (by omega),uD]
  ·cases decide (l=m)<;>rfl
  ·intro self i x y e1 e2 _ _ e3 e4
   simp only[gd,e3,cond_true,e1,e2,Option.bind_some,dm,dp,e4]
   cases decide (x=y)<;>rfl
  ·intro self e
   simp only[gd,e,cond_false]
 ·have h0:decide (aq l=aq m)=false:=decide_eq_false (by show¬(l.length:Int)=m.length;omega)
  rw[h0,AL VE];rfl
theorem PC{out:List aL}{o:aL}{y:List Int}(hL: ∀q∈out,q.args.length≤50)(ho:out.length≤70)(k:Int×Int→Option ((List (aP×List Int))×(List aL)×(List Int)))(k2:Int→Option ((List (aP×List Int))×(List aL)×(List Int)))
  (K:Int→Option ((List (aP×List Int))×(List aL)×(List Int)))(R:Option ((List (aP×List Int))×(List aL)×(List Int)))(hk: ∀z j,k (z,j)=K j)(Ef: ∀z,k2 z=R):
  iter (eD al .al n out (aq (idxs (mD o) out 0)) o (idxs (mD o) out 0) y k k2) n 0=bif decide (0≤fk (fun q=>decide (q=⟨o.kind,o.name,o.num,y⟩)) out)then K (fk (fun q=>decide (q=⟨o.kind,o.name,o.num,y⟩)) out)else R:=by
 have hil:=Ea (mD o) out 0
 have Ul:mD o=mD ⟨o.kind,o.name,o.num,y⟩:=rfl
 have:=gv (R:=(List (aP×List Int))×(List aL)×(List Int)) (body:=eD al .al n out (aq (idxs (mD o) out 0)) o (idxs (mD o) out 0) y k k2)
  (fun r _=>match r.find? (fun j=>decide (gI out j=some (⟨o.kind,o.name,o.num,y⟩:aL)))with|some j=>K j|none=>R) (idxs (mD o) out 0) (by omega) ?_ ?_ n (by omega)
 ·rw[this,Ul,Ux]
  cases decide (0≤fk (fun q=>decide (q=(⟨o.kind,o.name,o.num,y⟩:aL))) out)<;>rfl
 ·intro self i z r hd hi e1 e2 e3 ih
  obtain⟨j,q,h1,h2,h3⟩:=KD (dW hd)
  rw[Nat.zero_add]at h1
  subst h1
  have hq:gI out (j:Int)=some q:=by rw[dZ];exact h2
  have hqk:(⟨q.kind,q.name,q.num⟩:aP)=⟨o.kind,o.name,o.num⟩:=h3
  simp only[eD,e2,cond_true,e1,Option.bind_some,hq,decide_eq_true hqk,e3,K3 hn (show q.args.length≤100 by have:=hL q (List.mem_of_getElem? h2);omega),cJ,bK,hk]
  rw[List.find?_cons,hq]
  have he:decide (some q=some (⟨o.kind,o.name,o.num,y⟩:aL))=decide (q.args=y):=by
   obtain⟨qk,qn,qz,qa⟩:=q
   simp at hqk ⊢
   obtain⟨rfl,rfl,rfl⟩:=hqk
   simp
  rw[he]
  cases decide (q.args=y)with
  |true=>rfl
  |false=>exact ih
 ·intro self e
  simp only[eD,e,cond_false]
  exact Ef _
end
end Ab
namespace Ab
open Go
set_option maxRecDepth 10000
def agP(out:List aL):Prop:= ∀q∈out,q.args.length≤50
section
variable{n:Nat}(hn:100<n)
 include hn
theorem L7{x:ae}(hx:kT x)(k:List aL×List Int×List (aP×List Int)×Int→Option (ah×Int))(R:Option (ah×Int))(hk: ∀m,k ((eu x.ops ([],[])).1,(eu x.ops ([],[])).2,m,(x.ops.length:Int))=R):
  iter (fL al .al n (aq x.ops) x k) n ([],[],[],0)=R:=by
 have hlen:=hx.len
 refine bA (body:=fL al .al n (aq x.ops) x k) (mk:=fun(a:(List aL×List Int)×List (aP×List Int)) i=>(a.1.1,a.1.2,a.2,(i:Int))) (fun _ _ _=>R)
  (fun a i=>a.1.2.length=i∧a.1.1.length≤i∧ak7 a.2 a.1.1∧agP a.1.1∧eu (x.ops.drop i) a.1=eu x.ops ([],[])) x.ops (by omega) ?_ ?_ n (by omega) (([],[]),[]) ⟨rfl,Nat.le_refl _,fun κ=>rfl,fun q hq=>by simp at hq,rfl⟩
 ·rintro self ⟨⟨out,sl⟩,met⟩ i o r ⟨E9,KK,hm,Fz,hS⟩ hd hi e1 e2 e3 ih
  have ho:x.ops[i]? =some o:=by rw[←dZ];exact e1
  have AR:o∈x.ops:=List.mem_of_getElem? ho
  dsimp only at E9 KK hm Fz hS
  have cQ: ∀a∈o.args,0≤a∧a<sl.length:=fun a ha=>by have:=hx.args i o ho a ha;omega
  have hoa:=hx.ar o AR
  have na:x.ops.drop (i+1)=r:=by rw[←List.drop_drop,hd];rfl
  rw[hd]at hS
  have hS:eu r (bif decide (0≤fk (fun q=>decide (q=mz sl o)) out)then(out,sl++[fk (fun q=>decide (q=mz sl o)) out])else(out++[mz sl o],sl++[(out.length:Int)]))=eu x.ops ([],[]):=hS
  have Nt:=IU (y:=bE sl o.args) (l:=out) (k:=o.kind) (z:=o.num) (nm:=o.name) (by rw[k8];omega) (by omega)
  simp only[Option.bind_some]at Nt
  have aj0:lQ (Md.al.ln (List.replicate (bE sl o.args).length (0:Int))) (bE sl o.args) (List.replicate (bE sl o.args).length 0)=bE sl o.args:=K7 (by simp)
  have hmk:vc 8 (aq (bE sl o.args)) (0:Int)=some (List.replicate (bE sl o.args).length 0):=vM (by omega) (by rw[k8];omega)
  have hw: ∀q:aL,al.wrap .i64 (al.sub (aq (out++[q])) 1)=(out.length:Int):=fun q=>by
   show IntKind.wrap .i64 (((out++[q]).length:Int) - 1)=_
   rw[List.length_append,List.length_singleton,show(((out.length+1:Nat):Int) - 1)=(out.length:Int)by omega,Dg (by omega)]
  obtain⟨l',ix,vW,Cl⟩:=Yq (l:=met) (k:=mD o)
  obtain⟨aei,aax,ajw⟩:=Cl (jS met (mD o) []++[(out.length:Int)])
  have e8:=hm (mD o)
  have hil:=Ea (mD o) out 0
  have vV:((bif al.aJ (aq (bE sl o.args)) 0 then
     (aI 56 out (⟨o.kind,o.name,o.num,[]⟩:aL)).bind fun P6=>
      (match K4 met (⟨o.kind,o.name,o.num⟩:aP)with|(QQ,k51,XJ)=>(aI 8 XJ (al.wrap .i64 (al.sub (aq P6) 1))).bind fun OA=>(Hy QQ k51 OA).bind fun QP=>(aI 8 sl (al.wrap .i64 (al.sub (aq P6) 1))).bind fun M9=>some (QP,P6,M9))
    else
     (dM (Md.al.ln (List.replicate (bE sl o.args).length (0:Int))) (bE sl o.args)).bind fun u57=>
      (aI 56 out (⟨o.kind,o.name,o.num,bE sl o.args⟩:aL)).bind fun l58=>
      (match K4 met (⟨o.kind,o.name,o.num⟩:aP)with|(l61,XR,l63)=>(aI 8 l63 (al.wrap .i64 (al.sub (aq l58) 1))).bind fun P4=>(Hy l61 XR P4).bind fun Ls=>(aI 8 sl (al.wrap .i64 (al.sub (aq l58) 1))).bind fun l67=>some (Ls,l58,l67))):Option (List (aP×List Int)×List aL×List Int))
    =some (aei,out++[mz sl o],sl++[(out.length:Int)]):=by
   have hk0:(⟨o.kind,o.name,o.num⟩:aP)=mD o:=rfl
   rw[hk0,vW]
   have hl0:(jS met (mD o) []).length≤70:=by rw[e8];omega
   by_cases h0:bE sl o.args=[]
   ·have:al.aJ (aq (bE sl o.args)) 0=true:=by rw[h0];rfl
    rw[this,cond_true,bd (by omega) (by omega),Option.bind_some]
    dsimp only
    rw[hw,bd (by omega) (by omega),Option.bind_some,aax,Option.bind_some,bd (by omega) (by omega),Option.bind_some,mz,h0]
   ·have:al.aJ (aq (bE sl o.args)) 0=false:=by
     show decide (((bE sl o.args).length:Int)=0)=false
     have:(bE sl o.args).length≠0:=fun h=>h0 (List.eq_nil_of_length_eq_zero h)
     exact decide_eq_false (by omega)
    rw[this,cond_false,kL (by simp[Md.al]),Option.bind_some,bd (by omega) (by omega),Option.bind_some]
    dsimp only
    rw[hw,bd (by omega) (by omega),Option.bind_some,aax,Option.bind_some,bd (by omega) (by omega),Option.bind_some,mz]
  simp only[fL,e2,cond_true,e1,Option.bind_some,Dv hn cQ hoa]
  have X2:jS met (⟨o.kind,o.name,o.num⟩:aP) []=idxs (mD o) out 0:=e8
  simp only[X2]
  rw[PC hn Fz (by omega) _ _ (fun j=>some (met,out,sl++[j])) (some (aei,out++[mz sl o],sl++[(out.length:Int)])) (fun z j=>by
   dsimp only
   rw[bd (by omega) (by omega),Option.bind_some]) (fun z=>by
   rw[hmk,Option.bind_some,aj0]
   exact vV)]
  have hy:mz sl o=⟨o.kind,o.name,o.num,bE sl o.args⟩:=rfl
  rw[←hy]
  cases hJ:decide (0≤fk (fun q=>decide (q=mz sl o)) out)with
  |true=>
   rw[hJ]at hS
   simp only[cond_true,Option.bind_some]
   rw[e3]
   exact ih ((out,sl++[fk (fun q=>decide (q=mz sl o)) out]),met) ⟨by simp[E9],by dsimp only;omega,hm,Fz,by rw[na];exact hS⟩
  |false=>
   rw[hJ]at hS
   simp only[cond_false,Option.bind_some]
   rw[e3]
   refine ih ((out++[mz sl o],sl++[(out.length:Int)]),aei) ⟨by simp[E9],by simp;omega,fun κ=>?_,fun q hq=>?_,by rw[na];exact hS⟩
   ·dsimp only
    rw[ajw,KE,Nat.zero_add]
    have hkn:mD (mz sl o)=mD o:=rfl
    rw[hkn]
    by_cases hκ:κ=mD o
    ·subst hκ;rw[if_pos rfl,decide_eq_true rfl,cond_true,e8]
    ·rw[if_neg hκ,decide_eq_false (Ne.symm hκ),cond_false,List.append_nil];exact hm κ
   ·rcases List.mem_append.1 hq with hq|hq
    ·exact Fz q hq
    ·rw[List.mem_singleton.1 hq];show(bE sl o.args).length≤50;rw[k8];exact hoa
 ·rintro self ⟨⟨out,sl⟩,met⟩ ⟨E9,KK,hm,Fz,hS⟩ e
  dsimp only at hS
  rw[List.drop_length]at hS
  simp only[fL,e,cond_false]
  have:=hk met
  rw[←hS]at this
  exact this
theorem HF{o q:aL}(hl:o.args.length≤50):tJ al .al n o q=some (decide (o=q)):=by
 unfold tJ
 simp only[Option.bind_some,bK,dQ,dm,sH,dp]
 rw[J8]
 by_cases hla:o.args.length=q.args.length
 ·have h1:decide (aq o.args=aq q.args)=true:=decide_eq_true (by show(o.args.length:Int)=q.args.length;omega)
  rw[pP (fun x y=>decide (x=y)) hla (some true) (by omega) ?_ ?_ (by omega),uD,h1]
  ·cases decide (o.kind=q.kind)<;>cases decide (o.name=q.name)<;>cases decide (o.num=q.num)<;>cases decide (o.args=q.args)<;>rfl
  ·intro Gc j a b f1 f2 _ _ f3 f4
   simp only[pG,Option.bind_some,f3,cond_true,f1,f2,dm,dp,f4]
   cases decide (a=b)<;>rfl
  ·intro Gc f
   simp only[pG,Option.bind_some,f,cond_false]
 ·have h1:decide (aq o.args=aq q.args)=false:=decide_eq_false (by show¬(o.args.length:Int)=q.args.length;omega)
  rw[h1,AL hla]
  simp
theorem L6{out:List aL}{y:aL}(hL:agP out)(ho:out.length≤70)(k:Int×Int→Option ae)(K:Int→Option ae)(hk: ∀z j,k (z,j)=K z):
  iter (bX al .al n out y k) n (-1,0)=K (fk (fun q=>decide (q=y)) out):=by
 have key: ∀(r:List aL) (m i:Nat) (z:Int),out.drop i=r→i≤out.length→r.length+1<m→(z= -1→iter (bX al .al n out y k) m (z,(i:Int))=K (match r.findIdx? (fun q=>decide (q=y))with|some j=>((i+j:Nat):Int)|none=> -1))∧(0≤z→iter (bX al .al n out y k) m (z,(i:Int))=K z):=by
  intro r
  induction r with
  |nil=>
   intro m i z hd hi hm
   obtain⟨m,rfl⟩: ∃m',m=m'+1:=⟨m - 1,by omega⟩
   have VH:out.length≤i:=by simpa using hd
   have h1:al.aV (i:Int) (aq out)=false:=decide_eq_false (by show¬(i:Int)<out.length;omega)
   have hit:iter (bX al .al n out y k) (m+1) (z,(i:Int))=K z:=by
    show bX al .al n out y k _ (z,(i:Int))=_
    simp only[bX,Option.bind_some,h1,bK,cond_false,hk]
   exact⟨fun h=>by rw[hit,h];rfl,fun _=>hit⟩
  |cons q r ih=>
   intro m i z hd hi hm
   obtain⟨m,rfl⟩: ∃m',m=m'+1:=⟨m - 1,by omega⟩
   have aU:i<out.length:=(List.getElem?_eq_some_iff.1 (wo hd)).1
   have h1:al.aV (i:Int) (aq out)=true:=decide_eq_true (by show(i:Int)<out.length;omega)
   have na:out.drop (i+1)=r:=by rw[←List.drop_drop,hd];rfl
   have hw:al.wrap .i64 (al.add (i:Int) 1)=((i+1:Nat):Int):=by show IntKind.wrap .i64 ((i:Int)+1)=_;rw[FW (by omega)]
   constructor
   ·rintro rfl
    show bX al .al n out y k _ (-1,(i:Int))=_
    have h2:al.aV (-1) 0=true:=rfl
    simp only[bX,Option.bind_some,h1,h2,bK,cond_true,kX hd,HF hn (hL q (dW hd)),hw]
    rw[List.findIdx?_cons]
    cases hq:decide (q=y)with
    |true=>
     rw[cond_true]
     refine((ih m (i+1) (i:Int) na aU (by simp at hm;omega)).2 (by omega)).trans ?_
     simp
    |false=>
     rw[cond_false]
     refine((ih m (i+1) (-1) na aU (by simp at hm;omega)).1 rfl).trans ?_
     cases r.findIdx? (fun q=>decide (q=y))with
     |none=>rfl
     |some j=>simp;congr 1;omega
   ·intro hz
    show bX al .al n out y k _ (z,(i:Int))=_
    have h2:al.aV z 0=false:=decide_eq_false (by omega)
    simp only[bX,Option.bind_some,h1,h2,bK,cond_true,cond_false,hk]
 have:=(key out n 0 (-1) rfl (Nat.zero_le _) (by omega)).1 rfl
 refine this.trans ?_
 unfold fk
 cases out.findIdx? (fun q=>decide (q=y))<;>simp
end
end Ab
namespace Ab
open Go
set_option maxRecDepth 10000
section
variable{n:Nat}(hn:100<n)
 include hn
theorem Hx{x:ae}(hx:kT x):pF al .al n x=some (mf x):=by
 have hlen:=hx.len
 have r7:=hx.res
 unfold pF
 have OO:vc 8 (aq x.ops) (0:Int)=some (List.replicate x.ops.length 0):=vM (by omega) (by omega)
 rw[Option.bind_some,OO,Option.bind_some]
 have ke:Md.al.ln (List.replicate x.ops.length (0:Int))=x.ops.length:=by simp[Md.al]
 have:=bA (body:=iX al .al n x (List.replicate x.ops.length 0) fun(Kt,Ik,z27)=>
   (gN (Md.al.ln (List.replicate x.ops.length (0:Int))) x.result).bind fun k28=>(gK Kt k28).bind fun pM=>some (⟨x.head,x.kids,Ik,pM⟩:ae)) (mk:=fun(a:List aL×List Int) i=>(a.2++List.replicate (x.ops.length - i) (0:Int),a.1,(i:Int)))
   (fun a r i=>some ⟨x.head,x.kids,(eu r a).1,(eu r a).2.getD x.result.toNat 0⟩) (fun a i=>a.2.length=i∧a.1.length≤i∧agP a.1) x.ops (by omega) ?_ ?_ n (by omega) ([],[]) ⟨rfl,Nat.le_refl _,fun q hq=>by simp at hq⟩
 ·simpa[mf]using this
 ·rintro self ⟨out,sl⟩ i o r ⟨E9,KK,Fz⟩ hd hi e1 e2 e3 ih
  have ho:x.ops[i]? =some o:=by rw[←dZ];exact e1
  have hm:o∈x.ops:=List.mem_of_getElem? ho
  have hoa:=hx.ar o hm
  dsimp only at E9 KK Fz
  have hsp:List.replicate (x.ops.length - i) (0:Int)=0::List.replicate (x.ops.length - (i+1)) 0:=by
   rw[show x.ops.length - i=(x.ops.length - (i+1))+1 by omega,List.replicate_succ]
  have hL:(sl++List.replicate (x.ops.length - i) (0:Int)).length=x.ops.length:=by simp;omega
  have Cl: ∀v:Int,gg (sl++List.replicate (x.ops.length - i) (0:Int)) i v=some ((sl++[v])++List.replicate (x.ops.length - (i+1)) 0):=fun v=>by
   rw[nR (by omega),hsp,List.set_append_right _ _ (by omega),E9]
   simp
  have Nh:bE (sl++List.replicate (x.ops.length - i) 0) o.args=bE sl o.args:=by
   unfold bE
   apply List.map_congr_left
   intro a ha
   have:=hx.args i o ho a ha
   simp only[List.getD_eq_getElem?_getD]
   rw[List.getElem?_append_left (by omega)]
  have Nj:fa al .al n o (sl++List.replicate (x.ops.length - i) 0)=some (mz sl o):=by
   rw[Gr hn (fun a ha=>by have:=hx.args i o ho a ha;omega) hoa,Nh];rfl
  simp only[iX,Option.bind_some,e2,cond_true,e1,ke,kL hL.symm,Nj]
  rw[L6 hn Fz (by omega) _ (fun J=>bif al.aV J 0 then self ((sl++[(out.length:Int)])++List.replicate (x.ops.length - (i+1)) 0,out++[mz sl o],((i+1:Nat):Int))else self ((sl++[J])++List.replicate (x.ops.length - (i+1)) 0,out,((i+1:Nat):Int)))
   (fun z j=>by
    dsimp only
    rw[bd (by omega) (by omega),oU hi]
    simp only[Option.bind_some]
    rw[KU (by omega)]
    simp only[Option.bind_some]
    have hz:aq out=(out.length:Int):=rfl
    rw[Cl,Cl,hz]
    simp only[Option.bind_some]
    rw[e3])]
  have hil:=Iu (fun q=>decide (q=mz sl o)) out
  have aoU:eu (o::r) (out,sl)=eu r (bif decide (0≤fk (fun q=>decide (q=mz sl o)) out)then(out,sl++[fk (fun q=>decide (q=mz sl o)) out])else(out++[mz sl o],sl++[(out.length:Int)])):=rfl
  rw[aoU]
  generalize fk (fun q=>decide (q=mz sl o)) out=J at hil
  by_cases hJ:0≤J
  ·have:al.aV J 0=false:=decide_eq_false (by omega)
   rw[this,cond_false,decide_eq_true hJ,cond_true]
   exact ih (out,sl++[J]) ⟨by simp[E9],by dsimp only;omega,Fz⟩
  ·have:al.aV J 0=true:=decide_eq_true (by omega)
   rw[this,cond_true,decide_eq_false hJ,cond_false]
   refine ih (out++[mz sl o],sl++[(out.length:Int)]) ⟨by simp[E9],by simp;omega,fun q hq=>?_⟩
   rcases List.mem_append.1 hq with hq|hq
   ·exact Fz q hq
   ·rw[List.mem_singleton.1 hq];show(bE sl o.args).length≤50;rw[k8];exact hoa
 ·rintro self ⟨out,sl⟩ ⟨E9,_⟩ e
  dsimp only at E9
  simp only[iX,Option.bind_some,e,cond_false,ke,BP r7.1 r7.2,eu,Nat.sub_self,List.replicate_zero,List.append_nil]
  rw[KU (by omega),Option.bind_some]
  congr 2
  rw[List.getD_eq_getElem?_getD,List.getElem?_eq_getElem (by omega)];rfl
theorem PD{c:ah}(hc:Fa c)(h0:dr c=0)(hg:uM c){i:Nat}{b:aj}{rb:List aj}(hb:c.blocks.drop i=b::rb){l9:List aj}(Uk:l9.length=c.blocks.length)(k:List aj×Int→Option (ah×Int))(R:Option (ah×Int))
  (hk:k (dI mf c.blocks (i+1) 0,(b.ag.length:Int))=R):iter (fM al .al n l9 (aq b.ag) b (i:Int) k) n (dI mf c.blocks i 0,0)=R:=by
 have Ns:=dW hb
 have hbr:=hc.br b Ns
 have hi:i<c.blocks.length:=(List.getElem?_eq_some_iff.1 (wo hb)).1
 refine bA (body:=fM al .al n l9 (aq b.ag) b (i:Int) k) (mk:=fun(a:List aj) j=>(a,(j:Int))) (fun _ _ _=>R) (fun a j=>a=dI mf c.blocks i j) b.ag (by omega) ?_ ?_ n (by omega) _ rfl
 ·rintro self L j x r hp hd hj e1 e2 e3 ih
  subst hp
  have hx:=hg.x hc Ns (dW hd)
  have r7:=hx.res
  have hg0: ∀{a b:Int},gK [a,b] 0=some a:=rfl
  have hg1: ∀{a b:Int},gK [a,b] 1=some b:=rfl
  have ke:Md.al.ln l9=c.blocks.length:=Uk
  have Ui:=Dx x.ops ([],[])
  have hr:gI (eu x.ops ([],[])).2 x.result=some ((eu x.ops ([],[])).2.getD x.result.toNat 0):=zC r7.1 (by rw[Ui];simpa using r7.2)
  simp only[fM,e2,cond_true,e1,Option.bind_some,show lW 2 (List.replicate 2 (0:Int))=some ()from rfl,show∀a b:Int,lW 2 [a,b]=some ()from fun _ _=>rfl]
  refine L7 hn hx _ R fun m=>?_
  simp only[show gN 2 0=some 0 from rfl,hg0,hr,Option.bind_some,ke,oU hi,yu hb]
  rw[bd (by omega) (by simp;omega),Option.bind_some]
  have:=yt (F:=mf) hb hd
  unfold mf at this ⊢
  rw[this,Option.bind_some,e3]
  exact ih _ rfl
 ·rintro self L hp e
  subst hp
  simp only[fM,e,cond_false]
  rw[wA hb];exact hk
theorem PE{c:ah}(hc:Fa c)(h0:dr c=0)(hg:uM c){l9:List aj}(Uk:l9.length=c.blocks.length)(k:List aj×Int→Option (ah×Int))(R:Option (ah×Int))
  (hk:k (c.blocks.map (qV mf),(c.blocks.length:Int))=R):iter (fN al .al n c l9 (aq c.blocks) k) n (c.blocks.map bare,0)=R:=by
 have OQ:=hc.bl
 refine(bA (body:=fN al .al n c l9 (aq c.blocks) k) (mk:=fun(a:List aj) j=>(a,(j:Int))) (fun _ _ _=>R) (fun a j=>a=dI mf c.blocks j 0) c.blocks (by omega) ?_ ?_ n (by omega) _ EK.symm)
 ·rintro self L i b r hp hd hi e1 e2 e3 ih
  subst hp
  simp only[fN,e2,cond_true,e1,Option.bind_some]
  refine PD hn hc h0 hg hd Uk _ R ?_
  dsimp only
  rw[e3];exact ih _ rfl
 ·rintro self L hp e
  subst hp
  simp only[fN,e,cond_false]
  rw[yw];exact hk
theorem PF{c:ah}(OQ:c.blocks.length≤16)(k:List aj×Int→Option (ah×Int)){b:aj}{r:List aj}(hb:c.blocks=b::r):iter (fO al .al n c (aq c.blocks) k) n ([bare b],1)=k (c.blocks.map bare,(c.blocks.length:Int)):=by
 have:=AO (body:=fO al .al n c (aq c.blocks) k) (mk:=fun(a:List aj) j=>(a,(j:Int))) (fun a r _=>k (a++r.map bare,(c.blocks.length:Int))) (fun a i=>a.length=i) c.blocks (by omega) ?_ ?_ n 1 (by rw[hb];simp) (by omega) [bare b] rfl
 ·refine this.trans ?_
  rw[hb];rfl
 ·intro self l i x r hp hd hi e1 e2 e3 ih
  simp only[fO,e2,cond_true,e1,Option.bind_some]
  rw[bd (by omega) (by omega),Option.bind_some,e3,ih _ (by simp[hp])]
  simp[bare]
 ·intro self l hp e
  simp only[fO,e,cond_false]
  simp
theorem Vf{c:ah}(hc:Fa c):fe al .al n c=some (bif decide (dr c=0)then(⟨c.blocks.map (qV mf)⟩,0)else(⟨[]⟩,dr c)):=by
 unfold fe
 rw[zZ hn hc,Option.bind_some,dm,dp]
 by_cases h0:dr c=0
 ·have hg:=lg h0
  have OQ:=hc.bl
  obtain⟨b,r,hb⟩: ∃b r,c.blocks=b::r:=by
   cases h:c.blocks with
   |nil=>have:=hg.some.1;rw[h]at this;simp at this
   |cons b r=>exact⟨b,r,rfl⟩
  rw[decide_eq_true h0,Bool.not_true,cond_false,cond_true,Option.bind_some]
  have h1:al.aV 0 (aq c.blocks)=true:=by show decide ((0:Int)<c.blocks.length)=true;rw[hb];simp
  have h2:gI c.blocks 0=some b:=by rw[hb];rfl
  have hw:al.wrap .i64 (al.add 0 1)=1:=by show IntKind.wrap .i64 1=1;rw[ga (by omega)]
  rw[h1,cond_true,h2,Option.bind_some,bd (by omega) (by simp),Option.bind_some,hw]
  refine(PF hn OQ _ hb).trans ?_
  dsimp only
  rw[Option.bind_some]
  refine PE hn hc h0 hg (by simp) _ _ ?_
  dsimp only
  rw[kL (by simp[Md.al]),Option.bind_some]
 ·rw[decide_eq_false h0,Bool.not_false,cond_true,cond_false]
theorem H3{c:ah}(hc:Fa c)(h0:dr c=0):cB al .al n c 2=some ⟨c.blocks.map (qV mf)⟩:=by
 have hg:=lg h0
 refine H2 hn hc fun i b rb hb k self l j x hl hx e1 e2 e3=>?_
 have Ns:=dW hb
 simp only[dy,kX hb,Option.bind_some,e2,cond_true,e1,show al.aJ 2 1=false from rfl,show al.aJ 2 2=true from rfl,cond_false,Hx hn (hg.x hc Ns hx)]
 rw[bd (by omega) (by omega),Option.bind_some,e3]
end
end Ab
namespace Ab
open Go
set_option maxRecDepth 10000
inductive EU(x:ae):Nat→Prop where
 |call {i:Nat} {o:aL} {a:Int} (ho:x.ops[i]? =some o) (hc:cj o=true) (ha:a∈o.args):EU x a.toNat
 |node {i:Nat} {o:aL} {a:Int} (hi:EU x i) (ho:x.ops[i]? =some o) (hk:o.kind=3) (ha:a∈o.args):EU x a.toNat
inductive Reach(x:ae)(s:Nat):Nat→Prop where
 |refl:Reach x s s
 |node {i:Nat} {o:aL} {a:Int} (hi:Reach x s i) (ho:x.ops[i]? =some o) (hk:o.kind=3) (ha:a∈o.args):Reach x s a.toNat
theorem Reach.Fs{x:ae}{s j:Nat}(h:Reach x s j)(hs:EU x s):EU x j:=by
 induction h with
 |refl=>exact hs
 |node _ ho hk ha ih=>exact .node ih ho hk ha
theorem Reach.step{x:ae}{s j:Nat}{o:aL}{a:Int}(ho:x.ops[s]? =some o)(hk:o.kind=3)(ha:a∈o.args)(h:Reach x a.toNat j):Reach x s j:=by
 induction h with
 |refl=>exact .node .refl ho hk ha
 |node _ uX jt ha' ih=>exact .node ih uX jt ha'
abbrev On(l:List Bool)(j:Nat):Prop:=l.getD j false=true
def wF(x:ae)(l:List Bool)(j:Nat):Prop:= ∀o,x.ops[j]? =some o→o.kind=3→ ∀a∈o.args,On l a.toNat
theorem wF.mono{x:ae}{l l':List Bool}{j:Nat}(h:wF x l j)(hl: ∀j,On l j→On l' j):wF x l' j:=fun o ho hk a ha=>hl _ (h o ho hk a ha)
theorem tS{l:List Bool}{i j:Nat}(hi:i<l.length):On (l.set i true) j↔i=j∨On l j:=by
 unfold On
 rw[fm]
 by_cases h:i=j
 ·subst h;rw[if_pos ⟨rfl,hi⟩];exact⟨fun _=> .inl rfl,fun _=>rfl⟩
 ·rw[if_neg (fun hh=>h hh.1)];exact⟨.inr,fun hh=>hh.resolve_left h⟩
section
variable{α R S A:Type}
theorem D9{body:(S→Option R)→S→Option R}(mk:A→Nat→S)(P:A→Nat→Prop)(l:List α)(hl:l.length≤9223372036854775806)
  (h1: ∀(self:S→Option R) (a:A) (i:Nat) (x:α),P a i→i<l.length→gI l (i:Int)=some x→x∈l→al.aV (i:Int) (aq l)=true→al.wrap .i64 (al.add (i:Int) 1)=((i+1:Nat):Int)→
   ∃a',P a' (i+1)∧body self (mk a i)=self (mk a' (i+1)))
  (n:Nat)(hn:l.length<n)(a:A)(ha:P a 0): ∃a' m,P a' l.length∧al.aV (l.length:Int) (aq l)=false∧iter body n (mk a 0)=body (iter body m) (mk a' l.length):=by
 have key: ∀(d i n:Nat) (a:A),P a i→i+d=l.length→d<n→ ∃a' m,P a' l.length∧iter body n (mk a i)=body (iter body m) (mk a' l.length):=by
  intro d
  induction d with
  |zero=>
   intro i n a hp hd hn
   obtain⟨m,rfl⟩: ∃m,n=m+1:=⟨n - 1,by omega⟩
   have:i=l.length:=by omega
   subst this
   exact⟨a,m,hp,rfl⟩
  |succ d ih=>
   intro i n a hp hd hn
   obtain⟨m,rfl⟩: ∃m,n=m+1:=⟨n - 1,by omega⟩
   have aU:i<l.length:=by omega
   obtain⟨a',Ub,hb⟩:=h1 (iter body m) a i l[i] hp aU (by rw[dZ];exact List.getElem?_eq_getElem aU) (List.getElem_mem aU) (by show decide ((i:Int)<l.length)=true;simp;omega) (by show IntKind.wrap .i64 ((i:Int)+1)=_;rw[FW (by omega)])
   obtain⟨a2,m2,h2,h3⟩:=ih (i+1) m a' Ub (by omega) (by omega)
   exact⟨a2,m2,h2,hb.trans h3⟩
 obtain⟨a',m,h2,h3⟩:=key l.length 0 n a ha (by omega) hn
 exact⟨a',m,h2,by show decide ((l.length:Int)<l.length)=false;simp,h3⟩
end
section
variable{n:Nat}(hn:100<n)
 include hn
theorem Ou{x:ae}(hx:kT x): ∀(k:Nat) (l:List Bool) (s:Int),l.length=x.ops.length→0≤s→s<x.ops.length→s.toNat<k→
  ∃l',Fs al .al n x x.ops.length k l s=some l'∧l'.length=x.ops.length∧(∀j,On l j→On l' j)∧On l' s.toNat∧(∀j,On l' j→On l j∨Reach x s.toNat j)∧ ∀j,On l' j→ ¬On l j→wF x l' j
 |0,l,s,_,_,_,h=>absurd h (Nat.not_lt_zero _)
 |k+1,l,s,hl,h0,h1,hk=>by
  have hs:s.toNat<l.length:=by omega
  have hg:gI x.ops s=some (x.ops[s.toNat]'(by omega)):=OT h0 (by omega)
  have ho:x.ops[s.toNat]? =some (x.ops[s.toNat]'(by omega)):=List.getElem?_eq_getElem _
  generalize x.ops[s.toNat]'(by omega)=o at hg ho
  have hm:o∈x.ops:=List.mem_of_getElem? ho
  have Fz:=hx.ar o hm
  unfold Fs
  simp only[BP h0 h1,Option.bind_some,Cp hn hs]
  cases hu:l.getD s.toNat false with
  |true=>
   exact⟨l,rfl,hl,fun j h=>h,hu,fun j h=> .inl h,fun j h1 h2=>absurd h1 h2⟩
  |false=>
   have hL:(l.set s.toNat true).length=x.ops.length:=by simpa using hl
   simp only[cond_false,nR hs,Option.bind_some,hg,dp]
   by_cases h3:o.kind=3
   ·simp only[decide_eq_true h3,cond_true]
    obtain⟨l',m,hp,e,hit⟩:=D9 (S:=List Bool×Int) (R:=List Bool) (mk:=fun(l:List Bool) i=>(l,(i:Int)))
     (body:=fun(self:List Bool×Int→Option (List Bool)) st=>match st with
      |(l6,z7)=>bif (al.aV z7 (aq o.args))then(gI o.args z7).bind fun x8=>(Fs al .al n x x.ops.length k l6 x8).bind fun l9=>self (l9,(al.wrap .i64 (al.add z7 1)))else some l6)
     (P:=fun l' i=>l'.length=x.ops.length∧(∀j,On (l.set s.toNat true) j→On l' j)∧(∀j,On l' j→On (l.set s.toNat true) j∨Reach x s.toNat j)∧(∀j,On l' j→ ¬On (l.set s.toNat true) j→wF x l' j)∧ ∀q a,q<i→o.args[q]? =some a→On l' a.toNat)
     o.args (by omega) (by
      rintro self l2 i a ⟨p1,p2,p3,p4,p5⟩ hi e1 AR e2 e3
      have ha:=hx.args _ o ho a AR
      obtain⟨l3,q0,q1,q2,q3,q4,q5⟩:=Ou hx k l2 a p1 ha.1 (by omega) (by omega)
      refine⟨l3,⟨q1,fun j hj=>q2 j (p2 j hj),fun j hj=>?_,fun j hj Fx=>?_,fun q b hq hb=>?_⟩,?_⟩
      ·rcases q4 j hj with h|h
       ·exact p3 j h
       ·exact .inr (h.step ho h3 AR)
      ·by_cases h2:On l2 j
       ·exact(p4 j h2 Fx).mono q2
       ·exact q5 j hj h2
      ·by_cases XY:q=i
       ·subst XY
        rw[dZ,hb]at e1
        cases e1;exact q3
       ·exact q2 _ (p5 q b (by omega) hb)
      ·simp only[e2,cond_true,e1,Option.bind_some,q0,e3]) n (by omega) (l.set s.toNat true) ⟨hL,fun j h=>h,fun j h=> .inl h,fun j h1 h2=>absurd h1 h2,fun q a hq=>absurd hq (Nat.not_lt_zero _)⟩
    obtain⟨p1,p2,p3,p4,p5⟩:=hp
    refine⟨l',?_,p1,fun j hj=>p2 j ((tS hs).2 (.inr hj)),p2 _ ((tS hs).2 (.inl rfl)),fun j hj=>?_,fun j hj Fx=>?_⟩
    ·refine hit.trans ?_
     simp only[e,cond_false]
    ·rcases p3 j hj with h|h
     ·rcases(tS hs).1 h with h|h
      ·subst h;exact .inr .refl
      ·exact .inl h
     ·exact .inr h
    ·by_cases hj2:On (l.set s.toNat true) j
     ·rcases(tS hs).1 hj2 with h|h
      ·subst h
       intro o' uX _ a ha
       rw[ho]at uX;cases uX
       obtain⟨q,hq⟩:=List.getElem?_of_mem ha
       exact p5 q a (List.getElem?_eq_some_iff.1 hq).1 hq
      ·exact absurd h Fx
     ·exact p4 j hj hj2
   ·simp only[decide_eq_false h3,cond_false]
    refine⟨_,rfl,hL,fun j hj=>(tS hs).2 (.inr hj),(tS hs).2 (.inl rfl),fun j hj=>?_,fun j hj Fx=>?_⟩
    ·rcases(tS hs).1 hj with h|h
     ·subst h;exact .inr .refl
     ·exact .inl h
    ·rcases(tS hs).1 hj with h|h
     ·subst h
      intro o' uX jt
      rw[ho]at uX;cases uX
      exact absurd jt h3
     ·exact absurd h Fx
theorem Zq(o:aL):fc al .al n o=some (cj o):=have _:=hn;by
 unfold fc cj
 simp only[bK,dp,dQ]
theorem Rl{x:ae}(hx:kT x): ∃l,mv al .al n x=some l∧l.length=x.ops.length∧ ∀j,On l j↔EU x j:=by
 have hlen:=hx.len
 unfold mv
 have OO:vc 1 (aq x.ops) false=some (List.replicate x.ops.length false):=vM (by omega) (by omega)
 rw[Option.bind_some,OO,Option.bind_some]
 have ke:Md.al.ln (List.replicate x.ops.length false)=x.ops.length:=by simp[Md.al]
 have vU: ∀j,¬On (List.replicate x.ops.length false) j:=fun j h=>by
  unfold On at h
  rw[List.getD_eq_getElem?_getD,List.getElem?_replicate]at h
  split at h<;>simp at h
 obtain⟨l',m,⟨p1,p2,p3,p4⟩,e,hit⟩:=D9 (S:=List Bool×Int) (R:=List Bool) (mk:=fun(l:List Bool) i=>(l,(i:Int)))
  (body:=jc al .al n x (List.replicate x.ops.length false) (aq x.ops) fun(OC,uP)=>(dM (Md.al.ln (List.replicate x.ops.length false)) OC).bind fun u16=>some OC)
  (P:=fun l i=>l.length=x.ops.length∧(∀j,On l j→EU x j)∧(∀j,On l j→wF x l j)∧ ∀q o,q<i→x.ops[q]? =some o→cj o=true→ ∀a∈o.args,On l a.toNat)
  x.ops (by omega) (by
   rintro self l i o ⟨p1,p2,p3,p4⟩ hi e1 hm e2 e3
   have ho:x.ops[i]? =some o:=by rw[←dZ];exact e1
   have Fz:=hx.ar o hm
   simp only[jc,e2,cond_true,e1,Option.bind_some,Zq hn,ke]
   cases hc:cj o with
   |false=>
    refine⟨l,⟨p1,p2,p3,fun q o' hq uX Nr=>?_⟩,by simp only[cond_false,e3]⟩
    by_cases XY:q=i
    ·subst XY;rw[ho]at uX;cases uX;rw[hc]at Nr;cases Nr
    ·exact p4 q o' (by omega) uX Nr
   |true=>
    simp only[cond_true]
    obtain⟨l2,m2,⟨q1,q2,q3,q4,q5⟩,f,aph⟩:=D9 (S:=List Bool×Int) (R:=List Bool) (mk:=fun(l:List Bool) i=>(l,(i:Int)))
     (body:=ja al .al n x (List.replicate x.ops.length false) (aq o.args) o fun(iq,nu)=>self (iq,(al.wrap .i64 (al.add (i:Int) 1))))
     (P:=fun l2 j=>l2.length=x.ops.length∧(∀j,On l2 j→EU x j)∧(∀j,On l2 j→wF x l2 j)∧(∀j,On l j→On l2 j)∧ ∀q a,q<j→o.args[q]? =some a→On l2 a.toNat)
     o.args (by omega) (by
      rintro Gc l2 j a ⟨q1,q2,q3,q4,q5⟩ hj f1 AR f2 f3
      have ha:=hx.args i o ho a AR
      obtain⟨l3,r0,r1,r2,r3,r4,r5⟩:=Ou hn hx n l2 a q1 ha.1 (by omega) (by omega)
      refine⟨l3,⟨r1,fun j' X4=>?_,fun j' X4=>?_,fun j' X4=>r2 _ (q4 j' X4),fun q b hq hb=>?_⟩,?_⟩
      ·rcases r4 j' X4 with h|h
       ·exact q2 j' h
       ·exact h.Fs (.call ho hc AR)
      ·by_cases h2:On l2 j'
       ·exact(q3 j' h2).mono r2
       ·exact r5 j' X4 h2
      ·by_cases hqj:q=j
       ·subst hqj
        rw[dZ,hb]at f1
        cases f1;exact r3
       ·exact r2 _ (q5 q b (by omega) hb)
      ·simp only[ja,f2,cond_true,f1,Option.bind_some,ke,r0,f3]) n (by omega) l ⟨p1,p2,p3,fun j h=>h,fun q a hq=>absurd hq (Nat.not_lt_zero _)⟩
    refine⟨l2,⟨q1,q2,q3,fun q o' hq uX Nr a ha=>?_⟩,?_⟩
    ·by_cases XY:q=i
     ·subst XY
      rw[ho]at uX;cases uX
      obtain⟨q',uV⟩:=List.getElem?_of_mem ha
      exact q5 q' a (List.getElem?_eq_some_iff.1 uV).1 uV
     ·exact q4 _ (p4 q o' (by omega) uX Nr a ha)
    ·refine aph.trans ?_
     simp only[ja,f,cond_false,e3]) n (by omega) (List.replicate x.ops.length false) ⟨by simp,fun j h=>absurd h (vU j),fun j h=>absurd h (vU j),fun q o hq=>absurd hq (Nat.not_lt_zero _)⟩
 refine⟨l',hit.trans ?_,p1,fun j=>⟨p2 j,fun h=>?_⟩⟩
 ·simp only[jc,e,cond_false,ke]
  rw[kL p1.symm];rfl
 ·induction h with
  |call ho hc ha=>exact p4 _ _ (List.getElem?_eq_some_iff.1 ho).1 ho hc _ ha
  |node _ ho hk ha ih=>exact p3 _ ih _ ho hk _ ha
end
end Ab
namespace Ab
open Go
set_option maxRecDepth 10000
def kJ(l:List Bool)(i:Nat)(o:aL):Bool:=cj o||(decide (o.kind=3)&&l.getD i false)
def vL(x:ae):Nat→List Bool→List Bool
 |0,l=>l
 |i+1,l=>match x.ops[i]? with
  |none=>l
  |some o=>vL x i (bif kJ l i o then fg true o.args l else l)
def BE(x:ae):List Bool:=vL x x.ops.length (List.replicate x.ops.length false)
theorem Gn(x:ae): ∀(i:Nat) (l:List Bool),(vL x i l).length=l.length
 |0,l=>rfl
 |i+1,l=>by
  unfold vL
  cases x.ops[i]? with
  |none=>rfl
  |some o=>dsimp only;rw[Gn];cases kJ l i o<;>simp[jC]
theorem Gm(x:ae):(BE x).length=x.ops.length:=by unfold BE;rw[Gn];simp
theorem sJ{j:Nat}: ∀{args:List Int} {l:List Bool},(∀a∈args,a.toNat<l.length)→(On (fg true args l) j↔(∃a∈args,a.toNat=j)∨On l j)
 |[],l,_=>by simp[fg]
 |a::r,l,h=>by
  have e:fg true (a::r) l=fg true r (l.set a.toNat true):=by unfold fg;rw[List.foldl_cons,Bool.or_true]
  rw[e,sJ (fun b hb=>by rw[List.length_set];exact h b (by simp[hb])),tS (h a (by simp))]
  simp only[List.mem_cons,exists_eq_or_imp,or_assoc]
  constructor
  ·rintro(h|h|h)
   ·exact .inr (.inl h)
   ·exact .inl h
   ·exact .inr (.inr h)
  ·rintro(h|h|h)
   ·exact .inr (.inl h)
   ·exact .inl h
   ·exact .inr (.inr h)
theorem Kf{x:ae}(hx:kT x): ∀(i:Nat) (l:List Bool),i≤x.ops.length→l.length=x.ops.length→(∀j,On l j→EU x j)→(∀q o,i≤q→x.ops[q]? =some o→cj o=true→ ∀a∈o.args,On l a.toNat)→
  (∀q,i≤q→On l q→wF x l q)→ ∀j,On (vL x i l) j↔EU x j
 |0,l,_,hl,h1,h2,h3,j=>⟨h1 j,fun h=>by
  show On l j
  induction h with
  |call ho hc ha=>exact h2 _ _ (Nat.zero_le _) ho hc _ ha
  |node _ ho hk ha ih=>exact h3 _ (Nat.zero_le _) ih _ ho hk _ ha⟩
 |i+1,l,hi,hl,h1,h2,h3,j=>by
  have ho:x.ops[i]? =some x.ops[i]:=List.getElem?_eq_getElem hi
  have e:vL x (i+1) l=vL x i (bif kJ l i x.ops[i]then fg true x.ops[i].args l else l):=by
   conv=>lhs;unfold vL
   rw[ho]
  rw[e]
  generalize x.ops[i]=o at ho
  have aU: ∀a∈o.args,a.toNat<l.length:=fun a ha=>by have:=hx.args i o ho a ha;omega
  have ON: ∀j,On l j→On (bif kJ l i o then fg true o.args l else l) j:=fun j hj=>by
   cases kJ l i o with
   |true=>exact(sJ aU).2 (.inr hj)
   |false=>exact hj
  have Ug: ∀q,i≤q→On (bif kJ l i o then fg true o.args l else l) q→On l q:=fun q hq hj=>by
   cases hu:kJ l i o with
   |false=>rw[hu]at hj;exact hj
   |true=>
    rw[hu]at hj
    rcases(sJ aU).1 hj with⟨a,ha,Ya⟩|h
    ·have:=hx.args i o ho a ha;omega
    ·exact h
  refine Kf hx i _ (by omega) (by cases kJ l i o<;>simp[jC,hl]) (fun q hq=>?_) (fun q o' hq uX hc a ha=>?_) (fun q hq hon=>?_) j
  ·cases hu:kJ l i o with
   |false=>rw[hu]at hq;exact h1 q hq
   |true=>
    rw[hu]at hq
    rcases(sJ aU).1 hq with⟨a,ha,rfl⟩|h
    ·unfold kJ at hu
     simp only[Bool.or_eq_true,Bool.and_eq_true,decide_eq_true_eq]at hu
     rcases hu with hc|⟨hk,hon⟩
     ·exact .call ho hc ha
     ·exact .node (h1 i hon) ho hk ha
    ·exact h1 q h
  ·by_cases XY:q=i
   ·subst XY
    rw[ho]at uX;cases uX
    have:kJ l q o=true:=by unfold kJ;rw[hc];rfl
    rw[this]
    exact(sJ aU).2 (.inl ⟨a,ha,rfl⟩)
   ·exact ON _ (h2 q o' (by omega) uX hc a ha)
  ·have ajD:=Ug q hq hon
   by_cases XY:q=i
   ·subst XY
    intro o' uX hk a ha
    rw[ho]at uX;cases uX
    have:kJ l q o=true:=by
     unfold kJ
     rw[decide_eq_true hk,show l.getD q false=true from ajD];simp
    rw[this]
    exact(sJ aU).2 (.inl ⟨a,ha,rfl⟩)
   ·exact(h3 q (by omega) ajD).mono ON
theorem Ty{x:ae}(hx:kT x)(j:Nat):On (BE x) j↔EU x j:=by
 have vU: ∀j,¬On (List.replicate x.ops.length false) j:=fun j h=>by
  unfold On at h
  rw[List.getD_eq_getElem?_getD,List.getElem?_replicate]at h
  split at h<;>simp at h
 refine Kf hx _ _ (Nat.le_refl _) (by simp) (fun j h=>absurd h (vU j)) (fun q o hq ho=>?_) (fun q hq h=>absurd h (vU q)) j
 have:=(List.getElem?_eq_some_iff.1 ho).1
 omega
theorem aeb{l m:List Bool}(hl:l.length=m.length)(h: ∀j,On l j↔On m j):l=m:=by
 apply List.ext_getElem hl
 intro j h1 h2
 have:=h j
 unfold On at this
 simp only[List.getD_eq_getElem?_getD,List.getElem?_eq_getElem h1,List.getElem?_eq_getElem h2,Option.getD_some]at this
 exact Bool.eq_iff_iff.2 this
def AI(nd:List Bool)(i:Nat)(o:aL):aL:=bif decide (o.kind=4)&& !nd.getD i false then⟨5,o.name,o.num,o.args⟩else o
def iy(nd:List Bool):List aL→Nat→List aL
 |[],_=>[]
 |o::r,i=>AI nd i o::iy nd r (i+1)
def jD(x:ae):ae:=⟨x.head,x.kids,iy (BE x) x.ops 0,x.result⟩
section
variable{n:Nat}(hn:100<n)
 include hn
theorem Pu{x:ae}(hx:kT x):mv al .al n x=some (BE x):=by
 obtain⟨l,h1,h2,h3⟩:=Rl hn hx
 rw[h1,aeb (h2.trans (Gm x).symm) fun j=>(h3 j).trans (Ty hx j).symm]
theorem U1(o:aL):lC al .al n o=some (cj o):=have _:=hn;by
 unfold lC cj
 simp only[bK,dp,dQ]
theorem Ig{x:ae}(hx:kT x){l0:List Bool}(hl0:l0.length=x.ops.length){i:Nat}{o:aL}(ho:gI x.ops (i:Int)=some o)(k:List Bool×Int→Option ae)(l:List Bool)(hl:l.length=x.ops.length):
  iter (ef al .al n x l0 (i:Int) k) n (l,0)=k (bif kJ l i o then fg true o.args l else l,(o.args.length:Int)):=by
 have uX:x.ops[i]? =some o:=by rw[←dZ];exact ho
 have hi:i<x.ops.length:=(List.getElem?_eq_some_iff.1 uX).1
 have Fz:=hx.ar o (List.mem_of_getElem? uX)
 have ke:Md.al.ln l0=x.ops.length:=hl0
 refine bA (body:=ef al .al n x l0 (i:Int) k) (mk:=fun(a:List Bool) j=>(a,(j:Int))) (fun a r _=>k (bif kJ l i o then fg true r a else a,(o.args.length:Int))) (fun a _=>a.length=x.ops.length∧a.getD i false=l.getD i false) o.args (by omega) ?_ ?_ n (by omega) l ⟨hl,rfl⟩
 ·rintro self a j z r ⟨p1,p2⟩ hd hj e1 e2 e3 ih
  have hz:=hx.args i o uX z (dW hd)
  have Af:z.toNat<a.length:=by omega
  simp only[ef,ho,Option.bind_some,e2,cond_true,U1 hn,ke,oU hi,Cp hn (show i<a.length by omega),p2]
  have hu:al.pick (cj o) true (al.pick (al.aJ (bif cj o then default else o).kind 3) (bif cj o then default else bif al.aJ (bif cj o then default else o).kind 3 then l.getD i false else default) false)=kJ l i o:=by
   unfold kJ
   simp only[bK,dp]
   cases cj o with
   |true=>rfl
   |false=>simp only[cond_false,Bool.false_or];cases decide (o.kind=3)<;>rfl
  rw[Iy (y:=o) fun _=>rfl,Option.bind_some,Iy (y:=bif al.aJ (bif cj o then default else o).kind 3 then i else default) fun _=>KT fun _=>rfl,Option.bind_some]
  rw[Iy (y:=bif al.aJ (bif cj o then default else o).kind 3 then l.getD i false else default) fun hc=>by
   rw[hc]
   simp only[cond_false]
   refine KT fun hk=>?_
   rw[hk,cond_true,Cp hn (show i<a.length by omega),p2],Option.bind_some,hu]
  cases hU:kJ l i o with
  |true=>
   simp only[cond_true,e1,Option.bind_some,BP hz.1 (show z<(x.ops.length:Nat)by omega),Cp hn Af,nR Af]
   rw[e3,ih _ ⟨by simpa using p1,by rw[fm,if_neg (by omega)];exact p2⟩,hU,cond_true]
   unfold fg
   rw[List.foldl_cons,Bool.or_true]
  |false=>
   simp only[cond_false]
   rw[e3,ih a ⟨p1,p2⟩,hU,cond_false]
 ·rintro self a _ e
  simp only[ef,ho,Option.bind_some,e,cond_false]
  cases kJ l i o<;>rfl
theorem D3{x:ae}(hx:kT x):mh al .al n x=some (jD x):=by
 have hlen:=hx.len
 unfold mh
 have OO:vc 1 (aq x.ops) false=some (List.replicate x.ops.length false):=vM (by omega) (by omega)
 have hw:al.wrap .i64 (al.sub (aq x.ops) 1)=(x.ops.length:Int) - 1:=by show IntKind.wrap .i64 ((x.ops.length:Int) - 1)=_;rw[ga (by omega)]
 have ke:Md.al.ln (List.replicate x.ops.length false)=x.ops.length:=by simp[Md.al]
 rw[Option.bind_some,OO,Option.bind_some,hw]
 refine(AP (body:=fK al .al n x (List.replicate x.ops.length false) _) (mk:=fun a z=>(a,z)) (fun l i=>some ⟨x.head,x.kids,iy (vL x i l) x.ops 0,x.result⟩) (fun l _=>l.length=x.ops.length) x.ops.length (by omega) ?_ ?_ n (by omega) _ (by simp)).trans rfl
 ·intro self l i hl hi e2 e3 ih
  have ho:x.ops[i]? =some x.ops[i]:=List.getElem?_eq_getElem hi
  have hg:gI x.ops (i:Int)=some x.ops[i]:=by rw[dZ];exact ho
  simp only[fK,e2,cond_true]
  rw[Ig hn hx (by simp) hg _ l hl]
  dsimp only
  rw[e3,ih _ (by cases kJ l i x.ops[i]<;>simp[jC,hl])]
  conv=>rhs;unfold vL
  rw[ho]
 ·intro self l hl e
  simp only[fK,e,cond_false]
  have:=bA (body:=fJ al .al n x l (List.replicate x.ops.length false) fun(P7,z30)=>some (⟨x.head,x.kids,P7,x.result⟩:ae)) (mk:=fun(a:List aL) j=>(a,(j:Int))) (fun a r i=>some ⟨x.head,x.kids,a++iy l r i,x.result⟩) (fun a i=>a.length=i) x.ops (by omega) ?_ ?_ n (by omega) [] rfl
  ·refine this.trans ?_
   simp[vL]
  ·intro self a i o r hp hd hi e1 e2 e3 ih
   simp only[fJ,Option.bind_some,e2,cond_true,e1,ke,oU hi]
   rw[KT (y:=i) fun _=>rfl,Option.bind_some,KT (y:=l.getD i false) fun hk=>by rw[hk,cond_true,Cp hn (show i<l.length by omega)],Option.bind_some]
   have hc:al.pick (al.aJ o.kind 4) (al.not (bif al.aJ o.kind 4 then l.getD i false else default)) false=(decide (o.kind=4)&& !l.getD i false):=by
    simp only[bK,dp,dm]
    cases decide (o.kind=4)<;>rfl
   rw[hc]
   have hL:iy l (o::r) i=AI l i o::iy l r (i+1):=rfl
   rw[hL]
   unfold AI
   cases decide (o.kind=4)&& !l.getD i false with
   |true=>
    simp only[cond_true]
    rw[bd (by omega) (by omega),Option.bind_some,e3,ih _ (by simp[hp])]
    simp
   |false=>
    simp only[cond_false]
    rw[bd (by omega) (by omega),Option.bind_some,e3,ih _ (by simp[hp])]
    simp
  ·intro self a hp e
   simp only[fJ,Option.bind_some,e,cond_false]
   simp[iy]
end
end Ab
namespace Ab
open Go
set_option maxRecDepth 10000
def zr(i:Nat):List Int:=(List.range i).map fun(j:Nat)=>(j:Int)
theorem Eb(i:Nat):(zr i).length=i:=by simp[zr]
theorem Gz(i:Nat):zr (i+1)=zr i++[(i:Int)]:=by simp[zr,List.range_succ]
theorem KF{i:Nat}{a:Int}(h0:0≤a)(h:a<i):(zr i).getD a.toNat 0=a:=by
 have:a.toNat<i:=by omega
 simp[zr,List.getD_eq_getElem?_getD,this]
 omega
theorem Pz{i:Nat}{args:List Int}(h: ∀a∈args,0≤a∧a<i):bE (zr i) args=args:=by
 unfold bE
 conv=>rhs;rw[←List.map_id args]
 apply List.map_congr_left
 intro a ha
 rw[KF (h a ha).1 (h a ha).2];rfl
theorem D4(nd:List Bool): ∀(r:List aL) (i:Nat),(iy nd r i).length=r.length
 |[],i=>rfl
 |o::r,i=>by simp[iy,D4 nd r]
section
variable{n:Nat}(hn:100<n)
 include hn
theorem M5{x:ae}(hx:kT x){nd:List Bool}(X1:nd.length=x.ops.length)(k:List aL×List Int×Int→Option (ah×Int)):
  iter (eU al .al n (aq x.ops) x nd k) n ([],[],0)=k (iy nd x.ops 0,zr x.ops.length,(x.ops.length:Int)):=by
 have hlen:=hx.len
 have:=bA (body:=eU al .al n (aq x.ops) x nd k) (mk:=fun(a:List aL) i=>(a,zr i,(i:Int))) (fun a r i=>k (a++iy nd r i,zr x.ops.length,(x.ops.length:Int))) (fun a i=>a.length=i) x.ops (by omega) ?_ ?_ n (by omega) [] rfl
 ·simpa[zr]using this
 ·rintro self out i o r hp hd hi e1 e2 e3 ih
  have ho:x.ops[i]? =some o:=by rw[←dZ];exact e1
  have hm:o∈x.ops:=List.mem_of_getElem? ho
  have cQ: ∀a∈o.args,0≤a∧a<(zr i).length:=fun a ha=>by rw[Eb];exact hx.args i o ho a ha
  have hoa:=hx.ar o hm
  have hui:gI nd (i:Int)=some (nd.getD i false):=by rw[dZ];simp[List.getD_eq_getElem?_getD,show i<nd.length by omega]
  have hs:=Dv hn (hd:=x.head) (kd:=x.kids) (z:=0) (ops:=out) cQ hoa
  rw[Pz (fun a ha=>hx.args i o ho a ha)]at hs
  have Nt:=IU (y:=o.args) (l:=out) (k:=o.kind) (z:=o.num) (nm:=o.name) (by omega) (by omega)
  have aaO:=IU (y:=o.args) (l:=out) (k:=5) (z:=o.num) (nm:=o.name) (by omega) (by omega)
  simp only[Option.bind_some]at Nt aaO
  have hc:al.pick (al.aJ o.kind 4) (al.not (bif al.aJ o.kind 4 then nd.getD i false else default)) false=(decide (o.kind=4)&& !nd.getD i false):=by
   simp only[bK,dp,dm]
   cases decide (o.kind=4)<;>rfl
  simp only[eU,e2,cond_true,e1,Option.bind_some]
  rw[KT (y:=nd.getD i false) fun _=>hui,Option.bind_some,hc]
  have hL:iy nd (o::r) i=AI nd i o::iy nd r (i+1):=rfl
  rw[hL]
  unfold AI
  have hil:=Eb i
  cases decide (o.kind=4)&& !nd.getD i false with
  |true=>
   simp only[cond_true,hs,Option.bind_some]
   rw[aaO]
   simp only[Option.bind_some]
   rw[bd (by omega) (by omega),Option.bind_some,Option.bind_some,e3,hp,←Gz]
   have:=ih (out++[⟨5,o.name,o.num,o.args⟩]) (by simp[hp])
   rw[this]
   simp
  |false=>
   simp only[cond_false,hs,Option.bind_some]
   rw[Nt]
   simp only[Option.bind_some]
   rw[bd (by omega) (by omega),Option.bind_some,Option.bind_some,e3,hp,←Gz]
   have:=ih (out++[o]) (by simp[hp])
   rw[this]
   simp
 ·rintro self out hp e
  simp only[eU,e,cond_false]
  simp[iy]
theorem M1{c:ah}(hc:Fa c)(h0:dr c=0)(hg:uM c){i:Nat}{b:aj}{rb:List aj}(hb:c.blocks.drop i=b::rb){l9:List aj}(Uk:l9.length=c.blocks.length)(k:List Bool×List aj×Int→Option (ah×Int))(R:Option (ah×Int))
  (hk: ∀u,k (u,dI jD c.blocks (i+1) 0,(b.ag.length:Int))=R)(u:List Bool):iter (eV al .al n c l9 (aq b.ag) b (i:Int) k) n (u,dI jD c.blocks i 0,0)=R:=by
 have Ns:=dW hb
 have hbr:=hc.br b Ns
 have hi:i<c.blocks.length:=(List.getElem?_eq_some_iff.1 (wo hb)).1
 refine bA (body:=eV al .al n c l9 (aq b.ag) b (i:Int) k) (mk:=fun(a:List Bool×List aj) j=>(a.1,a.2,(j:Int))) (fun _ _ _=>R) (fun a j=>a.2=dI jD c.blocks i j) b.ag (by omega) ?_ ?_ n (by omega) (u,_) rfl
 ·rintro self ⟨u,L⟩ j x r hp hd hj e1 e2 e3 ih
  dsimp only at hp
  subst hp
  have hx:=hg.x hc Ns (dW hd)
  have r7:=hx.res
  have hg0: ∀{a b:Int},gK [a,b] 0=some a:=rfl
  have hg1: ∀{a b:Int},gK [a,b] 1=some b:=rfl
  simp only[eV,e2,cond_true,e1,Option.bind_some,show lW 2 (List.replicate 2 (0:Int))=some ()from rfl,show∀a b:Int,lW 2 [a,b]=some ()from fun _ _=>rfl,show gN 2 0=some 0 from rfl,show gN 2 1=some 1 from rfl,hg0,hg1,kX hb,Pu hn hx]
  rw[M5 hn hx (Gm x)]
  have hr:gI (zr x.ops.length) x.result=some x.result:=by
   rw[zC r7.1 (by rw[Eb];exact r7.2),KF r7.1 r7.2]
  have ke:Md.al.ln l9=c.blocks.length:=Uk
  simp only[hr,Option.bind_some,ke,oU hi,yu hb]
  rw[bd (by omega) (by simp;omega),Option.bind_some]
  have:=yt (F:=jD) hb hd
  unfold jD at this ⊢
  rw[this,Option.bind_some,e3]
  exact ih (BE x,_) rfl
 ·rintro self ⟨u,L⟩ hp e
  dsimp only at hp
  subst hp
  simp only[eV,e,cond_false]
  rw[wA hb];exact hk u
theorem M3{c:ah}(hc:Fa c)(h0:dr c=0)(hg:uM c){l9:List aj}(Uk:l9.length=c.blocks.length)(k:List Bool×List aj×Int→Option (ah×Int))(R:Option (ah×Int))
  (hk: ∀u,k (u,c.blocks.map (qV jD),(c.blocks.length:Int))=R)(u:List Bool):iter (eW al .al n c l9 (aq c.blocks) k) n (u,c.blocks.map bare,0)=R:=by
 have OQ:=hc.bl
 refine(bA (body:=eW al .al n c l9 (aq c.blocks) k) (mk:=fun(a:List Bool×List aj) j=>(a.1,a.2,(j:Int))) (fun _ _ _=>R) (fun a j=>a.2=dI jD c.blocks j 0) c.blocks (by omega) ?_ ?_ n (by omega) (u,_) EK.symm)
 ·rintro self ⟨u,L⟩ i b r hp hd hi e1 e2 e3 ih
  dsimp only at hp
  subst hp
  simp only[eW,e2,cond_true,e1,Option.bind_some]
  refine M1 hn hc h0 hg hd Uk _ R (fun u=>?_) u
  dsimp only
  rw[e3];exact ih (u,_) rfl
 ·rintro self ⟨u,L⟩ hp e
  dsimp only at hp
  subst hp
  simp only[eW,e,cond_false]
  rw[yw];exact hk u
theorem M4{c:ah}(OQ:c.blocks.length≤16)(k:List aj×Int→Option (ah×Int)){b:aj}{r:List aj}(hb:c.blocks=b::r):iter (eX al .al n c (aq c.blocks) k) n ([bare b],1)=k (c.blocks.map bare,(c.blocks.length:Int)):=by
 have:=AO (body:=eX al .al n c (aq c.blocks) k) (mk:=fun(a:List aj) j=>(a,(j:Int))) (fun a r _=>k (a++r.map bare,(c.blocks.length:Int))) (fun a i=>a.length=i) c.blocks (by omega) ?_ ?_ n 1 (by rw[hb];simp) (by omega) [bare b] rfl
 ·refine this.trans ?_
  rw[hb];rfl
 ·intro self l i x r hp hd hi e1 e2 e3 ih
  simp only[eX,e2,cond_true,e1,Option.bind_some]
  rw[bd (by omega) (by omega),Option.bind_some,e3,ih _ (by simp[hp])]
  simp[bare]
 ·intro self l hp e
  simp only[eX,e,cond_false]
  simp
theorem QG{c:ah}(hc:Fa c):cd al .al n c=some (bif decide (dr c=0)then(⟨c.blocks.map (qV jD)⟩,0)else(⟨[]⟩,dr c)):=by
 unfold cd
 rw[zZ hn hc,Option.bind_some,dm,dp]
 by_cases h0:dr c=0
 ·have hg:=lg h0
  have OQ:=hc.bl
  obtain⟨b,r,hb⟩: ∃b r,c.blocks=b::r:=by
   cases h:c.blocks with
   |nil=>have:=hg.some.1;rw[h]at this;simp at this
   |cons b r=>exact⟨b,r,rfl⟩
  rw[decide_eq_true h0,Bool.not_true,cond_false,cond_true,Option.bind_some]
  have h1:al.aV 0 (aq c.blocks)=true:=by show decide ((0:Int)<c.blocks.length)=true;rw[hb];simp
  have h2:gI c.blocks 0=some b:=by rw[hb];rfl
  have hw:al.wrap .i64 (al.add 0 1)=1:=by show IntKind.wrap .i64 1=1;rw[ga (by omega)]
  rw[h1,cond_true,h2,Option.bind_some,bd (by omega) (by simp),Option.bind_some,hw]
  refine(M4 hn OQ _ hb).trans ?_
  dsimp only
  rw[Option.bind_some]
  refine M3 hn hc h0 hg (by simp) _ _ (fun u=>?_) []
  dsimp only
  rw[kL (by simp[Md.al]),Option.bind_some]
 ·rw[decide_eq_false h0,Bool.not_false,cond_true,cond_false]
theorem Fq{c:ah}(hc:Fa c)(h0:dr c=0):cB al .al n c 5=some ⟨c.blocks.map (qV jD)⟩:=by
 have hg:=lg h0
 refine H2 hn hc fun i b rb hb k self l j x hl hx e1 e2 e3=>?_
 have Ns:=dW hb
 simp only[dy,kX hb,Option.bind_some,e2,cond_true,e1,show al.aJ 5 1=false from rfl,show al.aJ 5 2=false from rfl,show al.aJ 5 3=false from rfl,show al.aJ 5 4=false from rfl,show al.aJ 5 5=true from rfl,cond_false,D3 hn (hg.x hc Ns hx)]
 rw[bd (by omega) (by omega),Option.bind_some,e3]
end
end Ab
namespace Ab
open Go
set_option maxRecDepth 10000
theorem uM.kind{c:ah}(h:uM c){b:aj}(hb:b∈c.blocks){x:ae}(hx:x∈b.ag){o:aL}(ho:o∈x.ops):cj o=decide (3<o.kind):=by
 obtain⟨i,hi⟩:=List.getElem?_of_mem ho
 have h1:=vJ (h.ops b hb x hx).1 i o hi
 have h2:(decide (o.kind<1)||decide (5<o.kind))=false:=by
  unfold I1 at h1
  cases hk:(decide (o.kind<1)||decide (5<o.kind))with
  |false=>rfl
  |true=>rw[hk]at h1;cases h1
 simp only[Bool.or_eq_false_iff,decide_eq_false_iff_not]at h2
 unfold cj
 rw[←Bool.decide_or,decide_eq_decide]
 omega
structure Small(F:ae→ae):Prop where
 op: ∀x,kT x→(F x).ops.length≤1000
 ar: ∀x,kT x→ ∀o∈(F x).ops,o.args.length≤1000
theorem An{c:ah}(hc:Fa c)(hg:uM c){F:ae→ae}(hF:Small F):Szd ⟨c.blocks.map (qV F)⟩:=by
 refine⟨by have:=hc.bl;simp;omega,fun b hb=>?_,fun b hb x hx=>?_,fun b hb x hx=>?_⟩
 ·obtain⟨b0,h0,rfl⟩:=List.mem_map.1 hb
  have:=hc.br b0 h0
  show(b0.ag.map F).length≤1000
  simp;omega
 ·obtain⟨b0,h0,rfl⟩:=List.mem_map.1 hb
  obtain⟨x0,h1,rfl⟩:=List.mem_map.1 (show x∈b0.ag.map F from hx)
  exact hF.op x0 (hg.x hc h0 h1)
 ·obtain⟨b0,h0,rfl⟩:=List.mem_map.1 hb
  obtain⟨x0,h1,rfl⟩:=List.mem_map.1 (show x∈b0.ag.map F from hx)
  exact hF.ar x0 (hg.x hc h0 h1)
theorem wq(u:List Bool): ∀(r:List aL) (i:Nat) (st:List aL×List Int),(∀o∈r,o.args.length≤50)→(∀o∈st.1,o.args.length≤50)→(kR u r i st).1.length≤st.1.length+r.length∧ ∀o∈(kR u r i st).1,o.args.length≤50
 |[],i,st,_,h=>⟨by simp[kR],h⟩
 |o::r,i,st,hr,h=>by
  unfold kR
  cases u.getD i false with
  |true=>
   obtain⟨h1,h2⟩:=wq u r (i+1) (st.1++[⟨o.kind,o.name,o.num,bE st.2 o.args⟩],st.2++[(st.1.length:Int)]) (fun q hq=>hr q (by simp[hq])) (fun q hq=>by
    rcases List.mem_append.1 hq with hq|hq
    ·exact h q hq
    ·rw[List.mem_singleton.1 hq];show(bE st.2 o.args).length≤50;rw[k8];exact hr o (by simp))
   exact⟨by simp at h1 ⊢;omega,h2⟩
  |false=>
   obtain⟨h1,h2⟩:=wq u r (i+1) (st.1,st.2++[0]) (fun q hq=>hr q (by simp[hq])) h
   exact⟨by simp at h1 ⊢;omega,h2⟩
theorem L4:Small rK:=by
 have key:=fun x (hx:kT x)=>wq (ll x) x.ops 0 ([],[]) hx.ar (by simp)
 exact⟨fun x hx=>by have:=(key x hx).1;have:=hx.len;show(kR (ll x) x.ops 0 ([],[])).1.length≤1000;simp at *;omega,fun x hx o ho=>by have:=(key x hx).2 o ho;omega⟩
theorem tG: ∀(r:List aL) (st:List aL×List Int),(∀o∈r,o.args.length≤50)→(∀o∈st.1,o.args.length≤50)→(eu r st).1.length≤st.1.length+r.length∧ ∀o∈(eu r st).1,o.args.length≤50
 |[],st,_,h=>⟨by simp[eu],h⟩
 |o::r,st,hr,h=>by
  unfold eu
  cases decide (0≤fk (fun q=>decide (q=mz st.2 o)) st.1)with
  |false=>
   obtain⟨h1,h2⟩:=tG r (st.1++[mz st.2 o],st.2++[(st.1.length:Int)]) (fun q hq=>hr q (by simp[hq])) (fun q hq=>by
    rcases List.mem_append.1 hq with hq|hq
    ·exact h q hq
    ·rw[List.mem_singleton.1 hq];show(bE st.2 o.args).length≤50;rw[k8];exact hr o (by simp))
   exact⟨by simp at h1 ⊢;omega,h2⟩
  |true=>
   obtain⟨h1,h2⟩:=tG r (st.1,st.2++[fk (fun q=>decide (q=mz st.2 o)) st.1]) (fun q hq=>hr q (by simp[hq])) h
   exact⟨by simp at h1 ⊢;omega,h2⟩
theorem Jt:Small mf:=by
 have key:=fun x (hx:kT x)=>tG x.ops ([],[]) hx.ar (by simp)
 exact⟨fun x hx=>by have:=(key x hx).1;have:=hx.len;show(eu x.ops ([],[])).1.length≤1000;simp at *;omega,fun x hx o ho=>by have:=(key x hx).2 o ho;omega⟩
theorem Gs(nd:List Bool): ∀(r:List aL) (i:Nat),(∀o∈r,o.args.length≤50)→ ∀o∈iy nd r i,o.args.length≤50
 |[],i,_,o,h=>by simp[iy]at h
 |q::r,i,hr,o,h=>by
  simp only[iy,List.mem_cons]at h
  rcases h with h|h
  ·subst h
   unfold AI
   have:=hr q (by simp)
   cases decide (q.kind=4)&& !nd.getD i false<;>exact this
  ·exact Gs nd r (i+1) (fun o ho=>hr o (by simp[ho])) o h
theorem Hu:Small jD:=
 ⟨fun x hx=>by have:=hx.len;show(iy (BE x) x.ops 0).length≤1000;rw[D4];omega,fun x hx o ho=>by have:=Gs (BE x) x.ops 0 hx.ar o ho;omega⟩
theorem Fa.szd{c:ah}(h:Fa c):Szd c:=
 ⟨by have:=h.bl;omega,fun b hb=>by have:=h.br b hb;omega,fun b hb x hx=>by have:=h.op b hb x hx;omega,fun b hb x hx o ho=>by have:=h.ar b hb x hx o ho;omega⟩
theorem W2:Szd ⟨[]⟩:=⟨by simp,fun b hb=>by simp at hb,fun b hb=>by simp at hb,fun b hb=>by simp at hb⟩
theorem IK{n:Nat}(hn:1000<n){c:ah}(hs:coS c):fh al .al n c [1,2,5]=some true:=by
 have I4:100<n:=by omega
 have hc:=hs.ck
 have hcc:(⟨c.blocks⟩:ah)=c:=by cases c;rfl
 have hcc0:(⟨[]⟩:ah)=⟨[]⟩:=rfl
 have hid:aH al .al n c c=some true:=by rw[qf hn hc.szd];simp
 have apl:aH al .al n ⟨[]⟩ ⟨[]⟩=some true:=by rw[qf hn W2];simp
 have g0:gI [(1:Int),2,5] 0=some 1:=rfl
 have g1:gI [(1:Int),2,5] 1=some 2:=rfl
 have g2:gI [(1:Int),2,5] 2=some 5:=rfl
 unfold fh
 simp only[hcc,agJ I4 hs,Option.bind_some,JH I4 hc,ZI I4 hc,Vf I4 hc,QG I4 hc]
 by_cases h0:dr c=0
 ·have hg:=lg h0
  have k1:aH al .al n ⟨c.blocks.map (qV rK)⟩ ⟨c.blocks.map (qV rK)⟩=some true:=by rw[qf hn (An hc hg L4)];simp
  have k2:aH al .al n ⟨c.blocks.map (qV mf)⟩ ⟨c.blocks.map (qV mf)⟩=some true:=by rw[qf hn (An hc hg Jt)];simp
  have k3:aH al .al n ⟨c.blocks.map (qV jD)⟩ ⟨c.blocks.map (qV jD)⟩=some true:=by rw[qf hn (An hc hg Hu)];simp
  simp only[h0,dp,dm,bK,decide_true,cond_true,g0,g1,g2,Option.bind_some,J1 I4 hc h0 (fun b hb x hx o ho=>hg.kind hb hx ho),H3 I4 hc h0,Fq I4 hc h0,Bool.not_true,cond_false,cJ,k1,k2,k3,hid,beq_self_eq_true]
 ·simp only[decide_eq_false h0,dp,dm,bK,decide_true,cond_true,Option.bind_some,Bool.not_true,cond_false,cJ,hid,apl,beq_self_eq_true]
end Ab
namespace Ab
open Go
set_option maxHeartbeats 4000000
set_option maxRecDepth 100000
theorem QA:ji al .al 2000=some true:=by kernel_rfl
theorem drops_val(c:ah):mC al .al 2000 c=some true:=by
 unfold mC
 rw[QA]
 have e:(⟨c.blocks⟩:ah)=c:=rfl
 rw[e,agO (by decide) c]
 simp only[Option.bind_some]
 cases hb:Va c with
 |true=>rfl
 |false=>
  rw[IK (by decide) (Qz hb)]
  rfl
end Ab
namespace Ab
open Go Go.Proofs.Tryz
set_option maxHeartbeats 100000000
set_option maxRecDepth 100000
noncomputable def c3:Code:=f3.body.get (by kernel_rfl)
def ahO:Nat→Tree
 |_=> .done
def akx:Nat→List Nat
 |0=>[0,2]
 |1=>[3]
 |2=>[5]
 |3=>[1]++rg 6 7
 |_=>[]
noncomputable def c7:Code:=f7.body.get (by kernel_rfl)
def ahN:Nat→Tree
 |_=> .done
def akw:Nat→List Nat
 |0=>[0,2]
 |1=>[1]++rg 3 9
 |_=>[]
noncomputable def c33:Code:=f33.body.get (by kernel_rfl)
def acd:Nat→Tree
 |_=> .done
def agj:Nat→List Nat
 |0=>[4]
 |1=>[0,1,5,6,7,8]
 |_=>[]
noncomputable def c92:Code:=f92.body.get (by kernel_rfl)
def Hp:Nat→Tree
 |_=> .done
def IG:Nat→List Nat
 |0=>[4]
 |1=>[6]
 |3=>[10]
 |4=>rg 11 5
 |5=>[5,17]
 |6=>[18]
 |_=>[]
noncomputable def c34:Code:=f34.body.get (by kernel_rfl)
def acb:Nat→Tree
 |_=> .done
def agi:Nat→List Nat
 |0=>[0,2]
 |1=>[1]++rg 3 15
 |_=>[]
noncomputable def c35:Code:=f35.body.get (by kernel_rfl)
def xO:Nat→Tree
 |_=> .done
def yo:Nat→List Nat
 |0=>[4]
 |1=>[0,1,5,6,7,8]
 |_=>[]
noncomputable def Zr:Code:=f93.body.get (by kernel_rfl)
def tE:Nat→Tree
 |_=> .done
def uA:Nat→List Nat
 |0=>[4]
 |1=>[6]
 |3=>[10]
 |4=>rg 11 5
 |5=>[5,17]
 |6=>[18]
 |_=>[]
noncomputable def c36:Code:=f36.body.get (by kernel_rfl)
def aca:Nat→Tree
 |_=> .done
def agh:Nat→List Nat
 |0=>[0,2]
 |1=>[1]++rg 3 15
 |_=>[]
noncomputable def c37:Code:=f37.body.get (by kernel_rfl)
def RA:Nat→Tree
 |_=> .done
def UY:Nat→List Nat
 |0=>[4]
 |1=>[0,1,5,6,7,8]
 |_=>[]
noncomputable def c94:Code:=f94.body.get (by kernel_rfl)
def Rv:Nat→Tree
 |_=> .done
def US:Nat→List Nat
 |0=>[4]
 |1=>[6]
 |3=>[10]
 |4=>rg 11 5
 |5=>[5,17]
 |6=>[18]
 |_=>[]
noncomputable def c38:Code:=f38.body.get (by kernel_rfl)
def ab9:Nat→Tree
 |_=> .done
def agf:Nat→List Nat
 |0=>[0,2]
 |1=>[1]++rg 3 10
 |_=>[]
noncomputable def c8:Code:=f8.body.get (by kernel_rfl)
def F6:Nat→Tree
 |9=> .one 0 (.one 1 (.fork 2 (.fork 3 (.fork 4 (.fork 5 (.fork 6 (.fork 7 (.fork 8 (.one 9 (.fork 10 .done .nil)) .nil) .nil) .nil) .nil) .nil) (.fork 4 (.fork 3 (.fork 5 (.fork 6 (.fork 7 (.fork 8 (.one 9 (.fork 10 .done .nil)) .nil) .nil) .nil) .nil) .nil) .nil)) (.fork 4 (.fork 2 (.fork 3 (.fork 5 (.fork 6 (.fork 7 (.fork 8 (.one 9 (.fork 10 .done .nil)) .nil) .nil) .nil) .nil) .nil) .nil) .nil)))
 |11=> .one 0 (.one 1 (.fork 2 (.fork 3 (.fork 4 (.fork 5 (.fork 6 (.fork 7 (.one 8 (.fork 9 .done .nil)) .nil) .nil) .nil) .nil) .nil) (.fork 3 (.fork 2 (.fork 4 (.fork 5 (.fork 6 (.fork 7 (.one 8 (.fork 9 .done .nil)) .nil) .nil) .nil) .nil) .nil) .nil)))
 |12=> .fork 0 (.fork 1 (.one 2 (.one 3 (.fork 4 (.fork 5 (.fork 6 (.fork 7 (.fork 8 (.fork 9 (.fork 10 (.fork 11 .done .nil) .nil) (.fork 10 (.fork 9 (.fork 11 .done .nil) .nil) .nil)) (.fork 10 (.fork 8 (.fork 9 (.fork 11 .done .nil) .nil) .nil) .nil)) (.fork 10 (.fork 7 (.fork 8 (.fork 9 (.fork 11 .done .nil) .nil) .nil) .nil) .nil)) (.fork 10 (.fork 6 (.fork 7 (.fork 8 (.fork 9 (.fork 11 .done .nil) .nil) .nil) .nil) .nil) .nil)) (.fork 10 (.fork 5 (.fork 6 (.fork 7 (.fork 8 (.fork 9 (.fork 11 .done .nil) .nil) .nil) .nil) .nil) .nil) .nil)) (.fork 10 (.fork 4 (.fork 5 (.fork 6 (.fork 7 (.fork 8 (.fork 9 (.fork 11 .done .nil) .nil) .nil) .nil) .nil) .nil) .nil) .nil)))) (.fork 4 (.fork 1 (.one 2 (.one 3 (.fork 5 (.fork 6 (.fork 7 (.fork 8 (.fork 9 (.fork 10 (.fork 11 .done .nil) .nil) (.fork 10 (.fork 9 (.fork 11 .done .nil) .nil) .nil)) (.fork 10 (.fork 8 (.fork 9 (.fork 11 .done .nil) .nil) .nil) .nil)) (.fork 10 (.fork 7 (.fork 8 (.fork 9 (.fork 11 .done .nil) .nil) .nil) .nil) .nil)) (.fork 10 (.fork 6 (.fork 7 (.fork 8 (.fork 9 (.fork 11 .done .nil) .nil) .nil) .nil) .nil) .nil)) (.fork 10 (.fork 5 (.fork 6 (.fork 7 (.fork 8 (.fork 9 (.fork 11 .done .nil) .nil) .nil) .nil) .nil) .nil) .nil)))) (.fork 5 (.fork 1 (.one 2 (.one 3 (.fork 6 (.fork 7 (.fork 8 (.fork 9 (.fork 10 (.fork 11 .done .nil) .nil) (.fork 10 (.fork 9 (.fork 11 .done .nil) .nil) .nil)) (.fork 10 (.fork 8 (.fork 9 (.fork 11 .done .nil) .nil) .nil) .nil)) (.fork 10 (.fork 7 (.fork 8 (.fork 9 (.fork 11 .done .nil) .nil) .nil) .nil) .nil)) (.fork 10 (.fork 6 (.fork 7 (.fork 8 (.fork 9 (.fork 11 .done .nil) .nil) .nil) .nil) .nil) .nil)))) (.fork 6 (.fork 1 (.one 2 (.one 3 (.fork 7 (.fork 8 (.fork 9 (.fork 10 (.fork 11 .done .nil) .nil) (.fork 10 (.fork 9 (.fork 11 .done .nil) .nil) .nil)) (.fork 10 (.fork 8 (.fork 9 (.fork 11 .done .nil) .nil) .nil) .nil)) (.fork 10 (.fork 7 (.fork 8 (.fork 9 (.fork 11 .done .nil) .nil) .nil) .nil) .nil)))) (.fork 7 (.fork 1 (.one 2 (.one 3 (.fork 8 (.fork 9 (.fork 10 (.fork 11 .done .nil) .nil) (.fork 10 (.fork 9 (.fork 11 .done .nil) .nil) .nil)) (.fork 10 (.fork 8 (.fork 9 (.fork 11 .done .nil) .nil) .nil) .nil)))) (.fork 10 (.fork 1 (.one 2 (.one 3 (.fork 8 (.fork 9 (.fork 11 .done .nil) .nil) .nil))) .nil) .nil)) (.fork 10 (.fork 1 (.one 2 (.one 3 (.fork 7 (.fork 8 (.fork 9 (.fork 11 .done .nil) .nil) .nil) .nil))) (.fork 7 (.fork 1 (.one 2 (.one 3 (.fork 8 (.fork 9 (.fork 11 .done .nil) .nil) .nil))) .nil) .nil)) .nil))) (.fork 10 (.fork 1 (.one 2 (.one 3 (.fork 6 (.fork 7 (.fork 8 (.fork 9 (.fork 11 .done .nil) .nil) .nil) .nil) .nil))) (.fork 6 (.fork 1 (.one 2 (.one 3 (.fork 7 (.fork 8 (.fork 9 (.fork 11 .done .nil) .nil) .nil) .nil))) (.fork 7 (.fork 1 (.one 2 (.one 3 (.fork 8 (.fork 9 (.fork 11 .done .nil) .nil) .nil))) .nil) .nil)) .nil)) .nil))) (.fork 10 (.fork 1 (.one 2 (.one 3 (.fork 5 (.fork 6 (.fork 7 (.fork 8 (.fork 9 (.fork 11 .done .nil) .nil) .nil) .nil) .nil) .nil))) (.fork 5 (.fork 1 (.one 2 (.one 3 (.fork 6 (.fork 7 (.fork 8 (.fork 9 (.fork 11 .done .nil) .nil) .nil) .nil) .nil))) (.fork 6 (.fork 1 (.one 2 (.one 3 (.fork 7 (.fork 8 (.fork 9 (.fork 11 .done .nil) .nil) .nil) .nil))) (.fork 7 (.fork 1 (.one 2 (.one 3 (.fork 8 (.fork 9 (.fork 11 .done .nil) .nil) .nil))) .nil) .nil)) .nil)) .nil)) .nil))) (.fork 10 (.fork 1 (.one 2 (.one 3 (.fork 4 (.fork 5 (.fork 6 (.fork 7 (.fork 8 (.fork 9 (.fork 11 .done .nil) .nil) .nil) .nil) .nil) .nil) .nil))) (.fork 4 (.fork 1 (.one 2 (.one 3 (.fork 5 (.fork 6 (.fork 7 (.fork 8 (.fork 9 (.fork 11 .done .nil) .nil) .nil) .nil) .nil) .nil))) (.fork 5 (.fork 1 (.one 2 (.one 3 (.fork 6 (.fork 7 (.fork 8 (.fork 9 (.fork 11 .done .nil) .nil) .nil) .nil) .nil))) (.fork 6 (.fork 1 (.one 2 (.one 3 (.fork 7 (.fork 8 (.fork 9 (.fork 11 .done .nil) .nil) .nil) .nil))) (.fork 7 (.fork 1 (.one 2 (.one 3 (.fork 8 (.fork 9 (.fork 11 .done .nil) .nil) .nil))) .nil) .nil)) .nil)) .nil)) .nil)) .nil))) (.fork 10 (.fork 0 (.fork 1 (.one 2 (.one 3 (.fork 4 (.fork 5 (.fork 6 (.fork 7 (.fork 8 (.fork 9 (.fork 11 .done .nil) .nil) .nil) .nil) .nil) .nil) .nil))) (.fork 4 (.fork 1 (.one 2 (.one 3 (.fork 5 (.fork 6 (.fork 7 (.fork 8 (.fork 9 (.fork 11 .done .nil) .nil) .nil) .nil) .nil) .nil))) (.fork 5 (.fork 1 (.one 2 (.one 3 (.fork 6 (.fork 7 (.fork 8 (.fork 9 (.fork 11 .done .nil) .nil) .nil) .nil) .nil))) (.fork 6 (.fork 1 (.one 2 (.one 3 (.fork 7 (.fork 8 (.fork 9 (.fork 11 .done .nil) .nil) .nil) .nil))) (.fork 7 (.fork 1 (.one 2 (.one 3 (.fork 8 (.fork 9 (.fork 11 .done .nil) .nil) .nil))) .nil) .nil)) .nil)) .nil)) .nil)) .nil) .nil)
 |13=>on (rg 0 27) (.fork 27 (.fork 28 (.fork 29 (on [30,31,32,33] (.fork 34 (on [35,36,37,38] (.fork 39 (on (rg 40 8) (.fork 48 (on [49,50,51] (.fork 52 (.fork 53 (.one 54 (.one 55 (.fork 56 (.fork 57 (.fork 58 (.one 59 (.one 60 (.fork 61 (.fork 62 (.fork 63 (.one 64 (.one 65 .done)) .nil) .nil) .nil))) .nil) .nil) (.fork 57 (.fork 56 (.fork 58 (.one 59 (.one 60 (.fork 61 (.fork 62 (.fork 63 (.one 64 (.one 65 .done)) .nil) .nil) .nil))) .nil) (.fork 58 (.one 59 (.one 60 (.fork 56 (.fork 61 (.fork 62 (.fork 63 (.one 64 (.one 65 .done)) .nil) .nil) .nil) (.fork 61 (.fork 56 (.fork 62 (.fork 63 (.one 64 (.one 65 .done)) .nil) .nil) (.fork 62 (.one 56 (.fork 63 (.one 64 (.one 65 .done)) .nil)) .nil)) .nil)))) .nil)) .nil)))) .nil) .nil)) .nil)) .nil)) .nil)) .nil) .nil) (.fork 28 (.one 27 (.fork 29 (on [30,31,32,33] (.fork 34 (on [35,36,37,38] (.fork 39 (on (rg 40 8) (.fork 48 (on [49,50,51] (.fork 52 (.fork 53 (.one 54 (.one 55 (.fork 56 (.fork 57 (.fork 58 (.one 59 (.one 60 (.fork 61 (.fork 62 (.fork 63 (.one 64 (.one 65 .done)) .nil) .nil) .nil))) .nil) .nil) (.fork 57 (.fork 56 (.fork 58 (.one 59 (.one 60 (.fork 61 (.fork 62 (.fork 63 (.one 64 (.one 65 .done)) .nil) .nil) .nil))) .nil) (.fork 58 (.one 59 (.one 60 (.fork 56 (.fork 61 (.fork 62 (.fork 63 (.one 64 (.one 65 .done)) .nil) .nil) .nil) (.fork 61 (.fork 56 (.fork 62 (.fork 63 (.one 64 (.one 65 .done)) .nil) .nil) (.fork 62 (.one 56 (.fork 63 (.one 64 (.one 65 .done)) .nil)) .nil)) .nil)))) .nil)) .nil)))) .nil) .nil)) .nil)) .nil)) .nil)) .nil)) .nil))
 |_=> .done
def akv:Nat→List Nat
 |0=>[0]
 |1=>rg 19 5
 |2=>rg 24 5
 |3=>rg 29 6
 |4=>rg 35 5
 |5=>[8]++rg 40 5
 |6=>rg 45 5
 |7=>rg 50 5
 |8=>[55,56,57]
 |9=>rg 58 10
 |10=>[68,69,70]
 |11=>rg 71 9
 |12=>rg 80 10
 |13=>rg 1 7++rg 9 10++rg 90 65
 |_=>[]
theorem aqg:Qt fD F6 c8 0=true:=by kernel_rfl
theorem aqf:Qt fD F6 c8 1=true:=by kernel_rfl
theorem aqe:Qt fD F6 c8 2=true:=by kernel_rfl
theorem aqd:Qt fD F6 c8 3=true:=by kernel_rfl
theorem d8_:cg fD F6 c8=true:=UQ 4 (by kernel_rfl) (by kernel_rfl) fun k h=>match k,h with
 |0,_=>aqg
 |1,_=>aqf
 |2,_=>aqe
 |3,_=>aqd
 |k+4,h=>absurd h (by omega)
noncomputable def c39:Code:=f39.body.get (by kernel_rfl)
def Rz:Nat→Tree
 |_=> .done
def UX:Nat→List Nat
 |1=>rg 1 22
 |_=>[]
noncomputable def ap7(r:Nat):FI:=⟨fun _=>c39,23,[.cell 0 24],Rz,[3021],r,UX,none⟩
theorem Yn(r:Nat):lk PP fD 39 (ap7 r):= .inr ⟨rfl,_,func39,by kernel_rfl,ntmps39,by kernel_rfl,by kernel_rfl,enters func39 (c:=c39) (by kernel_rfl) (by kernel_rfl)⟩
noncomputable def c42:Code:=f42.body.get (by kernel_rfl)
def Ry:Nat→Tree
 |_=> .done
def UW:Nat→List Nat
 |1=>[0,3,4]
 |_=>[]
noncomputable def Uy(r:Nat):FI:=⟨fun _=>c42,5,[.cell 2 24],Ry,[],r,UW,none⟩
theorem OX(r:Nat):lk PP fD 42 (Uy r):= .inr ⟨rfl,_,func42,by kernel_rfl,ntmps42,by kernel_rfl,by kernel_rfl,enters func42 (c:=c42) (by kernel_rfl) (by kernel_rfl)⟩
noncomputable def c46:Code:=f46.body.get (by kernel_rfl)
def ab4:Nat→Tree
 |3=> .one 0 (.one 2 (.fork 1 (.fork 3 (on (rg 4 6) (.fork 10 (.fork 11 (.one 12 (.one 13 .done)) .nil) .nil)) .nil) .nil))
 |_=> .done
def aga:Nat→List Nat
 |0=>[0,1,4]
 |2=>[5,7]
 |3=>[2,3,6]++rg 8 13
 |_=>[]
noncomputable def c99:Code:=f99.body.get (by kernel_rfl)
def abr:Nat→Tree
 |_=> .done
def afy:Nat→List Nat
 |0=>[0]
 |2=>[1,5]
 |4=>[8,9,10,11]
 |5=>[16]
 |6=>[4]++rg 17 6
 |7=>[3,23]
 |_=>[]
noncomputable def akO:Code:=f129.body.get (by kernel_rfl)
def Wx:Nat→Tree
 |_=> .done
def YY:Nat→List Nat
 |0=>[0,2]
 |1=>[1,3]
 |_=>[]
noncomputable def akg(r:Nat):FI:=⟨fun _=>akO,4,[.tmp 2],Wx,[],r,YY,none⟩
theorem UE(r:Nat):lk PP fD 129 (akg r):= .inr ⟨rfl,_,func129,by kernel_rfl,ntmps129,by kernel_rfl,by kernel_rfl,enters func129 (c:=akO) (by kernel_rfl) (by kernel_rfl)⟩
noncomputable def akM:Code:=f154.body.get (by kernel_rfl)
def V7:Nat→Tree
 |_=> .done
def YA:Nat→List Nat
 |0=>[1,9]
 |2=>[14,15]
 |3=>[4,16]
 |5=>[21,22]
 |6=>[6,23]
 |8=>[28,29]
 |9=>[8,30,31,32]
 |10=>[34]
 |11=>[35]
 |12=>[36]
 |_=>[]
noncomputable def ake(r:Nat):FI:=⟨fun _=>akM,37,[],V7,[],r,YA,none⟩
theorem UC(r:Nat):lk PP fD 154 (ake r):= .inr ⟨rfl,_,func154,by kernel_rfl,ntmps154,by kernel_rfl,by kernel_rfl,enters func154 (c:=akM) (by kernel_rfl) (by kernel_rfl)⟩
noncomputable def c80:Code:=f80.body.get (by kernel_rfl)
def abE:Nat→Tree
 |_=> .done
def afK:Nat→List Nat
 |0=>[6]
 |1=>[10,11,12,13]
 |3=>[0]
 |5=>[19,20,21]
 |6=>[7,22,23,24,25]
 |7=>[8,9,26,27,28,29]
 |9=>[31]
 |_=>[]
noncomputable def aq4:Code:=f100.body.get (by kernel_rfl)
def WY:Nat→Tree
 |_=> .done
def Zn:Nat→List Nat
 |0=>[0,1,5]
 |1=>[2,3,4]++rg 6 20
 |_=>[]
noncomputable def akV:Code:=f101.body.get (by kernel_rfl)
def N5:Nat→Tree
 |_=> .done
def O6:Nat→List Nat
 |0=>[6]
 |1=>[10,11,12,13]
 |3=>[0]
 |5=>[19,20,21]
 |6=>[7,22,23,24,25]
 |7=>[8,9,26,27,28,29]
 |9=>[31]
 |_=>[]
noncomputable def c97:Code:=f97.body.get (by kernel_rfl)
def abt:Nat→Tree
 |_=> .done
def afz:Nat→List Nat
 |0=>[0,1,5]
 |1=>[2,3,4]++rg 6 27
 |_=>[]
noncomputable def c98:Code:=f98.body.get (by kernel_rfl)
def Ru:Nat→Tree
 |_=> .done
def UR:Nat→List Nat
 |0=>[6]
 |1=>[10,11,12,13]
 |3=>[0]
 |5=>[19,20,21]
 |6=>[7,22,23,24,25]
 |7=>[8,9,26,27,28,29]
 |9=>[31]
 |_=>[]
noncomputable def c96:Code:=f96.body.get (by kernel_rfl)
def abu:Nat→Tree
 |_=> .done
def afA:Nat→List Nat
 |0=>[0,1,4]
 |1=>[2,3]++rg 5 26
 |_=>[]
noncomputable def c47:Code:=f47.body.get (by kernel_rfl)
def ab3:Nat→Tree
 |6=>on (rg 0 9) .done
 |_=> .done
def af9:Nat→List Nat
 |0=>[4]
 |1=>[6,7,8,9]
 |3=>[11]
 |5=>[15]
 |6=>[5]++rg 16 8
 |8=>[25]
 |_=>[]
noncomputable def c40:Code:=f40.body.get (by kernel_rfl)
def ab8:Nat→Tree
 |_=> .done
def age:Nat→List Nat
 |1=>rg 1 15
 |_=>[]
noncomputable def c43:Code:=f43.body.get (by kernel_rfl)
def ab7:Nat→Tree
 |_=> .done
def agd:Nat→List Nat
 |1=>[0,1,2,7,8,9,10]
 |_=>[]
noncomputable def c45:Code:=f45.body.get (by kernel_rfl)
def ab5:Nat→Tree
 |_=> .done
def agb:Nat→List Nat
 |1=>[0,1,2,3]++rg 9 5
 |_=>[]
noncomputable def c95:Code:=f95.body.get (by kernel_rfl)
def abv:Nat→Tree
 |_=> .done
def afB:Nat→List Nat
 |1=>[0,1,2,3]++rg 9 5
 |_=>[]
noncomputable def c44:Code:=f44.body.get (by kernel_rfl)
def ab6:Nat→Tree
 |_=> .done
def agc:Nat→List Nat
 |0=>[4]
 |1=>[0,1,5,6,7,8]
 |_=>[]
noncomputable def c13:Code:=f13.body.get (by kernel_rfl)
def acm:Nat→Tree
 |13=>on (rg 0 10) (.fork 10 (.fork 11 (.fork 12 (.fork 13 (.one 14 (.fork 15 .done .nil)) .nil) .nil) .nil) .nil)
 |_=> .done
def agr:Nat→List Nat
 |0=>[0]
 |2=>[1,12]
 |4=>[17,18]
 |5=>rg 19 5
 |6=>[5,24]
 |8=>[29,30]
 |9=>rg 31 7
 |10=>[8,38]
 |12=>[43,44]
 |13=>[11]++rg 45 15
 |14=>[60]
 |15=>[9]++rg 61 6
 |16=>[67]
 |17=>[6]++rg 68 6
 |18=>[74]
 |19=>[3,75]
 |_=>[]
noncomputable def c61:Code:=f61.body.get (by kernel_rfl)
def abR:Nat→Tree
 |_=> .done
def afX:Nat→List Nat
 |0=>[2]
 |1=>[0,3,4,5]
 |_=>[]
noncomputable def Zt:Code:=f41.body.get (by kernel_rfl)
def Hq:Nat→Tree
 |3=>on [0,1,2,3,5] (.fork 4 (.fork 6 (.one 7 (.one 8 (.fork 9 .done .nil))) .nil) (.fork 6 (on [4,7,8] (.fork 9 .done .nil)) .nil))
 |4=>on (rg 0 5) (.fork 5 (.fork 6 (.fork 7 .done .nil) .nil) .nil)
 |_=> .done
def IH:Nat→List Nat
 |1=>[3]
 |2=>rg 4 10
 |3=>rg 14 8
 |4=>[1,2]++rg 22 7
 |_=>[]
noncomputable def c23:Code:=f23.body.get (by kernel_rfl)
def acg:Nat→Tree
 |_=> .done
def agm:Nat→List Nat
 |0=>[0,3,4]
 |1=>[14,15]
 |2=>[16]
 |3=>[5,18,19]
 |4=>[1,20,21]
 |6=>rg 22 5
 |8=>[31,32]
 |9=>[10]++rg 33 5
 |10=>[38]
 |13=>[41]
 |16=>[46,47]
 |17=>[13,48,49,50]
 |18=>[51]
 |19=>[52,53]
 |20=>[11,55]
 |21=>[56,57]
 |22=>[58]
 |23=>[6,7,59,60]
 |_=>[]
noncomputable def c49:Code:=f49.body.get (by kernel_rfl)
def ab1:Nat→Tree
 |13=>on [0,2,5] (.fork 1 (.one 3 (.fork 4 (.one 6 .done) .nil)) (.fork 3 (.fork 1 (.fork 4 (.one 6 .done) .nil) .nil) .nil))
 |_=> .done
def af7:Nat→List Nat
 |0=>[0,2]
 |1=>rg 14 9
 |3=>[24]
 |5=>[29,30]
 |6=>[4,31,32]
 |7=>[33]
 |8=>[5,35]
 |9=>[36]
 |10=>[37]
 |12=>[42,43,44]
 |13=>[6,7]++rg 45 6
 |15=>[52]
 |16=>[53]
 |18=>[58,59]
 |19=>[60]
 |21=>[65,66]
 |22=>[67,68]
 |24=>[72]
 |25=>[12]++rg 73 5
 |26=>[78]
 |27=>[13,80]
 |28=>[81]
 |29=>[11,82,83,84,85]
 |31=>[93]
 |32=>[94]
 |_=>[]
noncomputable def akU:Code:=f107.body.get (by kernel_rfl)
def WS:Nat→Tree
 |_=> .done
def Zh:Nat→List Nat
 |0=>[0,2]
 |1=>[1,3]
 |_=>[]
noncomputable def akm(r:Nat):FI:=⟨fun _=>akU,4,[.tmp 2],WS,[],r,Zh,none⟩
theorem Eo(r:Nat):lk PP fD 107 (akm r):= .inr ⟨rfl,_,func107,by kernel_rfl,ntmps107,by kernel_rfl,by kernel_rfl,enters func107 (c:=akU) (by kernel_rfl) (by kernel_rfl)⟩
noncomputable def aqz:Code:=f143.body.get (by kernel_rfl)
def Wk:Nat→Tree
 |_=> .done
def YL:Nat→List Nat
 |0=>[0,3]
 |1=>[1,2,4,5,6,7]
 |_=>[]
noncomputable def aqy:Code:=f144.body.get (by kernel_rfl)
def Wj:Nat→Tree
 |_=> .done
def YK:Nat→List Nat
 |0=>[0,3]
 |1=>[1,2,4,5,6,7]
 |_=>[]
noncomputable def aqY:Code:=f108.body.get (by kernel_rfl)
def WR:Nat→Tree
 |3=>on (rg 0 18) .done
 |18=>on [0,3,5,6,7] (.fork 1 (.one 2 (.fork 4 (.fork 8 (on (rg 9 7) (.fork 16 (.fork 17 (.one 18 .done) .nil) .nil)) .nil) (.fork 8 (on ([4]++rg 9 7) (.fork 16 (.fork 17 (.one 18 .done) .nil) .nil)) .nil))) (.fork 4 (.fork 1 (.one 2 (.fork 8 (on (rg 9 7) (.fork 16 (.fork 17 (.one 18 .done) .nil) .nil)) .nil)) (.fork 8 (on ([1,2]++rg 9 7) (.fork 16 (.fork 17 (.one 18 .done) .nil) .nil)) .nil)) (.fork 8 (on ([1,2,4]++rg 9 7) (.fork 16 (.fork 17 (.one 18 .done) .nil) .nil)) .nil)))
 |_=> .done
def Zg:Nat→List Nat
 |0=>[0,1,2,3,8]
 |1=>rg 15 5
 |2=>[20,21]
 |3=>rg 22 16
 |4=>[5]++rg 38 11
 |5=>rg 50 8
 |7=>rg 59 16
 |9=>[13]++rg 76 9
 |11=>[11]++rg 86 18
 |13=>rg 105 15
 |15=>[12,121,122]
 |17=>[6,7]++rg 123 5
 |18=>[4,9,10,14]++rg 128 18
 |_=>[]
noncomputable def aqx:Code:=f145.body.get (by kernel_rfl)
def Wi:Nat→Tree
 |_=> .done
def YJ:Nat→List Nat
 |0=>[1,4]
 |1=>[0,3,5,6,7,8]
 |_=>[]
noncomputable def Zw:Code:=f148.body.get (by kernel_rfl)
def CP:Nat→Tree
 |_=> .done
def C2:Nat→List Nat
 |0=>[4]
 |1=>[0,1,5,6,7,8]
 |_=>[]
noncomputable def Zu:Code:=f159.body.get (by kernel_rfl)
def CN:Nat→Tree
 |_=> .done
def CY:Nat→List Nat
 |0=>[4]
 |1=>[6]
 |3=>[10]
 |4=>rg 11 5
 |5=>[5,17]
 |6=>[18]
 |_=>[]
noncomputable def aqp:Code:=f157.body.get (by kernel_rfl)
def V5:Nat→Tree
 |_=> .done
def Yy:Nat→List Nat
 |0=>[3]
 |1=>[0,1,4,5,6,7]
 |_=>[]
noncomputable def aqw:Code:=f146.body.get (by kernel_rfl)
def Wh:Nat→Tree
 |_=> .done
def YI:Nat→List Nat
 |0=>[3]
 |1=>[0,1]++rg 4 7
 |_=>[]
noncomputable def aqC:Code:=f140.body.get (by kernel_rfl)
def Wn:Nat→Tree
 |_=> .done
def YO:Nat→List Nat
 |0=>[2]
 |1=>[0]++rg 3 13
 |_=>[]
noncomputable def aqq:Code:=f156.body.get (by kernel_rfl)
def V6:Nat→Tree
 |4=>on [0,1,2,4,5] (.fork 3 (.fork 6 (.one 7 .done) .nil) .nil)
 |_=> .done
def Yz:Nat→List Nat
 |0=>[4]
 |1=>rg 7 5
 |2=>[0,13]
 |3=>rg 14 7
 |4=>[0,1]++rg 22 7
 |5=>rg 29 5
 |6=>[6]
 |7=>[0,5,35,36,37]
 |8=>[0,1]++rg 38 5
 |_=>[]
noncomputable def akK:Code:=f163.body.get (by kernel_rfl)
def V1:Nat→Tree
 |_=> .done
def Yu:Nat→List Nat
 |0=>[4]
 |1=>[5,6]
 |2=>[8,9,10,11]
 |3=>[13,14]
 |4=>[0,15]
 |_=>[]
noncomputable def akd(r:Nat):FI:=⟨fun _=>akK,16,[.tmp 4],V1,[],r,Yu,none⟩
theorem UB(r:Nat):lk PP fD 163 (akd r):= .inr ⟨rfl,_,func163,by kernel_rfl,ntmps163,by kernel_rfl,by kernel_rfl,enters func163 (c:=akK) (by kernel_rfl) (by kernel_rfl)⟩
noncomputable def akJ:Code:=f164.body.get (by kernel_rfl)
def V0:Nat→Tree
 |_=> .done
def Yt:Nat→List Nat
 |0=>[4]
 |1=>[5,6]
 |2=>rg 8 7
 |3=>rg 16 5
 |4=>[0,21]
 |_=>[]
noncomputable def akc(r:Nat):FI:=⟨fun _=>akJ,22,[.tmp 4],V0,[],r,Yt,none⟩
theorem UA(r:Nat):lk PP fD 164 (akc r):= .inr ⟨rfl,_,func164,by kernel_rfl,ntmps164,by kernel_rfl,by kernel_rfl,enters func164 (c:=akJ) (by kernel_rfl) (by kernel_rfl)⟩
noncomputable def akI:Code:=f167.body.get (by kernel_rfl)
def VZ:Nat→Tree
 |_=> .done
def Ys:Nat→List Nat
 |0=>[4]
 |1=>[0,1]++rg 5 5
 |_=>[]
noncomputable def akb(r:Nat):FI:=⟨fun _=>akI,10,[.tmp 4],VZ,[],r,Ys,none⟩
theorem Uz(r:Nat):lk PP fD 167 (akb r):= .inr ⟨rfl,_,func167,by kernel_rfl,ntmps167,by kernel_rfl,by kernel_rfl,enters func167 (c:=akI) (by kernel_rfl) (by kernel_rfl)⟩
noncomputable def aqm:Code:=f162.body.get (by kernel_rfl)
def V2:Nat→Tree
 |_=> .done
def Yv:Nat→List Nat
 |0=>[3]
 |2=>[6,7,8]
 |3=>[10,11]
 |4=>[12,13,14]
 |5=>[15]
 |6=>[17]
 |7=>[5,18,19]
 |8=>[20]
 |_=>[]
noncomputable def aqo:Code:=f160.body.get (by kernel_rfl)
def V4:Nat→Tree
 |_=> .done
def Yx:Nat→List Nat
 |0=>[4]
 |1=>[5,6,7,8]
 |2=>[14,15]
 |3=>[0,16]
 |_=>[]
noncomputable def aqn:Code:=f161.body.get (by kernel_rfl)
def V3:Nat→Tree
 |_=> .done
def Yw:Nat→List Nat
 |0=>[4]
 |1=>[5,6,7,8]
 |2=>rg 17 5
 |3=>[0,22]
 |_=>[]
noncomputable def aqv:Code:=f147.body.get (by kernel_rfl)
def Wg:Nat→Tree
 |_=> .done
def YG:Nat→List Nat
 |0=>[2]
 |2=>[0]
 |4=>[11,12]
 |5=>[5,13,14,15,16,26]
 |6=>[6,27,28,29,30]
 |7=>[31]
 |8=>[3,32]
 |_=>[]
noncomputable def akL:Code:=f158.body.get (by kernel_rfl)
def N3:Nat→Tree
 |_=> .done
def O4:Nat→List Nat
 |0=>[3]
 |1=>[0,1,4,5,6,7]
 |_=>[]
noncomputable def aqu:Code:=f149.body.get (by kernel_rfl)
def We:Nat→Tree
 |_=> .done
def YF:Nat→List Nat
 |0=>[3]
 |1=>[0,1,4,5,6,7]
 |_=>[]
noncomputable def aqZ:Code:=f106.body.get (by kernel_rfl)
def WT:Nat→Tree
 |_=> .done
def Zi:Nat→List Nat
 |0=>[0,2]
 |2=>[5]
 |3=>rg 7 16
 |5=>rg 24 14
 |7=>rg 39 11
 |9=>[51,52,53,54]
 |11=>[3]++rg 56 10
 |13=>[1,4,67,68,69,70]
 |_=>[]
noncomputable def Zx:Code:=f137.body.get (by kernel_rfl)
def CQ:Nat→Tree
 |_=> .done
def C3:Nat→List Nat
 |0=>[1,4]
 |1=>[0,3,5,6,7,8]
 |_=>[]
noncomputable def Zv:Code:=f155.body.get (by kernel_rfl)
def CO:Nat→Tree
 |_=> .done
def CZ:Nat→List Nat
 |0=>[0,3]
 |1=>[1,2,4,5,6,7]
 |_=>[]
noncomputable def aqE:Code:=f138.body.get (by kernel_rfl)
def Wp:Nat→Tree
 |_=> .done
def YQ:Nat→List Nat
 |0=>[0,2]
 |1=>[1]++rg 3 10
 |_=>[]
noncomputable def aqD:Code:=f139.body.get (by kernel_rfl)
def Wo:Nat→Tree
 |_=> .done
def YP:Nat→List Nat
 |0=>[0,2]
 |1=>[1]++rg 3 8
 |_=>[]
noncomputable def aqB:Code:=f141.body.get (by kernel_rfl)
def Wm:Nat→Tree
 |_=> .done
def YN:Nat→List Nat
 |0=>[0,3]
 |1=>[1,2]++rg 4 8
 |_=>[]
noncomputable def aqI:Code:=f133.body.get (by kernel_rfl)
def Wt:Nat→Tree
 |_=> .done
def YU:Nat→List Nat
 |0=>[0,2]
 |1=>[1,3,4,5]
 |_=>[]
noncomputable def aqA:Code:=f142.body.get (by kernel_rfl)
def Wl:Nat→Tree
 |_=> .done
def YM:Nat→List Nat
 |0=>[0,4]
 |1=>[1,2,3]++rg 5 14
 |_=>[]
noncomputable def aqH:Code:=f134.body.get (by kernel_rfl)
def Ws:Nat→Tree
 |_=> .done
def YT:Nat→List Nat
 |0=>[0,3]
 |1=>[6,7,8,9]
 |2=>[1,2,4]++rg 10 7
 |3=>[5,17,18]
 |_=>[]
noncomputable def aqG:Code:=f135.body.get (by kernel_rfl)
def Wr:Nat→Tree
 |_=> .done
def YS:Nat→List Nat
 |0=>[0,3]
 |1=>[1,2]++rg 4 12
 |_=>[]
noncomputable def aqF:Code:=f136.body.get (by kernel_rfl)
def Wq:Nat→Tree
 |_=> .done
def YR:Nat→List Nat
 |0=>[0,3]
 |1=>[1,2]++rg 4 12
 |_=>[]
noncomputable def c77:Code:=f77.body.get (by kernel_rfl)
def abF:Nat→Tree
 |_=> .done
def afL:Nat→List Nat
 |0=>[0]
 |1=>[1,3,4]
 |_=>[]
noncomputable def c50:Code:=f50.body.get (by kernel_rfl)
def Rx:Nat→Tree
 |11=>on (rg 0 5++[6,7,8]) (.fork 5 (.fork 9 (on [10,11,12] (.fork 13 .done .nil)) .nil) (.fork 9 (on [5,10,11,12] (.fork 13 .done .nil)) .nil))
 |15=>on [0,1,2,3,5,6,7,8] (.fork 4 (.fork 9 (.fork 10 (.fork 11 (.one 12 (.one 13 (.fork 14 .done .nil))) .nil) .nil) .nil) (.fork 9 (.one 4 (.fork 10 (.fork 11 (.one 12 (.one 13 (.fork 14 .done .nil))) .nil) .nil)) .nil))
 |17=>on (rg 0 12) (.fork 12 .done .nil)
 |19=>on (rg 0 9) (.fork 9 (.fork 10 (.one 11 (.one 12 (.fork 13 .done .nil))) .nil) .nil)
 |_=> .done
def UU:Nat→List Nat
 |0=>[0,1,2]
 |2=>[16]
 |4=>[21,22]
 |5=>[9]++rg 23 10
 |6=>[33]
 |7=>[3,34]
 |10=>[38,39,40]
 |11=>rg 41 12
 |12=>[53]
 |14=>[58,59,60]
 |15=>[13,14]++rg 61 14
 |16=>[75]
 |17=>[11]++rg 76 12
 |18=>[10]++rg 88 5
 |19=>[12,15]++rg 93 13
 |20=>[7,106]
 |_=>[]
noncomputable def ap6(r:Nat):FI:=⟨fun _=>c50,107,[.cell 6 24],Rx,[1031,2097],r,UU,none⟩
theorem wY(r:Nat):lk PP fD 50 (ap6 r):= .inr ⟨rfl,_,func50,by kernel_rfl,ntmps50,by kernel_rfl,by kernel_rfl,enters func50 (c:=c50) (by kernel_rfl) (by kernel_rfl)⟩
noncomputable def c54:Code:=f54.body.get (by kernel_rfl)
def abX:Nat→Tree
 |5=>on (rg 0 13) (.fork 13 (.fork 14 (.fork 15 (on [16,17,18] (.fork 19 .done .nil)) .nil) .nil) .nil)
 |_=> .done
def af3:Nat→List Nat
 |0=>[1,6]
 |1=>[8,9,10]
 |2=>[11,12,13]
 |3=>[2,14,15]
 |5=>[4,7]++rg 17 19
 |6=>[0]++rg 36 7
 |_=>[]
noncomputable def ap3(r:Nat):FI:=⟨fun _=>c54,43,[.tmp 6],abX,[],r,af3,none⟩
theorem uk(r:Nat):lk PP fD 54 (ap3 r):= .inr ⟨rfl,_,func54,by kernel_rfl,ntmps54,by kernel_rfl,by kernel_rfl,enters func54 (c:=c54) (by kernel_rfl) (by kernel_rfl)⟩
noncomputable def c87:Code:=f87.body.get (by kernel_rfl)
def abA:Nat→Tree
 |_=> .done
def afG:Nat→List Nat
 |0=>[0,1,2]
 |1=>[3,4]
 |_=>[]
noncomputable def apW(r:Nat):FI:=⟨fun _=>c87,5,[.tmp 2],abA,[],r,afG,none⟩
theorem OW(r:Nat):lk PP fD 87 (apW r):= .inr ⟨rfl,_,func87,by kernel_rfl,ntmps87,by kernel_rfl,by kernel_rfl,enters func87 (c:=c87) (by kernel_rfl) (by kernel_rfl)⟩
noncomputable def c91:Code:=f91.body.get (by kernel_rfl)
def abw:Nat→Tree
 |_=> .done
def afC:Nat→List Nat
 |0=>[0,2]
 |1=>[1,3]
 |_=>[]
noncomputable def apU(r:Nat):FI:=⟨fun _=>c91,4,[.tmp 2],abw,[],r,afC,none⟩
theorem uj(r:Nat):lk PP fD 91 (apU r):= .inr ⟨rfl,_,func91,by kernel_rfl,ntmps91,by kernel_rfl,by kernel_rfl,enters func91 (c:=c91) (by kernel_rfl) (by kernel_rfl)⟩
noncomputable def akQ:Code:=f122.body.get (by kernel_rfl)
def WD:Nat→Tree
 |1=>on (rg 0 5) (.fork 5 (.fork 6 (.one 7 .done) .nil) .nil)
 |_=> .done
def Y4:Nat→List Nat
 |0=>[2,6]
 |1=>[0,5]++rg 7 7
 |_=>[]
noncomputable def aki(r:Nat):FI:=⟨fun _=>akQ,14,[.tmp 6],WD,[],r,Y4,none⟩
theorem UF(r:Nat):lk PP fD 122 (aki r):= .inr ⟨rfl,_,func122,by kernel_rfl,ntmps122,by kernel_rfl,by kernel_rfl,enters func122 (c:=akQ) (by kernel_rfl) (by kernel_rfl)⟩
noncomputable def akP:Code:=f128.body.get (by kernel_rfl)
def Wy:Nat→Tree
 |_=> .done
def YZ:Nat→List Nat
 |0=>[1,7]
 |2=>[12,13,14]
 |3=>[4,15]
 |5=>[20,21,22]
 |6=>[5,6]++rg 23 6
 |7=>[30]
 |8=>[31]
 |_=>[]
noncomputable def akh(r:Nat):FI:=⟨fun _=>akP,32,[],Wy,[],r,YZ,none⟩
theorem qE(r:Nat):lk PP fD 128 (akh r):= .inr ⟨rfl,_,func128,by kernel_rfl,ntmps128,by kernel_rfl,by kernel_rfl,enters func128 (c:=akP) (by kernel_rfl) (by kernel_rfl)⟩
noncomputable def c55:Code:=f55.body.get (by kernel_rfl)
def xN:Nat→Tree
 |_=> .done
def yn:Nat→List Nat
 |0=>[4]
 |2=>[1]
 |4=>[12,13]
 |5=>[7]++rg 14 10
 |6=>[24]
 |7=>[5,25]
 |_=>[]
noncomputable def c78:Code:=f78.body.get (by kernel_rfl)
def Dn:Nat→Tree
 |_=> .done
def EA:Nat→List Nat
 |0=>[0,1]
 |1=>[2,3]++rg 6 8
 |2=>[5,14]
 |_=>[]
noncomputable def c12:Code:=f12.body.get (by kernel_rfl)
def acn:Nat→Tree
 |_=> .done
def ags:Nat→List Nat
 |0=>[0,3]
 |1=>[6,7]
 |2=>[8]
 |3=>[4,10,11]
 |5=>[1,5,12,13,14,15]
 |_=>[]
noncomputable def c58:Code:=f58.body.get (by kernel_rfl)
def abU:Nat→Tree
 |1=>on (rg 0 11) (.fork 11 (.fork 12 .done .nil) .nil)
 |_=> .done
def af0:Nat→List Nat
 |0=>[0,4]
 |1=>[1,2,3]++rg 5 12
 |2=>[17,18]
 |_=>[]
noncomputable def ap0(r:Nat):FI:=⟨fun _=>c58,19,[.tmp 4],abU,[],r,af0,none⟩
theorem Yi(r:Nat):lk PP fD 58 (ap0 r):= .inr ⟨rfl,_,func58,by kernel_rfl,ntmps58,by kernel_rfl,by kernel_rfl,enters func58 (c:=c58) (by kernel_rfl) (by kernel_rfl)⟩
noncomputable def c60:Code:=f60.body.get (by kernel_rfl)
def abS:Nat→Tree
 |3=>on (rg 0 5) (.fork 5 (.fork 6 (.one 7 .done) .nil) .nil)
 |_=> .done
def afY:Nat→List Nat
 |0=>[2,7]
 |1=>[1,3]++rg 8 9
 |2=>[18]
 |3=>[0,6]++rg 19 7
 |_=>[]
noncomputable def apZ(r:Nat):FI:=⟨fun _=>c60,26,[.tmp 7],abS,[],r,afY,none⟩
theorem Yh(r:Nat):lk PP fD 60 (apZ r):= .inr ⟨rfl,_,func60,by kernel_rfl,ntmps60,by kernel_rfl,by kernel_rfl,enters func60 (c:=c60) (by kernel_rfl) (by kernel_rfl)⟩
noncomputable def agA:Code:=f111.body.get (by kernel_rfl)
def N4:Nat→Tree
 |_=> .done
def O5:Nat→List Nat
 |0=>[7,8,9]
 |1=>[1,11,12,13]
 |2=>rg 14 6
 |3=>[0,2]++rg 21 5
 |5=>[30,31]
 |6=>[6,32,33,34]
 |7=>[35]
 |_=>[]
noncomputable def KZ(r:Nat):FI:=⟨fun _=>agA,36,[],N4,[],r,O5,none⟩
theorem UG(r:Nat):lk PP fD 111 (KZ r):= .inr ⟨rfl,_,func111,by kernel_rfl,ntmps111,by kernel_rfl,by kernel_rfl,enters func111 (c:=agA) (by kernel_rfl) (by kernel_rfl)⟩
noncomputable def c59:Code:=f59.body.get (by kernel_rfl)
def abT:Nat→Tree
 |_=> .done
def afZ:Nat→List Nat
 |0=>[0,2]
 |1=>[9,10,11,12]
 |3=>[13]
 |4=>[1,14]
 |6=>[19,20]
 |7=>[21]
 |8=>[6,23]
 |10=>[28,29]
 |11=>[8,30,31,32]
 |12=>[33]
 |13=>[34]
 |14=>[3,35]
 |_=>[]
noncomputable def c89:Code:=f89.body.get (by kernel_rfl)
def aby:Nat→Tree
 |_=> .done
def afE:Nat→List Nat
 |0=>[0,2]
 |1=>[1]++rg 3 8
 |_=>[]
noncomputable def c19:Code:=f19.body.get (by kernel_rfl)
def aci:Nat→Tree
 |_=> .done
def ago:Nat→List Nat
 |0=>[0,3]
 |1=>[5,6]
 |2=>[7]
 |3=>[4,9,10]
 |4=>[1,11,12,13]
 |_=>[]
noncomputable def c70:Code:=f70.body.get (by kernel_rfl)
def Rw:Nat→Tree
 |_=> .done
def UT:Nat→List Nat
 |0=>[0,1]
 |2=>[2,3]++rg 5 5
 |_=>[]
noncomputable def c71:Code:=f71.body.get (by kernel_rfl)
def abJ:Nat→Tree
 |2=>on (rg 0 5) (.fork 5 (.fork 6 (.one 7 .done) .nil) .nil)
 |_=> .done
def afP:Nat→List Nat
 |0=>[1,6]
 |1=>[2,4,8,9,10,11]
 |2=>[7]++rg 12 6
 |_=>[]
noncomputable def apY(r:Nat):FI:=⟨fun _=>c71,18,[.cell 5 61,.tmp 6],abJ,[],r,afP,none⟩
theorem Yg(r:Nat):lk PP fD 71 (apY r):= .inr ⟨rfl,_,func71,by kernel_rfl,ntmps71,by kernel_rfl,by kernel_rfl,enters func71 (c:=c71) (by kernel_rfl) (by kernel_rfl)⟩
noncomputable def akS:Code:=f115.body.get (by kernel_rfl)
def WK:Nat→Tree
 |_=> .done
def Za:Nat→List Nat
 |0=>[0,4]
 |1=>[1,3,5]
 |2=>[2,6,7,8]
 |_=>[]
noncomputable def akk(r:Nat):FI:=⟨fun _=>akS,9,[.tmp 4],WK,[],r,Za,none⟩
theorem KY(r:Nat):lk PP fD 115 (akk r):= .inr ⟨rfl,_,func115,by kernel_rfl,ntmps115,by kernel_rfl,by kernel_rfl,enters func115 (c:=akS) (by kernel_rfl) (by kernel_rfl)⟩
noncomputable def akR:Code:=f116.body.get (by kernel_rfl)
def WJ:Nat→Tree
 |4=>on (rg 0 6) (.fork 6 (on [7,8,9] (.fork 10 (.one 11 .done) .nil)) .nil)
 |5=>on (rg 0 17) .done
 |21=>on (rg 0 5) (.fork 5 (.fork 6 (.one 7 .done) .nil) .nil)
 |25=>on (rg 0 16) .done
 |28=>on (rg 0 9) .done
 |_=> .done
def Y9:Nat→List Nat
 |0=>[2,8]
 |1=>[20,21,22,23]
 |2=>[24]
 |3=>[25]
 |4=>rg 27 10
 |5=>[1,3,4]++rg 37 16
 |7=>[53]
 |9=>[58,59]
 |10=>[15,60,61]
 |11=>[63,64]
 |12=>[65]
 |13=>[11,12,13]++rg 66 14
 |14=>[0,7,9,81,82,83,84]
 |15=>[85,86]
 |16=>[87]
 |18=>[92,93]
 |19=>[19]
 |20=>[94]
 |21=>[18]++rg 96 7
 |22=>[104]
 |23=>[18]++rg 105 5
 |24=>[95,111]
 |25=>[18]++rg 112 15
 |26=>[19]++rg 127 10
 |27=>[137]
 |28=>[10,16]++rg 138 8
 |_=>[]
noncomputable def akj(r:Nat):FI:=⟨fun _=>akR,146,[.tmp 8],WJ,[],r,Y9,none⟩
theorem KX(r:Nat):lk PP fD 116 (akj r):= .inr ⟨rfl,_,func116,by kernel_rfl,ntmps116,by kernel_rfl,by kernel_rfl,enters func116 (c:=akR) (by kernel_rfl) (by kernel_rfl)⟩
noncomputable def aqT:Code:=f117.body.get (by kernel_rfl)
def WI:Nat→Tree
 |_=> .done
def Y8:Nat→List Nat
 |0=>[2]
 |2=>[0]
 |4=>[10,11]
 |5=>[5,12,13,14]
 |6=>[15]
 |7=>[3,16]
 |_=>[]
noncomputable def c72:Code:=f72.body.get (by kernel_rfl)
def abI:Nat→Tree
 |_=> .done
def afO:Nat→List Nat
 |0=>[0,1]
 |1=>[3,6,7,8,9]
 |2=>[2,5]++rg 10 5
 |_=>[]
noncomputable def aqS:Code:=f118.body.get (by kernel_rfl)
def WH:Nat→Tree
 |_=> .done
def Y7:Nat→List Nat
 |0=>[0,3]
 |1=>[1,2,4,5,6,7]
 |_=>[]
noncomputable def c67:Code:=f67.body.get (by kernel_rfl)
def abL:Nat→Tree
 |_=> .done
def afR:Nat→List Nat
 |0=>[0,2]
 |1=>[1]++rg 3 19
 |_=>[]
noncomputable def c74:Code:=f74.body.get (by kernel_rfl)
def abG:Nat→Tree
 |_=> .done
def afM:Nat→List Nat
 |0=>[0,2]
 |1=>[1,3,4,5]
 |_=>[]
noncomputable def aqR:Code:=f119.body.get (by kernel_rfl)
def WG:Nat→Tree
 |_=> .done
def Y6:Nat→List Nat
 |0=>[1,4]
 |1=>[0,3,5,6,7,8]
 |_=>[]
noncomputable def aqs:Code:=f152.body.get (by kernel_rfl)
def V9:Nat→Tree
 |_=> .done
def YC:Nat→List Nat
 |0=>[0,3]
 |1=>[1,2,4,5,6,7]
 |_=>[]
noncomputable def aqQ:Code:=f120.body.get (by kernel_rfl)
def WE:Nat→Tree
 |_=> .done
def Y5:Nat→List Nat
 |0=>[0,2]
 |1=>[1,3,4,5]
 |_=>[]
noncomputable def c20:Code:=f20.body.get (by kernel_rfl)
def ach:Nat→Tree
 |_=> .done
def agn:Nat→List Nat
 |0=>[0,3]
 |1=>[5,6]
 |2=>[7]
 |3=>[4,9,10]
 |4=>[1,11,12,13]
 |_=>[]
noncomputable def c73:Code:=f73.body.get (by kernel_rfl)
def abH:Nat→Tree
 |4=>on (rg 0 17) (.fork 17 (.fork 18 .done .nil) .nil)
 |9=> .one 0 (.one 1 (.fork 2 (.fork 3 (.one 4 .done) .nil) .nil))
 |_=> .done
def afN:Nat→List Nat
 |0=>[1,6]
 |1=>[2,11,12,13,14]
 |2=>rg 15 5
 |3=>[21]
 |4=>[0,4]++rg 22 17
 |5=>[7,39]
 |7=>[44,45]
 |8=>[46,47,48,49,55,56]
 |9=>[10,64,65,66]
 |10=>[67]
 |11=>[68]
 |_=>[]
noncomputable def apX(r:Nat):FI:=⟨fun _=>c73,69,[.cell 5 61,.tmp 6],abH,[],r,afN,none⟩
theorem Yf(r:Nat):lk PP fD 73 (apX r):= .inr ⟨rfl,_,func73,by kernel_rfl,ntmps73,by kernel_rfl,by kernel_rfl,enters func73 (c:=c73) (by kernel_rfl) (by kernel_rfl)⟩
noncomputable def c11:Code:=f11.body.get (by kernel_rfl)
def aco:Nat→Tree
 |_=> .done
def agt:Nat→List Nat
 |0=>[0,3]
 |1=>[6,7]
 |2=>[8]
 |3=>[4,10,11]
 |5=>[1,5,12,13,14,15]
 |_=>[]
noncomputable def c56:Code:=f56.body.get (by kernel_rfl)
def abW:Nat→Tree
 |_=> .done
def af2:Nat→List Nat
 |0=>[0,2,3]
 |1=>[1,4]
 |2=>[5,6]
 |_=>[]
noncomputable def ap2(r:Nat):FI:=⟨fun _=>c56,7,[.tmp 3],abW,[],r,af2,none⟩
theorem Yk(r:Nat):lk PP fD 56 (ap2 r):= .inr ⟨rfl,_,func56,by kernel_rfl,ntmps56,by kernel_rfl,by kernel_rfl,enters func56 (c:=c56) (by kernel_rfl) (by kernel_rfl)⟩
noncomputable def c57:Code:=f57.body.get (by kernel_rfl)
def abV:Nat→Tree
 |1=>on (rg 0 6++[7,8,9]) (.fork 6 (.fork 10 (.fork 11 (.fork 12 (.one 13 .done) .nil) .nil) (.fork 11 (.fork 10 (.fork 12 (.one 13 .done) .nil) .nil) .nil)) (.fork 10 (.fork 6 (.fork 11 (.fork 12 (.one 13 .done) .nil) .nil) (.fork 11 (.fork 6 (.fork 12 (.one 13 .done) .nil) .nil) .nil)) (.fork 11 (.fork 6 (.fork 10 (.fork 12 (.one 13 .done) .nil) .nil) (.fork 10 (.fork 6 (.fork 12 (.one 13 .done) .nil) .nil) .nil)) .nil)))
 |_=> .done
def af1:Nat→List Nat
 |0=>[2,7]
 |1=>rg 14 11
 |2=>[25,26]
 |4=>[31,32]
 |5=>rg 33 8
 |6=>[12]++rg 41 10
 |7=>[11,56]
 |8=>[57]
 |9=>[0,6,9,58,59,60,61]
 |10=>[3,8]++rg 62 8
 |11=>[13,70]
 |_=>[]
noncomputable def ap1(r:Nat):FI:=⟨fun _=>c57,71,[.tmp 7],abV,[],r,af1,none⟩
theorem Yj(r:Nat):lk PP fD 57 (ap1 r):= .inr ⟨rfl,_,func57,by kernel_rfl,ntmps57,by kernel_rfl,by kernel_rfl,enters func57 (c:=c57) (by kernel_rfl) (by kernel_rfl)⟩
noncomputable def c10:Code:=f10.body.get (by kernel_rfl)
def acp:Nat→Tree
 |_=> .done
def agu:Nat→List Nat
 |0=>[0,3]
 |1=>[6,7]
 |2=>[8]
 |3=>[4,10,11]
 |5=>[1,5,12,13,14,15]
 |_=>[]
noncomputable def c51:Code:=f51.body.get (by kernel_rfl)
def ab0:Nat→Tree
 |_=> .done
def af6:Nat→List Nat
 |0=>[0,4]
 |1=>[1,2,3]++rg 5 9
 |2=>[14,15]
 |_=>[]
noncomputable def ap5(r:Nat):FI:=⟨fun _=>c51,16,[.tmp 4],ab0,[],r,af6,none⟩
theorem Ym(r:Nat):lk PP fD 51 (ap5 r):= .inr ⟨rfl,_,func51,by kernel_rfl,ntmps51,by kernel_rfl,by kernel_rfl,enters func51 (c:=c51) (by kernel_rfl) (by kernel_rfl)⟩
noncomputable def c53:Code:=f53.body.get (by kernel_rfl)
def abY:Nat→Tree
 |3=>on (rg 0 5) (.fork 5 (.fork 6 (.one 7 .done) .nil) .nil)
 |_=> .done
def af4:Nat→List Nat
 |0=>[2,7]
 |1=>[1,3,8,9,10,11]
 |3=>[0,6]++rg 13 7
 |_=>[]
noncomputable def ap4(r:Nat):FI:=⟨fun _=>c53,20,[.tmp 7],abY,[],r,af4,none⟩
theorem Yl(r:Nat):lk PP fD 53 (ap4 r):= .inr ⟨rfl,_,func53,by kernel_rfl,ntmps53,by kernel_rfl,by kernel_rfl,enters func53 (c:=c53) (by kernel_rfl) (by kernel_rfl)⟩
noncomputable def c52:Code:=f52.body.get (by kernel_rfl)
def abZ:Nat→Tree
 |9=>on (rg 0 17) (.fork 17 .done .nil)
 |_=> .done
def af5:Nat→List Nat
 |0=>[0,6,7]
 |1=>[1,2,3]++rg 15 7
 |2=>[22]
 |3=>[9,24]
 |4=>[25,26,27,28]
 |5=>[29,30,31,32]
 |6=>[8,33,34]
 |9=>rg 38 7++[48,49,53,54]
 |10=>[11,55,56,57]
 |11=>[12,59]
 |13=>[64,65]
 |14=>[14,66,67,68]
 |15=>[69]
 |16=>[10,70]
 |_=>[]
noncomputable def akT:Code:=f110.body.get (by kernel_rfl)
def WO:Nat→Tree
 |_=> .done
def Ze:Nat→List Nat
 |0=>[0,2]
 |1=>[1,3]
 |_=>[]
noncomputable def akl(r:Nat):FI:=⟨fun _=>akT,4,[.tmp 2],WO,[],r,Ze,none⟩
theorem UH(r:Nat):lk PP fD 110 (akl r):= .inr ⟨rfl,_,func110,by kernel_rfl,ntmps110,by kernel_rfl,by kernel_rfl,enters func110 (c:=akT) (by kernel_rfl) (by kernel_rfl)⟩
noncomputable def akN:Code:=f150.body.get (by kernel_rfl)
def Wd:Nat→Tree
 |_=> .done
def YE:Nat→List Nat
 |0=>[4,5,6]
 |1=>[7]
 |2=>[9,10]
 |3=>rg 11 7
 |_=>[]
noncomputable def akf(r:Nat):FI:=⟨fun _=>akN,19,[],Wd,[],r,YE,none⟩
theorem UD(r:Nat):lk PP fD 150 (akf r):= .inr ⟨rfl,_,func150,by kernel_rfl,ntmps150,by kernel_rfl,by kernel_rfl,enters func150 (c:=akN) (by kernel_rfl) (by kernel_rfl)⟩
noncomputable def aqX:Code:=f109.body.get (by kernel_rfl)
def WQ:Nat→Tree
 |_=> .done
def Zf:Nat→List Nat
 |0=>[0,7]
 |1=>[9,10]
 |2=>[11]
 |3=>[8,13,14]
 |4=>rg 15 23
 |5=>[39]
 |6=>[1,2,3]++rg 40 9
 |_=>[]
noncomputable def c29:Code:=f29.body.get (by kernel_rfl)
def acf:Nat→Tree
 |_=> .done
def agl:Nat→List Nat
 |0=>[0,2,3]
 |1=>[6,7]
 |2=>[8]
 |3=>[4,10]
 |4=>[11,12]
 |5=>[1,5]++rg 13 5
 |_=>[]
noncomputable def c85:Code:=f85.body.get (by kernel_rfl)
def abC:Nat→Tree
 |6=>on [1,2,3,4] (.fork 0 (.fork 5 (.fork 6 (.fork 7 (.one 8 (.fork 9 .done .nil)) .nil) .nil) (.fork 6 (.fork 5 (.fork 7 (.one 8 (.fork 9 .done .nil)) .nil) .nil) .nil)) (.fork 5 (.one 0 (.fork 6 (.fork 7 (.one 8 (.fork 9 .done .nil)) .nil) .nil)) (.fork 6 (.fork 0 (.fork 5 (.fork 7 (.one 8 (.fork 9 .done .nil)) .nil) .nil) (.fork 5 (.one 0 (.fork 7 (.one 8 (.fork 9 .done .nil)) .nil)) .nil)) .nil)))
 |_=> .done
def afI:Nat→List Nat
 |0=>[0]
 |3=>[7]
 |5=>[12,13,14]
 |6=>[5,6]++rg 15 9
 |7=>[24]
 |8=>[25,26]
 |9=>[3,28]
 |10=>[4,29]
 |_=>[]
noncomputable def aqO:Code:=f125.body.get (by kernel_rfl)
def WB:Nat→Tree
 |2=>on (rg 0 19) (.fork 19 (.fork 20 (.one 21 (.one 22 .done)) .nil) .nil)
 |_=> .done
def Y2:Nat→List Nat
 |0=>[0,6]
 |1=>rg 8 8
 |2=>rg 1 5++[7]++rg 16 22
 |_=>[]
noncomputable def c90:Code:=f90.body.get (by kernel_rfl)
def abx:Nat→Tree
 |_=> .done
def afD:Nat→List Nat
 |0=>[0,4,5]
 |1=>[8,9]
 |2=>[10]
 |3=>[6,12]
 |4=>[1,2,13,14,15,16]
 |5=>[17]
 |7=>[7,19]
 |_=>[]
noncomputable def aqN:Code:=f126.body.get (by kernel_rfl)
def WA:Nat→Tree
 |_=> .done
def Y1:Nat→List Nat
 |0=>[0,1,6]
 |1=>[2,3,4,5]++rg 7 5
 |_=>[]
noncomputable def aqM:Code:=f127.body.get (by kernel_rfl)
def Wz:Nat→Tree
 |_=> .done
def Y0:Nat→List Nat
 |0=>[0,1,2,3,8]
 |1=>[4,5,6,7]++rg 9 27
 |_=>[]
noncomputable def aqr:Code:=f153.body.get (by kernel_rfl)
def V8:Nat→Tree
 |7=>on (rg 0 8) .done
 |_=> .done
def YB:Nat→List Nat
 |0=>[0,1,6]
 |1=>rg 11 19
 |3=>[31,32]
 |4=>[4,5]++rg 34 5
 |5=>[4,8]++rg 39 7
 |6=>[2,5,10]++rg 46 7
 |7=>[3,7,9]++rg 53 7
 |_=>[]
noncomputable def c86:Code:=f86.body.get (by kernel_rfl)
def abB:Nat→Tree
 |_=> .done
def afH:Nat→List Nat
 |0=>[2]
 |1=>[3]
 |3=>[0,5,6,7]
 |_=>[]
noncomputable def c30:Code:=f30.body.get (by kernel_rfl)
def ace:Nat→Tree
 |_=> .done
def agk:Nat→List Nat
 |0=>[0,3]
 |1=>[10,11]
 |2=>[12]
 |3=>[4,14,15]
 |4=>[16,17]
 |5=>[1,18,19,20]
 |7=>[6,21]
 |9=>[26,27,28]
 |10=>[8,29,30,31,32]
 |11=>[9]++rg 34 6
 |12=>[40]
 |13=>[7,41]
 |_=>[]
noncomputable def c88:Code:=f88.body.get (by kernel_rfl)
def abz:Nat→Tree
 |3=>on (rg 0 9) (.fork 9 .done .nil)
 |4=>on (rg 0 5) (.fork 5 (.fork 6 (.one 7 .done) .nil) .nil)
 |_=> .done
def afF:Nat→List Nat
 |0=>[2,8]
 |1=>[11]
 |2=>[10]++rg 13 7
 |3=>[3,4,9]++rg 20 9
 |4=>[0,7]++rg 29 7
 |_=>[]
noncomputable def apV(r:Nat):FI:=⟨fun _=>c88,36,[.tmp 8],abz,[],r,afF,none⟩
theorem Ye(r:Nat):lk PP fD 88 (apV r):= .inr ⟨rfl,_,func88,by kernel_rfl,ntmps88,by kernel_rfl,by kernel_rfl,enters func88 (c:=c88) (by kernel_rfl) (by kernel_rfl)⟩
noncomputable def c9:Code:=f9.body.get (by kernel_rfl)
def ahM:Nat→Tree
 |8=>on (rg 0 5) (.fork 5 (.fork 6 .done .nil) .nil)
 |_=> .done
def aku:Nat→List Nat
 |0=>[0,6]
 |1=>[14,15]
 |2=>[16,17]
 |3=>[1]
 |5=>[22,23,24]
 |7=>[25]
 |8=>[9]++rg 27 6
 |9=>[10]++rg 33 6
 |10=>[11,13,39,40,41,42]
 |12=>[12,48,49]
 |13=>[50,51,52]
 |15=>[54]
 |_=>[]
def ap8(r:Nat):FI:=⟨fun _=> .skip,0,[],fun _=> .done,[],r,fun _=>[],some (TW O7)⟩
theorem Yo(r:Nat):lk PP fD 25 (ap8 r):= .inl ⟨_,rfl,XQ aqa Py⟩
noncomputable def c14:Code:=f14.body.get (by kernel_rfl)
def ack:Nat→Tree
 |12=>on (rg 0 7++[8]) (.fork 7 (.one 9 .done) .nil)
 |24=>on (rg 0 8) (.fork 8 (.one 9 .done) .nil)
 |_=> .done
def agq:Nat→List Nat
 |0=>[0,2]
 |1=>[11,12,13]
 |4=>[15,16,17,18]
 |5=>[20,21]
 |6=>rg 22 6
 |7=>[28]
 |8=>[4,30]
 |10=>[31,32,33,34]
 |11=>[36,37]
 |12=>rg 38 9
 |15=>[48,49,50,51]
 |16=>[53,54]
 |18=>rg 55 8
 |19=>[64,65]
 |20=>rg 66 9
 |22=>[75,76,77,78]
 |23=>[80,81]
 |24=>rg 82 9
 |25=>[91]
 |26=>[10,93]
 |27=>[8]++rg 94 6
 |_=>[]
noncomputable def c64:Code:=f64.body.get (by kernel_rfl)
def abO:Nat→Tree
 |_=> .done
def afU:Nat→List Nat
 |0=>[0,4]
 |2=>[6,7,8,9]
 |3=>[11,12]
 |4=>rg 13 7
 |5=>[5,21]
 |_=>[]
noncomputable def c63:Code:=f63.body.get (by kernel_rfl)
def abP:Nat→Tree
 |34=>on (rg 0 28) .done
 |_=> .done
def afV:Nat→List Nat
 |0=>[0,2]
 |1=>[10,11,12]
 |4=>[14,15,16,17]
 |5=>[19,20]
 |6=>rg 21 7
 |8=>[29,30]
 |11=>[32,33,34,35]
 |12=>[37,38]
 |13=>rg 39 6
 |15=>[46,47,48]
 |18=>[50,51,52,53]
 |19=>[55,56]
 |20=>rg 57 8
 |23=>[74,75,76,77]
 |24=>[79,80]
 |25=>rg 81 5
 |26=>[7,86,87,88,89,99,100]
 |29=>[110,111,112,113]
 |30=>[115,116]
 |32=>[117,118]
 |33=>[120,121]
 |34=>rg 122 14
 |_=>[]
noncomputable def aqW:Code:=f112.body.get (by kernel_rfl)
def WN:Nat→Tree
 |_=> .done
def Zd:Nat→List Nat
 |0=>[2]
 |1=>[4,5]
 |4=>[7,8,9]
 |5=>[11,12]
 |6=>rg 13 5
 |_=>[]
noncomputable def aqt:Code:=f151.body.get (by kernel_rfl)
def Wc:Nat→Tree
 |_=> .done
def YD:Nat→List Nat
 |0=>[6]
 |1=>[0,1,2]++rg 7 8
 |_=>[]
noncomputable def c62:Code:=f62.body.get (by kernel_rfl)
def abQ:Nat→Tree
 |_=> .done
def afW:Nat→List Nat
 |0=>[6]
 |1=>[0,1,2]++rg 7 8
 |_=>[]
noncomputable def c65:Code:=f65.body.get (by kernel_rfl)
def abN:Nat→Tree
 |20=>on (rg 0 10) .done
 |_=> .done
def afT:Nat→List Nat
 |0=>[0,1,2,8]
 |1=>rg 14 5
 |2=>[19,20]
 |4=>rg 22 18
 |6=>[5]++rg 41 33
 |8=>rg 75 19
 |11=>[95,96,97,98]
 |12=>[100,101]
 |13=>rg 102 7
 |15=>[110,111]
 |17=>[113,114,115,116]
 |18=>[117]
 |20=>[4,11]++rg 119 9
 |22=>[3,6]++rg 129 5
 |24=>[134,135,136,137]
 |25=>[139,140]
 |26=>rg 141 7
 |_=>[]
noncomputable def aqV:Code:=f113.body.get (by kernel_rfl)
def WM:Nat→Tree
 |_=> .done
def Zc:Nat→List Nat
 |0=>[2]
 |3=>[7,8,9]
 |4=>[11,12]
 |5=>rg 13 6
 |7=>rg 19 7
 |8=>[27,28]
 |9=>[29,30,50]
 |10=>[5,51,52,53,54]
 |11=>[3,55]
 |_=>[]
noncomputable def c18:Code:=f18.body.get (by kernel_rfl)
def acj:Nat→Tree
 |6=>on (rg 0 6++[7]) (.fork 6 (.one 8 (.fork 9 (.fork 10 (.fork 11 (.fork 12 (.fork 13 .done .nil) .nil) .nil) (.fork 11 (.fork 10 (.fork 12 (.fork 13 .done .nil) .nil) .nil) .nil)) (.fork 10 (.fork 9 (.fork 11 (.fork 12 (.fork 13 .done .nil) .nil) .nil) (.fork 11 (.fork 9 (.fork 12 (.fork 13 .done .nil) .nil) (.fork 12 (.one 9 (.fork 13 .done .nil)) .nil)) .nil)) (.fork 11 (.fork 9 (.fork 10 (.fork 12 (.fork 13 .done .nil) .nil) .nil) (.fork 10 (.fork 9 (.fork 12 (.fork 13 .done .nil) .nil) (.fork 12 (.one 9 (.fork 13 .done .nil)) .nil)) .nil)) .nil)))) (.fork 10 (.fork 6 (.one 8 (.fork 9 (.fork 11 (.fork 12 (.fork 13 .done .nil) .nil) .nil) (.fork 11 (.fork 9 (.fork 12 (.fork 13 .done .nil) .nil) (.fork 12 (.one 9 (.fork 13 .done .nil)) .nil)) .nil))) (.fork 11 (.fork 6 (.one 8 (.fork 9 (.fork 12 (.fork 13 .done .nil) .nil) (.fork 12 (.one 9 (.fork 13 .done .nil)) .nil))) (.fork 12 (on [6,8,9] (.fork 13 .done .nil)) .nil)) .nil)) (.fork 11 (.fork 6 (.one 8 (.fork 9 (.fork 10 (.fork 12 (.fork 13 .done .nil) .nil) .nil) (.fork 10 (.fork 9 (.fork 12 (.fork 13 .done .nil) .nil) (.fork 12 (.one 9 (.fork 13 .done .nil)) .nil)) .nil))) (.fork 10 (.fork 6 (.one 8 (.fork 9 (.fork 12 (.fork 13 .done .nil) .nil) (.fork 12 (.one 9 (.fork 13 .done .nil)) .nil))) (.fork 12 (on [6,8,9] (.fork 13 .done .nil)) .nil)) .nil)) .nil)))
 |12=>on (rg 0 10) (.fork 10 (.one 11 .done) .nil)
 |_=> .done
def agp:Nat→List Nat
 |0=>[0,1,4]
 |1=>rg 9 6
 |4=>[16,17,18,19]
 |5=>[21,22]
 |6=>rg 23 10
 |7=>rg 33 6++[44,45]
 |10=>[54,55,56,57]
 |11=>[59,60]
 |12=>rg 61 11
 |_=>[]
noncomputable def c69:Code:=f69.body.get (by kernel_rfl)
def abK:Nat→Tree
 |6=>on (rg 0 6++[7]) (.fork 6 (.one 8 (.fork 9 (.fork 10 (.fork 11 (.fork 12 (.fork 13 .done .nil) .nil) .nil) (.fork 11 (.fork 10 (.fork 12 (.fork 13 .done .nil) .nil) .nil) .nil)) (.fork 10 (.fork 9 (.fork 11 (.fork 12 (.fork 13 .done .nil) .nil) .nil) (.fork 11 (.fork 9 (.fork 12 (.fork 13 .done .nil) .nil) (.fork 12 (.one 9 (.fork 13 .done .nil)) .nil)) .nil)) (.fork 11 (.fork 9 (.fork 10 (.fork 12 (.fork 13 .done .nil) .nil) .nil) (.fork 10 (.fork 9 (.fork 12 (.fork 13 .done .nil) .nil) (.fork 12 (.one 9 (.fork 13 .done .nil)) .nil)) .nil)) .nil)))) (.fork 10 (.fork 6 (.one 8 (.fork 9 (.fork 11 (.fork 12 (.fork 13 .done .nil) .nil) .nil) (.fork 11 (.fork 9 (.fork 12 (.fork 13 .done .nil) .nil) (.fork 12 (.one 9 (.fork 13 .done .nil)) .nil)) .nil))) (.fork 11 (.fork 6 (.one 8 (.fork 9 (.fork 12 (.fork 13 .done .nil) .nil) (.fork 12 (.one 9 (.fork 13 .done .nil)) .nil))) (.fork 12 (on [6,8,9] (.fork 13 .done .nil)) .nil)) .nil)) (.fork 11 (.fork 6 (.one 8 (.fork 9 (.fork 10 (.fork 12 (.fork 13 .done .nil) .nil) .nil) (.fork 10 (.fork 9 (.fork 12 (.fork 13 .done .nil) .nil) (.fork 12 (.one 9 (.fork 13 .done .nil)) .nil)) .nil))) (.fork 10 (.fork 6 (.one 8 (.fork 9 (.fork 12 (.fork 13 .done .nil) .nil) (.fork 12 (.one 9 (.fork 13 .done .nil)) .nil))) (.fork 12 (on [6,8,9] (.fork 13 .done .nil)) .nil)) .nil)) .nil)))
 |12=>on (rg 0 11) .done
 |_=> .done
def afQ:Nat→List Nat
 |0=>[0,1,4]
 |1=>rg 9 27
 |4=>[37,38,39,40]
 |5=>[42,43]
 |6=>rg 44 10
 |7=>rg 54 6++[65,66,72,73]
 |10=>[82,83,84,85]
 |11=>[87,88]
 |12=>rg 89 10
 |_=>[]
noncomputable def c48:Code:=f48.body.get (by kernel_rfl)
def ab2:Nat→Tree
 |5=>on (rg 0 12) (.fork 12 (.fork 13 (.fork 14 .done .nil) .nil) (.fork 13 (.fork 12 (.fork 14 .done .nil) .nil) .nil))
 |_=> .done
def af8:Nat→List Nat
 |0=>[0]
 |3=>[10,11,12,13]
 |4=>[15,16]
 |5=>rg 17 13
 |7=>rg 30 8
 |8=>[39,40]
 |9=>rg 41 9
 |11=>[52]
 |12=>[53,54]
 |13=>[56]
 |14=>[57,58]
 |15=>[60]
 |16=>[61,62,63]
 |17=>[65]
 |18=>[66,67,68]
 |19=>[50,70]
 |20=>[71,72]
 |21=>[9]++rg 73 6
 |22=>[7]++rg 79 6
 |23=>[5,85]
 |_=>[]
noncomputable def aq3:Code:=f102.body.get (by kernel_rfl)
def WX:Nat→Tree
 |9=>on (rg 0 8) (.fork 8 (.fork 9 (.fork 10 (.one 11 (.fork 12 .done .nil)) .nil) .nil) .nil)
 |_=> .done
def Zm:Nat→List Nat
 |0=>[0]
 |1=>[7,8]
 |2=>rg 9 5
 |3=>[14,15,16,17]
 |5=>[18,19,20,21]
 |6=>[23,24]
 |7=>[25,26,27]
 |8=>rg 29 6
 |9=>rg 35 12
 |10=>[1,5]++rg 47 6
 |11=>[4,53]
 |_=>[]
noncomputable def aqL:Code:=f130.body.get (by kernel_rfl)
def Ww:Nat→Tree
 |9=>on (rg 0 29) (.fork 29 .done .nil)
 |_=> .done
def YX:Nat→List Nat
 |0=>[0,2]
 |1=>[6,7,8,9]
 |2=>[10,11,12,13]
 |3=>[14]
 |4=>[16,17]
 |5=>rg 18 7++[29,30,38,39]
 |7=>rg 40 8
 |8=>[49,50]
 |9=>rg 51 23++[78,79]
 |10=>[3,80]
 |_=>[]
noncomputable def aqK:Code:=f131.body.get (by kernel_rfl)
def Wv:Nat→Tree
 |5=>on (rg 0 10) (.fork 10 (.fork 11 (.one 12 (.fork 13 .done .nil)) .nil) .nil)
 |_=> .done
def YW:Nat→List Nat
 |0=>[0]
 |1=>rg 7 7
 |3=>[14,15,16,17]
 |4=>[19,20]
 |5=>rg 21 13
 |6=>[5,34]
 |_=>[]
noncomputable def aq0:Code:=f105.body.get (by kernel_rfl)
def WU:Nat→Tree
 |_=> .done
def Zj:Nat→List Nat
 |0=>[0]
 |1=>[9,10,11,12]
 |2=>[13,14,15,16]
 |3=>[17]
 |4=>[19,20]
 |6=>rg 21 8
 |7=>[30,31]
 |8=>rg 32 7
 |9=>rg 53 11
 |10=>rg 64 7
 |12=>[71,72,73,74]
 |13=>[76,77]
 |14=>rg 78 5
 |15=>[83,84,85,86]
 |16=>[93]
 |17=>[8]++rg 94 6
 |18=>[6,100]
 |_=>[]
noncomputable def c83:Code:=f83.body.get (by kernel_rfl)
def abD:Nat→Tree
 |_=> .done
def afJ:Nat→List Nat
 |0=>[0,2]
 |1=>[1]++rg 3 8
 |_=>[]
noncomputable def aq1:Code:=f104.body.get (by kernel_rfl)
def WV:Nat→Tree
 |10=>on (rg 0 5) (.fork 5 (.one 6 (.one 7 (.fork 8 (.fork 9 .done .nil) .nil))) (.fork 8 (.fork 5 (.one 6 (.one 7 (.fork 9 .done .nil))) .nil) .nil))
 |29=>on (rg 0 8) (.fork 8 (.fork 9 (.fork 10 (.one 11 (.fork 12 .done .nil)) .nil) .nil) .nil)
 |31=>on (rg 0 13) (.fork 13 .done .nil)
 |33=>on (rg 0 20) (.fork 20 .done .nil)
 |_=> .done
def Zk:Nat→List Nat
 |0=>[0,1]
 |1=>rg 18 5
 |2=>[23,24,25,26]
 |4=>[27,28,29,30]
 |5=>[32,33]
 |6=>rg 34 7
 |9=>[41]
 |10=>rg 43 8
 |11=>rg 51 6
 |12=>[57]
 |13=>[13]++rg 59 5
 |16=>[64,65,66,67]
 |17=>[69,70]
 |18=>rg 71 8
 |19=>[87,88]
 |20=>[11,14,89,90,91]
 |21=>rg 106 6
 |22=>[10]++rg 112 6
 |23=>[118,119,120,121]
 |25=>[122,123,124,125]
 |26=>[127,128]
 |27=>rg 129 5
 |28=>rg 135 6
 |29=>rg 141 12
 |30=>[154]
 |31=>rg 155 13
 |32=>[134,169]
 |33=>rg 170 20
 |34=>[12,16]++rg 190 8
 |35=>[4,8]++rg 198 6
 |36=>[7,204]
 |_=>[]
noncomputable def aqJ:Code:=f132.body.get (by kernel_rfl)
def Wu:Nat→Tree
 |11=>on (rg 0 27) (.fork 27 (.one 28 .done) .nil)
 |_=> .done
def YV:Nat→List Nat
 |0=>[0,1,8]
 |1=>[3,11]
 |2=>[4,13]
 |5=>rg 15 16
 |7=>[2,5]++rg 32 7
 |9=>[39,40,41,42]
 |10=>[44,45]
 |11=>rg 46 10++[66,67]
 |12=>[10,75]
 |_=>[]
noncomputable def aqU:Code:=f114.body.get (by kernel_rfl)
def WL:Nat→Tree
 |_=> .done
def Zb:Nat→List Nat
 |0=>[0,2]
 |2=>[4,5,6,7]
 |3=>[9,10]
 |4=>rg 11 5
 |_=>[]
noncomputable def c66:Code:=f66.body.get (by kernel_rfl)
def abM:Nat→Tree
 |_=> .done
def afS:Nat→List Nat
 |0=>[0,2]
 |1=>[1]++rg 3 19
 |_=>[]
noncomputable def aq2:Code:=f103.body.get (by kernel_rfl)
def WW:Nat→Tree
 |11=>on (rg 0 6) (.fork 6 .done .nil)
 |_=> .done
def Zl:Nat→List Nat
 |0=>[0]
 |1=>rg 9 5
 |2=>[14,15,16,17]
 |4=>[18,19,20,21]
 |5=>[23,24]
 |6=>rg 25 7
 |9=>rg 32 6
 |10=>[41,42]
 |11=>rg 43 6
 |12=>[50]
 |13=>[51]
 |14=>[53,54,55]
 |15=>[6]++rg 56 6
 |16=>[7,62,63,64,65]
 |17=>[1,4]++rg 66 6
 |18=>[3,72]
 |_=>[]
noncomputable def aqP:Code:=f124.body.get (by kernel_rfl)
def WC:Nat→Tree
 |6=>on (rg 0 11) .done
 |_=> .done
def Y3:Nat→List Nat
 |0=>[0,1,4]
 |1=>rg 6 27
 |4=>[34,35,36,37]
 |5=>[39,40]
 |6=>rg 41 10
 |_=>[]
end Ab
namespace Ab
open Go Go.Proofs.Tryz
set_option maxHeartbeats 100000000
set_option maxRecDepth 100000
variable{I:Pr}(hI:I=al){M:Md}(hM:M= .al){n nx r s p q u rl:Nat}{g:Nat→Option Ob}
 include hI hM
theorem yi{a0:aL}{v:Bool}(h:gZ I M n a0=some v):
  bO 38 [(.agg (aZ M r a0))] (vb v) g nx:=by
 refine cr func38 c38 r ab9 agf [] 13 ntmps38 [.tmp 2] hI fun call hc=>?_
 cbv
 refine letE h fun n1 cH h=>⟨_,gf hI cH,?_⟩;cbv
 refine letE h fun n2 oQ h=>⟨_,ak hI hM oQ,?_⟩;cbv
 cbv;cases h;exact fin
 include hI hM
theorem qX{a0:List aL}{v:Int}(h:mb I M n a0=some v):
  bO 94 [(.sl r (M.map (aZ M r) a0)),(.fn (.func 38) [])] (vi v) g nx:=by
 refine cr func94 c94 r Rv US [] 19 ntmps94 [.tmp 4] hI fun call hc=>?_
 cbv
 refine letE h fun n1 cH h=>⟨_,ak hI hM cH,?_⟩;cbv
 refine lp h (fun z2=>[(8,(vi z2))]) (fun z2=>[]) fun ju m1 aS z2 h=>?_
 dsimp only[ku]at h
 cbv
 refine si h (fun h=>?_) fun h=>by cbv;cases h;exact fin
 cbv
 refine ab h fun x3 iJ h=>⟨_,ai hM iJ rfl,?_⟩;cbv
 refine ab h fun y4 lb h=>⟨_,_,_,us hc (yi hI hM lb),?_⟩;cbv
 refine si h (fun h=>by cbv;cases h;exact fin) fun h=>?_
 cbv
 exact bN (aS _ _ h)
 include hI hM
theorem o5{a0:List aL}{v:Bool}(h:eM I M n a0=some v):
  bO 37 [(.sl r (M.map (aZ M r) a0)),(.fn (.func 38) [])] (vb v) g nx:=by
 refine cr func37 c37 r RA UY [] 9 ntmps37 [.tmp 4] hI fun call hc=>?_
 cbv
 refine ab h fun y1 cN h=>⟨_,_,_,us hc (qX hI hM cN),?_⟩;cbv
 cbv;cases h;exact fin
 include hI hM
theorem A7{a0:ae}{v:Bool}(h:kM I M n a0=some v):
  bO 36 [(.agg (az M r a0))] (vb v) g nx:=by
 refine cr func36 c36 r aca agh [] 18 ntmps36 [.tmp 2] hI fun call hc=>?_
 cbv
 refine letE h fun n1 cH h=>⟨_,gf hI cH,?_⟩;cbv
 refine letE h fun n2 oQ h=>⟨_,ak hI hM oQ,?_⟩;cbv
 refine ab h fun y3 HJ h=>⟨_,fun hp=>us hc (o5 hI hM (aw HJ hp.1)),?_⟩;cbv
 cbv;cases h;exact fin
 include hI hM
theorem oC{a0:List ae}{v:Int}(h:iS I M n a0=some v):
  bO 93 [(.sl r (M.map (az M r) a0)),(.fn (.func 36) [])] (vi v) g nx:=by
 refine cr func93 Zr r tE uA [] 19 ntmps93 [.tmp 4] hI fun call hc=>?_
 cbv
 refine letE h fun n1 cH h=>⟨_,ak hI hM cH,?_⟩;cbv
 refine lp h (fun z2=>[(8,(vi z2))]) (fun z2=>[]) fun ju m1 aS z2 h=>?_
 dsimp only[gT]at h
 cbv
 refine si h (fun h=>?_) fun h=>by cbv;cases h;exact fin
 cbv
 refine ab h fun x3 iJ h=>⟨_,ai hM iJ rfl,?_⟩;cbv
 refine ab h fun y4 lb h=>⟨_,_,_,us hc (A7 hI hM lb),?_⟩;cbv
 refine si h (fun h=>by cbv;cases h;exact fin) fun h=>?_
 cbv
 exact bN (aS _ _ h)
 include hI hM
theorem mM{a0:List ae}{v:Bool}(h:dE I M n a0=some v):
  bO 35 [(.sl r (M.map (az M r) a0)),(.fn (.func 36) [])] (vb v) g nx:=by
 refine cr func35 c35 r xO yo [] 9 ntmps35 [.tmp 4] hI fun call hc=>?_
 cbv
 refine ab h fun y1 cN h=>⟨_,_,_,us hc (oC hI hM cN),?_⟩;cbv
 cbv;cases h;exact fin
 include hI hM
theorem Es{a0:aj}{v:Bool}(h:oh I M n a0=some v):
  bO 34 [(.agg (ao M r a0))] (vb v) g nx:=by
 refine cr func34 c34 r acb agi [] 18 ntmps34 [.tmp 2] hI fun call hc=>?_
 cbv
 refine letE h fun n1 cH h=>⟨_,gf hI cH,?_⟩;cbv
 refine letE h fun n2 oQ h=>⟨_,ak hI hM oQ,?_⟩;cbv
 refine ab h fun y3 HJ h=>⟨_,fun hp=>us hc (mM hI hM (aw HJ hp.1)),?_⟩;cbv
 cbv;cases h;exact fin
 include hI hM
theorem oX{a0:List aj}{v:Int}(h:jP I M n a0=some v):
  bO 92 [(.sl r (M.map (ao M r) a0)),(.fn (.func 34) [])] (vi v) g nx:=by
 refine cr func92 c92 r Hp IG [] 19 ntmps92 [.tmp 4] hI fun call hc=>?_
 cbv
 refine letE h fun n1 cH h=>⟨_,ak hI hM cH,?_⟩;cbv
 refine lp h (fun z2=>[(8,(vi z2))]) (fun z2=>[]) fun ju m1 aS z2 h=>?_
 dsimp only[iD]at h
 cbv
 refine si h (fun h=>?_) fun h=>by cbv;cases h;exact fin
 cbv
 refine ab h fun x3 iJ h=>⟨_,ai hM iJ rfl,?_⟩;cbv
 refine ab h fun y4 lb h=>⟨_,_,_,us hc (Es hI hM lb),?_⟩;cbv
 refine si h (fun h=>by cbv;cases h;exact fin) fun h=>?_
 cbv
 exact bN (aS _ _ h)
 include hI hM
theorem ni{a0:List aj}{v:Bool}(h:dP I M n a0=some v):
  bO 33 [(.sl r (M.map (ao M r) a0)),(.fn (.func 34) [])] (vb v) g nx:=by
 refine cr func33 c33 r acd agj [] 9 ntmps33 [.tmp 4] hI fun call hc=>?_
 cbv
 refine ab h fun y1 cN h=>⟨_,_,_,us hc (oX hI hM cN),?_⟩;cbv
 cbv;cases h;exact fin
 include hI hM
theorem IC{a0:ah}{v:Bool}(h:sP I M n a0=some v):
  bO 7 [(.agg (ba M r a0))] (vb v) g nx:=by
 refine cr func7 c7 r ahN akw [] 12 ntmps7 [.tmp 2] hI fun call hc=>?_
 cbv
 refine letE h fun n1 cH h=>⟨_,ak hI hM cH,?_⟩;cbv
 refine ab h fun y2 rT h=>⟨_,fun hp=>us hc (ni hI hM (aw rT hp.1)),?_⟩;cbv
 cbv;cases h;exact fin
 include hI hM
theorem wh{a0:ah}{v:List Int}(h:wx I M n a0=some v):
  bO 99 [(.agg (ba M r a0))] (.ar 6 1 (M.map an v)) g nx:=by
 refine yp func99 c99 r abr afy [] 24 ntmps99 [.cell 2 122] hI (bk.cons (UC r) (bk.cons (UE r) (tF PP fD))) 8 fun call hc=>?_
 cbv
 refine letE h fun l1 MO h=>⟨_,⟨rfl,iw (enc:=an) hI hM MO rfl⟩,?_⟩;cbv
 refine letE h fun l2 JV h=>⟨_,⟨rfl,iw (enc:=an) hI hM JV rfl⟩,?_⟩;cbv
 intro l
 cbv
 refine letE h fun n3 qn3 h=>⟨_,ak hI hM qn3,?_⟩;cbv
 refine lp h (fun(l4,z5)=>[(12,(vi z5))]) (fun(l4,z5)=>[(3,.arr 1 (M.map an l4))]) fun ju m1 aS st h=>?_
 obtain⟨l4,z5⟩:=st
 dsimp only[xE]at h
 cbv
 refine si h (fun h=>?_) fun h=>?_
 ·as_aux_lemma=>
   cbv
   refine ab h fun x6 wP h=>⟨_,ai hM wP rfl,?_⟩;cbv
   refine letE h fun n7 Xl h=>⟨_,ak hI hM Xl,?_⟩;cbv
   refine lp h (fun(l8,z9)=>[(13,.any),(19,(vi z9))]) (fun(l8,z9)=>[(3,.arr 1 (M.map an l8))]) fun Bc m2 cI st h=>?_
   obtain⟨l8,z9⟩:=st
   dsimp only[xD]at h
   cbv
   refine si h (fun h=>?_) fun h=>?_
   ·as_aux_lemma=>
     cbv
     refine ab h fun yC xS h=>⟨_,ai hM xS rfl,?_⟩;cbv
     refine letE h fun uU xU h=>⟨_,ak hI hM xU,?_⟩;cbv
     refine lp h (fun(iq,nu)=>[(26,(vi nu))]) (fun(iq,nu)=>[(3,.arr 1 (M.map an iq))]) fun NJ m3 iI st h=>?_
     obtain⟨iq,nu⟩:=st
     dsimp only[xC]at h
     cbv
     refine si h (fun h=>?_) fun h=>?_
     ·as_aux_lemma=>
       cbv
       refine ab h fun vf HR h=>⟨_,ai hM HR rfl,?_⟩;cbv
       try(refine⟨⟨rfl,rfl,rfl⟩,?_⟩;cbv)
       try(refine⟨rfl,?_⟩;cbv)
       refine si h (fun h=>?_) fun h=>?_
       ·cbv
        refine ab h fun k15 Xq h=>?_
        (first|refine⟨_,⟨rfl,rfl,aM hI Xq⟩,?_⟩|refine⟨_,aM hI Xq,?_⟩)
        cbv
        refine ab h fun x16 Sc h=>⟨_,_,rfl,bc hM Sc,rfl,?_⟩;cbv
        (first|refine⟨_,⟨rfl,rfl,aM hI Xq⟩,?_⟩|refine⟨_,aM hI Xq,?_⟩)
        cbv
        refine ab h fun tw SX h=>⟨_,cF hI hM Sc SX (by decide) rfl rfl,?_⟩;cbv
        try(refine⟨rfl,?_⟩;cbv)
        refine lZ hI ?_;cbv
        exact bN (iI _ _ h)
       cbv
       refine ab h fun TZ Ce h=>?_
       (first|refine⟨_,⟨rfl,rfl,aM hI Ce⟩,?_⟩|refine⟨_,aM hI Ce,?_⟩)
       cbv
       refine ab h fun Hd yU h=>⟨_,_,rfl,bc hM yU,rfl,?_⟩;cbv
       (first|refine⟨_,⟨rfl,rfl,aM hI Ce⟩,?_⟩|refine⟨_,aM hI Ce,?_⟩)
       cbv
       refine ab h fun TT ML h=>⟨_,cF hI hM yU ML (by decide) rfl rfl,?_⟩;cbv
       try(refine⟨rfl,?_⟩;cbv)
       refine lZ hI ?_;cbv
       exact bN (iI _ _ h)
     cbv
     exact bN (cI _ _ h)
   cbv
   exact bN (aS _ _ h)
 cbv
 try(refine⟨rfl,?_⟩;cbv)
 refine ab h fun u27 adl h=>?_
 (first|refine⟨⟨rfl,aT hI hM adl,rfl⟩,?_⟩|refine⟨⟨aT hI hM adl,trivial⟩,?_⟩|refine⟨aT hI hM adl,?_⟩)
 cbv
 refine ab h fun u28 aib h=>?_
 (first|refine⟨⟨rfl,rfl,rfl,aT hI hM aib,rfl,(by have hq:=dz (enc:=an) hM (fun _=>rfl) l4;rw[dU.eq_def]at hq;exact hq)⟩,?_⟩|refine⟨⟨aT hI hM aib,(by have hq:=dz (enc:=an) hM (fun _=>rfl) l4;rw[dU.eq_def]at hq;exact hq)⟩,?_⟩)
 cbv
 refine ab h fun u29 am3 h=>?_
 obtain rfl:=Option.some.inj h
 cbv
 all_goals(repeat' apply And.intro)
 all_goals first|trivial|rfl|exact(aE hM)|exact aT hI hM am3
 include hI hM
theorem c6{a0:List Int}{a1:List Int}{v:Bool}(h:dq I M n a0 a1=some v):
  bO 47 [(.sl r (M.map an a0)),(.sl r (M.map an a1))] (vb v) g nx:=by
 refine cr func47 c47 r ab3 af9 [] 26 ntmps47 [.tmp 4] hI fun call hc=>?_
 cbv
 refine letE h fun n1 cH h=>⟨_,ak hI hM cH,?_⟩;cbv
 refine letE h fun n2 oQ h=>⟨_,ak hI hM oQ,?_⟩;cbv
 refine si h (fun h=>by cbv;cases h;exact fin) fun h=>?_
 cbv
 refine⟨_,ak hI hM cH,?_⟩;cbv
 refine lp h (fun z3=>[(13,(vi z3))]) (fun z3=>[]) fun ju m1 aS z3 h=>?_
 dsimp only[gd]at h
 cbv
 refine si h (fun h=>?_) fun h=>by cbv;cases h;exact fin
 cbv
 refine ab h fun x4 qh h=>?_
 refine ab h fun x5 rU h=>?_
 apply Exists.intro;refine⟨?_,_,rfl,?_⟩
 ·cbv
  refine⟨_,ai hM qh rfl,?_⟩;cbv
  refine⟨_,ai hM rU rfl,?_⟩;cbv
  all_goals exact .inl rfl
 cbv
 refine si h (fun h=>by cbv;cases h;exact fin) fun h=>?_
 cbv
 exact bN (aS _ _ h)
 include hI hM
theorem Ev{a0:aL}{a1:aL}{v:Bool}(h:BW I M n a0 a1=some v):
  bO 96 [(.agg (aZ M r a0)),(.agg (aZ M r a1))] (vb v) g nx:=by
 refine cr func96 c96 r abu afA [] 31 ntmps96 [.tmp 4] hI fun call hc=>?_
 cbv
 refine ab h fun y1 cN h=>⟨_,fun hp=>us hc (c6 hI hM (aw cN hp.1)),?_⟩;cbv
 cbv;cases h;exact fin
 include hI hM
theorem qZ{a0:List aL}{a1:List aL}{v:Bool}(h:me I M n a0 a1=some v):
  bO 98 [(.sl r (M.map (aZ M r) a0)),(.sl r (M.map (aZ M r) a1)),(.fn (.func 96) [])] (vb v) g nx:=by
 refine cr func98 c98 r Ru UR [] 32 ntmps98 [.tmp 6] hI fun call hc=>?_
 cbv
 refine letE h fun n1 cH h=>⟨_,ak hI hM cH,?_⟩;cbv
 refine letE h fun n2 oQ h=>⟨_,ak hI hM oQ,?_⟩;cbv
 refine si h (fun h=>by cbv;cases h;exact fin) fun h=>?_
 cbv
 refine⟨_,ak hI hM cH,?_⟩;cbv
 refine lp h (fun z3=>[(17,(vi z3))]) (fun z3=>[]) fun ju m1 aS z3 h=>?_
 dsimp only[ky]at h
 cbv
 refine si h (fun h=>?_) fun h=>by cbv;cases h;exact fin
 cbv
 refine ab h fun x4 qh h=>⟨_,ai hM qh rfl,?_⟩;cbv
 refine ab h fun x5 rU h=>⟨_,ai hM rU rfl,?_⟩;cbv
 refine ab h fun y6 yT h=>⟨_,_,_,us hc (Ev hI hM yT),?_⟩;cbv
 refine si h (fun h=>by cbv;cases h;exact fin) fun h=>?_
 cbv
 exact bN (aS _ _ h)
 include hI hM
theorem zP{a0:ae}{a1:ae}{v:Bool}(h:wz I M n a0 a1=some v):
  bO 97 [(.agg (az M r a0)),(.agg (az M r a1)),(.aO r [(.fn (.func 96) [])] 0)] (vb v) g nx:=by
 refine cr func97 c97 r abt afz [] 33 ntmps97 [.tmp 5] hI fun call hc=>?_
 cbv
 refine ab h fun y1 cN h=>⟨_,fun hp=>us hc (qZ hI hM (aw cN hp.1)),?_⟩;cbv
 cbv;cases h;exact fin
 include hI hM
theorem oE{a0:List ae}{a1:List ae}{v:Bool}(h:iU I M n a0 a1=some v):
  bO 101 [(.sl r (M.map (az M r) a0)),(.sl r (M.map (az M r) a1)),(.fn (.func 97) [(.aO r [(.fn (.func 96) [])] 0)])] (vb v) g nx:=by
 refine cr func101 akV r N5 O6 [] 32 ntmps101 [.tmp 6] hI fun call hc=>?_
 cbv
 refine letE h fun n1 cH h=>⟨_,ak hI hM cH,?_⟩;cbv
 refine letE h fun n2 oQ h=>⟨_,ak hI hM oQ,?_⟩;cbv
 refine si h (fun h=>by cbv;cases h;exact fin) fun h=>?_
 cbv
 refine⟨_,ak hI hM cH,?_⟩;cbv
 refine lp h (fun z3=>[(17,(vi z3))]) (fun z3=>[]) fun ju m1 aS z3 h=>?_
 dsimp only[gV]at h
 cbv
 refine si h (fun h=>?_) fun h=>by cbv;cases h;exact fin
 cbv
 refine ab h fun x4 qh h=>⟨_,ai hM qh rfl,?_⟩;cbv
 refine ab h fun x5 rU h=>⟨_,ai hM rU rfl,?_⟩;cbv
 refine ab h fun y6 yT h=>⟨_,_,_,us hc (zP hI hM yT),?_⟩;cbv
 refine si h (fun h=>by cbv;cases h;exact fin) fun h=>?_
 cbv
 exact bN (aS _ _ h)
 include hI hM
theorem zO{a0:aj}{a1:aj}{v:Bool}(h:wy I M n a0 a1=some v):
  bO 100 [(.agg (ao M r a0)),(.agg (ao M r a1)),(.aO r [(.fn (.func 97) [(.aO r [(.fn (.func 96) [])] 0)])] 0)] (vb v) g nx:=by
 refine cr func100 aq4 r WY Zn [] 26 ntmps100 [.tmp 5] hI fun call hc=>?_
 cbv
 refine ab h fun y1 cN h=>⟨_,fun hp=>us hc (oE hI hM (aw cN hp.1)),?_⟩;cbv
 cbv;cases h;exact fin
 include hI hM
theorem oY{a0:List aj}{a1:List aj}{v:Bool}(h:jQ I M n a0 a1=some v):
  bO 80 [(.sl r (M.map (ao M r) a0)),(.sl r (M.map (ao M r) a1)),(.fn (.func 100) [(.aO r [(.fn (.func 97) [(.aO r [(.fn (.func 96) [])] 0)])] 0)])] (vb v) g nx:=by
 refine cr func80 c80 r abE afK [] 32 ntmps80 [.tmp 6] hI fun call hc=>?_
 cbv
 refine letE h fun n1 cH h=>⟨_,ak hI hM cH,?_⟩;cbv
 refine letE h fun n2 oQ h=>⟨_,ak hI hM oQ,?_⟩;cbv
 refine si h (fun h=>by cbv;cases h;exact fin) fun h=>?_
 cbv
 refine⟨_,ak hI hM cH,?_⟩;cbv
 refine lp h (fun z3=>[(17,(vi z3))]) (fun z3=>[]) fun ju m1 aS z3 h=>?_
 dsimp only[iE]at h
 cbv
 refine si h (fun h=>?_) fun h=>by cbv;cases h;exact fin
 cbv
 refine ab h fun x4 qh h=>⟨_,ai hM qh rfl,?_⟩;cbv
 refine ab h fun x5 rU h=>⟨_,ai hM rU rfl,?_⟩;cbv
 refine ab h fun y6 yT h=>⟨_,_,_,us hc (zO hI hM yT),?_⟩;cbv
 refine si h (fun h=>by cbv;cases h;exact fin) fun h=>?_
 cbv
 exact bN (aS _ _ h)
 include hI hM
theorem bu{a0:ah}{a1:ah}{v:Bool}(h:nH I M n a0 a1=some v):
  bO 46 [(.agg (ba M r a0)),(.agg (ba M r a1))] (vb v) g nx:=by
 refine cr func46 c46 r ab4 aga [] 21 ntmps46 [.tmp 4] hI fun call hc=>?_
 cbv
 refine ab h fun y1 cN h=>?_
 refine ab h fun y2 rT h=>?_
 refine ab h fun u3 qu3 h=>?_
 refine ab h fun u4 qu4 h=>?_
 refine letE h fun b5 qb5 h=>?_
 refine ab h fun y6 yT h=>?_
 apply Exists.intro;refine⟨?_,_,rfl,?_⟩
 ·cbv
  refine⟨?_,trivial⟩
  refine⟨_,_,_,us hc (wh hI hM cN),?_⟩;cbv
  refine⟨?_,trivial⟩
  refine⟨_,_,_,us hc (wh hI hM rT),?_⟩;cbv
  refine⟨_,UJ hM qu3 qu4 qb5 rfl,?_⟩;cbv
  refine⟨?_,trivial⟩
  refine⟨?_,trivial⟩
  refine⟨_,fun hp=>us hc (oY hI hM (aw yT hp.1)),?_⟩;cbv
  all_goals exact .inl rfl
 cbv;cases h;exact fin
 include hI hM
theorem aA{a0:ByteArray}{a1:Int}{a2:List ae}{v:aj}(h:cp I M n a0 a1 a2=some v):
  bO 43 [(vs a0),(vi a1),(.sl r (M.map (az M r) a2))] (.agg (ao M r v)) g nx:=have _:=hM;by
 refine cr func43 c43 r ab7 agd [] 11 ntmps43 [.cell 6 57] hI fun call hc=>?_
 cbv;cases h;exact fin
 include hI hM
theorem ax{a0:List aj}{v:ah}(h:qw I M n a0=some v):
  bO 42 [(.sl r (M.map (ao M r) a0))] (.agg (ba M r v)) g nx:=have _:=hM;by
 refine cr func42 c42 r Ry UW [] 5 ntmps42 [.cell 2 24] hI fun call hc=>?_
 cbv;cases h;exact fin
 include hI hM
theorem aK{a0:Int}{a1:ByteArray}{a2:Int}{a3:List Int}{v:aL}(h:bH I M n a0 a1 a2 a3=some v):
  bO 45 [(vi a0),(vs a1),(vi a2),(.sl r (M.map an a3))] (.agg (aZ M r v)) g nx:=have _:=hM;by
 refine cr func45 c45 r ab5 agb [] 14 ntmps45 [.cell 8 64] hI fun call hc=>?_
 cbv;cases h;exact fin
 include hI hM
theorem K1{a0:ByteArray}{a1:Int}{a2:Int}{a3:List aL}{v:ae}(h:Kr I M n a0 a1 a2 a3=some v):
  bO 95 [(vs a0),(vi a1),(vi a2),(.sl r (M.map (aZ M r) a3))] (.agg (az M r v)) g nx:=have _:=hM;by
 refine cr func95 c95 r abv afB [] 14 ntmps95 [.cell 8 61] hI fun call hc=>?_
 cbv;cases h;exact fin
 include hI hM
theorem aG{a0:Int}{a1:List aL}{v:List ae}(h:cY I M n a0 a1=some v):
  bO 44 [(vi a0),(.sl r (M.map (aZ M r) a1))] (.sl r (M.map (az M r) v)) g nx:=by
 refine cr func44 c44 r ab6 agc [] 9 ntmps44 [.tmp 4] hI fun call hc=>?_
 cbv
 refine⟨_,bJ (enc:=(az M r)) (x:=(⟨⟨#[]⟩,0,a1,a0⟩:ae)) hM (af _) rfl,?_⟩;cbv
 cbv;cases h;exact fin
 include hI hM
theorem sd{v:ah}(h:yf I M n=some v):
  bO 40 [] (.agg (ba M r v)) g nx:=by
 refine cr func40 c40 r ab8 age [] 16 ntmps40 [.cell 0 24] hI fun call hc=>?_
 cbv
 refine ab h fun y1 cN h=>?_
 (refine⟨_,_,_,us hc ((aK (r:=r) hI hM cN).wk ?_),?_⟩;next=>exact⟨ay _,ay _,ay _,(aE hM),trivial⟩)
 cbv
 refine⟨_,bJ (enc:=(aZ M r)) (x:=y1) hM (af _) rfl,?_⟩;cbv
 refine ab h fun y2 rT h=>⟨_,_,_,us hc (K1 hI hM rT),?_⟩;cbv
 refine⟨_,bJ (enc:=(az M r)) (x:=y2) hM (af _) rfl,?_⟩;cbv
 refine ab h fun y3 HJ h=>⟨_,_,_,us hc (aA hI hM HJ),?_⟩;cbv
 refine ab h fun y4 lb h=>?_
 (refine⟨_,_,_,us hc ((aK (r:=r) hI hM lb).wk ?_),?_⟩;next=>exact⟨ay _,ay _,ay _,(aE hM),trivial⟩)
 cbv
 refine⟨_,bJ (enc:=an) (x:=0) hM (af _) rfl,?_⟩;cbv
 refine ab h fun y5 HG h=>⟨_,_,_,us hc (aK hI hM HG),?_⟩;cbv
 refine⟨_,bJ (enc:=an) (x:=1) hM (af _) rfl,?_⟩;cbv
 refine ab h fun y6 yT h=>⟨_,_,_,us hc (aK hI hM yT),?_⟩;cbv
 refine⟨_,gH (enc:=(aZ M r)) (l:=[y4,y5,y6]) hM ⟨⟨(af _),rfl⟩,⟨(af _),rfl⟩,⟨(af _),rfl⟩,trivial⟩,?_⟩;cbv
 refine ab h fun y7 JL h=>⟨_,_,_,us hc (aG hI hM JL),?_⟩;cbv
 refine ab h fun y8 RR h=>⟨_,_,_,us hc (aA hI hM RR),?_⟩;cbv
 refine⟨_,gH (enc:=(ao M r)) (l:=[y3,y8]) hM ⟨⟨(af _),rfl⟩,⟨(af _),rfl⟩,trivial⟩,?_⟩;cbv
 refine ab h fun y9 JK h=>⟨_,_,_,us hc (ax hI hM JK),?_⟩;cbv
 cbv;cases h;exact fin
 include hI hM
theorem Et{a0:List Int}{v:List Int}(h:rE I M n a0=some v):
  bO 61 [(.sl s (M.map an a0))] (.sl r (M.map an v)) g nx:=by
 refine cr func61 c61 r abR afX [] 6 ntmps61 [.tmp 2] hI fun call hc=>?_
 cbv
 refine⟨_,bl0 (enc:=an) hM,?_⟩;cbv
 refine ab h fun l1 MO h=>⟨_,Bb (enc:=an) hI hM MO (fun _=>rfl) rfl (fun _=>rfl),?_⟩;cbv
 cbv;cases h;exact fin
 include hI hM
theorem zL{a0:ah}{v:ah}(h:nE I M n a0=some v):
  bO 13 [(.agg (ba M s a0))] (.agg (ba M r v)) g nx:=by
 refine cr func13 c13 r acm agr [] 76 ntmps13 [.cell 2 24] hI fun call hc=>?_
 cbv
 refine letE h fun n1 cH h=>⟨_,ak hI hM cH,?_⟩;cbv
 refine lp h (fun(l2,z3)=>[(15,(vi z3))]) (fun(l2,z3)=>[(3,.box [(.gs r (.c 3 0) (M.map (ao M r) l2))])]) fun ju m1 aS st h=>?_
 obtain⟨l2,z3⟩:=st
 dsimp only[oe]at h
 cbv
 refine si h (fun h=>?_) fun h=>by cbv;cases h;exact fin
 cbv
 refine ab h fun x4 qh h=>⟨_,ai hM qh rfl,?_⟩;cbv
 refine letE h fun n5 Xm h=>⟨_,ak hI hM Xm,?_⟩;cbv
 refine lp h (fun(l6,z7)=>[(16,.any),(27,(vi z7))]) (fun(l6,z7)=>[(6,.box [(vs x4.name),(vi x4.arity),(.gs r (.c 6 2) (M.map (az M r) l6))])]) fun Bc m2 cI st h=>?_
 obtain⟨l6,z7⟩:=st
 dsimp only[lN]at h
 cbv
 refine si h (fun h=>?_) fun h=>?_
 ·as_aux_lemma=>
   cbv
   refine ab h fun x8 R3 h=>⟨_,ai hM R3 rfl,?_⟩;cbv
   refine letE h fun n9 qn9 h=>⟨_,ak hI hM qn9,?_⟩;cbv
   refine lp h (fun(l10,FQ)=>[(41,(vi FQ))]) (fun(l10,FQ)=>[(9,.box [(vs x8.head),(vi x8.kids),(.gs r (.c 9 2) (M.map (aZ M r) l10)),(vi x8.result)])]) fun NJ m3 iI st h=>?_
   obtain⟨l10,FQ⟩:=st
   dsimp only[lM]at h
   cbv
   refine si h (fun h=>?_) fun h=>?_
   ·cbv
    refine ab h fun u9 nf h=>⟨_,ai hM nf rfl,?_⟩;cbv
    refine ab h fun pW tM h=>?_
    refine ab h fun OC anp h=>?_
    apply Exists.intro;refine⟨?_,_,rfl,?_⟩
    ·cbv
     refine⟨?_,trivial⟩
     refine⟨_,_,_,us hc (Et hI hM tM (r:=r)),?_⟩;cbv
     refine⟨?_,trivial⟩
     refine⟨?_,trivial⟩
     refine⟨_,bJ (enc:=(aZ M r)) (x:=(⟨u9.kind,u9.name,u9.num,pW⟩:aL)) hM (af _) rfl,?_⟩;cbv
     refine⟨?_,trivial⟩
     refine⟨_,au (enc:=(aZ M r)) hI hM anp (fun _=>rfl) rfl (fun _=>rfl),?_⟩;cbv
     refine⟨?_,trivial⟩
     all_goals exact .inl rfl
    cbv
    exact bN (iI _ _ h)
   cbv
   refine⟨_,bJ (enc:=(az M r)) (x:=(⟨x8.head,x8.kids,l10,x8.result⟩:ae)) hM (af _) rfl,?_⟩;cbv
   refine ab h fun tw SX h=>⟨_,au (enc:=(az M r)) hI hM SX (fun _=>rfl) rfl (fun _=>rfl),?_⟩;cbv
   exact bN (cI _ _ h)
 cbv
 refine⟨_,bJ (enc:=(ao M r)) (x:=(⟨x4.name,x4.arity,l6⟩:aj)) hM (af _) rfl,?_⟩;cbv
 refine ab h fun TT ML h=>⟨_,au (enc:=(ao M r)) hI hM ML (fun _=>rfl) rfl (fun _=>rfl),?_⟩;cbv
 exact bN (aS _ _ h)
 include hI hM
theorem jG{v:ah}(h:pO I M n=some v):
  bO 39 [] (.agg (ba M r v)) g nx:=by
 refine cr func39 c39 r Rz UX [] 23 ntmps39 [.cell 0 24] hI fun call hc=>?_
 cbv
 refine ab h fun y1 cN h=>?_
 (refine⟨_,_,_,us hc ((aK (r:=r) hI hM cN).wk ?_),?_⟩;next=>exact⟨ay _,ay _,ay _,(aE hM),trivial⟩)
 cbv
 refine ab h fun y2 rT h=>?_
 (refine⟨_,_,_,us hc ((aK (r:=r) hI hM rT).wk ?_),?_⟩;next=>exact⟨ay _,ay _,ay _,(aE hM),trivial⟩)
 cbv
 refine⟨_,gH (enc:=an) (l:=[0,1]) hM ⟨⟨(af _),rfl⟩,⟨(af _),rfl⟩,trivial⟩,?_⟩;cbv
 refine ab h fun y3 HJ h=>⟨_,_,_,us hc (aK hI hM HJ),?_⟩;cbv
 refine⟨_,gH (enc:=(aZ M r)) (l:=[y1,y2,y3]) hM ⟨⟨(af _),rfl⟩,⟨(af _),rfl⟩,⟨(af _),rfl⟩,trivial⟩,?_⟩;cbv
 refine ab h fun y4 lb h=>⟨_,_,_,us hc (aG hI hM lb),?_⟩;cbv
 refine ab h fun y5 HG h=>⟨_,_,_,us hc (aA hI hM HG),?_⟩;cbv
 refine ab h fun y6 yT h=>?_
 (refine⟨_,_,_,us hc ((aK (r:=r) hI hM yT).wk ?_),?_⟩;next=>exact⟨ay _,ay _,ay _,(aE hM),trivial⟩)
 cbv
 refine⟨_,bJ (enc:=(aZ M r)) (x:=y6) hM (af _) rfl,?_⟩;cbv
 refine ab h fun y7 JL h=>⟨_,_,_,us hc (aG hI hM JL),?_⟩;cbv
 refine ab h fun y8 RR h=>⟨_,_,_,us hc (aA hI hM RR),?_⟩;cbv
 refine ab h fun y9 JK h=>?_
 (refine⟨_,_,_,us hc ((aK (r:=r) hI hM JK).wk ?_),?_⟩;next=>exact⟨ay _,ay _,ay _,(aE hM),trivial⟩)
 cbv
 refine⟨_,bJ (enc:=an) (x:=0) hM (af _) rfl,?_⟩;cbv
 refine ab h fun qO oT h=>⟨_,_,_,us hc (aK hI hM oT),?_⟩;cbv
 refine ab h fun sm uQ h=>?_
 (refine⟨_,_,_,us hc ((aK (r:=r) hI hM uQ).wk ?_),?_⟩;next=>exact⟨ay _,ay _,ay _,(aE hM),trivial⟩)
 cbv
 refine⟨_,gH (enc:=an) (l:=[1,2]) hM ⟨⟨(af _),rfl⟩,⟨(af _),rfl⟩,trivial⟩,?_⟩;cbv
 refine ab h fun CJ HM h=>⟨_,_,_,us hc (aK hI hM HM),?_⟩;cbv
 refine⟨_,gH (enc:=(aZ M r)) (l:=[y9,qO,sm,CJ]) hM ⟨⟨(af _),rfl⟩,⟨(af _),rfl⟩,⟨(af _),rfl⟩,⟨(af _),rfl⟩,trivial⟩,?_⟩;cbv
 refine ab h fun pW tM h=>⟨_,_,_,us hc (aG hI hM tM),?_⟩;cbv
 refine ab h fun E7 HL h=>⟨_,_,_,us hc (aA hI hM HL),?_⟩;cbv
 refine⟨_,gH (enc:=(ao M r)) (l:=[y5,y8,E7]) hM ⟨⟨(af _),rfl⟩,⟨(af _),rfl⟩,⟨(af _),rfl⟩,trivial⟩,?_⟩;cbv
 refine ab h fun Da HK h=>⟨_,_,_,us hc (ax hI hM HK),?_⟩;cbv
 cbv;cases h;exact fin
end Ab
namespace Ab
open Go
set_option maxHeartbeats 4000000
set_option maxRecDepth 100000
def aq9:aj:=⟨⟨#[116,119,111]⟩,0,[⟨⟨#[]⟩,0,[⟨4,eF,0,[]⟩,⟨5,⟨#[105,100]⟩,0,[0]⟩,⟨5,eF,0,[]⟩,⟨3,⟨#[112]⟩,0,[1,2]⟩],3⟩]⟩
def Rt:ah:=⟨[Ch eF,⟨⟨#[105,100]⟩,1,[⟨⟨#[]⟩,0,[⟨1,⟨#[]⟩,0,[]⟩],0⟩]⟩,aq9]⟩
theorem ais{I:Pr}(hI:I=al){M:Md}(hM:M= .al):pO I M 0=some Rt:=by subst hI;subst hM;kernel_rfl
theorem ait{I:Pr}(hI:I=al){M:Md}(hM:M= .al):nE I M 100 ⟨[Ch eF]⟩=some ⟨[Ch eF]⟩:=by subst hI;subst hM;kernel_rfl
def W6:Code→Code
 | .seq a _=>a
 |c=>c
def Fi:Code→Code
 | .seq _ b=>b
 |c=>c
noncomputable def k0:Code:=W6 Zt
noncomputable def k1:Code:=W6 (Fi Zt)
noncomputable def k2:Code:=W6 (Fi (Fi Zt))
noncomputable def k3:Code:=W6 (Fi (Fi (Fi Zt)))
noncomputable def k4:Code:=Fi (Fi (Fi (Fi Zt)))
theorem Zs:Zt=k0.seq (k1.seq (k2.seq (k3.seq k4))):=by kernel_rfl
def PZ(r:Nat)(k:ByteArray):List (List AV):=(aet k).map (aZ .al r)
def EL(r:Nat)(k:ByteArray):List (List AV):=[[vs ⟨#[]⟩,vi 0,.sl r (PZ r k),vi 2]]
def s3(g:Nat→Option Ob)(nx:Nat):St:={n:=29,t:=[(0,.ptr (.s 0) 0),(1,.ptr (.s 1) 0),(2,.ptr (.s 2) 0)],b:=[(0,.box [.v dJ]),(1,.box [.sl 1000000 (Rt.blocks.map (ao .al 1000000))]),(2,.box [vs eF,vi 0,.sl 1000001 (EL 1000001 eF)])],c:=[],g:=g,nx:=nx,up:=[],fl:=true}
def Z9(R:St→Prop)(e:Ex)(s:St):Prop:=match e with
 | .normal=>R s
 |_=>False
theorem VX{I:Pr}(hI:I=al){M:Md}(hM:M= .al)(call:oO)(hc:Any PP call)(g:Nat→Option Ob)(nx:Nat):
  pY (m0 {I:=I,L:=L,ρ:=1000000,sh:=[],tree:=Hq,call:=call,op:=[4009],dead:=IH,cl:=fD,keys:=kN,eqs:=sf} (uI 42 (Uy 1000000) (fun _=>none)) 1 0) (k0.seq (k1.seq k2)) (init 29 [] g nx true) (Z9 fun s'=>s'=s3 g nx):=by
 obtain⟨wrap,add,sub,mul,aJ,aV,pK,seq,cat,beq,not,pick,Qf,imax,eR,Lb,app,EB,II,flat,chunk,rep,set,room,within,nat,D0,nq,nr⟩:=I
 obtain⟨map,ln⟩:=M
 cbv
 refine⟨_,_,_,us hc (jG hI hM (ais hI hM) (r:=1000000)),?_⟩
 cbv
 refine⟨_,ai hM (x:=Ch eF) rfl rfl,?_⟩
 cbv
 refine⟨_,bJ (enc:=(ao ⟨map,ln⟩ 1000000)) (x:=Ch eF) hM (af _) rfl,?_⟩
 cbv
 refine⟨_,_,_,us hc (ax (n:=0) hI hM (a0:=[Ch eF]) (v:=⟨[Ch eF]⟩) rfl),?_⟩
 cbv
 refine⟨_,_,_,us hc (zL hI hM (ait hI hM) (r:=1000001)),?_⟩
 cbv
 refine⟨_,ai hM (x:=Ch eF) rfl rfl,?_⟩
 cbv
 unfold Md.al at hM
 injection hM with e1 e2
 subst e1
 subst e2
 rfl
def s4(g:Nat→Option Ob)(nx:Nat):St:={n:=29,t:=[(0,.ptr (.s 0) 0),(1,.ptr (.s 1) 0),(2,.ptr (.s 2) 0)],b:=[(0,.box [.v dJ]),(1,.box [.sl 1000000 (Rt.blocks.map (ao .al 1000000))]),(2,.box [vs rF,vi 0,.sl 1000001 (EL 1000001 rF)])],c:=[],g:=g,nx:=nx,up:=[],fl:=true}
def W9:AV:= .agg [.sl 1000000 [ao .al 1000000 (Ch eF),[vs rF,vi 0,.sl 1000001 (EL 1000001 rF)]]]
theorem ahF{I:Pr}(hI:I=al)(call:oO)(hc:Any PP call)(g:Nat→Option Ob)(nx:Nat):
  pY (m0 {I:=I,L:=L,ρ:=1000000,sh:=[],tree:=Hq,call:=call,op:=[4009],dead:=IH,cl:=fD,keys:=kN,eqs:=sf} (uI 42 (Uy 1000000) (fun _=>none)) 1 0) k4 (s4 g nx) (post (m0 {I:=I,L:=L,ρ:=1000000,sh:=[],tree:=Hq,call:=call,op:=[4009],dead:=IH,cl:=fD,keys:=kN,eqs:=sf} (uI 42 (Uy 1000000) (fun _=>none)) 1 0) [.cell 0 24] fun r1 g1 zb=>I0 r1 W9∧g1=g∧zb=nx):=by
 obtain⟨wrap,add,sub,mul,aJ,aV,pK,seq,cat,beq,not,pick,Qf,imax,eR,Lb,app,EB,II,flat,chunk,rep,set,room,within,nat,D0,nq,nr⟩:=I
 cbv
 apply Exists.intro
 refine⟨?_,?_⟩
 next=>
  cbv
  refine⟨_,⟨by decide,rfl,rfl⟩,?_⟩
  cbv
  repeat'(first|exact Or.inl rfl|trivial|(apply And.intro)|(refine⟨_,blL rfl,?_⟩;cbv))
 refine⟨_,rfl,?_⟩
 cbv
 all_goals(repeat' apply And.intro)
 all_goals first|trivial|rfl
end Ab
namespace Ab
open Go
set_option maxHeartbeats 4000000
set_option maxRecDepth 100000
variable{P:Program}{E E' E0:Env}{w w' w0:World}{a a':Act}{s:St}{C:dj}
theorem amz(ok:Ok P C)(hm:P.follows .mixedOrders=true){x y z d:Code}(hx:cg C.cl C.tree x=true)(hy:cg C.cl C.tree y=true)(hz:cg C.cl C.tree z=true){R:St→Prop}{Q:Exit→Act→World→Prop}(h:bq E0 E w0 w s a)(hk:pY C (x.seq (y.seq z)) s (Z9 R))
  (hr: ∀{s':St} {E':Env} {a':Act} {w':World},R s'→bq E0 E' w0 w' s' a'→d.wpIn (WF none) 0 P Q a' w'):(x.seq (y.seq (z.seq d))).wpIn (WF none) 0 P Q a w:=by
 unfold pY at hk
 refine wpIn_seq (wpIn_mono (dK ok hm x none (.inl rfl) hx h hk) fun e a1 w1 hq=>?_)
 cases e with
 |normal=>
  obtain⟨s1,E1,h1,h2⟩:=hq
  dsimp only at h1
  unfold pY at h1
  refine wpIn_seq (wpIn_mono (dK ok hm y none (.inl rfl) hy h2 h1) fun e a2 w2 hq=>?_)
  cases e with
  |normal=>
   obtain⟨s2,E2,h3,h4⟩:=hq
   refine wpIn_seq (wpIn_mono (dK ok hm z none (.inl rfl) hz h4 h3) fun e a3 w3 hq=>?_)
   cases e with
   |normal=>obtain⟨s3,E3,h5,h6⟩:=hq;exact hr h5 h6
   |exit k=>obtain⟨_,_,h5,_⟩:=hq;exact h5.elim
   |ret=>obtain⟨_,_,h5,_⟩:=hq;exact h5.elim
   |goto l=>exact hq.elim
   |panic c=>exact hq.elim
   |outgrown=>exact hq.elim
  |exit k=>obtain⟨_,_,h5,_⟩:=hq;exact h5.elim
  |ret=>obtain⟨_,_,h5,_⟩:=hq;exact h5.elim
  |goto l=>exact hq.elim
  |panic c=>exact hq.elim
  |outgrown=>exact hq.elim
 |exit k=>obtain⟨_,_,h5,_⟩:=hq;exact h5.elim
 |ret=>obtain⟨_,_,h5,_⟩:=hq;exact h5.elim
 |goto l=>exact hq.elim
 |panic c=>exact hq.elim
 |outgrown=>exact hq.elim
theorem bq.acu(h:bq E0 E w0 w s a)(du:a'.tmps.size=s.n)(hd:a'.defers=a.defers)(hc:s.c=[])(ht: ∀d x,look d s.t=some x→a'.tmps.getD d undef=a.tmps.getD d undef):bq E0 E w0 w s a':=
 ⟨h.heap,h.wf,by have:=h.I8;unfold QC at this ⊢;rw[hd];exact this,h.up,du,fun d x hl hp=>by rw[ht d x hl];exact h.tm d x hl hp,(fun d q hl=>by rw[hc]at hl;cases hl),h.bx,h.lv,h.gx,h.gl,h.ext,h.xz,h.same,h.gk,h.nl,h.ng,h.lo⟩
theorem NH{ops:Array Oper}{l:Array Bool}(du:l.size=ops.size)(ajX: ∀(i:Nat) (o:Oper),ops[i]? =some o→ ∀e∈o.after,e.on<i)(hr:Region.ready .any ops l=[]): ∀i,i<ops.size→l.getD i false=true:=by
 intro i
 induction i using Nat.strongRecOn with
 |_ i ih=>
  intro hi
  cases hl:l.getD i false with
  |true=>rfl
  |false=>
   exfalso
   have aU:i<l.size:=by omega
   have:i∈Region.ready .any ops l:=mem_ready.2 ⟨by
    simp only[Array.getD_eq_getD_getElem?,Array.getElem?_eq_getElem aU,Option.getD_some]at hl ⊢
    exact hl,ops[i],by simp[hi],fun e he _=>ih e.on (ajX i ops[i] (by simp[hi]) e he) (by
     have:=ajX i ops[i] (by simp[hi]) e he
     omega)⟩
   rw[hr]at this
   cases this
def akr(ops:Array Oper):Bool:=(List.range ops.size).all fun i=>match ops[i]? with
 |some o=>o.after.toList.all fun e=>decide (e.on<i)
 |none=>true
theorem afu{ops:Array Oper}(h:akr ops=true): ∀(i:Nat) (o:Oper),ops[i]? =some o→ ∀e∈o.after,e.on<i:=fun i o ho e he=>by
 have hi:=(Array.getElem?_eq_some_iff.1 ho).1
 have:=List.all_eq_true.1 h i (List.mem_range.2 hi)
 rw[ho]at this
 exact of_decide_eq_true (List.all_eq_true.1 this e (Array.mem_toList_iff.2 he))
def afx(ops:Array Oper)(i j:Nat):Bool:=match ops[i]? with
 |some o=>o.after.toList.any fun e=>Region.binds .any e&&decide (e.on=j)
 |none=>false
theorem afw{ops:Array Oper}{l:Array Bool}{i j:Nat}(hi:i∈Region.ready .any ops l)(h:afx ops i j=true):l.getD j false=true:=by
 obtain⟨_,o,ho,hd⟩:=mem_ready.1 hi
 unfold afx at h
 rw[ho]at h
 obtain⟨e,he,hb⟩:=List.any_eq_true.1 h
 simp only[Bool.and_eq_true]at hb
 have h2:e.on=j:=of_decide_eq_true hb.2
 rw[←h2]
 exact hd e (Array.mem_toList_iff.1 he) hb.1
noncomputable def vK:Array Oper:=match k3 with
 | .region _ o _=>o
 |_=> #[]
theorem ai5:k3= .region 3 vK true:=by kernel_rfl
theorem Jw:vK.size=10:=by kernel_rfl
theorem aqb:akr vK=true:=by kernel_rfl
theorem aks:((List.range 10).all fun i=>(List.range 10).all fun j=> !mA i j||afx vK i j)=true:=by kernel_rfl
theorem kP{α:Type}{o:Option α}(h:o.isSome=true):o=some (o.get h):=by cases o with
 |none=>cases h
 |some x=>rfl
theorem RF: ∀i,i<10→ ∃o,vK[i]? =some o∧o.guard=none∧o.op=(rp i).1∧o.dst=(rp i).2
 |0,_=>⟨vK[0]?.get (by kernel_rfl),kP _,by kernel_rfl,by kernel_rfl,by kernel_rfl⟩
 |1,_=>⟨vK[1]?.get (by kernel_rfl),kP _,by kernel_rfl,by kernel_rfl,by kernel_rfl⟩
 |2,_=>⟨vK[2]?.get (by kernel_rfl),kP _,by kernel_rfl,by kernel_rfl,by kernel_rfl⟩
 |3,_=>⟨vK[3]?.get (by kernel_rfl),kP _,by kernel_rfl,by kernel_rfl,by kernel_rfl⟩
 |4,_=>⟨vK[4]?.get (by kernel_rfl),kP _,by kernel_rfl,by kernel_rfl,by kernel_rfl⟩
 |5,_=>⟨vK[5]?.get (by kernel_rfl),kP _,by kernel_rfl,by kernel_rfl,by kernel_rfl⟩
 |6,_=>⟨vK[6]?.get (by kernel_rfl),kP _,by kernel_rfl,by kernel_rfl,by kernel_rfl⟩
 |7,_=>⟨vK[7]?.get (by kernel_rfl),kP _,by kernel_rfl,by kernel_rfl,by kernel_rfl⟩
 |8,_=>⟨vK[8]?.get (by kernel_rfl),kP _,by kernel_rfl,by kernel_rfl,by kernel_rfl⟩
 |9,_=>⟨vK[9]?.get (by kernel_rfl),kP _,by kernel_rfl,by kernel_rfl,by kernel_rfl⟩
 |n+10,h=>by omega
theorem Yr(l:Array Bool)(i:Nat)(hi:i∈Region.ready .any vK l):i<10∧ ∀j,mA i j=true→l.getD j false=true:=by
 have Ah:i<10:=by
  obtain⟨_,o,ho,_⟩:=mem_ready.1 hi
  have:=(Array.getElem?_eq_some_iff.1 ho).1
  rw[Jw]at this
  exact this
 refine⟨Ah,fun j hj=>?_⟩
 have apg:j<10:=by
  match i,Ah,hj with
  |0,_,hj=>simp[mA]at hj
  |1,_,hj=>unfold mA at hj;split at hj<;>first|omega|(simp at hj;omega)|cases hj
  |2,_,hj=>unfold mA at hj;split at hj<;>first|omega|(simp at hj;omega)|cases hj
  |3,_,hj=>unfold mA at hj;split at hj<;>first|omega|(simp at hj;omega)|cases hj
  |4,_,hj=>unfold mA at hj;split at hj<;>first|omega|(simp at hj;omega)|cases hj
  |5,_,hj=>unfold mA at hj;split at hj<;>first|omega|(simp at hj;omega)|cases hj
  |6,_,hj=>unfold mA at hj;split at hj<;>first|omega|(simp at hj;omega)|cases hj
  |7,_,hj=>unfold mA at hj;split at hj<;>first|omega|(simp at hj;omega)|cases hj
  |8,_,hj=>unfold mA at hj;split at hj<;>first|omega|(simp at hj;omega)|cases hj
  |9,_,hj=>unfold mA at hj;split at hj<;>first|omega|(simp at hj;omega)|cases hj
  |n+10,h,_=>omega
 have h1:=List.all_eq_true.1 (List.all_eq_true.1 aks i (List.mem_range.2 Ah)) j (List.mem_range.2 apg)
 rw[hj]at h1
 exact afw hi (by simpa using h1)
theorem RI{r:Nat}{xs:List (List AV)}{x:Value}(h:Cz E (.sl r xs) x)(hx:0<xs.length): ∃b o c,x= .slice (some ⟨b,o,none⟩) xs.length c∧E.dx b=r∧ ∀(q:Nat) (a:AV),xs.flatten[q]? =some a→E.aN b (o+q)∧ ∃y,aR E.h b (o+q)=some y∧Cz E a y:=by
 cases h with
 |nA=>simp at hx
 |sl _ _ z b o c u hp hc hm dV Qg hr hii hs hu hqq=>exact⟨b,o,c,rfl,hr,fun q a ha=>⟨hs q a ha,u q,hu q a ha,hqq q a ha⟩⟩
theorem U2{bb ob nb cb bo oo no co:Nat}(k:Vg E E' bo (oo+5) eF)(hb:Cz E (.sl 1000001 (EL 1000001 eF)) (.slice (some ⟨bb,ob,none⟩) nb cb))(ho:Cz E (.sl 1000001 (PZ 1000001 eF)) (.slice (some ⟨bo,oo,none⟩) no co))
  (h2:aR E.h bb (ob+2)=some (.slice (some ⟨bo,oo,none⟩) no co))(vV:aR E'.h bo (oo+5)=some fP):Cz E' (.sl 1000001 (EL 1000001 rF)) (.slice (some ⟨bb,ob,none⟩) nb cb):=by
 have same: ∀{b o:Nat} {a:AV} {x:Value},aR E.h b o=some x→Cz E a x→Ib (.string eF) a→ ∃y,aR E'.h b o=some y∧Cz E' a y:=fun hx h hn=>⟨_,k.bp hx h hn,h.anL k hn⟩
 have aeR: ∀k:ByteArray,k≠eF→Value.string k≠ .string eF:=fun k h e=>h (by injection e)
 have Fx: ∀y:Int,(Value.int .i64 y)≠ .string eF:=fun y e=>by cases e
 have uX:Cz E' (.sl 1000001 (PZ 1000001 rF)) (.slice (some ⟨bo,oo,none⟩) no co):=by
  refine ho.slN (z:=4) (by decide) rfl (fun l hl=>?_) (fun l hl=>?_) (by decide) k.aN k.dx (fun q a' ha=>bj (cs:=(PZ 1000001 rF).flatten) rfl q a' ha) fun q a' a x h1 h2 h3 h4=>?_
  ·obtain⟨y,_,rfl⟩:=List.mem_map.1 hl;rfl
  ·obtain⟨y,_,rfl⟩:=List.mem_map.1 hl;rfl
  ·have Nh: ∀(xs:List (List AV)),Kc (.string eF) xs→Ib (.string eF) (.sl 1000001 xs):=fun xs h=>by simp only[Ib];exact h
   have hv: ∀y:Value,y≠ .string eF→Ib (.string eF) (.v y):=fun y h=>by simp only[Ib];exact h
   match q,h1,h2 with
   |0,h1,h2=>cases h1;cases h2;exact same h3 h4 (hv _ (Fx _))
   |1,h1,h2=>cases h1;cases h2;exact same h3 h4 (hv _ (aeR _ (by decide)))
   |2,h1,h2=>cases h1;cases h2;exact same h3 h4 (hv _ (Fx _))
   |3,h1,h2=>cases h1;cases h2;exact same h3 h4 (Nh _ (by simp[Kc,Md.al]))
   |4,h1,h2=>cases h1;cases h2;exact same h3 h4 (hv _ (Fx _))
   |5,h1,h2=>cases h1;exact⟨_,vV,.v _⟩
   |6,h1,h2=>cases h1;cases h2;exact same h3 h4 (hv _ (Fx _))
   |7,h1,h2=>cases h1;cases h2;exact same h3 h4 (Nh _ (by simp[Kc,Md.al]))
   |8,h1,h2=>cases h1;cases h2;exact same h3 h4 (hv _ (Fx _))
   |9,h1,h2=>cases h1;cases h2;exact same h3 h4 (hv _ (aeR _ (by decide)))
   |10,h1,h2=>cases h1;cases h2;exact same h3 h4 (hv _ (Fx _))
   |11,h1,h2=>cases h1;cases h2;exact same h3 h4 (Nh _ (by simp[Kc,noL,Ib,an,vi,Md.al]))
   |n+12,h1,h2=>cases h1
 refine hb.slN (z:=4) (by decide) rfl (fun l hl=>?_) (fun l hl=>?_) (by decide) k.aN k.dx (fun q a' ha=>bj (cs:=(EL 1000001 rF).flatten) rfl q a' ha) fun q a' a x h1 Qn h3 h4=>?_
 ·simp only[EL,List.mem_singleton]at hl;subst hl;rfl
 ·simp only[EL,List.mem_singleton]at hl;subst hl;rfl
 ·have hv: ∀y:Value,y≠ .string eF→Ib (.string eF) (.v y):=fun y h=>by simp only[Ib];exact h
  match q,h1,Qn with
  |0,h1,Qn=>cases h1;cases Qn;exact same h3 h4 (hv _ (aeR _ (by decide)))
  |1,h1,Qn=>cases h1;cases Qn;exact same h3 h4 (hv _ (Fx _))
  |2,h1,Qn=>
   cases h1
   refine⟨_,?_,uX⟩
   rw[k.cell _ _ fun hh=>by
    obtain⟨rfl,hh⟩:=hh
    rw[hh,k.was]at h2
    cases h2]
   exact h2
  |3,h1,Qn=>cases h1;cases Qn;exact same h3 h4 (hv _ (Fx _))
  |n+4,h1,Qn=>cases h1
def EI:oO:=fun _ f args g nx r g' gG=>nP PP f∧km PP f args g nx r g' gG
theorem ak4:Any PP EI:=⟨fun h1 h2=>⟨h1,h2⟩⟩
theorem okC{T:Nat→Option FI}(hT:bk PP fD T)(iH: ∀k,fD k=true→ue T k=false)(ρ:Nat)(tree:Nat→Tree)(dead:Nat→List Nat)(op:List Nat)(fuel:Nat):Ok PP (m0 {I:=al,L:=L,ρ:=ρ,sh:=[],tree:=tree,call:=EI,op:=op,dead:=dead,cl:=fD,keys:=kN,eqs:=sf} T fuel 0):=by
 obtain⟨hC,Yc⟩:=vN hT (C0:={I:=al,L:=L,ρ:=ρ,sh:=[],tree:=tree,call:=EI,op:=op,dead:=dead,cl:=fD,keys:=kN,eqs:=sf}) lay rfl (fun _ _ _ _ _ _ _ _ h=>h) iH Io OY mixed (n:=fuel) (base:=0)
 obtain⟨m1,m2,m3,m4,m5⟩:=Ow (C0:={I:=al,L:=L,ρ:=ρ,sh:=[],tree:=tree,call:=EI,op:=op,dead:=dead,cl:=fD,keys:=kN,eqs:=sf}) (T:=T) (n:=fuel) (base:=0)
 exact⟨by rw[m1];exact lay,m2,fun ρ f args g nx r g' gG hh=>by rw[m3]at hh;exact hh,hC,Yc,MZ,fun k hk=>by rw[m5];rw[m4]at hk;exact iH k hk,
  fun t ks hk=>by rw[(BF (T:=T) (n:=fuel) (base:=0)).1]at hk;exact Io t ks hk,fun t ks hk=>by rw[(BF (T:=T) (n:=fuel) (base:=0)).2]at hk;exact OY t ks hk⟩
theorem Xs{k:Key}{off:Nat}{x:Value}(h:Cz E (.ptr k off) x):x= .pointer (some ⟨E.m k,off,none⟩):=by cases h;rfl
noncomputable def CM:dj:=m0 {I:=al,L:=L,ρ:=1000000,sh:=[],tree:=Hq,call:=EI,op:=[4009],dead:=IH,cl:=fD,keys:=kN,eqs:=sf} (uI 42 (Uy 1000000) (fun _=>none)) 1 0
theorem okM:Ok PP CM:=okC (bk.cons (OX _) (tF PP fD)) (IM (by kernel_rfl) (cl0 fD)) _ _ _ _ _
theorem ahW(g:Nat→Option Ob)(nx:Nat)(hg: ∀i,g i=none)(h:bq E0 E w w (init 29 [] g nx true) a):Zt.wpIn (WF none) 0 PP (B4 E0 w (post CM [.cell 0 24] fun r1 g1 zb=>I0 r1 W9∧g1=g∧zb=nx)) a w:=by
 rw[Zs]
 refine amz okM mixed (by kernel_rfl) (by kernel_rfl) (by kernel_rfl) h (VX rfl rfl EI ak4 g nx) fun{s' E1 a1 w1} hs h1=>?_
 subst hs
 refine wpIn_seq ?_
 rw[ai5]
 have b2:=h1.bx 2 _ rfl
 obtain⟨Ee,c2,e2,hB2,XZ,Qj,ajq,hc2⟩:=b2
 have ajr:c2.size=3:=ajq
 have X8:c2[2]? =some c2[2]:=by simp[ajr]
 have hbr:=hc2 2 _ _ rfl X8
 obtain⟨bb,ob,cb,I3,hrb,hbc⟩:=RI hbr (by decide)
 obtain⟨hsb,y2,hy2,Qh⟩:=hbc 2 _ rfl
 obtain⟨bo,oo,co,hxo,Ec,hoc⟩:=RI Qh (by decide)
 subst hxo
 obtain⟨hso,y5,hy5,hz5⟩:=hoc 5 _ rfl
 have hz5:=bG hz5
 subst hz5
 obtain⟨cO,eO,hO⟩:=h1.wf.fz _ _ hso (by rw[Ec];decide)
 have VC:bo≠E1.m (.s 2):=fun e=>Qj _ (by rw[←e];exact hso)
 have ajF:bb≠E1.m (.s 2):=fun e=>Qj _ (by rw[←e];exact hsb)
 have hO5:cO[oo+5]? =some (.string eF):=by unfold aR at hy5;rw[hO]at hy5;exact hy5
 have aj7:oo+5<cO.size:=(Array.getElem?_eq_some_iff.1 hO5).1
 have KK:a1.tmps.getD 2 undef= .pointer (some ⟨E1.m (.s 2),0,none⟩):=Xs (h1.tm 2 _ rfl trivial)
 rw[I3]at X8
 have aeT: ∀(j:Nat) (d:Bool),(Array.replicate 10 false).getD j false=true→False:=fun j d hh=>by
  simp only[Array.getD_eq_getD_getElem?,Array.getElem?_replicate]at hh
  split at hh<;>simp at hh
 refine wpIn_region_any mixed (pZ (cl:=fD) none _ _ _ _ ?_)
 rw[Jw]
 refine aiO (w:={w1 with drawn:=w1.drawn+1}) (w0:=w1) (H:=E1.h) (base:=fun d=>a1.tmps.getD d undef) (df:=a1.defers) RF Yr KK hB2 (by omega) X8 (by decide) hy2 (by decide) hO aj7 VC ajF (fun l a' w' hi hr=>?_)
  ⟨by simp,?_,⟨rfl,rfl,rfl⟩,fun hh=>(aeT 9 false hh).elim,fun hh=>(aeT 8 false hh).elim,h1.sz,rfl,fun d _=>rfl,fun x _ hh=>(aeT _ false hh).elim⟩ 10 (by simp)
 ·
  have jE:=NH (ops:=vK) (by rw[hi.sz,Jw]) (afu aqb) hr
  have KM:=hi.heap
  rw[jE 6 (by rw[Jw];decide),jE 9 (by rw[Jw];decide)]at KM
  have ae5:E1.m (.s 2)<E1.h.size:=(Array.getElem?_eq_some_iff.1 hB2).1
  have ajL:bo<E1.h.size:=(Array.getElem?_eq_some_iff.1 hO).1
  have h6:=h1.pX (w':={w' with heap:=E1.h.setIfInBounds (E1.m (.s 2)) (.cells (c2.setIfInBounds 0 fP) e2 (0,0))}) (d:=2) (ob0:=_) rfl (o:= .cells (c2.setIfInBounds 0 fP) e2 (0,0)) (ob:= .box [vs rF,vi 0,.sl 1000001 (EL 1000001 eF)])
   (Aj (off:=0) (vs:=[vs rF]) (ys:=[fP]) h1.wf Ee hB2 XZ Qj ⟨ajq,hc2⟩ (by decide) rfl fun q a y ha hy=>by
    cases q with
    |zero=>cases ha;cases hy;exact .v _
    |succ q=>simp at ha) (by rw[h1.heap]) hi.same XZ Qj
  have afq:=(hbr.ext (ib XZ Qj (.cells (c2.setIfInBounds 0 fP) e2 (0,0))) h1.wf (fun _=>false) (eY _)).2 rfl
  have ajB:=(Qh.ext (ib XZ Qj (.cells (c2.setIfInBounds 0 fP) e2 (0,0))) h1.wf (fun _=>false) (eY _)).2 rfl
  generalize hE6:E1.write (.s 2) (.cells (c2.setIfInBounds 0 fP) e2 (0,0))=E6 at h6 afq ajB
  have h6h:E6.h=E1.h.setIfInBounds (E1.m (.s 2)) (.cells (c2.setIfInBounds 0 fP) e2 (0,0)):=by rw[←hE6];rfl
  have h6s:E6.aN=E1.aN:=by rw[←hE6];rfl
  have h6r:E6.dx=E1.dx:=by rw[←hE6];rfl
  have h6m:E6.m=E1.m:=by rw[←hE6];rfl
  have h6o:E6.h[bo]? =some (.cells cO eO (0,0)):=by rw[h6h,Array.getElem?_setIfInBounds_ne (Ne.symm VC)];exact hO
  have Ck:w'.heap=E6.h.setIfInBounds bo (.cells (cO.setIfInBounds (oo+5) fP) eO (0,0)):=by rw[KM,h6h];rfl
  have sp:kj E6 1000001 {w' with heap:=E1.h.setIfInBounds (E1.m (.s 2)) (.cells (c2.setIfInBounds 0 fP) e2 (0,0))} w':=by
   refine⟨⟨rfl,rfl,rfl⟩,by rw[Ck];simp,fun b hb=>?_⟩
   by_cases ui:b=bo
   ·subst ui
    refine .inr ⟨cO,cO.setIfInBounds (oo+5) fP,eO,h6o,by rw[Ck];simp[h6h,ajL],by simp,fun o ho=>?_⟩
    have:oo+5≠o:=fun e=>ho ⟨by rw[h6s,←e];exact hso,by rw[h6r];exact Ec⟩
    rw[Array.getElem?_setIfInBounds_ne this]
   ·left;rw[Ck,Array.getElem?_setIfInBounds_ne (Ne.symm ui)]
  have hnr:nh 1000001 (Rt.blocks.map (ao .al 1000000)):=xY (M:= .al) rfl (q:=1000000) (r:=1000001) (by decide) Rt.blocks
  have h9:=h6.dv (kp:=True) sp (by decide) rfl rfl hg (And.intro trivial (And.intro trivial (And.intro trivial trivial)))
   (And.intro (And.intro trivial trivial) (And.intro (And.intro hnr trivial) (And.intro (And.intro trivial (And.intro trivial (And.intro trivial trivial))) trivial))) trivial
  have cne: ∀{b o:Nat},b≠bo→aR w'.heap b o=aR E6.h b o:=fun{b o} hb=>by
   unfold aR;rw[Ck,Array.getElem?_setIfInBounds_ne (Ne.symm hb)]
  have ceq: ∀o,aR w'.heap bo o=(cO.setIfInBounds (oo+5) fP)[o]? :=fun o=>by
   have:w'.heap[bo]? =some (.cells (cO.setIfInBounds (oo+5) fP) eO (0,0)):=by rw[Ck];simp[h6h,ajL]
   unfold aR;rw[this]
  have k:Vg E6 (E6.dv 1000001 True w') bo (oo+5) eF:=by
   refine⟨fun b o hs=>⟨hs,.inl trivial⟩,fun _=>rfl,fun b o cM=>?_,by unfold aR;rw[h6o];exact hO5⟩
   show aR w'.heap b o=_
   by_cases hb:b=bo
   ·subst hb
    have ho:oo+5≠o:=fun e=>cM ⟨rfl,e.symm⟩
    rw[ceq,Array.getElem?_setIfInBounds_ne ho]
    unfold aR;rw[h6o]
   ·exact cne hb
  have hy6:aR E6.h bb (ob+2)=some (.slice (some ⟨bo,oo,none⟩) (PZ 1000001 eF).length co):=by
   have:E6.h[bb]? =E1.h[bb]? :=by rw[h6h,Array.getElem?_setIfInBounds_ne (Ne.symm ajF)]
   unfold aR at hy2 ⊢;rw[this];exact hy2
  have vV:aR (E6.dv 1000001 True w').h bo (oo+5)=some fP:=by
   show aR w'.heap bo (oo+5)=_
   rw[ceq];simp[aj7]
  rw[I3]at afq
  have afj:=U2 k afq ajB hy6 vV
  have Ah:=h9.ahV (d:=2) (cs:=[vs rF,vi 0,.any]) (cs':=[vs rF,vi 0,.sl 1000001 (EL 1000001 rF)]) rfl rfl (fun c e hce q av x ha hx=>by
   have hce:w'.heap[E6.m (.s 2)]? =some (.cells c e (0,0)):=hce
   rw[Ck,h6m,Array.getElem?_setIfInBounds_ne VC,h6h]at hce
   simp only[Array.getElem?_setIfInBounds_self_of_lt ae5,Option.some.injEq,Obj.cells.injEq]at hce
   obtain⟨hce,_⟩:=hce
   subst hce
   match q,ha,hx with
   |0,ha,hx=>
    cases ha
    have:x=fP:=by simp[ajr]at hx;exact hx.symm
    subst this;exact .v _
   |1,ha,hx=>
    cases ha
    rw[Array.getElem?_setIfInBounds_ne (by decide)]at hx
    have:=bG (hc2 1 _ _ rfl hx)
    subst this;exact .v _
   |2,ha,hx=>
    cases ha
    rw[Array.getElem?_setIfInBounds_ne (by decide),X8]at hx
    cases hx;exact afj
   |n+3,ha,hx=>cases ha)
  have Iw:bq E0 (E6.dv 1000001 True w') w w' (s4 g nx) a1:=Ah
  have h12:=Iw.acu (a':=a') hi.tm hi.df rfl (fun d x hl=>hi.base d (by
   have hl:look d [(0,AV.ptr (.s 0) 0),(1,.ptr (.s 1) 0),(2,.ptr (.s 2) 0)]=some x:=hl
   simp only[aB]at hl
   split at hl
   ·omega
   ·split at hl
    ·omega
    ·split at hl
     ·omega
     ·cases hl))
  exact dK okM mixed k4 none (.inl rfl) (by kernel_rfl) h12 (ahF rfl EI ak4 g nx)
 ·exact h1.heap
theorem iu{I:Pr}(hI:I=al){M:Md}(hM:M= .al){n nx:Nat}{g:Nat→Option Ob}{v:ah}(h:tX I M n=some v){r:Nat}(hr:r<1000000:=by decide):bO 41 [] (.agg (ba M r v)) g nx:=by
 subst hM
 obtain rfl:=Option.some.inj h
 have e1:=Go.Proofs.Tryz.ntmps41
 have e2:Go.Proofs.Tryz.f41.results.toList=[.cell 0 24]:=by kernel_rfl
 have h1: ∀g:Nat→Option Ob,(∀i,g i=none)→ ∀nx,uE PP true 41 [] g nx fun r1 g1 zb=>I0 r1 W9∧g1=g∧zb=nx:=fun g hg nx=>
  uE.ofRaw okM Go.Proofs.Tryz.func41 (c:=Zt) (by kernel_rfl) (by rw[e1];decide) true fun h=>by
   rw[e1]at h
   rw[e2]
   exact ahW g nx hg h
 exact⟨enters Go.Proofs.Tryz.func41 (c:=Zt) (by kernel_rfl) (by kernel_rfl),uE.aiT h1 (fun r hr=>trivial) (by simp[W9,ZH,HiL,Vi,ao,Ch,EL,PZ,aet,az,aZ,Md.al,vs,vi,an]) rfl g nx hr⟩
end Ab
namespace Ab
open Go Go.Proofs.Tryz
set_option maxHeartbeats 100000000
set_option maxRecDepth 100000
variable{I:Pr}(hI:I=al){M:Md}(hM:M= .al){n nx r s p q u rl:Nat}{g:Nat→Option Ob}
 include hI hM
theorem wi{a0:aj}{a1:ByteArray}{v:Bool}(h:mS I M n a0 a1=some v):
  bO 144 [(.agg (ao M r a0)),(.aO r [(vs a1)] 0)] (vb v) g nx:=have _:=hM;by
 refine cr func144 aqy r Wj YK [] 8 ntmps144 [.tmp 3] hI fun call hc=>?_
 cbv;cases h;exact fin
 include hI hM
theorem oW{a0:List aj}{aW:ByteArray}{v:Int}(h:eL I M n a0 aW=some v):
  bO 92 [(.sl r (M.map (ao M r) a0)),(.fn (.func 144) [(.aO r [(vs aW)] 0)])] (vi v) g nx:=by
 refine cr func92 c92 r Hp IG [] 19 ntmps92 [.tmp 4] hI fun call hc=>?_
 cbv
 refine letE h fun n1 cH h=>⟨_,ak hI hM cH,?_⟩;cbv
 refine lp h (fun z2=>[(8,(vi z2))]) (fun z2=>[]) fun ju m1 aS z2 h=>?_
 dsimp only[iC]at h
 cbv
 refine si h (fun h=>?_) fun h=>by cbv;cases h;exact fin
 cbv
 refine ab h fun x3 iJ h=>⟨_,ai hM iJ rfl,?_⟩;cbv
 refine ab h fun y4 lb h=>⟨_,_,_,us hc (wi hI hM lb),?_⟩;cbv
 refine si h (fun h=>by cbv;cases h;exact fin) fun h=>?_
 cbv
 exact bN (aS _ _ h)
 include hI hM
theorem bQ{a0:ByteArray}{a1:ah}{v:Int}(h:cK I M n a0 a1=some v):
  bO 143 [(vs a0),(.aO r (ba M r a1) 0)] (vi v) g nx:=by
 refine cr func143 aqz r Wk YL [] 8 ntmps143 [.tmp 3] hI fun call hc=>?_
 cbv
 refine ab h fun y1 cN h=>⟨_,_,_,us hc (oW hI hM cN),?_⟩;cbv
 cbv;cases h;exact fin
 include hI hM
theorem Cx{a0:Int}{a1:Int}{v:Bool}(h:zS I M n a0 a1=some v):
  bO 146 [(vi a0),(.aO r [(vi a1)] 0)] (vb v) g nx:=have _:=hM;by
 refine cr func146 aqw r Wh YI [] 11 ntmps146 [.tmp 3] hI fun call hc=>?_
 cbv;cases h;exact fin
 include hI hM
theorem uz{a0:Int}{aW:Int}{v:Bool}(h:kg I M n a0 aW=some v):
  bO 157 [(vi a0),(.aO r [(.fn (.func 146) [(.aO r [(vi aW)] 0)])] 0)] (vb v) g nx:=by
 refine cr func157 aqp r V5 Yy [] 8 ntmps157 [.tmp 3] hI fun call hc=>?_
 cbv
 refine ab h fun y1 cN h=>⟨_,_,_,us hc (Cx hI hM cN),?_⟩;cbv
 cbv;cases h;exact fin
 include hI hM
theorem qI{a0:List Int}{qM:Int}{v:Int}(h:lA I M n a0 qM=some v):
  bO 159 [(.sl r (M.map an a0)),(.fn (.func 157) [(.aO r [(.fn (.func 146) [(.aO r [(vi qM)] 0)])] 0)])] (vi v) g nx:=by
 refine cr func159 Zu r CN CY [] 19 ntmps159 [.tmp 4] hI fun call hc=>?_
 cbv
 refine letE h fun n1 cH h=>⟨_,ak hI hM cH,?_⟩;cbv
 refine lp h (fun z2=>[(8,(vi z2))]) (fun z2=>[]) fun ju m1 aS z2 h=>?_
 dsimp only[jM]at h
 cbv
 refine si h (fun h=>?_) fun h=>by cbv;cases h;exact fin
 cbv
 refine ab h fun x3 iJ h=>⟨_,ai hM iJ rfl,?_⟩;cbv
 refine ab h fun y4 lb h=>⟨_,_,_,us hc (uz hI hM lb),?_⟩;cbv
 refine si h (fun h=>by cbv;cases h;exact fin) fun h=>?_
 cbv
 exact bN (aS _ _ h)
 include hI hM
theorem oG{a0:List Int}{qM:Int}{v:Bool}(h:er I M n a0 qM=some v):
  bO 148 [(.sl r (M.map an a0)),(.fn (.func 157) [(.aO r [(.fn (.func 146) [(.aO r [(vi qM)] 0)])] 0)])] (vb v) g nx:=by
 refine cr func148 Zw r CP C2 [] 9 ntmps148 [.tmp 4] hI fun call hc=>?_
 cbv
 refine ab h fun y1 cN h=>⟨_,_,_,us hc (qI hI hM cN),?_⟩;cbv
 cbv;cases h;exact fin
 include hI hM
theorem wg{a0:List Int}{aW:Int}{v:Bool}(h:iG I M n a0 aW=some v):
  bO 145 [(.sl r (M.map an a0)),(.fn (.func 146) [(.aO r [(vi aW)] 0)])] (vb v) g nx:=by
 refine cr func145 aqx r Wi YJ [] 9 ntmps145 [.tmp 4] hI fun call hc=>?_
 cbv
 refine ab h fun y1 cN h=>⟨_,_,_,us hc (oG hI hM cN),?_⟩;cbv
 cbv;cases h;exact fin
 include hI hM
theorem sZ{a0:ByteArray}{v:(List Bool)×Bool}(h:iK I M n a0=some v):
  bO 162 [(vs a0)] (.fT [(.ar 256 1 (M.map cA v.1)),(vb v.2)]) g nx:=by
 obtain⟨r,_⟩: ∃x:Nat,x=0:=⟨_,rfl⟩
 refine cr func162 aqm r V2 Yv [] 21 ntmps162 [.cell 2 159,.tmp 3] hI fun call hc=>?_
 cbv
 refine letE h fun l1 MO h=>⟨_,⟨rfl,iw (enc:=cA) hI hM MO rfl⟩,?_⟩;cbv
 refine lp h (fun(l2,z3)=>[(4,(vi z3))]) (fun(l2,z3)=>[(2,.arr 1 (M.map cA l2))]) fun ju m1 aS st h=>?_
 obtain⟨l2,z3⟩:=st
 dsimp only[lY]at h
 cbv
 refine letE h fun n4 My h=>⟨_,gf hI My,?_⟩;cbv
 refine si h (fun h=>?_) fun h=>?_
 ·cbv
  refine ab h fun x5 rU h=>⟨_,mY rU,?_⟩;cbv
  refine si h (fun h=>?_) fun h=>?_
  ·cbv
   refine ab h fun u6 qu6 h=>?_
   (first|refine⟨⟨rfl,aT hI hM qu6,rfl⟩,?_⟩|refine⟨⟨aT hI hM qu6,trivial⟩,?_⟩|refine⟨aT hI hM qu6,?_⟩)
   cbv
   refine ab h fun u7 qu7 h=>?_
   (first|refine⟨⟨rfl,rfl,rfl,aT hI hM qu7,rfl,(by have hq:=dz (enc:=cA) hM (fun _=>rfl) l2;rw[dU.eq_def]at hq;exact hq)⟩,?_⟩|refine⟨⟨aT hI hM qu7,(by have hq:=dz (enc:=cA) hM (fun _=>rfl) l2;rw[dU.eq_def]at hq;exact hq)⟩,?_⟩)
   cbv
   refine ab h fun u8 Z3 h=>?_
   obtain rfl:=Option.some.inj h
   cbv
   all_goals(repeat' apply And.intro)
   all_goals first|trivial|rfl|exact(aE hM)|exact aT hI hM Z3
  cbv
  refine ab h fun k9 qk9 h=>?_
  (first|refine⟨_,⟨rfl,rfl,aM hI qk9⟩,?_⟩|refine⟨_,aM hI qk9,?_⟩)
  cbv
  refine ab h fun yC xS h=>?_
  refine ab h fun I2 MN h=>⟨_,cF hI hM xS MN (by decide) rfl rfl,?_⟩;cbv
  exact bN (aS _ _ h)
 cbv
 refine ab h fun u14 Sn h=>?_
 (first|refine⟨⟨rfl,aT hI hM Sn,rfl⟩,?_⟩|refine⟨⟨aT hI hM Sn,trivial⟩,?_⟩|refine⟨aT hI hM Sn,?_⟩)
 cbv
 refine ab h fun u15 aic h=>?_
 (first|refine⟨⟨rfl,rfl,rfl,aT hI hM aic,rfl,(by have hq:=dz (enc:=cA) hM (fun _=>rfl) l2;rw[dU.eq_def]at hq;exact hq)⟩,?_⟩|refine⟨⟨aT hI hM aic,(by have hq:=dz (enc:=cA) hM (fun _=>rfl) l2;rw[dU.eq_def]at hq;exact hq)⟩,?_⟩)
 cbv
 refine ab h fun u16 Mt h=>?_
 obtain rfl:=Option.some.inj h
 cbv
 all_goals(repeat' apply And.intro)
 all_goals first|trivial|rfl|exact(aE hM)|exact aT hI hM Mt
 include hI hM
theorem sY{a0:ByteArray}{a1:Int}{v:ByteArray}(h:nX I M n a0 a1=some v):
  bO 160 [(vs a0),(.v (.int .u8 a1))] (vs v) g nx:=have _:=hM;by
 obtain⟨r,_⟩: ∃x:Nat,x=0:=⟨_,rfl⟩
 refine cr func160 aqo r V4 Yx [] 17 ntmps160 [.tmp 4] hI fun call hc=>?_
 cbv
 refine lp h (fun z1=>[(0,(vs z1))]) (fun z1=>[]) fun ju m1 aS z1 h=>?_
 dsimp only[lX]at h
 cbv
 refine letE h fun n2 oQ h=>⟨_,gf hI oQ,?_⟩;cbv
 refine ab h fun x3 iJ h=>⟨_,fun hp=>mY (aw iJ hp.1),?_⟩;cbv
 refine si h (fun h=>?_) fun h=>by cbv;cases h;exact fin
 cbv
 refine ab h fun s4 qs4 h=>⟨_,ED hI qs4,?_⟩;cbv
 exact bN (aS _ _ h)
 include hI hM
theorem r9{a0:ByteArray}{a1:Int}{v:ByteArray}(h:nj I M n a0 a1=some v):
  bO 161 [(vs a0),(.v (.int .u8 a1))] (vs v) g nx:=have _:=hM;by
 obtain⟨r,_⟩: ∃x:Nat,x=0:=⟨_,rfl⟩
 refine cr func161 aqn r V3 Yw [] 23 ntmps161 [.tmp 4] hI fun call hc=>?_
 cbv
 refine lp h (fun z1=>[(0,(vs z1))]) (fun z1=>[]) fun ju m1 aS z1 h=>?_
 dsimp only[lr]at h
 cbv
 refine letE h fun n2 oQ h=>⟨_,gf hI oQ,?_⟩;cbv
 refine⟨_,gf hI oQ,?_⟩;cbv
 refine ab h fun x3 iJ h=>⟨_,fun hp=>mY (aw iJ hp.1),?_⟩;cbv
 refine si h (fun h=>?_) fun h=>by cbv;cases h;exact fin
 cbv
 refine⟨_,gf hI oQ,?_⟩;cbv
 refine ab h fun s4 qs4 h=>⟨_,IJ hI qs4,?_⟩;cbv
 exact bN (aS _ _ h)
end Ab
