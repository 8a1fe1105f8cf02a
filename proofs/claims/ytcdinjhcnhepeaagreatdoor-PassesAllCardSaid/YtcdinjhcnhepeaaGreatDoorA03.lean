/- PassesAll holds of all pairs of cores (no condition): a part of the proof: an abstract interpreter of the code that is proved sound, models of the functions, and laws of these models. -/
import Derived.Test.YtcdinjhcnhepeaaGreatDoorA02
set_option linter.unusedVariables false
set_option linter.unusedSimpArgs false
set_option linter.unusedSectionVars false
namespace Ab
open Go
set_option maxRecDepth 10000
def tB(x:ag):Bool:=decide (1≤x.ops.length)&&decide (x.ops.length≤60)
def ox(x:ag):Bool:=decide (0≤x.aM)&&decide (x.aM≤4)
def fI(x:ag):Bool:=decide (x.head=⟨#[]⟩)
def oy(x:ag):Bool:=fI x||e9 x.head
def alone(n:Nat)(x:ag):Bool:=fI x&&(decide (1<n)|| !decide (x.aM=0))
def eqv(x y:ag):Bool:=decide (x.head=y.head)&&decide (x.aM=y.aM)
def dup:List ag→List ag→Bool
 |_,[]=>false
 |p,x::r=>p.any (eqv x)||dup (p++[x]) r
def jO(b:aj):Int:=
 bif decide (b.ae.length<1)||decide (6<b.ae.length)|| !b.ae.all tB then 2
 else bif decide (b.aI<0)||decide (4<b.aI)|| !b.ae.all ox then 3
 else bif !e9 b.name|| !b.ae.all oy then 4
 else bif b.ae.any (alone b.ae.length)||(decide (b.aI=0)&& !b.ae.all fI)then 7
 else bif dup [] b.ae then 5 else 0
theorem qd{α:Type}(q:α→Bool)(l:List α):(!l.any fun x=> !q x)=l.all q:=by
 induction l with
 |nil=>rfl
 |cons x r ih=>simp only[List.any_cons,List.all_cons,Bool.not_or,Bool.not_not,ih]
theorem every{o:Option Bool}{q:ag→Bool}{l:List ag}(h:o=some (l.any fun x=> !q x)):(o.bind fun y=>some (ak.not y))=some (l.all q):=by
 rw[h,au,bQ,qd]
section
variable{n:Nat}(hn:100<n)
 include hn
theorem ev1{l:List ag}(h:l.length≤16):kN ak .ak n l=some (l.all tB):=
 every (cQ (cP (p:=je ak .ak n) (fun x=> !tB x) (fun x _=>by
  show some (!(bif (decide ((0:Int)<x.ops.length))then(decide ((x.ops.length:Int)≤60))else false))=_;rw[mO];unfold tB;rw[show decide ((0:Int)<x.ops.length)=decide (1≤x.ops.length)by rw[decide_eq_decide];omega,show decide ((x.ops.length:Int)≤60)=decide (x.ops.length≤60)by rw[decide_eq_decide];omega]) (by omega) (by omega)))
theorem ev2{l:List ag}(h:l.length≤16):kM ak .ak n l=some (l.all ox):=
 every (cQ (cP (p:=jd ak .ak n) (fun x=> !ox x) (fun x _=>by
  show some (!(bif (decide ((0:Int)≤x.aM))then(decide (x.aM≤4))else false))=_;rw[mO];rfl) (by omega) (by omega)))
theorem ev3{l:List ag}(h:l.length≤16):kL ak .ak n l=some (l.all oy):=
 every (cQ (cP (p:=jc ak .ak n) (fun x=> !oy x) (fun x _=>by
  show(Option.bind (mM ak .ak n x) fun y1=>some (ak.not y1))=_;unfold mM lk;rw[au,HO (y:=e9 x.head) fun _=>wH hn _];simp only[au,bQ,bg,jx,oy,fI];cases decide (x.head=⟨#[]⟩)<;>rfl) (by omega) (by omega)))
theorem ev4{l:List ag}(h:l.length≤16):kK ak .ak n l=some (l.all fI):=
 every (cQ (cP (p:=ja ak .ak n) (fun x=> !fI x) (fun x _=>rfl) (by omega) (by omega)))
theorem ev5{l:List ag}(h:l.length≤16)(b:aj):eB ak .ak n l b=some (l.any (alone b.ae.length)):=
 cQ (cP (p:=fun x=>mL ak .ak n x b) (alone b.ae.length) (fun x _=>by
  unfold mL lk alone fI;simp only[au,bQ,bg,jx,fW,bU,aw,eE,mO];rw[show decide ((1:Int)<b.ae.length)=decide (1<b.ae.length)by rw[decide_eq_decide];omega]) (by omega) (by omega))
theorem ix8{l:List ag}(h:l.length≤16)(x:ag):fw ak .ak n l x=some (eX (fun y=>eqv y x) l):=
 cP (p:=fun y=>oP ak .ak n y x) (fun y=>eqv y x) (fun y _=>by
  show some (bif (decide (y.head=x.head))then(decide (y.aM=x.aM))else false)=_;rw[mO];rfl) (by omega) (by omega)
theorem ix9{l:List ag}(h:l.length≤16)(x:ag):fv ak .ak n l x=some (eX (fun y=>eqv y x) l):=
 cP (p:=fun y=>oO ak .ak n y x) (fun y=>eqv y x) (fun y _=>by
  show some (bif (decide (y.head=x.head))then(decide (y.aM=x.aM))else false)=_;rw[mO];rfl) (by omega) (by omega)
end
def qK(x:ag):ByteArray×Int:=(x.head,x.aM)
theorem tL(x y:ag):eqv x y=true↔qK x=qK y:=by simp[eqv,qK]
def Ik(l:List ag)(x:ag):Bool:=(l.drop ((eX (fun y=>eqv y x) l).toNat+1)).any fun y=>eqv y x
theorem BM: ∀(r p:List ag),(p.map qK).Nodup→(dup p r=true↔ ¬((p++r).map qK).Nodup)
 |[],p,hp=>by simp[dup,hp]
 |x::r,p,hp=>by
  simp only[dup,Bool.or_eq_true,List.any_eq_true];by_cases hx: ∃y,y∈p∧eqv x y=true
  ·constructor
   ·intro _ hnd;obtain⟨y,hy,he⟩:=hx;rw[List.map_append,List.nodup_append]at hnd;exact hnd.2.2 (qK y) (List.mem_map_of_mem hy) (qK x) (by simp) ((tL x y).1 he).symm
   ·intro _;exact .inl hx
  ·have Xs:((p++[x]).map qK).Nodup:=by
    rw[List.map_append,List.nodup_append];refine⟨hp,by simp,fun a ha b hb Np=>hx ?_⟩;obtain⟨y,hy,rfl⟩:=List.mem_map.1 ha;have:b=qK x:=by simpa using hb
    exact⟨y,hy,(tL x y).2 (this▸Np).symm⟩
   have:=BM r (p++[x]) Xs
   rw[List.append_assoc]at this;constructor
   ·rintro(h|h)
    ·exact absurd h hx
    ·exact this.1 h
   ·intro h;exact .inr (this.2 h)
theorem Si(l:List ag):(l.any (Ik l)=true↔ ¬(l.map qK).Nodup):=by
 constructor
 ·intro h hnd;obtain⟨x,hx,h⟩:=List.any_eq_true.1 h;unfold Ik at h;obtain⟨y,hy,he⟩:=List.any_eq_true.1 h;have hex:l.any (fun y=>eqv y x)=true:=List.any_eq_true.2 ⟨x,hx,by rw[tL]⟩
  rw[←Bo]at hex;have hex:0≤eX (fun y=>eqv y x) l:=by simpa using hex
  unfold eX at hex hy;cases hf:l.findIdx? (fun y=>eqv y x)with
  |none=>rw[hf]at hex;simp at hex
  |some i=>
   rw[hf]at hy;obtain⟨h1,h2,_⟩:=List.findIdx?_eq_some_iff_getElem.1 hf;have KR:l=l.take (i+1)++l.drop (i+1):=(List.take_append_drop _ _).symm
   rw[KR,List.map_append,List.nodup_append]at hnd;simp at hy;exact hnd.2.2 (qK l[i]) (List.mem_map_of_mem (by rw[List.mem_take_iff_getElem];exact⟨i,by omega,rfl⟩)) (qK y) (List.mem_map_of_mem hy) (((tL _ _).1 h2).trans ((tL _ _).1 he).symm)
 ·intro h;rcases Bool.eq_false_or_eq_true (l.any (Ik l))with hc|hc
  ·exact hc
  ·exfalso;apply h;rw[List.any_eq_false]at hc;unfold List.Nodup;rw[List.pairwise_iff_getElem];intro i j hi hj hij he;simp only[List.length_map]at hi hj;have he:qK l[i]=qK l[j]:=by simpa using he
   refine hc l[i] (List.getElem_mem _) ?_;unfold Ik;rw[List.any_eq_true];refine⟨l[j],?_,(tL _ _).2 he.symm⟩;have hle:(eX (fun y=>eqv y l[i]) l).toNat≤i:=by
    unfold eX;cases hf:l.findIdx? (fun y=>eqv y l[i])with
    |none=>simp
    |some k=>
     obtain⟨k1,k2,k3⟩:=List.findIdx?_eq_some_iff_getElem.1 hf;show k≤i;rcases Nat.lt_or_ge i k with bc|P7
     ·have:=k3 i bc
      exact absurd ((tL l[i] l[i]).2 rfl) this
     ·exact P7
   rw[List.mem_drop_iff_getElem];exact⟨j - ((eX (fun y=>eqv y l[i]) l).toNat+1),by omega,by congr 1;omega⟩
theorem Sj(l:List ag):l.any (Ik l)=dup [] l:=by
 rw[Bool.eq_iff_iff,Si,BM l [] (by simp)];rfl
section
variable{n:Nat}(hn:100<n)
 include hn
theorem ix7{b:aj}(h:b.ae.length≤16):cZ ak .ak n b.ae b=some (dup [] b.ae):=by
 rw[←Sj];refine cQ (cP (p:=fun x=>jA ak .ak n x b) (Ik b.ae) (fun x hx=>?_) (by omega) (by omega));show jA ak .ak n x b=_;unfold jA;rw[ix8 hn h,au];have h1:=KP (fun y=>eqv y x) b.ae
 have h2:0≤eX (fun y=>eqv y x) b.ae:=by
  have:=Bo (fun y=>eqv y x) b.ae
  rw[List.any_eq_true.2 ⟨x,hx,by rw[tL]⟩]at this;simpa using this
 have h3:ak.wrap .i64 (ak.add (eX (fun y=>eqv y x) b.ae) 1)=(((eX (fun y=>eqv y x) b.ae).toNat+1:Nat):Int):=by
  show IntKind.wrap .i64 _=_;rw[adX,bL (by omega)];omega
 rw[h3,TP (by omega),au,ix9 hn (by simp;omega),au,zt,Bo];rfl
theorem Va{b:aj}(h:b.ae.length≤16):wF ak .ak n b=some (jO b):=by
 unfold wF jO;simp only[au,aw];rw[HO (y:=b.ae.all tB) fun _=>ev1 hn h,au];rw[HO (y:=b.ae.all ox) fun _=>ev2 hn h];simp only[au,wH hn];rw[HO (y:=b.ae.all oy) fun _=>ev3 hn h];simp only[au,ev5 hn h];rw[Hr (y:=b.ae.all fI) fun _=>ev4 hn h];simp only[au];have h7:cZ ak .ak n b.ae ⟨b.name,b.aI,b.ae⟩=some (dup [] b.ae):=ix7 hn h
 rw[h7];simp only[au,fW,bg,bQ,bU,eE,mO];rw[show decide ((b.ae.length:Int)<1)=decide (b.ae.length<1)by rw[decide_eq_decide];omega,show decide ((6:Int)<b.ae.length)=decide (6<b.ae.length)by rw[decide_eq_decide];omega];cases decide (b.ae.length<1)<;>cases decide (6<b.ae.length)<;>cases b.ae.all tB<;>simp;cases decide (b.aI<0)<;>cases decide (4<b.aI)<;>cases b.ae.all ox<;>simp;cases e9 b.name<;>cases b.ae.all oy<;>simp;cases b.ae.any (alone b.ae.length)<;>simp;cases decide (b.aI=0)<;>cases b.ae.all fI<;>cases dup [] b.ae<;>simp
end
end Ab
namespace Ab
open Go
set_option maxRecDepth 10000
theorem tX(n:Nat)(a b c:Int):fm ak .ak n a b c=some (decide (a<b)||decide (c<a)):=by
 unfold fm;rw[bg,fW,fW,eE]
theorem v5{α R:Type}{body:(Int→Option R)→Int→Option R}{k:Int→Option R}(e:R)(q:α→Bool)(l:List α)(hl:l.length≤1000)
  (h1: ∀(self:Int→Option R) (i:Nat) (x:α),x∈l→gI l (i:Int)=some x→ak.bf (i:Int) (aw l)=true→ak.wrap .i64 (ak.add (i:Int) 1)=((i+1:Nat):Int)→body self (i:Int)=bif q x then some e else self ((i+1:Nat):Int))
  (h2: ∀(self:Int→Option R),ak.bf (l.length:Int) (aw l)=false→body self (l.length:Int)=k (l.length:Int)){n:Nat}(hn:l.length<n):iter body n 0=bif l.any q then some e else k (l.length:Int):=by
 refine fM (fun r _=>bif r.any q then some e else k (l.length:Int)) l (by omega) ?_ ?_ n hn
 ·intro self i x r hd hi e1 e2 e3 ih;rw[h1 self i x (List.mem_of_mem_drop (i:=i) (by rw[hd];simp)) e1 e2 e3,ih,List.any_cons];cases q x<;>rfl
 ·intro self e;exact h2 self e
theorem TJ{l:List ag}{i:Nat}{x:ag}{b:aj}(hb:b.ae=l)(hx:gI l (i:Int)=some x)(hi:i<l.length){n:Nat}(hn:100<n)(hl:l.length≤16)(k:Int→Option Int):
  iter (fC ak .ak n b (i:Int) k) n 0=bif (l.take i).any (eqv x)then some 5 else k ((l.take i).length:Int):=by
 have hlen:aw (l.take i)=(i:Int):=by unfold aw;simp;omega
 refine v5 5 (eqv x) (l.take i) (by simp;omega) ?_ ?_ (by simp;omega)
 ·intro self j y hy e1 e2 e3;have hj:gI l (j:Int)=some y:=by
   rw[bK]at e1 ⊢;rw[List.getElem?_take]at e1
   split at e1
   ·exact e1
   ·cases e1
  rw[hlen]at e2;simp only[fC,e2,az,hb,hx,hj,au,e3];rw[Hr (y:=x) fun _=>rfl,au,Hr (y:=y) fun _=>rfl,au];simp only[bg,jx,bU,eqv];cases decide (x.head=y.head)<;>simp
 ·intro self e;rw[hlen]at e;simp only[fC,e,aC]
section
variable{n:Nat}(hn:100<n)
 include hn
theorem HY{b:aj}(hb:b.ae.length≤16):kX ak .ak n b=some (jO b):=by
 unfold kX;simp only[au,tX,aw];rw[show decide ((b.ae.length:Int)<1)=decide (b.ae.length<1)by rw[decide_eq_decide];omega,show decide ((6:Int)<b.ae.length)=decide (6<b.ae.length)by rw[decide_eq_decide];omega];cases h0:(decide (b.ae.length<1)||decide (6<b.ae.length))with
 |true=>unfold jO;rw[h0];simp
 |false=>
 rw[aC];have w1: ∀k:Int→Option Int,iter (fG ak .ak n b k) n 0=bif b.ae.any (fun x=> !tB x)then some 2 else k (b.ae.length:Int):=by
  intro k;refine v5 (R:=Int) 2 (fun x=> !tB x) b.ae (by omega) ?a1 ?a2 (by omega)
  case a1=>
   intro self i x hx e1 e2 e3;simp only[fG,au,e2,az,e1,e3,tX];congr 1;unfold tB aw;rw[show decide ((x.ops.length:Int)<1)= !decide (1≤x.ops.length)by rw[←decide_not,decide_eq_decide];omega,show decide ((60:Int)<x.ops.length)= !decide (x.ops.length≤60)by rw[←decide_not,decide_eq_decide];omega,Bool.not_and]
  case a2=>intro self e;simp only[fG,au,e,aC]
 have w2: ∀k:Int→Option Int,iter (fF ak .ak n b k) n 0=bif b.ae.any (fun x=> !ox x)then some 3 else k (b.ae.length:Int):=by
  intro k;refine v5 (R:=Int) 3 (fun x=> !ox x) b.ae (by omega) ?b1 ?b2 (by omega)
  case b1=>
   intro self i x hx e1 e2 e3;simp only[fF,au,e2,az,e1,e3,tX];congr 1;unfold ox;rw[show decide (x.aM<0)= !decide (0≤x.aM)by rw[←decide_not,decide_eq_decide];omega,show decide ((4:Int)<x.aM)= !decide (x.aM≤4)by rw[←decide_not,decide_eq_decide];omega,Bool.not_and]
  case b2=>intro self e;simp only[fF,au,e,aC]
 have w3: ∀k:Int→Option Int,iter (fE ak .ak n b k) n 0=bif b.ae.any (fun x=> !oy x)then some 4 else k (b.ae.length:Int):=by
  intro k;refine v5 (R:=Int) 4 (fun x=> !oy x) b.ae (by omega) ?c1 ?c2 (by omega)
  case c1=>
   intro self i x hx e1 e2 e3;simp only[fE,au,e2,az,e1,e3];rw[Hr (y:=x) fun _=>rfl,au,Hr (y:=e9 x.head) fun h=>by rw[h,az];exact xu hn _];simp only[au,bg,bQ,jx,oy,fI];cases decide (x.head=⟨#[]⟩)<;>simp
  case c2=>intro self e;simp only[fE,au,e,aC]
 have w4: ∀k:Int→Option Int,iter (fD ak .ak n b k) n 0=bif b.ae.any (fun x=>alone b.ae.length x||(!fI x&&decide (b.aI=0)))then some 7 else k (b.ae.length:Int):=by
  intro k;refine v5 (R:=Int) 7 (fun x=>alone b.ae.length x||(!fI x&&decide (b.aI=0))) b.ae (by omega) ?d1 ?d2 (by omega)
  case d1=>
   intro self i x hx e1 e2 e3;simp only[fD,au,e2,az,e1,e3];congr 1;simp only[bg,bQ,jx,bU,fW,alone,fI,aw,eE,mO];rw[show decide ((1:Int)<b.ae.length)=decide (1<b.ae.length)by rw[decide_eq_decide];omega]
  case d2=>intro self e;simp only[fD,au,e,aC]
 have h5: ∀k:Int→Option Int,iter (eb ak .ak n b k) n 0=bif dup [] b.ae then some 5 else k (b.ae.length:Int):=by
  intro k;have:=aT (A:={u:Unit // True}) (body:=eb ak .ak n b k) (mk:=fun _ i=>(i:Int)) (fun _ r i=>bif dup (b.ae.take i) r then some 5 else k (b.ae.length:Int)) (fun _ _=>True) b.ae (by omega) ?_ ?_ n (by omega) ⟨(),trivial⟩ trivial
  ·simpa using this
  ·intro self a i x r _ hd hi e1 e2 e3 ih;have ih:=ih ⟨(),trivial⟩ trivial
   simp only[eb,au,e2,az];rw[TJ rfl e1 hi hn hb,e3,ih];have ht:b.ae.take (i+1)=b.ae.take i++[x]:=by
    have hx:b.ae[i]? =some x:=by rwa [bK]at e1
    rw[List.take_add_one,hx];rfl
   rw[ht];simp only[dup];cases(b.ae.take i).any (eqv x)<;>rfl
  ·intro self a _ e;simp only[eb,au,e,aC,dup]
 simp only[w1,w2,w3,w4,h5,tX,xu hn,au,bQ];unfold jO;have hn1: ∀q:ag→Bool,(b.ae.any fun x=> !q x)= !b.ae.all q:=fun q=>by rw[←qd,Bool.not_not]
 rw[h0,hn1,hn1,hn1];have hd:(b.ae.any fun x=>alone b.ae.length x||(!fI x&&decide (b.aI=0)))=(b.ae.any (alone b.ae.length)||(decide (b.aI=0)&& !b.ae.all fI)):=by
  rw[←hn1];generalize alone b.ae.length=q
  induction b.ae with
  |nil=>simp
  |cons x r ih=>
   simp only[List.any_cons];rw[ih];cases q x<;>cases fI x<;>cases decide (b.aI=0)<;>cases r.any q<;>simp
 rw[hd];cases b.ae.all tB<;>simp;cases decide (b.aI<0)<;>cases decide (4<b.aI)<;>cases b.ae.all ox<;>simp;cases e9 b.name<;>cases b.ae.all oy<;>simp;cases b.ae.any (alone b.ae.length)<;>simp;cases decide (b.aI=0)<;>cases b.ae.all fI<;>cases dup [] b.ae<;>simp
end
end Ab
namespace Ab
open Go
set_option maxRecDepth 10000
def looks(o:aD):Bool:=decide (o.kind=1)||decide (o.kind=2)
def ba(o:aD):Bool:=decide (o.kind=4)||decide (o.kind=5)
def qV(out:List Bool)(o:aD):Bool:=decide (o.kind=5)||(decide (o.kind=3)&&o.args.any fun a=>out.getD a.toNat false)
def xo(out:List Bool)(ops:List aD):List Bool:=ops.foldl (fun out o=>out++[qV out o]) out
def dA(ops:List aD):List Bool:=xo [] ops
theorem Io: ∀(ops:List aD) (out:List Bool),(xo out ops).length=out.length+ops.length
 |[],out=>rfl
 |o::r,out=>by
  have:=Io r (out++[qV out o])
  simp only[xo,List.foldl_cons]at this ⊢;rw[this];simp;omega
theorem uA(ops:List aD):(dA ops).length=ops.length:=by unfold dA;rw[Io];simp
def LW(ops:List aD):Prop:= ∀(j:Nat) (o:aD),ops[j]? =some o→o.kind=3→ ∀a∈o.args,0≤a∧a<j
theorem EV{l:List Bool}{a:Int}(h:0≤a∧a<l.length):gI l a=some (l.getD a.toNat false):=by
 rw[RE h.1 (by omega)];simp[List.getD,show a.toNat<l.length by omega]
theorem Cv{ops:List aD}{i:Nat}{o:aD}(h:gI ops (i:Int)=some o):ops[i]? =some o:=by rwa [bK]at h
section
variable{n:Nat}(hn:100<n)
 include hn
theorem aat{l:List Bool}{args:List Int}(ha:args.length≤50)(h: ∀a∈args,0≤a∧a<l.length):fy ak .ak n args l=some (args.any fun a=>l.getD a.toNat false):=
 cQ (cP (p:=fun a=>oN ak .ak n a l) (fun a=>l.getD a.toNat false) (fun a hx=>by
  unfold oN;rw[EV (h a hx)];rfl) (by omega) (by omega))
theorem U0{l:List Bool}{args:List Int}(ha:args.length≤50)(h: ∀a∈args,0≤a∧a<l.length):fx ak .ak n args l=some (args.any fun a=>l.getD a.toNat false):=
 cQ (cP (p:=fun a=>rE ak .ak n a l) (fun a=>l.getD a.toNat false) (fun a hx=>by
  unfold rE;rw[EV (h a hx)];rfl) (by omega) (by omega))
theorem aas{ops:List aD}(hs:ops.length≤70)(ha: ∀o∈ops,o.args.length≤50)(ht:LW ops):yP ak .ak n ops=some (dA ops):=by
 unfold yP;rw[au];have:=aT (body:=qC ak .ak n ops (aw ops) (fun(l7,z8)=>some l7)) (mk:=fun a i=>(a,(i:Int))) (fun a r i=>some (xo a r)) (fun a i=>a.length=i) ops (by omega) ?_ ?_ n (by omega) [] rfl
 ·simpa[dA]using this
 ·intro self a i o r hl hd hi e1 e2 e3 ih;have hm:o∈ops:=List.mem_of_mem_drop (i:=i) (by rw[hd];simp)
  simp only[qC,e2,az,e1,au];rw[HO (y:=bif ak.aS o.kind 3 then o.args.any (fun x=>a.getD x.toNat false)else default) fun _=>Hr fun h3=>aat hn (ha o hm) fun x hx=>by
   have:=ht i o (Cv e1) (by simpa[bU]using h3) x hx
   omega]
  rw[au,aN (by omega) (by omega),au,e3,ih _ (by simp[hl])];simp only[xo,List.foldl_cons,bg,bU];congr 4;unfold qV;cases decide (o.kind=5)<;>cases decide (o.kind=3)<;>rfl
 ·intro self a ha e;simp only[qC,e,aC];rfl
theorem OR{ops:List aD}{l:List Bool}{i:Nat}{o:aD}(ho:gI ops (i:Int)=some o)(ha:o.args.length≤50)(h:o.kind=3→ ∀a∈o.args,0≤a∧a<l.length)(k:Bool×Int→Option (List Bool))(z:Bool):
  iter (kZ ak .ak n ops l (i:Int) k) n (z,0)=k ((z||(decide (o.kind=3)&&o.args.any fun a=>l.getD a.toNat false)),(o.args.length:Int)):=by
 refine aT (body:=kZ ak .ak n ops l (i:Int) k) (mk:=fun a i=>(a,(i:Int))) (fun z r _=>k ((z||(decide (o.kind=3)&&r.any fun a=>l.getD a.toNat false)),(o.args.length:Int))) (fun _ _=>True) o.args (by omega) ?_ ?_ n (by omega) z trivial
 ·intro self z j a r _ hd hj e1 e2 e3 ih;have hm:a∈o.args:=List.mem_of_mem_drop (i:=j) (by rw[hd];simp)
  simp only[kZ,ho,au,e2,az];rw[HO (y:=o) fun _=>rfl,au];cases z with
  |true=>
   simp only[dp,az,aC,beq_self_eq_true,show(true==false)=false from rfl,au,e3,bg,ih _ trivial,Bool.true_or]
  |false=>
   simp only[aC];rw[HO (y:=bif ak.aS o.kind 3 then o else default) fun _=>Hr fun _=>rfl,au];cases h3:decide (o.kind=3)with
   |false=>
    have h3':ak.aS o.kind 3=false:=h3
    simp only[dp,h3',az,aC,beq_self_eq_true,show(false==true)=false from rfl,au,e3,bg,ih _ trivial,Bool.false_or,h3,Bool.false_and]
   |true=>
    have h3':ak.aS o.kind 3=true:=h3
    simp only[dp,h3',az,aC,beq_self_eq_true,au,e1,EV (h (by simpa using h3) a hm),e3,bg,ih _ trivial,Bool.false_or,h3,Bool.true_and,List.any_cons]
 ·intro self z _ e;simp only[kZ,ho,au,e,aC,List.any_nil,Bool.and_false,Bool.or_false]
theorem OQ{ops:List aD}(hs:ops.length≤70)(ha: ∀o∈ops,o.args.length≤50)(ht:LW ops):vP ak .ak n ops=some (dA ops):=by
 unfold vP;have:=aT (body:=nY ak .ak n ops (fun(l7,z8)=>some l7)) (mk:=fun a i=>(a,(i:Int))) (fun a r i=>some (xo a r)) (fun a i=>a.length=i) ops (by omega) ?_ ?_ n (by omega) [] rfl
 ·simpa[dA]using this
 ·intro self a i o r hl hd hi e1 e2 e3 ih;have hm:o∈ops:=List.mem_of_mem_drop (i:=i) (by rw[hd];simp)
  simp only[nY,au,e2,az,e1];rw[OR hn e1 (ha o hm) fun h3 x hx=>by have:=ht i o (Cv e1) h3 x hx;omega];dsimp only;rw[aN (by omega) (by omega),au,e3,ih _ (by simp[hl])];rfl
 ·intro self a ha e;simp only[nY,au,e,aC];rfl
end
def find(c:ai)(s:ByteArray):Int:=eX (fun b=>decide (b.name=s)) c.af
def Ed(b:aj)(x:ag)(o:aD):Int:=bif decide (o.kind=1)then IntKind.wrap .i64 (b.aI - 1)else bif decide (o.kind=2)then IntKind.wrap .i64 (x.aM - 1)else 0
def before(i:Nat)(a:Int):Bool:=decide (0≤a)&&decide (a<i)
def mN(c:ai)(z:Int):Int:=((c.af[z.toNat]?).map (·.aI)).getD 0
def Cf(c:ai)(b:aj)(x:ag)(i:Nat)(o:aD):Int:=
 bif decide (o.kind<1)||decide (5<o.kind)then 3
 else bif (looks o&& !decide (o.name=⟨#[]⟩))||(!looks o&& !e9 o.name)then 4
 else bif decide (o.num<0)||decide (Ed b x o<o.num)then 1
 else bif (looks o&&decide (0<o.args.length))||(decide (o.kind=3)&&decide (4<o.args.length))then 2
 else bif !o.args.all (before i)||(ba o&&decide (find c o.name<0))then 1
 else bif !ba o then 0
 else bif !decide ((o.args.length:Int)=mN c (find c o.name))||o.args.any (fun a=>(dA (x.ops.take i)).getD a.toNat false)then 7 else 0
section
variable{n:Nat}(hn:100<n)
 include hn
theorem NM{c:ai}(hc:c.af.length≤50)(s:ByteArray):di ak .ak n s c=some (find c s):=by
 have:fY ak .ak n c.af s=some (find c s):=
  cP (p:=fun b=>oQ ak .ak n b s) (fun b=>decide (b.name=s)) (fun b _=>rfl) (by omega) (by omega)
 unfold di;rw[this];rfl
theorem NA{l:List Int}(hl:l.length≤50)(i:Nat):jZ ak .ak n l (i:Int)=some (l.all (before i)):=by
 have:fA ak .ak n l (i:Int)=some (l.any fun a=> !before i a):=
  cQ (cP (p:=fun a=>lO ak .ak n a (i:Int)) (fun a=> !before i a) (fun a _=>by
   show some (!(bif decide ((0:Int)≤a)then decide (a<(i:Int))else false))=_;rw[mO];rfl) (by omega) (by omega))
 unfold jZ;rw[this,au,bQ,qd]
theorem RG(c:ai)(s:ByteArray):find c s<c.af.length:=have _:=hn;KP _ _
theorem amR{c:ai}{b:aj}{x:ag}{i:Nat}{o:aD}(hc:c.af.length≤50)(hs:x.ops.length≤70)(ha: ∀o∈x.ops,o.args.length≤50)(ho:gI x.ops (i:Int)=some o)(ht:LW (x.ops.take i)):BQ ak .ak n c b x (i:Int)=some (Cf c b x i o):=by
 have hi:i<x.ops.length:=(bq.1 (Cv ho)).1
 have hm:o∈x.ops:=fU (Cv ho)
 unfold BQ Cf;rw[ho,au];have m1:IG ([]:List (Int×Int)) 1 (ak.wrap .i64 (ak.sub b.aI 1))=some [(1,IntKind.wrap .i64 (b.aI - 1))]:=rfl
 have m2:IG [((1:Int),IntKind.wrap .i64 (b.aI - 1))] 2 (ak.wrap .i64 (ak.sub x.aM 1))=some [(1,IntKind.wrap .i64 (b.aI - 1)),(2,IntKind.wrap .i64 (x.aM - 1))]:=rfl
 have m3:lA [((1:Int),IntKind.wrap .i64 (b.aI - 1)),(2,IntKind.wrap .i64 (x.aM - 1))] o.kind 0=Ed b x o:=by
  unfold lA Ed;simp only[List.find?_cons,List.find?_nil];by_cases h1:o.kind=1
  ·simp[h1]
  ·have Um: ¬(1:Int)=o.kind:=fun h=>h1 h.symm
   by_cases h2:o.kind=2
   ·simp[h2]
   ·have Nr: ¬(2:Int)=o.kind:=fun h=>h2 h.symm
    simp[h1,h2,Um,Nr]
 rw[m1,au,m2,au,m3,au];have gC:(bif ak.aS o.kind 1 then true else ak.aS o.kind 2)=looks o:=by rw[eE];rfl
 have jY:(bif ak.aS o.kind 4 then true else ak.aS o.kind 5)=ba o:=by rw[eE];rfl
 simp only[bg,gC,jY,bQ];rw[HO (y:=bif !looks o then e9 o.name else default) fun _=>Hr fun _=>wH hn _];simp only[au,fW,bQ,jx,eE,mO,aw,bU,NA hn (ha o hm)];have hf:=RG hn c o.name
 have P7: -1≤find c o.name:=KQ _ _
 have Bv:di ak .ak n o.name ⟨c.af⟩=some (find c o.name):=NM hn hc _
 rw[HO (y:=bif ba o then find c o.name else default) fun _=>Hr fun _=>Bv,au];simp only[I2 (show i≤x.ops.length by omega),au,aas hn (show(x.ops.take i).length≤70 by simp;omega) (fun o' h'=>ha o' (List.mem_of_mem_take h')) ht,Bv];rw[show decide ((0:Int)<o.args.length)=decide (0<o.args.length)by rw[decide_eq_decide];omega,show decide ((4:Int)<o.args.length)=decide (4<o.args.length)by rw[decide_eq_decide];omega];cases hk:(decide (o.kind<1)||decide (5<o.kind))<;>simp only[az,aC];have e4:((looks o&& !decide (o.name=⟨#[]⟩))||(!looks o&& !(bif looks o&& !decide (o.name=⟨#[]⟩)then default else bif !looks o then e9 o.name else default)))=((looks o&& !decide (o.name=⟨#[]⟩))||(!looks o&& !e9 o.name)):=by
  cases looks o<;>cases decide (o.name=⟨#[]⟩)<;>cases e9 o.name<;>rfl
 rw[e4];cases((looks o&& !decide (o.name=⟨#[]⟩))||(!looks o&& !e9 o.name))<;>simp only[az,aC];cases(decide (o.num<0)||decide (Ed b x o<o.num))<;>simp only[az,aC];cases((looks o&&decide (0<o.args.length))||(decide (o.kind=3)&&decide (4<o.args.length)))<;>simp only[az,aC];cases lg:o.args.all (before i)with
 |false=>simp
 |true=>
  simp only[Bool.not_true,Bool.false_or,aC];cases AE:ba o with
  |false=>simp
  |true=>
   simp only[az,Bool.true_and,Bool.not_true,aC];by_cases hD:find c o.name<0
   ·simp[hD]
   ·rw[bI hD];simp only[aC];rw[RE (by omega) (by omega),au];have Aj:mN c (find c o.name)=(c.af[(find c o.name).toNat]'(by omega)).aI:=by
     unfold mN;rw[eH (by omega)];rfl
    rw[Aj];rw[HO (y:=o.args.any fun a=>(dA (x.ops.take i)).getD a.toNat false) fun _=>U0 hn (ha o hm) fun a hx=>by
     have:=List.all_eq_true.1 lg a hx
     simp only[before,Bool.and_eq_true,decide_eq_true_eq]at this;rw[uA];simp;omega]
    rw[au];generalize (o.args.any fun a=>(dA (x.ops.take i)).getD a.toNat false)=q;cases decide ((o.args.length:Int)=(c.af[(find c o.name).toNat]'(by omega)).aI)<;>cases q<;>rfl
end
end Ab
namespace Ab
open Go
set_option maxRecDepth 10000
section
variable{n:Nat}(hn:100<n)
 include hn
theorem zO{c:ai}(hc:c.af.length≤50)(s:ByteArray):pv ak .ak n c s=some (find c s):=by
 have:iter (CG (fun b:aj=>some (decide (b.name=s))) c.af) n 0=some (find c s):=cP (fun b:aj=>decide (b.name=s)) (fun b _=>rfl) (by omega) (by omega)
 exact this
theorem Ql{c:ai}{b:aj}{x:ag}{i:Nat}{o:aD}(hc:c.af.length≤50)(hs:x.ops.length≤70)(ha: ∀o∈x.ops,o.args.length≤50)(ho:gI x.ops (i:Int)=some o)(ht:LW (x.ops.take i)):mb ak .ak n c b x (i:Int)=some (Cf c b x i o):=by
 have hi:i<x.ops.length:=(bq.1 (Cv ho)).1
 have hm:o∈x.ops:=fU (Cv ho)
 have hl:=ha o hm
 unfold mb;have w1: ∀k:Int→Option Int,iter (jw ak .ak n (i:Int) o k) n 0=bif o.args.any (fun a=> !before i a)then some 1 else k (o.args.length:Int):=by
  intro k;refine v5 (R:=Int) 1 (fun a=> !before i a) o.args (by omega) ?_ ?_ (by omega)
  ·intro self j a hx e1 e2 e3;simp only[jw,au,e2,az,e1,e3,tX];congr 1;have:ak.wrap .i64 (ak.sub (i:Int) 1)=(i:Int) - 1:=by show IntKind.wrap .i64 _=_;rw[adV,bL (by omega)]
   rw[this];unfold before;rw[show decide (a<0)= !decide (0≤a)by rw[←decide_not,decide_eq_decide];omega,show decide ((i:Int) - 1<a)= !decide (a<i)by rw[←decide_not,decide_eq_decide];omega,Bool.not_and]
  ·intro self e;simp only[jw,au,e,aC]
 have bc:(dA (x.ops.take i)).length=i:=by rw[uA];simp;omega
 have w2:o.args.all (before i)=true→ ∀k:Int→Option Int,iter (jv ak .ak n o (dA (x.ops.take i)) k) n 0=bif o.args.any (fun a=>(dA (x.ops.take i)).getD a.toNat false)then some 7 else k (o.args.length:Int):=by
  intro lg k;refine v5 (R:=Int) (α:=Int) 7 (fun a=>(dA (x.ops.take i)).getD a.toNat false) o.args (by omega) ?_ ?_ (show o.args.length<n by omega)
  ·intro self j a hx e1 e2 e3;have hb:0≤a∧a<(dA (x.ops.take i)).length:=by
    have:=List.all_eq_true.1 lg a hx
    simp only[before,Bool.and_eq_true,decide_eq_true_eq]at this;omega
   simp only[jv,au,e2,az,e1,e3,EV hb]
  ·intro self e;simp only[jv,au,e,aC]
 have hf:=RG hn c o.name
 have P7: -1≤find c o.name:=KQ _ _
 have aoi:pv ak .ak n ⟨c.af⟩ o.name=some (find c o.name):=zO hn hc _
 rw[ho,au,tX,au];unfold Cf;cases hk:(decide (o.kind<1)||decide (5<o.kind))with
 |true=>rfl
 |false=>
 have kR:1≤o.kind∧o.kind≤5:=by simp at hk;omega
 simp only[aC];rw[HO (y:=bif ak.bf 2 o.kind then e9 o.name else default) fun _=>Hr fun _=>xu hn _,au];have gC:looks o=decide (o.kind≤2):=by unfold looks;rw[←Bool.decide_or,decide_eq_decide];omega
 have jY:ba o=decide (3<o.kind):=by unfold ba;rw[←Bool.decide_or,decide_eq_decide];omega
 have h2:decide ((2:Int)<o.kind)= !looks o:=by rw[gC,←decide_not,decide_eq_decide];omega
 simp only[bg,bQ,jx,zt,fW,eE,mO,h2,←gC];have e4:((looks o&& !decide (o.name=⟨#[]⟩))||(!looks o&& !(bif looks o&& !decide (o.name=⟨#[]⟩)then default else bif !looks o then e9 o.name else default)))=((looks o&& !decide (o.name=⟨#[]⟩))||(!looks o&& !e9 o.name)):=by
  cases looks o<;>cases decide (o.name=⟨#[]⟩)<;>cases e9 o.name<;>rfl
 rw[e4];cases((looks o&& !decide (o.name=⟨#[]⟩))||(!looks o&& !e9 o.name))<;>simp only[az,aC];have hw1:ak.wrap .i64 (ak.sub b.aI 1)=IntKind.wrap .i64 (b.aI - 1):=rfl
 have hw2:ak.wrap .i64 (ak.sub x.aM 1)=IntKind.wrap .i64 (x.aM - 1):=rfl
 rw[hw1,hw2,Hr (y:=decide (o.num<0)||decide (IntKind.wrap .i64 (b.aI - 1)<o.num)) fun _=>tX _ _ _ _,au];rw[HO (y:=bif ak.aS o.kind 2 then decide (o.num<0)||decide (IntKind.wrap .i64 (x.aM - 1)<o.num)else default) fun _=>Hr fun _=>tX _ _ _ _,au];have e5:((ak.aS o.kind 1&&bif ak.aS o.kind 1 then decide (o.num<0)||decide (IntKind.wrap .i64 (b.aI - 1)<o.num)else default)||(ak.aS o.kind 2&&bif (ak.aS o.kind 1&&bif ak.aS o.kind 1 then decide (o.num<0)||decide (IntKind.wrap .i64 (b.aI - 1)<o.num)else default)then default else bif ak.aS o.kind 2 then decide (o.num<0)||decide (IntKind.wrap .i64 (x.aM - 1)<o.num)else default)||(!looks o&& !ak.aS o.num 0))=(decide (o.num<0)||decide (Ed b x o<o.num)):=by
  simp only[bU,Ed,looks];by_cases k1:o.kind=1
  ·simp[k1]
  ·by_cases k2:o.kind=2
   ·simp[k2]
   ·simp[k1,k2];rw[Bool.eq_iff_iff];simp;omega
 rw[e5];cases(decide (o.num<0)||decide (Ed b x o<o.num))<;>simp only[az,aC];simp only[au,aw,bU];rw[show decide ((0:Int)<o.args.length)=decide (0<o.args.length)by rw[decide_eq_decide];omega,show decide ((4:Int)<o.args.length)=decide (4<o.args.length)by rw[decide_eq_decide];omega];cases((looks o&&decide (0<o.args.length))||(decide (o.kind=3)&&decide (4<o.args.length)))<;>simp only[az,aC];have auC:(o.args.any fun a=> !before i a)= !o.args.all (before i):=by rw[←qd,Bool.not_not]
 rw[w1,auC];cases lg:o.args.all (before i)with
 |false=>simp
 |true=>
  simp only[Bool.not_true,Bool.false_or,aC];have h3:decide (o.kind≤3)= !ba o:=by rw[jY,←decide_not,decide_eq_decide];omega
  rw[h3,aoi];cases AE:ba o with
  |false=>simp
  |true=>
   simp only[Bool.not_true,aC,au,Bool.true_and];by_cases hD:find c o.name<0
   ·simp[hD]
   ·rw[bI hD];simp only[aC];rw[RE (by omega) (by omega),au];have Aj:mN c (find c o.name)=(c.af[(find c o.name).toNat]'(by omega)).aI:=by
     unfold mN;rw[eH (by omega)];rfl
    rw[Aj,I2 (by omega),au,OQ hn (show(x.ops.take i).length≤70 by simp;omega) (fun o' h'=>ha o' (List.mem_of_mem_take h')) ht,au,w2 lg];generalize (o.args.any fun a=>(dA (x.ops.take i)).getD a.toNat false)=q;cases decide ((o.args.length:Int)=(c.af[(find c o.name).toNat]'(by omega)).aI)<;>cases q<;>rfl
end
def iE(c:ai)(b:aj)(x:ag):Nat→List aD→Option Int
 |_,[]=>none
 |i,o::r=>bif decide (Cf c b x i o=0)then iE c b x (i+1) r else some (Cf c b x i o)
def vM(x:ag):Bool:=decide (x.result<0)||decide ((x.ops.length:Int)≤x.result)
def nF(c:ai)(b:aj)(x:ag):Option Int:=(iE c b x 0 x.ops).or (bif vM x then some 1 else none)
def fB(b:aj):Option Int:=bif decide (jO b=0)then none else some (jO b)
def ph(c:ai):Nat→List aj→Bool
 |_,[]=>false
 |i,b::r=>decide (find c b.name<i)||ph c (i+1) r
def bh(c:ai):Int:=
 bif decide (c.af.length<1)||decide (12<c.af.length)then 2 else
 ((c.af.findSome? fB).or (bif ph c 0 c.af then some 5 else c.af.findSome? (fun b=>b.ae.findSome? (nF c b)))).getD 0
theorem yF{α R:Type}{body:(Int→Option R)→Int→Option R}{k:Int→Option R}(f:α→Option R)(l:List α)(hl:l.length≤1000)
  (h1: ∀(self:Int→Option R) (i:Nat) (x:α),x∈l→gI l (i:Int)=some x→ak.bf (i:Int) (aw l)=true→ak.wrap .i64 (ak.add (i:Int) 1)=((i+1:Nat):Int)→body self (i:Int)=(f x).or (self ((i+1:Nat):Int)))
  (h2: ∀(self:Int→Option R),ak.bf (l.length:Int) (aw l)=false→body self (l.length:Int)=k (l.length:Int)){n:Nat}(hn:l.length<n):iter body n 0=(l.findSome? f).or (k (l.length:Int)):=by
 refine fM (fun r _=>(r.findSome? f).or (k (l.length:Int))) l (by omega) ?_ ?_ n hn
 ·intro self i x r hd hi e1 e2 e3 ih;rw[h1 self i x (List.mem_of_mem_drop (i:=i) (by rw[hd];simp)) e1 e2 e3,ih,List.findSome?_cons];cases f x<;>rfl
 ·intro self e;exact h2 self e
def ES(c:ai)(b:aj)(x:ag)(i:Nat):Prop:= ∀(j:Nat) (o:aD),j<i→x.ops[j]? =some o→Cf c b x j o=0
theorem AQ{c:ai}{b:aj}{x:ag}{i:Nat}{o:aD}(h:Cf c b x i o=0): ∀a∈o.args,0≤a∧a<i:=by
 have:o.args.all (before i)=true:=by
  rcases Bool.eq_false_or_eq_true (o.args.all (before i))with hc|hc
  ·exact hc
  ·exfalso;unfold Cf at h;rw[hc]at h;revert h;cases(decide (o.kind<1)||decide (5<o.kind))<;>simp;cases((looks o&& !decide (o.name=⟨#[]⟩))||(!looks o&& !e9 o.name))<;>simp;cases(decide (o.num<0)||decide (Ed b x o<o.num))<;>simp;cases((looks o&&decide (0<o.args.length))||(decide (o.kind=3)&&decide (4<o.args.length)))<;>simp
 intro a ha;have:=List.all_eq_true.1 this a ha
 simpa[before]using this
theorem DE{c:ai}{b:aj}{x:ag}{i:Nat}(h:ES c b x i):LW (x.ops.take i):=fun j o ho _ a ha=>by
 rw[List.getElem?_take]at ho
 split at ho
 ·exact AQ (h j o (by omega) ho) a ha
 ·cases ho
theorem Rl{body:(Int→Option Int)→Int→Option Int}{k:Int→Option Int}(c:ai)(b:aj)(x:ag)(hl:x.ops.length≤1000)
  (h1: ∀(self:Int→Option Int) (i:Nat) (o:aD),ES c b x i→gI x.ops (i:Int)=some o→ak.bf (i:Int) (aw x.ops)=true→ak.wrap .i64 (ak.add (i:Int) 1)=((i+1:Nat):Int)→body self (i:Int)=bif !decide (Cf c b x i o=0)then some (Cf c b x i o)else self ((i+1:Nat):Int))
  (h2: ∀(self:Int→Option Int),ak.bf (x.ops.length:Int) (aw x.ops)=false→body self (x.ops.length:Int)=k (x.ops.length:Int)){n:Nat}(hn:x.ops.length<n):iter body n 0=(iE c b x 0 x.ops).or (k (x.ops.length:Int)):=by
 have key: ∀(r:List aD) (i n:Nat),ES c b x i→x.ops.drop i=r→i≤x.ops.length→r.length<n→iter body n (i:Int)=(iE c b x i r).or (k (x.ops.length:Int)):=by
  intro r
  induction r with
  |nil=>
   intro i n hz hd hi hn;obtain⟨m,rfl⟩: ∃m,n=m+1:=⟨n - 1,by simp at hn;omega⟩;have P7:x.ops.length≤i:=by simpa using hd
   have:i=x.ops.length:=by omega
   subst this;exact h2 _ (by show decide ((x.ops.length:Int)<x.ops.length)=false;simp)
  |cons o r ih=>
   intro i n hz hd hi hn;obtain⟨m,rfl⟩: ∃m,n=m+1:=⟨n - 1,by simp at hn;omega⟩;have bc:i<x.ops.length:=by
    rcases Nat.lt_or_ge i x.ops.length with h|h
    ·exact h
    ·rw[List.drop_eq_nil_of_le h]at hd;cases hd
   have ho:=eM hd
   have mI:x.ops.drop (i+1)=r:=by
    have:(x.ops.drop i).drop 1=x.ops.drop (i+1):=by rw[List.drop_drop]
    rw[←this,hd];rfl
   refine(h1 _ i o hz ho (by show decide ((i:Int)<x.ops.length)=true;simp;omega) (by show IntKind.wrap .i64 ((i:Int)+1)=_;rw[bL (by omega)];rfl)).trans ?_;simp only[iE];by_cases hzero:Cf c b x i o=0
   ·have zx:ES c b x (i+1):=fun j o' hj lf=>by
     rcases Nat.lt_or_ge j i with h|h
     ·exact hz j o' h lf
     ·have:j=i:=by omega
      subst this;rw[Cv ho]at lf;cases lf;exact hzero
    rw[bP hzero];exact ih (i+1) m zx mI bc (by simp at hn;omega)
   ·rw[bI hzero];rfl
 exact key x.ops 0 n (fun j o hj=>absurd hj (Nat.not_lt_zero _)) rfl (Nat.zero_le _) hn
structure qI(c:ai):Prop where
 bl:c.af.length≤16
 br: ∀b∈c.af,b.ae.length≤16
 op: ∀b∈c.af,∀x∈b.ae,x.ops.length≤70
 ar: ∀b∈c.af,∀x∈b.ae,∀o∈x.ops,o.args.length≤50
theorem coS.ck{c:ai}(h:coS c):qI c:=
 ⟨h.1,fun b hb=>by have:=(h.2 b hb).2.1;omega,fun b hb x hx=>((h.2 b hb).2.2 x hx).2.1,fun b hb x hx o ho=>by have:=(((h.2 b hb).2.2 x hx).2.2 o ho).2;omega⟩
theorem or_some{α:Type}(a:Option α)(d:α):a.or (some d)=some (a.getD d):=by cases a<;>rfl
section
variable{n:Nat}(hn:100<n)
 include hn
theorem qG{c:ai}(hc:qI c):dL ak .ak n c=some (bh c):=by
 unfold dL bh;simp only[au,bg,fW,eE,aw];rw[show decide ((c.af.length:Int)<1)=decide (c.af.length<1)by rw[decide_eq_decide];omega,show decide ((12:Int)<c.af.length)=decide (12<c.af.length)by rw[decide_eq_decide];omega];have w1: ∀k:Int→Option Int,iter (oX ak .ak n c (aw c.af) k) n 0=(c.af.findSome? fB).or (k (c.af.length:Int)):=fun k=>by
  refine yF (n:=n) fB c.af (by have:=hc.bl;omega) ?_ ?_ (by have:=hc.bl;omega)
  ·intro self i b hb e1 e2 e3;simp only[oX,e2,az,e1,au,Va hn (hc.br b hb),e3,bQ,bU,fB];cases decide (jO b=0)<;>rfl
  ·intro self e;simp only[oX,e,aC]
 have w2: ∀k:Int→Option Int,iter (oW ak .ak n c (aw c.af) k) n 0=bif ph c 0 c.af then some 5 else k (c.af.length:Int):=fun k=>by
  refine fM (fun r i=>bif ph c i r then some 5 else k (c.af.length:Int)) c.af (by have:=hc.bl;omega) ?_ ?_ n (by have:=hc.bl;omega)
  ·intro self i b r hd hi e1 e2 e3 ih;have hb:di ak .ak n b.name ⟨c.af⟩=some (find c b.name):=NM hn (show c.af.length≤50 by have:=hc.bl;omega) _
   simp only[oW,e2,az,e1,au,hb,e3,ih];simp only[fW,ph];cases decide (find c b.name<(i:Int))<;>rfl
  ·intro self e;simp only[oW,e,aC,ph]
 have w5: ∀b∈c.af,∀x∈b.ae,∀k:Int→Option Int,iter (oT ak .ak n c (aw x.ops) b x k) n 0=(iE c b x 0 x.ops).or (k (x.ops.length:Int)):=fun b hb x hx k=>by
  refine Rl (n:=n) c b x (by have:=hc.op b hb x hx;omega) ?_ ?_ (by have:=hc.op b hb x hx;omega)
  ·intro self i o hz e1 e2 e3;have ho:BQ ak .ak n ⟨c.af⟩ b x (i:Int)=some (Cf c b x i o):=amR hn (show c.af.length≤50 by have:=hc.bl;omega) (hc.op b hb x hx) (hc.ar b hb x hx) e1 (DE hz)
   simp only[oT,e2,az,ho,au,e3,bQ,bU]
  ·intro self e;simp only[oT,e,aC]
 have w4: ∀b∈c.af,∀k:Int→Option Int,iter (oU ak .ak n c (aw b.ae) b k) n 0=(b.ae.findSome? (nF c b)).or (k (b.ae.length:Int)):=fun b hb k=>by
  refine yF (n:=n) (nF c b) b.ae (by have:=hc.br b hb;omega) ?_ ?_ (by have:=hc.br b hb;omega)
  ·intro self i x hx e1 e2 e3;simp only[oU,e2,az,e1,au,w5 b hb x hx,e3];simp only[nF,vM,bg,fW,zt,eE,aw];cases iE c b x 0 x.ops with
   |some e=>rfl
   |none=>
    cases(decide (x.result<0)||decide ((x.ops.length:Int)≤x.result))<;>rfl
  ·intro self e;simp only[oU,e,aC]
 have w3: ∀k:Int→Option Int,iter (oV ak .ak n c (aw c.af) k) n 0=(c.af.findSome? (fun b=>b.ae.findSome? (nF c b))).or (k (c.af.length:Int)):=fun k=>by
  refine yF (n:=n) (fun b=>b.ae.findSome? (nF c b)) c.af (by have:=hc.bl;omega) ?_ ?_ (by have:=hc.bl;omega)
  ·intro self i b hb e1 e2 e3;simp only[oV,e2,az,e1,au,w4 b hb,e3]
  ·intro self e;simp only[oV,e,aC]
 simp only[aw]at w1 w2 w3;simp only[w1,w2,w3,or_some];cases(decide (c.af.length<1)||decide (12<c.af.length))with
 |true=>rfl
 |false=>
  simp only[aC];cases ph c 0 c.af<;>cases c.af.findSome? fB<;>cases c.af.findSome? (fun b=>b.ae.findSome? (nF c b))<;>rfl
theorem xw{c:ai}(hc:qI c):nh ak .ak n c=some (bh c):=by
 unfold nh bh;simp only[au,tX,aw];rw[show decide ((c.af.length:Int)<1)=decide (c.af.length<1)by rw[decide_eq_decide];omega,show decide ((12:Int)<c.af.length)=decide (12<c.af.length)by rw[decide_eq_decide];omega];have w1: ∀k:Int→Option Int,iter (mj ak .ak n c k) n 0=(c.af.findSome? fB).or (k (c.af.length:Int)):=fun k=>by
  refine yF (n:=n) fB c.af (by have:=hc.bl;omega) ?_ ?_ (by have:=hc.bl;omega)
  ·intro self i b hb e1 e2 e3;simp only[mj,au,e2,az,e1,HY hn (hc.br b hb),e3,bQ,bU,fB];cases decide (jO b=0)<;>rfl
  ·intro self e;simp only[mj,au,e,aC]
 have w2: ∀k:Int→Option Int,iter (mi ak .ak n c k) n 0=bif ph c 0 c.af then some 5 else k (c.af.length:Int):=fun k=>by
  refine fM (fun r i=>bif ph c i r then some 5 else k (c.af.length:Int)) c.af (by have:=hc.bl;omega) ?_ ?_ n (by have:=hc.bl;omega)
  ·intro self i b r hd hi e1 e2 e3 ih;simp only[mi,au,e2,az,e1,zO hn (show c.af.length≤50 by have:=hc.bl;omega),e3,ih];simp only[fW,ph];cases decide (find c b.name<(i:Int))<;>rfl
  ·intro self e;simp only[mi,au,e,aC,ph]
 have w5: ∀b∈c.af,∀x∈b.ae,∀z,gI c.af z=some b→ ∀k:Int→Option Int,iter (mf ak .ak n c x z k) n 0=(iE c b x 0 x.ops).or (k (x.ops.length:Int)):=fun b hb x hx z hz k=>by
  refine Rl (n:=n) c b x (by have:=hc.op b hb x hx;omega) ?_ ?_ (by have:=hc.op b hb x hx;omega)
  ·intro self i o zx e1 e2 e3;have ho:mb ak .ak n ⟨c.af⟩ b x (i:Int)=some (Cf c b x i o):=Ql hn (show c.af.length≤50 by have:=hc.bl;omega) (hc.op b hb x hx) (hc.ar b hb x hx) e1 (DE zx)
   simp only[mf,au,e2,az,hz,ho,e3,bQ,bU]
  ·intro self e;simp only[mf,au,e,aC]
 have w4: ∀b∈c.af,∀z,gI c.af z=some b→ ∀k:Int→Option Int,iter (mg ak .ak n c z k) n 0=(b.ae.findSome? (nF c b)).or (k (b.ae.length:Int)):=fun b hb z hz k=>by
  refine yF (n:=n) (nF c b) b.ae (by have:=hc.br b hb;omega) ?_ ?_ (by have:=hc.br b hb;omega)
  ·intro self i x hx e1 e2 e3;have hs:ak.wrap .i64 (ak.sub (x.ops.length:Int) 1)=(x.ops.length:Int) - 1:=by
    have:=hc.op b hb x hx
    show IntKind.wrap .i64 _=_;rw[adV,bL (by omega)]
   simp only[mg,hz,au,e2,az,e1,w5 b hb x hx z hz,e3];simp only[nF,vM,aw,tX,hs,au];rw[show decide ((x.ops.length:Int) - 1<x.result)=decide ((x.ops.length:Int)≤x.result)by rw[decide_eq_decide];omega];cases iE c b x 0 x.ops with
   |some e=>rfl
   |none=>
    cases(decide (x.result<0)||decide ((x.ops.length:Int)≤x.result))<;>rfl
  ·intro self e;simp only[mg,hz,au,e,aC]
 have w3: ∀k:Int→Option Int,iter (mh ak .ak n c k) n 0=(c.af.findSome? (fun b=>b.ae.findSome? (nF c b))).or (k (c.af.length:Int)):=fun k=>by
  refine yF (n:=n) (fun b=>b.ae.findSome? (nF c b)) c.af (by have:=hc.bl;omega) ?_ ?_ (by have:=hc.bl;omega)
  ·intro self i b hb e1 e2 e3;simp only[mh,au,e2,az,w4 b hb _ e1,e3]
  ·intro self e;simp only[mh,au,e,aC]
 simp only[w1,w2,w3,or_some];cases(decide (c.af.length<1)||decide (12<c.af.length))with
 |true=>rfl
 |false=>
  simp only[aC];cases ph c 0 c.af<;>cases c.af.findSome? fB<;>cases c.af.findSome? (fun b=>b.ae.findSome? (nF c b))<;>rfl
end
end Ab
namespace Ab
open Go
set_option maxRecDepth 10000
structure fg(x:ag):Prop where
 len:x.ops.length≤70
 ar: ∀o∈x.ops,o.args.length≤50
 args: ∀(i:Nat) (o:aD),x.ops[i]? =some o→ ∀a∈o.args,0≤a∧a<i
 res:0≤x.result∧x.result<x.ops.length
theorem nn{c:ai}{b:aj}{x:ag}: ∀{r:List aD} {i:Nat},iE c b x i r=none→ ∀(j:Nat) (o:aD),r[j]? =some o→Cf c b x (i+j) o=0
 |[],i,_,j,o,h=>by simp at h
 |p::r,i,h,j,o,ho=>by
  simp only[iE]at h;by_cases hz:Cf c b x i p=0
  ·rw[bP hz,az]at h;cases j with
   |zero=>simp at ho;subst ho;exact hz
   |succ j=>have:=nn h j o (by simpa using ho);rwa [show i+(j+1)=i+1+j by omega]
  ·rw[bI hz]at h;cases h
theorem IC{c:ai}{b:aj}{x:ag}: ∀{r:List aD} {i:Nat} {e:Int},iE c b x i r=some e→e≠0
 |[],i,e,h=>by simp[iE]at h
 |p::r,i,e,h=>by
  simp only[iE]at h;by_cases hz:Cf c b x i p=0
  ·rw[bP hz,az]at h;exact IC h
  ·rw[bI hz,aC]at h;cases h;exact hz
theorem Yt{c:ai}{b:aj}{x:ag}{e:Int}(h:nF c b x=some e):e≠0:=by
 unfold nF at h;cases h1:iE c b x 0 x.ops with
 |some e'=>rw[h1]at h;cases h;exact IC h1
 |none=>
  rw[h1]at h;cases h2:vM x with
  |true=>rw[h2]at h;cases h;decide
  |false=>rw[h2]at h;cases h
structure pn(c:ai):Prop where
 some:1≤c.af.length∧c.af.length≤12
 right: ∀b∈c.af,jO b=0
 names:ph c 0 c.af=false
 ops: ∀b∈c.af,∀x∈b.ae,iE c b x 0 x.ops=none∧vM x=false
theorem gW{c:ai}(h:bh c=0):pn c:=by
 unfold bh at h;cases h0:(decide (c.af.length<1)||decide (12<c.af.length))with
 |true=>rw[h0]at h;cases h
 |false=>
  rw[h0,aC]at h;have h1:c.af.findSome? fB=none:=by
   cases h1:c.af.findSome? fB with
   |none=>rfl
   |some e=>
    rw[h1]at h;obtain⟨b,_,hb⟩:=List.exists_of_findSome?_eq_some h1;unfold fB at hb;by_cases hz:jO b=0
    ·rw[bP hz]at hb;cases hb
    ·rw[bI hz]at hb;cases hb;exact absurd h hz
  rw[h1,Option.none_or]at h;have h2:ph c 0 c.af=false:=by
   cases h2:ph c 0 c.af with
   |false=>rfl
   |true=>rw[h2]at h;cases h
  rw[h2,aC]at h;have h3:c.af.findSome? (fun b=>b.ae.findSome? (nF c b))=none:=by
   cases h3:c.af.findSome? (fun b=>b.ae.findSome? (nF c b))with
   |none=>rfl
   |some e=>
    rw[h3]at h;obtain⟨b,_,hb⟩:=List.exists_of_findSome?_eq_some h3;obtain⟨x,_,hx⟩:=List.exists_of_findSome?_eq_some hb;exact absurd h (Yt hx)
  refine⟨by simp only[Bool.or_eq_false_iff,decide_eq_false_iff_not]at h0;omega,fun b hb=>?_,h2,fun b hb x hx=>?_⟩
  ·have:=List.findSome?_eq_none_iff.1 h1 b hb
   unfold fB at this;by_cases hz:jO b=0
   ·exact hz
   ·rw[bI hz]at this;cases this
  ·have:=List.findSome?_eq_none_iff.1 (List.findSome?_eq_none_iff.1 h3 b hb) x hx
   unfold nF at this;cases h4:iE c b x 0 x.ops with
   |some e=>rw[h4]at this;cases this
   |none=>
    rw[h4,Option.none_or]at this;refine⟨rfl,?_⟩;cases h5:vM x with
    |false=>rfl
    |true=>rw[h5]at this;cases this
theorem pn.x{c:ai}(h:pn c)(hc:qI c){b:aj}(hb:b∈c.af){x:ag}(hx:x∈b.ae):fg x:=by
 obtain⟨h1,h2⟩:=h.ops b hb x hx;refine⟨hc.op b hb x hx,hc.ar b hb x hx,fun i o ho=>?_,?_⟩
 ·have:=nn h1 i o ho
  rw[Nat.zero_add]at this;exact AQ this
 ·unfold vM at h2;simp at h2;omega
theorem CH{A S R:Type}{body:(S→Option R)→S→Option R}(mk:A→Int→S)(G:A→Nat→Option R)(P:A→Nat→Prop)(N:Nat)(hN:N≤1000000)
  (h1: ∀(self:S→Option R) (a:A) (i:Nat),P a (i+1)→i<N→ak.rL 0 (i:Int)=true→ak.wrap .i64 (ak.sub (i:Int) 1)=(i:Int) - 1→(∀a',P a' i→self (mk a' ((i:Int) - 1))=G a' i)→body self (mk a (i:Int))=G a (i+1))
  (h2: ∀(self:S→Option R) (a:A),P a 0→ak.rL 0 (-1)=false→body self (mk a (-1))=G a 0)(n:Nat)(hn:N<n)(a:A)(ha:P a N):iter body n (mk a ((N:Int) - 1))=G a N:=by
 have key: ∀(i n:Nat) (a:A),P a i→i≤N→i<n→iter body n (mk a ((i:Int) - 1))=G a i:=by
  intro i
  induction i with
  |zero=>
   intro n a ha _ hn;obtain⟨m,rfl⟩: ∃m,n=m+1:=⟨n - 1,by omega⟩;exact h2 _ a ha rfl
  |succ i ih=>
   intro n a ha hi hn;obtain⟨m,rfl⟩: ∃m,n=m+1:=⟨n - 1,by omega⟩;have e:(((i+1:Nat):Int) - 1)=(i:Int):=by omega
   rw[e];exact h1 _ a i ha (by omega) (by show decide ((0:Int)≤i)=true;exact bP (by omega)) (by show IntKind.wrap .i64 ((i:Int) - 1)=_;rw[bL (by omega)]) fun a' ha'=>ih m a' ha' (by omega) (by omega)
 exact key N n a ha (Nat.le_refl _) hn
def fJ(u:Bool)(args:List Int)(l:List Bool):List Bool:=args.foldl (fun l a=>l.set a.toNat (l.getD a.toNat false||u)) l
def lU(x:ag):Nat→List Bool→List Bool
 |0,l=>l
 |i+1,l=>match x.ops[i]? with
  |none=>l
  |some o=>lU x i (fJ (l.getD i false||decide ((i:Int)=x.result)||ba o) o.args (l.set i (l.getD i false||decide ((i:Int)=x.result)||ba o)))
def jh(x:ag):List Bool:=lU x x.ops.length (List.replicate x.ops.length false)
theorem iG(u:Bool): ∀(args:List Int) (l:List Bool),(fJ u args l).length=l.length
 |[],l=>rfl
 |a::r,l=>by
  have:=iG u r (l.set a.toNat (l.getD a.toNat false||u))
  unfold fJ at this ⊢;rw[List.foldl_cons,this,List.length_set]
theorem Ih(x:ag): ∀(i:Nat) (l:List Bool),(lU x i l).length=l.length
 |0,l=>rfl
 |i+1,l=>by
  unfold lU;cases x.ops[i]? with
  |none=>rfl
  |some o=>dsimp only;rw[Ih,iG,List.length_set]
theorem Ic(x:ag):(jh x).length=x.ops.length:=by unfold jh;rw[Ih];simp
theorem dr(l:List Bool)(i j:Nat)(v:Bool):(l.set i v).getD j false=if i=j∧i<l.length then v else l.getD j false:=by
 simp only[List.getD_eq_getElem?_getD,List.getElem?_set];by_cases h:i=j
 ·subst h;by_cases h2:i<l.length
  ·simp[h2]
  ·simp[h2]
 ·simp[h]
theorem DI: ∀(args:List Int) (l:List Bool),fJ false args l=l
 |[],l=>rfl
 |a::r,l=>by
  have:=DI r l
  unfold fJ at this ⊢;rw[List.foldl_cons,Bool.or_false];have hs:l.set a.toNat (l.getD a.toNat false)=l:=by
   apply List.ext_getElem?;intro j;rw[List.getElem?_set];by_cases h:a.toNat=j
   ·subst h;by_cases h2:a.toNat<l.length
    ·simp[h2,List.getD_eq_getElem?_getD]
    ·simp[h2]
   ·simp[h]
  rw[hs];exact this
theorem CB{u:Bool}{r:Nat}: ∀{args:List Int} {l:List Bool},r<l.length→fJ u args (l.set r true)=(fJ u args l).set r true
 |[],l,_=>rfl
 |a::s,l,h=>by
  have:=CB (u:=u) (r:=r) (args:=s) (l:=l.set a.toNat (l.getD a.toNat false||u)) (by simpa using h)
  unfold fJ at this ⊢;rw[List.foldl_cons,List.foldl_cons,←this];congr 1;by_cases hr:r=a.toNat
  ·subst hr;rw[dr,if_pos ⟨rfl,h⟩,Bool.true_or,List.set_set,List.set_set]
  ·rw[dr,if_neg (by omega),List.set_comm _ _ hr]
theorem Ie{x:ag}{r:Nat}(hx:x.result=(r:Int)): ∀(i:Nat) (l:List Bool),r<i→r<l.length→i≤x.ops.length→lU x i (l.set r true)=lU x i l
 |0,l,h,_,_=>absurd h (Nat.not_lt_zero _)
 |i+1,l,h,hl,hi=>by
  unfold lU;rw[eH (show i<x.ops.length by omega)];dsimp only;generalize x.ops[i]=o;by_cases hr:r=i
  ·subst hr;rw[dr,if_pos ⟨rfl,hl⟩,List.set_set,Bool.true_or,Bool.true_or,hx];simp
  ·have dj: ¬(i:Int)=x.result:=by rw[hx];omega
   rw[dr,if_neg (by omega),List.set_comm _ _ hr,CB (by simpa using hl)];exact Ie hx i _ (by omega) (by rw[iG];simpa using hl) (by omega)
section
variable{n:Nat}(hn:100<n)
 include hn
theorem El{l:List Bool}{k:Nat}(h:k<l.length):gK l k=some (l.getD k false):=have _:=hn;by
 rw[Nt h];simp[List.getD_eq_getElem?_getD,h]
theorem Ox{x:ag}{l0:List Bool}{i:Nat}{o:aD}(ho:gI x.ops (i:Int)=some o)(hx:fg x)(P5:l0.length=x.ops.length)(k:List Bool×Int→Option (List Bool))(u:Bool)(l:List Bool)(hl:l.length=x.ops.length)(hu:l.getD i false=u):
  iter (kY ak .ak n x l0 (i:Int) k) n (l,0)=k (fJ u o.args l,(o.args.length:Int)):=by
 have hi:i<x.ops.length:=(bq.1 (Cv ho)).1
 have hm:o∈x.ops:=fU (Cv ho)
 have IV:=hx.ar o hm
 refine aT (body:=kY ak .ak n x l0 (i:Int) k) (mk:=fun a i=>(a,(i:Int))) (fun l r _=>k (fJ u r l,(o.args.length:Int))) (fun l _=>l.length=x.ops.length∧l.getD i false=u) o.args (by omega) ?_ ?_ n (by omega) l ⟨hl,hu⟩
 ·intro self l j a r ⟨hl,hu⟩ hd hj e1 e2 e3 ih;have ha:=hx.args i o (Cv ho) a (List.mem_of_mem_drop (i:=j) (by rw[hd];simp))
  have jg:Md.ak.ln l0=x.ops.length:=P5
  simp only[kY,ho,au,e2,az,e1,jg,zA (show 0≤a from ha.1) (show a<(x.ops.length:Nat)by omega),El hn (show a.toNat<l.length by omega),iI hi];rw[HO (y:=i) fun _=>rfl,au];rw[HO (y:=u) fun h=>by rw[h,aC,El hn (show i<l.length by omega),hu],au,mF (by omega),au,e3,ih _ ⟨by simpa using hl,by rw[dr,if_neg (by omega)];exact hu⟩];unfold fJ;rw[List.foldl_cons,bg];cases l.getD a.toNat false<;>rfl
 ·intro self l ⟨hl,hu⟩ e;simp only[kY,ho,au,e,aC];rfl
theorem OP{x:ag}(hx:fg x)(hk: ∀o∈x.ops,ba o=decide (3<o.kind)):vO ak .ak n x=some (jh x):=by
 have hlen:=hx.len
 unfold vO;rw[au];have hm:vZ 1 (aw x.ops) false=some (List.replicate x.ops.length false):=so (by omega) (by omega)
 have hw:ak.wrap .i64 (ak.sub (aw x.ops) 1)=(x.ops.length:Int) - 1:=by show IntKind.wrap .i64 ((x.ops.length:Int) - 1)=_;rw[bL (by omega)]
 rw[hm,au,hw];refine CH (body:=nX ak .ak n x (List.replicate x.ops.length false) _) (mk:=fun a z=>(a,z)) (fun l i=>some (lU x i l)) (fun l _=>l.length=x.ops.length) x.ops.length (by omega) ?_ ?_ n (by omega) _ (by simp)
 ·intro self l i hl hi e2 e3 ih;have ho:x.ops[i]? =some x.ops[i]:=eH hi
  have hg:gI x.ops (i:Int)=some x.ops[i]:=by rw[bK];exact ho
  have jg:Md.ak.ln (List.replicate x.ops.length false)=x.ops.length:=by simp[Md.ak]
  simp only[nX,e2,az,jg,iI hi,au,El hn (show i<l.length by omega)];rw[HO (y:=x.ops[i]) fun _=>hg,au,mF (by omega),au];have hu:(ak.pick (ak.pick (l.getD i false) true (ak.aS (i:Int) x.result)) true (ak.bf 3 (bif ak.pick (l.getD i false) true (ak.aS (i:Int) x.result)then default else x.ops[i]).kind))=(l.getD i false||decide ((i:Int)=x.result)||ba x.ops[i]):=by
   rw[hk _ (List.getElem_mem hi)];simp only[bg,bU,fW,eE];cases(l.getD i false||decide ((i:Int)=x.result))<;>rfl
  rw[hu,Ox hn hg hx (by simp) _ _ _ (by simpa using hl) (by rw[dr,if_pos ⟨rfl,by omega⟩])];dsimp only;rw[e3,ih _ (by rw[iG];simpa using hl)]
  conv=>rhs;unfold lU
  rw[ho]
 ·intro self l hl e;simp only[nX,e,aC];rw[eW (by simp[Md.ak,hl])];rfl
theorem TU{c:ai}(hc:qI c)(h0:bh c=0){i j:Nat}{b:aj}{x:ag}(hb:gI c.af (i:Int)=some b)(hx:gI b.ae (j:Int)=some x):tM ak .ak n c (i:Int) (j:Int)=some (x,0):=by
 have hi:i<c.af.length:=by rw[bK]at hb;exact(bq.1 hb).1
 have hj:j<b.ae.length:=by rw[bK]at hx;exact(bq.1 hx).1
 unfold tM;rw[qG hn hc,h0];simp only[au,bQ,bU,bg,fW,zt,eE];rw[HO (y:=b) fun _=>hb];have h1:(decide ((i:Int)<0)||decide (aw c.af≤(i:Int))||decide ((j:Int)<0))=false:=by
  unfold aw;simp;omega
 have h2:decide (aw b.ae≤(j:Int))=false:=by unfold aw;simp;omega
 simp only[h1,aC,au,h2,hb,hx];rfl
theorem LQ{x:ag}{l0:List Bool}{i:Nat}{o:aD}(ho:gI x.ops (i:Int)=some o)(hx:fg x)(P5:l0.length=x.ops.length)(k:List Bool×Int→Option (List Bool×Int))(l:List Bool)(hl:l.length=x.ops.length):
  iter (nB ak .ak n l0 (aw o.args) o k) n (l,0)=k (fJ true o.args l,(o.args.length:Int)):=by
 have hi:i<x.ops.length:=(bq.1 (Cv ho)).1
 have hm:o∈x.ops:=fU (Cv ho)
 have IV:=hx.ar o hm
 refine aT (body:=nB ak .ak n l0 (aw o.args) o k) (mk:=fun a i=>(a,(i:Int))) (fun l r _=>k (fJ true r l,(o.args.length:Int))) (fun l _=>l.length=x.ops.length) o.args (by omega) ?_ ?_ n (by omega) l hl
 ·intro self l j a r hl hd hj e1 e2 e3 ih;have ha:=hx.args i o (Cv ho) a (List.mem_of_mem_drop (i:=j) (by rw[hd];simp))
  have jg:Md.ak.ln l0=x.ops.length:=P5
  simp only[nB,e2,az,e1,au,jg,zA (show 0≤a from ha.1) (show a<(x.ops.length:Nat)by omega),El hn (show a.toNat<l.length by omega),mF (show a.toNat<l.length by omega),e3];rw[ih _ (by simpa using hl)];unfold fJ;rw[List.foldl_cons,Bool.or_true]
 ·intro self l hl e;simp only[nB,e,aC];rfl
theorem NF{c:ai}(hc:qI c)(h0:bh c=0){i j:Nat}{b:aj}{x:ag}(hb:gI c.af (i:Int)=some b)(hxg:gI b.ae (j:Int)=some x)(hx:fg x):yQ ak .ak n c (i:Int) (j:Int)=some (jh x,0):=by
 have hlen:=hx.len
 have fO:=hx.res
 unfold yQ;rw[TU hn hc h0 hb hxg,au];have hz:ak.not (ak.aS (x,(0:Int)).2 0)=false:=rfl
 rw[hz,aC,au];have hm:vZ 1 (aw x.ops) false=some (List.replicate x.ops.length false):=so (by omega) (by omega)
 have hw:ak.wrap .i64 (ak.sub (aw x.ops) 1)=(x.ops.length:Int) - 1:=by show IntKind.wrap .i64 ((x.ops.length:Int) - 1)=_;rw[bL (by omega)]
 have jg:Md.ak.ln (List.replicate x.ops.length false)=x.ops.length:=by simp[Md.ak]
 simp only[hm,au,hw,jg,zA fO.1 fO.2,El hn (show x.result.toNat<(List.replicate x.ops.length false).length by simp;omega),mF (show x.result.toNat<(List.replicate x.ops.length false).length by simp;omega)];have hr:x.result=(x.result.toNat:Int):=by omega
 have:=CH (body:=qD ak .ak n (List.replicate x.ops.length false) (x,0) fun(yI,T9)=>(ei x.ops.length yI).bind fun UO=>some (yI,0)) (mk:=fun a z=>(a,z)) (fun l i=>some (lU x i l,(0:Int))) (fun l i=>l.length=x.ops.length∧l.getD x.result.toNat false=true) x.ops.length (by omega) ?_ ?_ n (by omega) ((List.replicate x.ops.length false).set x.result.toNat true) ⟨by simp,by rw[dr,if_pos ⟨rfl,by simp;omega⟩]⟩
 ·refine this.trans ?_;rw[Ie hr _ _ (by omega) (by simp;omega) (Nat.le_refl _)];rfl
 ·intro self l i ⟨hl,hlr⟩ hi e2 e3 ih;have ho:x.ops[i]? =some x.ops[i]:=eH hi
  have hg:gI x.ops (i:Int)=some x.ops[i]:=by rw[bK];exact ho
  have hu:ak.pick (ak.pick (l.getD i false) true (ak.aS x.ops[i].kind 4)) true (ak.aS x.ops[i].kind 5)=(l.getD i false||decide ((i:Int)=x.result)||ba x.ops[i]):=by
   simp only[bg,bU,eE,ba,Bool.or_assoc];by_cases h:(i:Int)=x.result
   ·have:l.getD i false=true:=by rw[show i=x.result.toNat by omega];exact hlr
    rw[this];simp
   ·rw[bI h];simp
  simp only[qD,e2,az,hg,au,jg,iI hi,El hn (show i<l.length by omega),mF (show i<l.length by omega),hu];rw[El hn (by simpa using(show i<l.length by omega)),au,dr,if_pos ⟨rfl,by omega⟩];cases hv:(l.getD i false||decide ((i:Int)=x.result)||ba x.ops[i])with
  |true=>
   simp only[az,au];rw[LQ hn hg hx (by simp) _ _ (by simpa using hl)];dsimp only;have aod:(fJ true x.ops[i].args (l.set i true)).getD x.result.toNat false=true:=by
    have h1:(l.set i true).set x.result.toNat true=l.set i true:=by
     apply List.ext_getElem?;intro q;rw[List.getElem?_set];by_cases hq:x.result.toNat=q
     ·subst hq;have h2:(l.set i true).getD x.result.toNat false=true:=by rw[dr];split;rfl;exact hlr
      have h3:x.result.toNat<(l.set i true).length:=by simp;omega
      rw[if_pos rfl,if_pos h3];rw[List.getD_eq_getElem?_getD,eH h3]at h2;rw[eH h3];simp at h2;simp[h2]
     ·rw[if_neg hq]
    rw[←h1,CB (by simp;omega),dr,if_pos ⟨rfl,by rw[iG];simp;omega⟩]
   rw[e3,ih _ ⟨by rw[iG];simpa using hl,aod⟩]
   conv=>rhs;unfold lU
   rw[ho];dsimp only;rw[hv]
  |false=>
   simp only[aC];rw[e3,ih _ ⟨by simpa using hl,by
    rw[dr,if_neg];exact hlr
    rintro⟨h1,h2⟩
    have:decide ((i:Int)=x.result)=true:=bP (by omega)
    rw[this]at hv;simp at hv⟩]
   conv=>rhs;unfold lU
   rw[ho];dsimp only;rw[hv,DI]
 ·intro self l ⟨hl,_⟩ e;simp only[qD,e,aC];rw[eW hl.symm];rfl
end
end Ab
namespace Ab
open Go
set_option maxRecDepth 10000
section
variable{α R S A:Type}
theorem rK{body:(S→Option R)→S→Option R}(mk:A→Nat→S)(G:A→List α→Nat→Option R)(P:A→Nat→Prop)(l:List α)(hl:l.length≤9223372036854775806)
  (h1: ∀(self:S→Option R) (a:A) (i:Nat) (x:α) (r:List α),P a i→l.drop i=x::r→i<l.length→gI l (i:Int)=some x→ak.bf (i:Int) (aw l)=true→ak.wrap .i64 (ak.add (i:Int) 1)=((i+1:Nat):Int)→
   (∀a',P a' (i+1)→self (mk a' (i+1))=G a' r (i+1))→body self (mk a i)=G a (x::r) i)
  (h2: ∀(self:S→Option R) (a:A),P a l.length→ak.bf (l.length:Int) (aw l)=false→body self (mk a l.length)=G a [] l.length)(n i:Nat)(hi:i≤l.length)(hn:l.length<n)(a:A)(ha:P a i):iter body n (mk a i)=G a (l.drop i) i:=by
 have key: ∀(r:List α) (i n:Nat) (a:A),P a i→l.drop i=r→i≤l.length→r.length<n→iter body n (mk a i)=G a r i:=by
  intro r
  induction r with
  |nil=>
   intro i n a hp hd hi hn;obtain⟨m,rfl⟩: ∃m,n=m+1:=⟨n - 1,by simp at hn;omega⟩;have P7:l.length≤i:=by simpa using hd
   have:i=l.length:=by omega
   subst this;exact h2 _ a hp (by show decide ((l.length:Int)<l.length)=false;simp)
  |cons x r ih=>
   intro i n a hp hd hi hn;obtain⟨m,rfl⟩: ∃m,n=m+1:=⟨n - 1,by simp at hn;omega⟩;have bc:i<l.length:=by
    rcases Nat.lt_or_ge i l.length with h|h
    ·exact h
    ·rw[List.drop_eq_nil_of_le h]at hd;cases hd
   have mI:l.drop (i+1)=r:=by
    have:(l.drop i).drop 1=l.drop (i+1):=by rw[List.drop_drop]
    rw[←this,hd];rfl
   refine h1 _ a i x r hp hd bc (eM hd) (by show decide ((i:Int)<l.length)=true;simp;omega) (by show IntKind.wrap .i64 ((i:Int)+1)=_;rw[bL (by omega)];rfl) fun a' Xs=>?_;exact ih (i+1) m a' Xs mI bc (by simp at hn;omega)
 exact key (l.drop i) i n a ha rfl hi (by simp;omega)
end
def aO(sl:List Int)(args:List Int):List Int:=args.map fun a=>sl.getD a.toNat 0
theorem eP(sl args:List Int):(aO sl args).length=args.length:=by simp[aO]
theorem il{sl:List Int}{a:Int}(h:0≤a)(h2:a<sl.length):gI sl a=some (sl.getD a.toNat 0):=by
 unfold gI;rw[if_pos (by omega)];have:a.toNat<sl.length:=by omega
 simp[List.getD_eq_getElem?_getD,this]
section
variable{n:Nat}(hn:100<n)
 include hn
theorem rY{hd:ByteArray}{kd z:Int}{ops:List aD}{sl args:List Int}(ha: ∀a∈args,0≤a∧a<sl.length)(hl:args.length≤50):bM ak .ak n hd kd ops z sl args=some (aO sl args):=by
 unfold bM;rw[au];have:=aT (body:=dF ak .ak n sl args (aw args) fun(z7,l8)=>some l8) (mk:=fun(l:List Int) i=>((i:Int),l)) (fun l r _=>some (l++aO sl r)) (fun l i=>l.length=i) args (by omega) ?_ ?_ n (by omega) [] rfl
 ·simpa using this
 ·intro self l i x r hp hd hi e1 e2 e3 ih;have hx:=ha x (List.mem_of_mem_drop (i:=i) (by rw[hd];simp))
  simp only[dF,e2,az,e1,au,il hx.1 hx.2];rw[aN (by omega) (by omega),au,e3,ih _ (by simp[hp])];simp[aO]
 ·intro self l hp e;simp only[dF,e,aC];simp[aO]
theorem yE{o:aD}{sl:List Int}(ha: ∀a∈o.args,0≤a∧a<sl.length)(hl:o.args.length≤50):ep ak .ak n o sl=some ⟨o.kind,o.name,o.num,aO sl o.args⟩:=by
 unfold ep;have:=aT (body:=kq ak .ak n o sl fun(l7,z8)=>some (⟨o.kind,o.name,o.num,l7⟩:aD)) (mk:=fun(l:List Int) i=>(l,(i:Int))) (fun l r _=>some ⟨o.kind,o.name,o.num,l++aO sl r⟩) (fun l i=>l.length=i) o.args (by omega) ?_ ?_ n (by omega) [] rfl
 ·simpa using this
 ·intro self l i x r hp hd hi e1 e2 e3 ih;have hx:=ha x (List.mem_of_mem_drop (i:=i) (by rw[hd];simp))
  simp only[kq,e2,az,e1,au,il hx.1 hx.2];rw[aN (by omega) (by omega),au,e3,ih _ (by simp[hp])];simp[aO]
 ·intro self l hp e;simp only[kq,au,e,aC];simp[aO]
end
theorem G4{l m:List Int}(h:m.length=l.length):kO m.length l m=l:=by
 unfold kO;rw[h,Nat.min_self,List.take_length,List.drop_eq_nil_of_le (by omega),List.append_nil]
theorem C9{y:List Int}{l:List aD}{k z:Int}{nm:ByteArray}(hy:y.length≤1000)(hl:l.length≤1000):
  ((some (aw y)).bind fun Y4=>
   (vZ 8 Y4 0).bind fun Ee=>
   (some (kO (Md.ak.ln Ee) y Ee)).bind fun KC=>
   (some (oY (Md.ak.ln Ee) y)).bind fun n44=>
   bif (ak.aS Y4 0)then
    (aP 56 l (⟨k,nm,z,[]⟩:aD)).bind fun M0=>
    (some (aw M0)).bind fun Y3=>
    some ((ak.wrap .i64 (ak.sub Y3 1)),M0)
   else
    (ei (Md.ak.ln Ee) KC).bind fun u47=>
    (aP 56 l (⟨k,nm,z,KC⟩:aD)).bind fun PM=>
    (some (aw PM)).bind fun S7=>
    some ((ak.wrap .i64 (ak.sub S7 1)),PM))=some ((l.length:Int),l++[⟨k,nm,z,y⟩]):=by
 have hm:vZ 8 (aw y) (0:Int)=some (List.replicate y.length 0):=so (by omega) (by omega)
 have hc:kO (Md.ak.ln (List.replicate y.length (0:Int))) y (List.replicate y.length 0)=y:=G4 (by simp)
 have hw: ∀o:aD,ak.wrap .i64 (ak.sub (aw (l++[o])) 1)=(l.length:Int):=fun o=>by
  show IntKind.wrap .i64 (((l++[o]).length:Int) - 1)=_;rw[List.length_append,List.length_singleton,show(((l.length+1:Nat):Int) - 1)=(l.length:Int)by omega,AK (by omega)]
 rw[au,hm,au,au,au,hc];by_cases h0:y=[]
 ·subst h0;have:ak.aS (aw ([]:List Int)) 0=true:=rfl
  rw[this,az,aN (by omega) (by omega),au,au,hw]
 ·have:ak.aS (aw y) 0=false:=by
   show decide ((y.length:Int)=0)=false;have:y.length≠0:=fun h=>h0 (List.eq_nil_of_length_eq_zero h)
   exact bI (by omega)
  rw[this,aC,eW (by simp[Md.ak]),au,aN (by omega) (by omega),au,au,hw]
def bare(b:aj):aj:=⟨b.name,b.aI,[]⟩
def c6(F:ag→ag)(b:aj):aj:=⟨b.name,b.aI,b.ae.map F⟩
def cA(F:ag→ag)(bs:List aj)(i j:Nat):List aj:=(bs.take i).map (c6 F)++(match bs.drop i with
 |[]=>[]
 |b::r=>⟨b.name,b.aI,(b.ae.take j).map F⟩::r.map bare)
theorem vB{F:ag→ag}{bs:List aj}:cA F bs 0 0=bs.map bare:=by
 unfold cA;cases bs<;>simp[bare]
theorem nE{F:ag→ag}{bs:List aj}{i:Nat}{b:aj}{r:List aj}(h:bs.drop i=b::r):cA F bs i b.ae.length=cA F bs (i+1) 0:=by
 unfold cA;have h1:bs.drop (i+1)=r:=by rw[←List.drop_drop,h];rfl
 have h2:bs.take (i+1)=bs.take i++[b]:=by
  have:=List.getElem?_drop (xs:=bs) (i:=i) (j:=0)
  rw[h]at this;rw[List.take_add_one];simp at this;rw[←this];rfl
 rw[h,h1,h2];dsimp only;rw[List.take_length,List.map_append,List.append_assoc];congr 1;cases r<;>simp[bare,c6]
theorem pG{F:ag→ag}{bs:List aj}:cA F bs bs.length 0=bs.map (c6 F):=by
 unfold cA;rw[List.take_length,List.drop_length];simp
theorem Qo{F:ag→ag}{bs:List aj}{i j:Nat}:(cA F bs i j).length=bs.length:=by
 unfold cA;cases h:bs.drop i with
 |nil=>
  have:=congrArg List.length h
  simp at this;simp;omega
 |cons b r=>
  have:=congrArg List.length h
  simp at this;simp;omega
theorem pF{F:ag→ag}{bs:List aj}{i j:Nat}{b:aj}{r:List aj}(h:bs.drop i=b::r):gK (cA F bs i j) i=some ⟨b.name,b.aI,(b.ae.take j).map F⟩:=by
 have hl:=congrArg List.length h
 simp at hl;have:min i bs.length=i:=by omega
 unfold cA gK;rw[h];rw[iY (by simp;omega)];simp[this]
theorem pE{F:ag→ag}{bs:List aj}{i j:Nat}{b:aj}{r:List aj}{x:ag}{s:List ag}(h:bs.drop i=b::r)(hx:b.ae.drop j=x::s):
  gD (cA F bs i j) i (⟨b.name,b.aI,(b.ae.take j).map F++[F x]⟩:aj)=some (cA F bs i (j+1)):=by
 have hl:=congrArg List.length h
 simp at hl;have hm:min i bs.length=i:=by omega
 rw[mF (by rw[Qo];omega)];have h2:b.ae.take (j+1)=b.ae.take j++[x]:=by
  have:=List.getElem?_drop (xs:=b.ae) (i:=j) (j:=0)
  rw[hx]at this;rw[List.take_add_one];simp at this;rw[←this];rfl
 unfold cA;rw[h];dsimp only;rw[List.set_append_right _ _ (by simp;omega),h2];simp[hm]
end Ab
namespace Ab
open Go
set_option maxRecDepth 10000
def pk(u:List Bool):List aD→Nat→List aD×List Int→List aD×List Int
 |[],_,st=>st
 |o::r,i,st=>pk u r (i+1) (bif u.getD i false then(st.1++[⟨o.kind,o.name,o.num,aO st.2 o.args⟩],st.2++[(st.1.length:Int)])else(st.1,st.2++[0]))
def rk(x:ag):ag:=⟨x.head,x.aM,(pk (jh x) x.ops 0 ([],[])).1,(pk (jh x) x.ops 0 ([],[])).2.getD x.result.toNat 0⟩
theorem I0(u:List Bool): ∀(r:List aD) (i:Nat) (st:List aD×List Int),(pk u r i st).2.length=st.2.length+r.length
 |[],i,st=>rfl
 |o::r,i,st=>by
  unfold pk;rw[I0 u r];cases u.getD i false<;>simp<;>omega
section
variable{n:Nat}(hn:100<n)
 include hn
theorem TN{x:ag}(hx:fg x){u:List Bool}(hu:u.length=x.ops.length){e:Int}(k:List aD×List Int×Int→Option (ai×Int)):
  iter (jF ak .ak n (aw x.ops) x (u,e) k) n ([],[],0)=k ((pk u x.ops 0 ([],[])).1,(pk u x.ops 0 ([],[])).2,(x.ops.length:Int)):=by
 have hlen:=hx.len
 refine aT (body:=jF ak .ak n (aw x.ops) x (u,e) k) (mk:=fun(a:List aD×List Int) i=>(a.1,a.2,(i:Int))) (fun a r i=>k ((pk u r i a).1,(pk u r i a).2,(x.ops.length:Int))) (fun a i=>a.2.length=i∧a.1.length≤i) x.ops (by omega) ?_ ?_ n (by omega) ([],[]) ⟨rfl,Nat.le_refl _⟩
 ·rintro self ⟨out,sl⟩ i o r ⟨Hq,sU⟩ hd hi e1 e2 e3 ih
  have ho:x.ops[i]? =some o:=by rw[←bK];exact e1
  have hm:o∈x.ops:=fU ho
  dsimp only at Hq sU;have cI: ∀a∈o.args,0≤a∧a<sl.length:=fun a ha=>by have:=hx.args i o ho a ha;omega
  have hui:gI u (i:Int)=some (u.getD i false):=by rw[bK];simp[List.getD_eq_getElem?_getD,show i<u.length by omega]
  simp only[jF,e2,az,e1,au,hui,rY hn cI (hx.ar o hm)];have nM:=C9 (y:=aO sl o.args) (l:=out) (k:=o.kind) (z:=o.num) (nm:=o.name) (by rw[eP];have:=hx.ar o hm;omega) (by omega)
  simp only[au]at nM;rw[nM];rw[bQ]
  conv=>rhs;unfold pk
  cases u.getD i false with
  |true=>
   simp only[Bool.not_true,aC,au,az];rw[aN (by omega) (by omega),au,au,e3];exact ih (out++[⟨o.kind,o.name,o.num,aO sl o.args⟩],sl++[(out.length:Int)]) ⟨by simp[Hq],by simp;omega⟩
  |false=>
   simp only[Bool.not_false,az,aC];rw[aN (by omega) (by omega),au,au,e3];exact ih (out,sl++[0]) ⟨by simp[Hq],by dsimp only;omega⟩
 ·rintro self ⟨out,sl⟩ _ e
  simp only[jF,e,aC];rfl
theorem Qh{x:ag}(hx:fg x)(hk: ∀o∈x.ops,ba o=decide (3<o.kind)):pT ak .ak n x=some (rk x):=by
 have hlen:=hx.len
 have fO:=hx.res
 have hul:(jh x).length=x.ops.length:=Ic x
 unfold pT;have Nj:vZ 8 (aw x.ops) (0:Int)=some (List.replicate x.ops.length 0):=so (by omega) (by omega)
 rw[OP hn hx hk,au,au,Nj,au];have:=aT (body:=jt ak .ak n x (List.replicate x.ops.length 0) (jh x) fun(ua,rJ,fh)=>
   (gN (Md.ak.ln (List.replicate x.ops.length (0:Int))) x.result).bind fun k20=>(gK ua k20).bind fun yt=>some (⟨x.head,x.aM,rJ,yt⟩:ag)) (mk:=fun(a:List aD×List Int) i=>(a.2++List.replicate (x.ops.length - i) (0:Int),a.1,(i:Int)))
   (fun a r i=>some ⟨x.head,x.aM,(pk (jh x) r i a).1,(pk (jh x) r i a).2.getD x.result.toNat 0⟩) (fun a i=>a.2.length=i∧a.1.length≤i) x.ops (by omega) ?_ ?_ n (by omega) ([],[]) ⟨rfl,Nat.le_refl _⟩
 ·simpa[rk]using this
 ·rintro self ⟨out,sl⟩ i o r ⟨Hq,sU⟩ hd hi e1 e2 e3 ih
  have ho:x.ops[i]? =some o:=by rw[←bK];exact e1
  have hm:o∈x.ops:=fU ho
  dsimp only at Hq sU;have hui:gI (jh x) (i:Int)=some ((jh x).getD i false):=by rw[bK];simp[List.getD_eq_getElem?_getD,show i<(jh x).length by omega]
  have jg:Md.ak.ln (List.replicate x.ops.length (0:Int))=x.ops.length:=by simp[Md.ak]
  have hsp:List.replicate (x.ops.length - i) (0:Int)=0::List.replicate (x.ops.length - (i+1)) 0:=by
   rw[show x.ops.length - i=(x.ops.length - (i+1))+1 by omega,List.replicate_succ]
  simp only[jt,au,e2,az,e1,hui,jg,iI hi]
  conv=>rhs;unfold pk
  cases(jh x).getD i false with
  |true=>
   have xc:(sl++List.replicate (x.ops.length - i) (0:Int)).set i (out.length:Int)=(sl++[(out.length:Int)])++List.replicate (x.ops.length - (i+1)) 0:=by
    rw[hsp,List.set_append_right _ _ (by omega),Hq];simp
   have hL:((sl++[(out.length:Int)])++List.replicate (x.ops.length - (i+1)) (0:Int)).length=x.ops.length:=by simp;omega
   have HK:aO ((sl++[(out.length:Int)])++List.replicate (x.ops.length - (i+1)) 0) o.args=aO sl o.args:=by
    unfold aO;apply List.map_congr_left;intro a ha;have:=hx.args i o ho a ha
    rw[List.append_assoc];simp only[List.getD_eq_getElem?_getD];rw[gg (by omega)]
   rw[az,Nt (show i<(sl++List.replicate (x.ops.length - i) (0:Int)).length by simp;omega),au,mF (show i<(sl++List.replicate (x.ops.length - i) (0:Int)).length by simp;omega),au];have hz:aw out=(out.length:Int):=rfl
   rw[hz,xc,eW hL.symm,au,yE hn (fun a ha=>by have:=hx.args i o ho a ha;omega) (hx.ar o hm),au,HK,aN (by omega) (by omega),au,e3];exact ih (out++[⟨o.kind,o.name,o.num,aO sl o.args⟩],sl++[(out.length:Int)]) ⟨by simp[Hq],by simp;omega⟩
  |false=>
   rw[aC,e3];have:=ih (out,sl++[0]) ⟨by simp[Hq],by dsimp only;omega⟩
   dsimp only at this;rw[hsp];rw[List.append_assoc]at this;exact this
 ·rintro self ⟨out,sl⟩ ⟨Hq,_⟩ e
  dsimp only at Hq;have jg:Md.ak.ln (List.replicate x.ops.length (0:Int))=x.ops.length:=by simp[Md.ak]
  simp only[jt,au,e,aC,jg,zA fO.1 fO.2,pk,Nat.sub_self,List.replicate_zero,List.append_nil];rw[Nt (by omega),au];congr 2;rw[List.getD_eq_getElem?_getD,eH (by omega)];rfl
end
end Ab
namespace Ab
open Go
set_option maxRecDepth 10000
theorem mB{α:Type}{l:List α}{i:Nat}{x:α}{r:List α}(h:l.drop i=x::r):l[i]? =some x:=by rw[←bK];exact eM h
theorem bO{α:Type}{l:List α}{i:Nat}{x:α}{r:List α}(h:l.drop i=x::r):x∈l:=fU (mB h)
section
variable{n:Nat}(hn:100<n)
 include hn
theorem Ya{c:ai}(hc:qI c)(h0:bh c=0)(hg:pn c){i:Nat}{b:aj}{rb:List aj}(hb:c.af.drop i=b::rb){l9:List aj}(Gz:l9.length=c.af.length)(k:List Bool×List aj×Int→Option (ai×Int))(R:Option (ai×Int))
  (hk: ∀u,k (u,cA rk c.af (i+1) 0,(b.ae.length:Int))=R)(u:List Bool):iter (jG ak .ak n c l9 (aw b.ae) b (i:Int) k) n (u,cA rk c.af i 0,0)=R:=by
 have lT:=bO hb
 have XI:=hc.br b lT
 have hi:i<c.af.length:=(bq.1 (mB hb)).1
 refine aT (body:=jG ak .ak n c l9 (aw b.ae) b (i:Int) k) (mk:=fun(a:List Bool×List aj) j=>(a.1,a.2,(j:Int))) (fun _ _ _=>R) (fun a j=>a.2=cA rk c.af i j) b.ae (by omega) ?_ ?_ n (by omega) (u,_) rfl
 ·rintro self ⟨u,L⟩ j x r hp hd hj e1 e2 e3 ih
  dsimp only at hp;subst hp;have hx:=hg.x hc lT (bO hd)
  have fO:=hx.res
  have hU:=NF hn hc h0 (i:=i) (j:=j) (eM hb) e1 hx
  have TB: ∀{a b:Int},gK [a,b] 0=some a:=rfl
  have hg1: ∀{a b:Int},gK [a,b] 1=some b:=rfl
  simp only[jG,e2,az,e1,au,show fe 2 (List.replicate 2 (0:Int))=some ()from rfl,show∀a b:Int,fe 2 [a,b]=some ()from fun _ _=>rfl,show gN 2 0=some 0 from rfl,show gN 2 1=some 1 from rfl,TB,hg1,hU];rw[TN hn hx (Ic x)];have Gy:=I0 (jh x) x.ops 0 ([],[])
  have hr:gI (pk (jh x) x.ops 0 ([],[])).2 x.result=some ((pk (jh x) x.ops 0 ([],[])).2.getD x.result.toNat 0):=il fO.1 (by rw[Gy];simpa using fO.2)
  have jg:Md.ak.ln l9=c.af.length:=Gz
  simp only[hr,au,jg,iI hi,pF hb];rw[aN (by omega) (by simp;omega),au];have:=pE (F:=rk) hb hd
  unfold rk at this ⊢;rw[this,au,e3];exact ih (jh x,_) rfl
 ·rintro self ⟨u,L⟩ hp e
  dsimp only at hp;subst hp;simp only[jG,e,aC];rw[nE hb];exact hk u
theorem Yb{c:ai}(hc:qI c)(h0:bh c=0)(hg:pn c){l9:List aj}(Gz:l9.length=c.af.length)(k:List Bool×List aj×Int→Option (ai×Int))(R:Option (ai×Int))
  (hk: ∀u,k (u,c.af.map (c6 rk),(c.af.length:Int))=R)(u:List Bool):iter (jH ak .ak n c l9 (aw c.af) k) n (u,c.af.map bare,0)=R:=by
 have AE:=hc.bl
 refine(aT (body:=jH ak .ak n c l9 (aw c.af) k) (mk:=fun(a:List Bool×List aj) j=>(a.1,a.2,(j:Int))) (fun _ _ _=>R) (fun a j=>a.2=cA rk c.af j 0) c.af (by omega) ?_ ?_ n (by omega) (u,_) vB.symm)
 ·rintro self ⟨u,L⟩ i b r hp hd hi e1 e2 e3 ih
  dsimp only at hp;subst hp;simp only[jH,e2,az,e1,au];refine Ya hn hc h0 hg hd Gz _ R (fun u=>?_) u;dsimp only;rw[e3];exact ih (u,_) rfl
 ·rintro self ⟨u,L⟩ hp e
  dsimp only at hp;subst hp;simp only[jH,e,aC];rw[pG];exact hk u
theorem Yc{c:ai}(AE:c.af.length≤16)(k:List aj×Int→Option (ai×Int)){b:aj}{r:List aj}(hb:c.af=b::r):iter (jI ak .ak n c (aw c.af) k) n ([bare b],1)=k (c.af.map bare,(c.af.length:Int)):=by
 have:=rK (body:=jI ak .ak n c (aw c.af) k) (mk:=fun(a:List aj) j=>(a,(j:Int))) (fun a r _=>k (a++r.map bare,(c.af.length:Int))) (fun a i=>a.length=i) c.af (by omega) ?_ ?_ n 1 (by rw[hb];simp) (by omega) [bare b] rfl
 ·refine this.trans ?_;rw[hb];rfl
 ·intro self l i x r hp hd hi e1 e2 e3 ih;simp only[jI,e2,az,e1,au];rw[aN (by omega) (by omega),au,e3,ih _ (by simp[hp])];simp[bare]
 ·intro self l hp e;simp only[jI,e,aC];simp
theorem ady{c:ai}(hc:qI c):qb ak .ak n c=some (bif decide (bh c=0)then(⟨c.af.map (c6 rk)⟩,0)else(⟨[]⟩,bh c)):=by
 unfold qb;rw[qG hn hc,au,bQ,bU];by_cases h0:bh c=0
 ·have hg:=gW h0
  have AE:=hc.bl
  obtain⟨b,r,hb⟩: ∃b r,c.af=b::r:=by
   cases h:c.af with
   |nil=>have:=hg.some.1;rw[h]at this;simp at this
   |cons b r=>exact⟨b,r,rfl⟩
  rw[bP h0,Bool.not_true,aC,az,au];have h1:ak.bf 0 (aw c.af)=true:=by show decide ((0:Int)<c.af.length)=true;rw[hb];simp
  have h2:gI c.af 0=some b:=by rw[hb];rfl
  have hw:ak.wrap .i64 (ak.add 0 1)=1:=by show IntKind.wrap .i64 1=1;rw[bL (by omega)]
  rw[h1,az,h2,au,aN (by omega) (by simp),au,hw];refine(Yc hn AE _ hb).trans ?_;dsimp only;rw[au];refine Yb hn hc h0 hg (by simp) _ _ (fun u=>?_) [];dsimp only;rw[eW (by simp[Md.ak]),au]
 ·rw[bI h0,Bool.not_false,az,aC]
theorem WD{c:ai}{p:Int}{F:ag→ag}{i:Nat}{b:aj}{rb:List aj}(hb:c.af.drop i=b::rb)(Zg:b.ae.length≤16)(k:List ag×Int→Option ai)
  (hF: ∀(self:List ag×Int→Option ai) (l:List ag) (j:Nat) (x:ag),l.length≤16→x∈b.ae→gI b.ae (j:Int)=some x→ak.bf (j:Int) (aw b.ae)=true→ak.wrap .i64 (ak.add (j:Int) 1)=((j+1:Nat):Int)→
   dh ak .ak n c p (i:Int) k self (l,(j:Int))=self (l++[F x],((j+1:Nat):Int))):iter (dh ak .ak n c p (i:Int) k) n ([],0)=k (b.ae.map F,(b.ae.length:Int)):=by
 have:=aT (body:=dh ak .ak n c p (i:Int) k) (mk:=fun(a:List ag) j=>(a,(j:Int))) (fun a r _=>k (a++r.map F,(b.ae.length:Int))) (fun a i=>a.length=i) b.ae (by omega) ?_ ?_ n (by omega) [] rfl
 ·simpa using this
 ·intro self l j x r hp hd hj e1 e2 e3 ih;rw[hF self l j x (by omega) (bO hd) e1 e2 e3,ih _ (by simp[hp])];simp
 ·intro self l hp e;simp only[dh,eM hb,au,e,aC];simp
theorem A3{c:ai}(hc:qI c){p:Int}{F:ag→ag}
  (hF: ∀(i:Nat) (b:aj) (rb:List aj),c.af.drop i=b::rb→ ∀(k:List ag×Int→Option ai) (self:List ag×Int→Option ai) (l:List ag) (j:Nat) (x:ag),l.length≤16→x∈b.ae→gI b.ae (j:Int)=some x→ak.bf (j:Int) (aw b.ae)=true→ak.wrap .i64 (ak.add (j:Int) 1)=((j+1:Nat):Int)→
   dh ak .ak n c p (i:Int) k self (l,(j:Int))=self (l++[F x],((j+1:Nat):Int))):ea ak .ak n c p=some ⟨c.af.map (c6 F)⟩:=by
 have AE:=hc.bl
 unfold ea;have:=aT (body:=nW ak .ak n c p fun(N2,z25)=>some (⟨N2⟩:ai)) (mk:=fun(a:List aj) j=>(a,(j:Int))) (fun a r _=>some (⟨a++r.map (c6 F)⟩:ai)) (fun a i=>a.length=i) c.af (by omega) ?_ ?_ n (by omega) [] rfl
 ·simpa using this
 ·intro self l i b r hp hd hi e1 e2 e3 ih;simp only[nW,au,e2,az,e1];rw[WD hn hd (hc.br b (bO hd)) _ (hF i b r hd _)];dsimp only;rw[aN (by omega) (by omega),au,e3,ih _ (by simp[hp])];simp[c6]
 ·intro self l hp e;simp only[nW,au,e,aC];simp
theorem Mx{c:ai}(hc:qI c)(h0:bh c=0)(hk: ∀b∈c.af,∀x∈b.ae,∀o∈x.ops,ba o=decide (3<o.kind)):ea ak .ak n c 1=some ⟨c.af.map (c6 rk)⟩:=by
 have hg:=gW h0
 refine A3 hn hc fun i b rb hb k self l j x hl hx e1 e2 e3=>?_;have lT:=bO hb
 simp only[dh,eM hb,au,e2,az,e1,show ak.aS 1 1=true from rfl,Qh hn (hg.x hc lT hx) (hk b lT x hx)];rw[aN (by omega) (by omega),au,e3]
end
end Ab
namespace Ab
open Go
set_option maxRecDepth 10000
section
variable{α β:Type}
theorem jJ{body:(Int→Option Bool)→Int→Option Bool}(q:α→β→Bool){l:List α}{m:List β}(HM:l.length=m.length)(R:Option Bool)(hl:l.length≤9223372036854775806)
  (h1: ∀(self:Int→Option Bool) (i:Nat) (x:α) (y:β),gI l (i:Int)=some x→gI m (i:Int)=some y→x∈l→y∈m→ak.bf (i:Int) (aw l)=true→ak.wrap .i64 (ak.add (i:Int) 1)=((i+1:Nat):Int)→
   body self (i:Int)=bif q x y then self ((i+1:Nat):Int)else some false)
  (h2: ∀(self:Int→Option Bool),ak.bf (l.length:Int) (aw l)=false→body self (l.length:Int)=R){n:Nat}(hn:l.length<n):iter body n 0=bif C8 q l m then R else some false:=by
 have:=fM (R:=Bool) (body:=body) (fun r i=>bif C8 q r (m.drop i)then R else some false) l hl ?_ ?_ n hn
 ·simpa using this
 ·intro self i x r hd hi e1 e2 e3 ih;obtain⟨y,s,hy⟩: ∃y s,m.drop i=y::s:=by
   cases h:m.drop i with
   |nil=>simp at h;omega
   |cons y s=>exact⟨y,s,rfl⟩
  have hs:m.drop (i+1)=s:=by rw[←List.drop_drop,hy];rfl
  rw[h1 self i x y e1 (eM hy) (bO hd) (bO hy) e2 e3,ih,hy,hs];simp only[C8];cases q x y<;>simp
 ·intro self e;have:m.drop l.length=[]:=by simp[HM]
  rw[h2 self e,this];rfl
end
theorem F7{x y:aD}:decide (x=y)=(decide (x.kind=y.kind)&&decide (x.name=y.name)&&decide (x.num=y.num)&&decide (x.args=y.args)):=by
 cases x;cases y;simp[Bool.and_assoc]
theorem NK{x y:ag}:decide (x=y)=(decide (x.head=y.head)&&decide (x.aM=y.aM)&&decide (x.ops=y.ops)&&decide (x.result=y.result)):=by
 cases x;cases y;simp[Bool.and_assoc]
theorem NN{x y:aj}:decide (x=y)=(decide (x.name=y.name)&&decide (x.aI=y.aI)&&decide (x.ae=y.ae)):=by
 cases x;cases y;simp[Bool.and_assoc]
theorem v7{α:Type}[DecidableEq α]{l m:List α}(h:l.length≠m.length):decide (l=m)=false:=bI fun e=>h (by rw[e])
structure Szd(c:ai):Prop where
 bl:c.af.length≤1000
 br: ∀b∈c.af,b.ae.length≤1000
 op: ∀b∈c.af,∀x∈b.ae,x.ops.length≤1000
 ar: ∀b∈c.af,∀x∈b.ae,∀o∈x.ops,o.args.length≤1000
theorem Ru(a b:Nat):ak.aS (a:Int) (b:Int)=decide (a=b):=by
 show decide ((a:Int)=b)=_;by_cases h:a=b
 ·subst h;simp
 ·rw[bI h,bI (by omega)]
section
variable{n:Nat}(hn:1000<n)
 include hn
theorem Ck{x y:ag}(xf:x.ops.length≤1000)(Aj: ∀o∈x.ops,o.args.length≤1000):kW ak .ak n x y=some (decide (x=y)):=by
 unfold kW;simp only[au,bg,eE,bQ,jx,bU];rw[NK];by_cases hl:x.ops.length=y.ops.length
 ·have h0:decide (aw x.ops=aw y.ops)=true:=bP (by show(x.ops.length:Int)=y.ops.length;omega)
  rw[jJ (fun x y=>decide (x=y)) hl (some true) (by omega) ?_ ?_ (by omega),pY,h0]
  ·cases decide (x.head=y.head)<;>cases decide (x.aM=y.aM)<;>cases decide (x.result=y.result)<;>cases decide (x.ops=y.ops)<;>rfl
  ·intro self i o q e1 e2 ho hq e3 e4;have ha:=Aj o ho
   simp only[iV,au,e3,az,e1,e2,bg,eE,bQ,jx,bU];rw[F7];by_cases Ui:o.args.length=q.args.length
   ·have h1:decide (aw o.args=aw q.args)=true:=bP (by show(o.args.length:Int)=q.args.length;omega)
    rw[jJ (fun x y=>decide (x=y)) Ui (self ((i+1:Nat):Int)) (by omega) ?_ ?_ (by omega),pY,h1]
    ·cases decide (o.kind=q.kind)<;>cases decide (o.name=q.name)<;>cases decide (o.num=q.num)<;>cases decide (o.args=q.args)<;>rfl
    ·intro Dv j a b f1 f2 _ _ f3 f4;simp only[iU,au,f3,az,f1,f2,bQ,bU,f4];cases decide (a=b)<;>rfl
    ·intro Dv f;simp only[iU,au,f,aC,e4]
   ·have h1:decide (aw o.args=aw q.args)=false:=bI (by show¬(o.args.length:Int)=q.args.length;omega)
    rw[h1,v7 Ui];simp
  ·intro self f;simp only[iV,au,f,aC]
 ·have h1:decide (aw x.ops=aw y.ops)=false:=bI (by show¬(x.ops.length:Int)=y.ops.length;omega)
  rw[h1,v7 hl];simp
theorem r8{c d:ai}(h:Szd c):dE ak .ak n c d=some (decide (c=d)):=by
 have hcd:decide (c=d)=decide (c.af=d.af):=by cases c;cases d;simp
 rw[hcd];unfold dE;simp only[au,bQ,bU];by_cases hl:c.af.length=d.af.length
 ·have h0:decide (aw c.af=aw d.af)=true:=bP (by show(c.af.length:Int)=d.af.length;omega)
  have hb:=h.bl
  rw[jJ (fun x y=>decide (x=y)) hl (some true) (by omega) ?_ ?_ (by omega),pY,h0]
  ·cases decide (c.af=d.af)<;>rfl
  ·intro self i x y e1 e2 hx hy e3 e4;have XI:=h.br x hx
   simp only[rA,au,e3,az,e1,e2,bg,eE,bQ,jx,bU];rw[NN];by_cases Ui:x.ae.length=y.ae.length
   ·have h1:decide (aw x.ae=aw y.ae)=true:=bP (by show(x.ae.length:Int)=y.ae.length;omega)
    rw[jJ (fun x y=>decide (x=y)) Ui (self ((i+1:Nat):Int)) (by omega) ?_ ?_ (by omega),pY,h1]
    ·cases decide (x.name=y.name)<;>cases decide (x.aI=y.aI)<;>cases decide (x.ae=y.ae)<;>rfl
    ·intro Dv j a b f1 f2 ha _ f3 f4;simp only[rz,au,f3,az,f1,f2,bQ,f4,Ck hn (h.op x hx a ha) (h.ar x hx a ha)];cases decide (a=b)<;>rfl
    ·intro Dv f;simp only[rz,au,f,aC,e4]
   ·have h1:decide (aw x.ae=aw y.ae)=false:=bI (by show¬(x.ae.length:Int)=y.ae.length;omega)
    rw[h1,v7 Ui];simp
  ·intro self f;simp only[rA,au,f,aC]
 ·have h1:decide (aw c.af=aw d.af)=false:=bI (by show¬(c.af.length:Int)=d.af.length;omega)
  rw[h1,v7 hl];simp
end
end Ab
namespace Ab
open Go
set_option maxRecDepth 10000
section
variable{κ β:Type}[DecidableEq κ]
theorem gR{e:κ×List β}{l:List (κ×List β)}{k:κ}:lA (e::l) k []=if e.1=k then e.2 else lA l k []:=by
 unfold lA;rw[List.find?_cons];by_cases h:e.1=k
 ·rw[if_pos h,bP h];rfl
 ·rw[if_neg h,bI h]
theorem L3{k:κ}: ∀{l:List (κ×List β)} {i:Nat},l.findIdx? (fun e=>decide (e.1=k))=some i→ ∃e,l[i]? =some e∧e.1=k∧lA l k []=e.2∧ ∀v k',lA (l.set i (e.1,v)) k' []=if k'=k then v else lA l k' []
 |[],i,h=>by simp at h
 |e::l,i,h=>by
  rw[List.findIdx?_cons]at h;by_cases he:e.1=k
  ·rw[bP he]at h;simp at h;subst h;refine⟨e,rfl,he,by rw[gR,if_pos he],fun v k'=>?_⟩;rw[List.set_cons_zero,gR,gR,he];by_cases hk:k'=k
   ·rw[if_pos hk,if_pos hk.symm]
   ·rw[if_neg hk,if_neg (Ne.symm hk),if_neg (Ne.symm hk)]
  ·rw[bI he]at h;simp at h;obtain⟨j,hj,rfl⟩:=h;obtain⟨e',h1,h2,h3,h4⟩:=L3 (l:=l) (i:=j) (by simpa using hj);refine⟨e',by simpa using h1,h2,by rw[gR,if_neg he];exact h3,fun v k'=>?_⟩;rw[List.set_cons_succ,gR,gR,h4];by_cases hk:k'=k
   ·subst hk;rw[if_pos rfl,if_neg he,if_pos rfl]
   ·rw[if_neg hk,if_neg hk]
theorem Gl{k:κ}: ∀{l:List (κ×List β)},l.findIdx? (fun e=>decide (e.1=k))=none→lA l k []=[]∧ ∀v k',lA (l++[(k,v)]) k' []=if k'=k then v else lA l k' []
 |[],_=>⟨rfl,fun v k'=>by
  rw[List.nil_append,gR];by_cases hk:k'=k
  ·rw[if_pos hk,if_pos hk.symm]
  ·rw[if_neg hk,if_neg (Ne.symm hk)]⟩
 |e::l,h=>by
  rw[List.findIdx?_cons]at h;by_cases he:e.1=k
  ·rw[bP he]at h;simp at h
  ·rw[bI he]at h;obtain⟨h1,h2⟩:=Gl (l:=l) (by simpa using h);refine⟨by rw[gR,if_neg he];exact h1,fun v k'=>?_⟩;rw[List.cons_append,gR,gR,h2];by_cases hk:k'=k
   ·subst hk;rw[if_pos rfl,if_neg he,if_pos rfl]
   ·rw[if_neg hk,if_neg hk]
theorem ab6{l:List (κ×List β)}{k:κ}: ∃l' i,NC l k=(l',i,lA l k [])∧ ∀v,∃l'',JU l' i v=some l''∧ ∀k',lA l'' k' []=if k'=k then v else lA l k' []:=by
 unfold NC;cases h:l.findIdx? (fun e=>decide (e.1=k))with
 |some i=>
  obtain⟨e,h1,h2,h3,h4⟩:=L3 h;refine⟨l,i,?_,fun v=>⟨l.set i (e.1,v),?_,h4 v⟩⟩
  ·dsimp only;rw[h1,h3];rfl
  ·unfold JU;rw[h1];rfl
 |none=>
  obtain⟨h1,h2⟩:=Gl h;refine⟨l++[(k,[])],l.length,?_,fun v=>⟨l++[(k,v)],?_,h2 v⟩⟩
  ·dsimp only;rw[h1]
  ·unfold JU;rw[iY (by omega)];simp
end
def oC(o:aD):aV:=⟨o.kind,o.name,o.num⟩
def idxs(κ:aV):List aD→Nat→List Int
 |[],_=>[]
 |o::r,i=>(bif decide (oC o=κ)then [(i:Int)]else [])++idxs κ r (i+1)
def apx(met:List (aV×List Int))(out:List aD):Prop:= ∀κ,lA met κ []=idxs κ out 0
def dk(sl:List Int)(o:aD):aD:=⟨o.kind,o.name,o.num,aO sl o.args⟩
def iu:List aD→List aD×List Int→List aD×List Int
 |[],st=>st
 |o::r,st=>iu r (bif decide (0≤eX (fun q=>decide (q=dk st.2 o)) st.1)then(st.1,st.2++[eX (fun q=>decide (q=dk st.2 o)) st.1])else(st.1++[dk st.2 o],st.2++[(st.1.length:Int)]))
def lE(x:ag):ag:=⟨x.head,x.aM,(iu x.ops ([],[])).1,(iu x.ops ([],[])).2.getD x.result.toNat 0⟩
theorem FF: ∀(r:List aD) (st:List aD×List Int),(iu r st).2.length=st.2.length+r.length
 |[],st=>rfl
 |o::r,st=>by
  unfold iu;rw[FF r];cases decide (0≤eX (fun q=>decide (q=dk st.2 o)) st.1)<;>simp<;>omega
theorem Nf(κ:aV)(y:aD): ∀(out:List aD) (i:Nat),idxs κ (out++[y]) i=idxs κ out i++(bif decide (oC y=κ)then [((i+out.length:Nat):Int)]else [])
 |[],i=>by simp[idxs]
 |o::r,i=>by
  simp only[List.cons_append,idxs,Nf κ y r (i+1),List.append_assoc,List.length_cons];rw[show i+1+r.length=i+(r.length+1)by omega]
theorem Nd{κ:aV}: ∀{out:List aD} {i:Nat} {z:Int},z∈idxs κ out i→ ∃j o,z=((i+j:Nat):Int)∧out[j]? =some o∧oC o=κ
 |[],i,z,h=>by simp[idxs]at h
 |o::r,i,z,h=>by
  simp only[idxs,List.mem_append]at h;rcases h with h|h
  ·by_cases hk:oC o=κ
   ·rw[bP hk]at h;simp at h;exact⟨0,o,by simpa using h,rfl,hk⟩
   ·rw[bI hk]at h;simp at h
  ·obtain⟨j,q,h1,h2,h3⟩:=Nd h;exact⟨j+1,q,by rw[h1];omega,by simpa using h2,h3⟩
theorem Gs(κ:aV): ∀(out:List aD) (i:Nat),(idxs κ out i).length≤out.length
 |[],i=>by simp[idxs]
 |o::r,i=>by
  have:=Gs κ r (i+1)
  simp only[idxs,List.length_append,List.length_cons];cases decide (oC o=κ)<;>simp<;>omega
theorem IY{y:aD}: ∀(r p:List aD),(idxs (oC y) r p.length).find? (fun j=>decide (gI (p++r) j=some y))=(r.findIdx? fun q=>decide (q=y)).map fun i=>((p.length+i:Nat):Int)
 |[],p=>by simp[idxs]
 |o::r,p=>by
  have ih:=IY (y:=y) r (p++[o])
  rw[List.length_append,List.length_singleton,List.append_assoc,List.singleton_append]at ih;simp only[idxs];rw[List.find?_append,ih,List.findIdx?_cons];by_cases ho:o=y
  ·subst ho;simp[aeE]
  ·rw[bI ho];have HL:((bif decide (oC o=oC y)then [(p.length:Int)]else []).find? fun j=>decide (gI (p++o::r) j=some y))=none:=by
    cases decide (oC o=oC y)with
    |true=>simp[aeE,ho]
    |false=>rfl
   rw[HL];cases r.findIdx? (fun q=>decide (q=y))with
   |none=>rfl
   |some i=>simp;omega
theorem XR{y:aD}{out:List aD}:(idxs (oC y) out 0).find? (fun j=>decide (gI out j=some y))=bif decide (0≤eX (fun q=>decide (q=y)) out)then some (eX (fun q=>decide (q=y)) out)else none:=by
 have:=IY (y:=y) out []
 rw[List.nil_append,List.length_nil]at this;rw[this];unfold eX;cases out.findIdx? (fun q=>decide (q=y))with
 |none=>rfl
 |some i=>simp
section
variable{n:Nat}(hn:100<n)
 include hn
theorem DV{l m:List Int}(hl:l.length≤100):dZ ak .ak n l m=some (decide (l=m)):=by
 unfold dZ;simp only[au,bQ,bU];by_cases HM:l.length=m.length
 ·have h0:decide (aw l=aw m)=true:=bP (by show(l.length:Int)=m.length;omega)
  rw[h0,jJ (fun x y=>decide (x=y)) HM (some true) (by omega) ?_ ?_ (by omega),pY]
  ·cases decide (l=m)<;>rfl
  ·intro self i x y e1 e2 _ _ e3 e4;simp only[iR,e3,az,e1,e2,au,bQ,bU,e4];cases decide (x=y)<;>rfl
  ·intro self e;simp only[iR,e,aC]
 ·have h0:decide (aw l=aw m)=false:=bI (by show¬(l.length:Int)=m.length;omega)
  rw[h0,v7 HM];rfl
theorem Sq{out:List aD}{o:aD}{y:List Int}(hL: ∀q∈out,q.args.length≤50)(ho:out.length≤70)(k:Int×Int→Option ((List (aV×List Int))×(List aD)×(List Int)))(k2:Int→Option ((List (aV×List Int))×(List aD)×(List Int)))
  (K:Int→Option ((List (aV×List Int))×(List aD)×(List Int)))(R:Option ((List (aV×List Int))×(List aD)×(List Int)))(hk: ∀z j,k (z,j)=K j)(Ej: ∀z,k2 z=R):
  iter (fH ak .ak n out (aw (idxs (oC o) out 0)) o (idxs (oC o) out 0) y k k2) n 0=bif decide (0≤eX (fun q=>decide (q=⟨o.kind,o.name,o.num,y⟩)) out)then K (eX (fun q=>decide (q=⟨o.kind,o.name,o.num,y⟩)) out)else R:=by
 have hil:=Gs (oC o) out 0
 have XA:oC o=oC ⟨o.kind,o.name,o.num,y⟩:=rfl
 have:=fM (R:=(List (aV×List Int))×(List aD)×(List Int)) (body:=fH ak .ak n out (aw (idxs (oC o) out 0)) o (idxs (oC o) out 0) y k k2)
  (fun r _=>match r.find? (fun j=>decide (gI out j=some (⟨o.kind,o.name,o.num,y⟩:aD)))with|some j=>K j|none=>R) (idxs (oC o) out 0) (by omega) ?_ ?_ n (by omega)
 ·rw[this,XA,XR];cases decide (0≤eX (fun q=>decide (q=(⟨o.kind,o.name,o.num,y⟩:aD))) out)<;>rfl
 ·intro self i z r hd hi e1 e2 e3 ih;obtain⟨j,q,h1,h2,h3⟩:=Nd (bO hd);rw[Nat.zero_add]at h1;subst h1;have hq:gI out (j:Int)=some q:=by rw[bK];exact h2
  have hqk:(⟨q.kind,q.name,q.num⟩:aV)=⟨o.kind,o.name,o.num⟩:=h3
  simp only[fH,e2,az,e1,au,hq,bP hqk,e3,DV hn (show q.args.length≤100 by have:=hL q (fU h2);omega),dp,bg,hk];rw[List.find?_cons,hq];have he:decide (some q=some (⟨o.kind,o.name,o.num,y⟩:aD))=decide (q.args=y):=by
   obtain⟨qk,qn,qz,qa⟩:=q;simp at hqk ⊢;obtain⟨rfl,rfl,rfl⟩:=hqk;simp
  rw[he];cases decide (q.args=y)with
  |true=>rfl
  |false=>exact ih
 ·intro self e;simp only[fH,e,aC];exact Ej _
end
end Ab
namespace Ab
open Go
set_option maxRecDepth 10000
def akW(out:List aD):Prop:= ∀q∈out,q.args.length≤50
section
variable{n:Nat}(hn:100<n)
 include hn
theorem OL{x:ag}(hx:fg x)(k:List aD×List Int×List (aV×List Int)×Int→Option (ai×Int))(R:Option (ai×Int))(hk: ∀m,k ((iu x.ops ([],[])).1,(iu x.ops ([],[])).2,m,(x.ops.length:Int))=R):
  iter (iA ak .ak n (aw x.ops) x k) n ([],[],[],0)=R:=by
 have hlen:=hx.len
 refine aT (body:=iA ak .ak n (aw x.ops) x k) (mk:=fun(a:(List aD×List Int)×List (aV×List Int)) i=>(a.1.1,a.1.2,a.2,(i:Int))) (fun _ _ _=>R)
  (fun a i=>a.1.2.length=i∧a.1.1.length≤i∧apx a.2 a.1.1∧akW a.1.1∧iu (x.ops.drop i) a.1=iu x.ops ([],[])) x.ops (by omega) ?_ ?_ n (by omega) (([],[]),[]) ⟨rfl,Nat.le_refl _,fun κ=>rfl,fun q hq=>by simp at hq,rfl⟩
 ·rintro self ⟨⟨out,sl⟩,met⟩ i o r ⟨Hq,sU,hm,Aj,hS⟩ hd hi e1 e2 e3 ih
  have ho:x.ops[i]? =some o:=by rw[←bK];exact e1
  have yZ:o∈x.ops:=fU ho
  dsimp only at Hq sU hm Aj hS;have cI: ∀a∈o.args,0≤a∧a<sl.length:=fun a ha=>by have:=hx.args i o ho a ha;omega
  have Tx:=hx.ar o yZ
  have mI:x.ops.drop (i+1)=r:=by rw[←List.drop_drop,hd];rfl
  rw[hd]at hS;have hS:iu r (bif decide (0≤eX (fun q=>decide (q=dk sl o)) out)then(out,sl++[eX (fun q=>decide (q=dk sl o)) out])else(out++[dk sl o],sl++[(out.length:Int)]))=iu x.ops ([],[]):=hS
  have nM:=C9 (y:=aO sl o.args) (l:=out) (k:=o.kind) (z:=o.num) (nm:=o.name) (by rw[eP];omega) (by omega)
  simp only[au]at nM;have aom:kO (Md.ak.ln (List.replicate (aO sl o.args).length (0:Int))) (aO sl o.args) (List.replicate (aO sl o.args).length 0)=aO sl o.args:=G4 (by simp)
  have hmk:vZ 8 (aw (aO sl o.args)) (0:Int)=some (List.replicate (aO sl o.args).length 0):=so (by omega) (by rw[eP];omega)
  have hw: ∀q:aD,ak.wrap .i64 (ak.sub (aw (out++[q])) 1)=(out.length:Int):=fun q=>by
   show IntKind.wrap .i64 (((out++[q]).length:Int) - 1)=_;rw[List.length_append,List.length_singleton,show(((out.length+1:Nat):Int) - 1)=(out.length:Int)by omega,AK (by omega)]
  obtain⟨l',ix,xV,xc⟩:=ab6 (l:=met) (k:=oC o);obtain⟨ah8,aem,anQ⟩:=xc (lA met (oC o) []++[(out.length:Int)]);have gC:=hm (oC o)
  have hil:=Gs (oC o) out 0
  have xU:((bif ak.aS (aw (aO sl o.args)) 0 then
     (aP 56 out (⟨o.kind,o.name,o.num,[]⟩:aD)).bind fun PN=>
      (match NC met (⟨o.kind,o.name,o.num⟩:aV)with|(Ro,k51,l52)=>(aP 8 l52 (ak.wrap .i64 (ak.sub (aw PN) 1))).bind fun IJ=>(JU Ro k51 IJ).bind fun Ud=>(aP 8 sl (ak.wrap .i64 (ak.sub (aw PN) 1))).bind fun PL=>some (Ud,PN,PL))
    else
     (ei (Md.ak.ln (List.replicate (aO sl o.args).length (0:Int))) (aO sl o.args)).bind fun u57=>
      (aP 56 out (⟨o.kind,o.name,o.num,aO sl o.args⟩:aD)).bind fun l58=>
      (match NC met (⟨o.kind,o.name,o.num⟩:aV)with|(l61,k62,l63)=>(aP 8 l63 (ak.wrap .i64 (ak.sub (aw l58) 1))).bind fun Tb=>(JU l61 k62 Tb).bind fun N1=>(aP 8 sl (ak.wrap .i64 (ak.sub (aw l58) 1))).bind fun l67=>some (N1,l58,l67))):Option (List (aV×List Int)×List aD×List Int))
    =some (ah8,out++[dk sl o],sl++[(out.length:Int)]):=by
   have hk0:(⟨o.kind,o.name,o.num⟩:aV)=oC o:=rfl
   rw[hk0,xV];have P5:(lA met (oC o) []).length≤70:=by rw[gC];omega
   by_cases h0:aO sl o.args=[]
   ·have:ak.aS (aw (aO sl o.args)) 0=true:=by rw[h0];rfl
    rw[this,az,aN (by omega) (by omega),au];dsimp only;rw[hw,aN (by omega) (by omega),au,aem,au,aN (by omega) (by omega),au,dk,h0]
   ·have:ak.aS (aw (aO sl o.args)) 0=false:=by
     show decide (((aO sl o.args).length:Int)=0)=false;have:(aO sl o.args).length≠0:=fun h=>h0 (List.eq_nil_of_length_eq_zero h)
     exact bI (by omega)
    rw[this,aC,eW (by simp[Md.ak]),au,aN (by omega) (by omega),au];dsimp only;rw[hw,aN (by omega) (by omega),au,aem,au,aN (by omega) (by omega),au,dk]
  simp only[iA,e2,az,e1,au,rY hn cI Tx];have abF:lA met (⟨o.kind,o.name,o.num⟩:aV) []=idxs (oC o) out 0:=gC
  simp only[abF];rw[Sq hn Aj (by omega) _ _ (fun j=>some (met,out,sl++[j])) (some (ah8,out++[dk sl o],sl++[(out.length:Int)])) (fun z j=>by
   dsimp only;rw[aN (by omega) (by omega),au]) (fun z=>by
   rw[hmk,au,aom];exact xU)]
  have hy:dk sl o=⟨o.kind,o.name,o.num,aO sl o.args⟩:=rfl
  rw[←hy];cases hJ:decide (0≤eX (fun q=>decide (q=dk sl o)) out)with
  |true=>
   rw[hJ]at hS;simp only[az,au];rw[e3];exact ih ((out,sl++[eX (fun q=>decide (q=dk sl o)) out]),met) ⟨by simp[Hq],by dsimp only;omega,hm,Aj,by rw[mI];exact hS⟩
  |false=>
   rw[hJ]at hS;simp only[aC,au];rw[e3];refine ih ((out++[dk sl o],sl++[(out.length:Int)]),ah8) ⟨by simp[Hq],by simp;omega,fun κ=>?_,fun q hq=>?_,by rw[mI];exact hS⟩
   ·dsimp only;rw[anQ,Nf,Nat.zero_add];have hkn:oC (dk sl o)=oC o:=rfl
    rw[hkn];by_cases hκ:κ=oC o
    ·subst hκ;rw[if_pos rfl,bP rfl,az,gC]
    ·rw[if_neg hκ,bI (Ne.symm hκ),aC,List.append_nil];exact hm κ
   ·rcases List.mem_append.1 hq with hq|hq
    ·exact Aj q hq
    ·rw[List.mem_singleton.1 hq];show(aO sl o.args).length≤50;rw[eP];exact Tx
 ·rintro self ⟨⟨out,sl⟩,met⟩ ⟨Hq,sU,hm,Aj,hS⟩ e
  dsimp only at hS;rw[List.drop_length]at hS;simp only[iA,e,aC];have:=hk met
  rw[←hS]at this;exact this
theorem J1{o q:aD}(hl:o.args.length≤50):vN ak .ak n o q=some (decide (o=q)):=by
 unfold vN;simp only[au,bg,eE,bQ,jx,bU];rw[F7];by_cases Ui:o.args.length=q.args.length
 ·have h1:decide (aw o.args=aw q.args)=true:=bP (by show(o.args.length:Int)=q.args.length;omega)
  rw[jJ (fun x y=>decide (x=y)) Ui (some true) (by omega) ?_ ?_ (by omega),pY,h1]
  ·cases decide (o.kind=q.kind)<;>cases decide (o.name=q.name)<;>cases decide (o.num=q.num)<;>cases decide (o.args=q.args)<;>rfl
  ·intro Dv j a b f1 f2 _ _ f3 f4;simp only[ru,au,f3,az,f1,f2,bQ,bU,f4];cases decide (a=b)<;>rfl
  ·intro Dv f;simp only[ru,au,f,aC]
 ·have h1:decide (aw o.args=aw q.args)=false:=bI (by show¬(o.args.length:Int)=q.args.length;omega)
  rw[h1,v7 Ui];simp
theorem OK{out:List aD}{y:aD}(hL:akW out)(ho:out.length≤70)(k:Int×Int→Option ag)(K:Int→Option ag)(hk: ∀z j,k (z,j)=K z):
  iter (ct ak .ak n out y k) n (-1,0)=K (eX (fun q=>decide (q=y)) out):=by
 have key: ∀(r:List aD) (m i:Nat) (z:Int),out.drop i=r→i≤out.length→r.length+1<m→(z= -1→iter (ct ak .ak n out y k) m (z,(i:Int))=K (match r.findIdx? (fun q=>decide (q=y))with|some j=>((i+j:Nat):Int)|none=> -1))∧(0≤z→iter (ct ak .ak n out y k) m (z,(i:Int))=K z):=by
  intro r
  induction r with
  |nil=>
   intro m i z hd hi hm;obtain⟨m,rfl⟩: ∃m',m=m'+1:=⟨m - 1,by omega⟩;have P7:out.length≤i:=by simpa using hd
   have h1:ak.bf (i:Int) (aw out)=false:=bI (by show¬(i:Int)<out.length;omega)
   have hit:iter (ct ak .ak n out y k) (m+1) (z,(i:Int))=K z:=by
    show ct ak .ak n out y k _ (z,(i:Int))=_;simp only[ct,au,h1,bg,aC,hk]
   exact⟨fun h=>by rw[hit,h];rfl,fun _=>hit⟩
  |cons q r ih=>
   intro m i z hd hi hm;obtain⟨m,rfl⟩: ∃m',m=m'+1:=⟨m - 1,by omega⟩;have bc:i<out.length:=(bq.1 (mB hd)).1
   have h1:ak.bf (i:Int) (aw out)=true:=bP (by show(i:Int)<out.length;omega)
   have mI:out.drop (i+1)=r:=by rw[←List.drop_drop,hd];rfl
   have hw:ak.wrap .i64 (ak.add (i:Int) 1)=((i+1:Nat):Int):=by show IntKind.wrap .i64 ((i:Int)+1)=_;rw[yu (by omega)]
   constructor
   ·rintro rfl
    show ct ak .ak n out y k _ (-1,(i:Int))=_;have h2:ak.bf (-1) 0=true:=rfl
    simp only[ct,au,h1,h2,bg,az,eM hd,J1 hn (hL q (bO hd)),hw];rw[List.findIdx?_cons];cases hq:decide (q=y)with
    |true=>
     rw[az];refine((ih m (i+1) (i:Int) mI bc (by simp at hm;omega)).2 (by omega)).trans ?_;simp
    |false=>
     rw[aC];refine((ih m (i+1) (-1) mI bc (by simp at hm;omega)).1 rfl).trans ?_;cases r.findIdx? (fun q=>decide (q=y))with
     |none=>rfl
     |some j=>simp;congr 1;omega
   ·intro hz;show ct ak .ak n out y k _ (z,(i:Int))=_;have h2:ak.bf z 0=false:=bI (by omega)
    simp only[ct,au,h1,h2,bg,az,aC,hk]
 have:=(key out n 0 (-1) rfl (Nat.zero_le _) (by omega)).1 rfl
 refine this.trans ?_;unfold eX;cases out.findIdx? (fun q=>decide (q=y))<;>simp
end
end Ab
namespace Ab
open Go
set_option maxRecDepth 10000
section
variable{n:Nat}(hn:100<n)
 include hn
theorem JT{x:ag}(hx:fg x):rq ak .ak n x=some (lE x):=by
 have hlen:=hx.len
 have fO:=hx.res
 unfold rq;have Nj:vZ 8 (aw x.ops) (0:Int)=some (List.replicate x.ops.length 0):=so (by omega) (by omega)
 rw[au,Nj,au];have jg:Md.ak.ln (List.replicate x.ops.length (0:Int))=x.ops.length:=by simp[Md.ak]
 have:=aT (body:=ko ak .ak n x (List.replicate x.ops.length 0) fun(HI,KE,z27)=>
   (gN (Md.ak.ln (List.replicate x.ops.length (0:Int))) x.result).bind fun k28=>(gK HI k28).bind fun rF=>some (⟨x.head,x.aM,KE,rF⟩:ag)) (mk:=fun(a:List aD×List Int) i=>(a.2++List.replicate (x.ops.length - i) (0:Int),a.1,(i:Int)))
   (fun a r i=>some ⟨x.head,x.aM,(iu r a).1,(iu r a).2.getD x.result.toNat 0⟩) (fun a i=>a.2.length=i∧a.1.length≤i∧akW a.1) x.ops (by omega) ?_ ?_ n (by omega) ([],[]) ⟨rfl,Nat.le_refl _,fun q hq=>by simp at hq⟩
 ·simpa[lE]using this
 ·rintro self ⟨out,sl⟩ i o r ⟨Hq,sU,Aj⟩ hd hi e1 e2 e3 ih
  have ho:x.ops[i]? =some o:=by rw[←bK];exact e1
  have hm:o∈x.ops:=fU ho
  have Tx:=hx.ar o hm
  dsimp only at Hq sU Aj;have hsp:List.replicate (x.ops.length - i) (0:Int)=0::List.replicate (x.ops.length - (i+1)) 0:=by
   rw[show x.ops.length - i=(x.ops.length - (i+1))+1 by omega,List.replicate_succ]
  have hL:(sl++List.replicate (x.ops.length - i) (0:Int)).length=x.ops.length:=by simp;omega
  have xc: ∀v:Int,gD (sl++List.replicate (x.ops.length - i) (0:Int)) i v=some ((sl++[v])++List.replicate (x.ops.length - (i+1)) 0):=fun v=>by
   rw[mF (by omega),hsp,List.set_append_right _ _ (by omega),Hq];simp
  have HK:aO (sl++List.replicate (x.ops.length - i) 0) o.args=aO sl o.args:=by
   unfold aO;apply List.map_congr_left;intro a ha;have:=hx.args i o ho a ha
   simp only[List.getD_eq_getElem?_getD];rw[gg (by omega)]
  have KT:ep ak .ak n o (sl++List.replicate (x.ops.length - i) 0)=some (dk sl o):=by
   rw[yE hn (fun a ha=>by have:=hx.args i o ho a ha;omega) Tx,HK];rfl
  simp only[ko,au,e2,az,e1,jg,eW hL.symm,KT];rw[OK hn Aj (by omega) _ (fun J=>bif ak.bf J 0 then self ((sl++[(out.length:Int)])++List.replicate (x.ops.length - (i+1)) 0,out++[dk sl o],((i+1:Nat):Int))else self ((sl++[J])++List.replicate (x.ops.length - (i+1)) 0,out,((i+1:Nat):Int)))
   (fun z j=>by
    dsimp only;rw[aN (by omega) (by omega),iI hi];simp only[au];rw[Nt (by omega)];simp only[au];have hz:aw out=(out.length:Int):=rfl
    rw[xc,xc,hz];simp only[au];rw[e3])]
  have hil:=KQ (fun q=>decide (q=dk sl o)) out
  have aiP:iu (o::r) (out,sl)=iu r (bif decide (0≤eX (fun q=>decide (q=dk sl o)) out)then(out,sl++[eX (fun q=>decide (q=dk sl o)) out])else(out++[dk sl o],sl++[(out.length:Int)])):=rfl
  rw[aiP];generalize eX (fun q=>decide (q=dk sl o)) out=J at hil;by_cases hJ:0≤J
  ·have:ak.bf J 0=false:=bI (by omega)
   rw[this,aC,bP hJ,az];exact ih (out,sl++[J]) ⟨by simp[Hq],by dsimp only;omega,Aj⟩
  ·have:ak.bf J 0=true:=bP (by omega)
   rw[this,az,bI hJ,aC];refine ih (out++[dk sl o],sl++[(out.length:Int)]) ⟨by simp[Hq],by simp;omega,fun q hq=>?_⟩;rcases List.mem_append.1 hq with hq|hq
   ·exact Aj q hq
   ·rw[List.mem_singleton.1 hq];show(aO sl o.args).length≤50;rw[eP];exact Tx
 ·rintro self ⟨out,sl⟩ ⟨Hq,_⟩ e
  dsimp only at Hq;simp only[ko,au,e,aC,jg,zA fO.1 fO.2,iu,Nat.sub_self,List.replicate_zero,List.append_nil];rw[Nt (by omega),au];congr 2;rw[List.getD_eq_getElem?_getD,eH (by omega)];rfl
theorem Sr{c:ai}(hc:qI c)(h0:bh c=0)(hg:pn c){i:Nat}{b:aj}{rb:List aj}(hb:c.af.drop i=b::rb){l9:List aj}(Gz:l9.length=c.af.length)(k:List aj×Int→Option (ai×Int))(R:Option (ai×Int))
  (hk:k (cA lE c.af (i+1) 0,(b.ae.length:Int))=R):iter (iB ak .ak n l9 (aw b.ae) b (i:Int) k) n (cA lE c.af i 0,0)=R:=by
 have lT:=bO hb
 have XI:=hc.br b lT
 have hi:i<c.af.length:=(bq.1 (mB hb)).1
 refine aT (body:=iB ak .ak n l9 (aw b.ae) b (i:Int) k) (mk:=fun(a:List aj) j=>(a,(j:Int))) (fun _ _ _=>R) (fun a j=>a=cA lE c.af i j) b.ae (by omega) ?_ ?_ n (by omega) _ rfl
 ·rintro self L j x r hp hd hj e1 e2 e3 ih
  subst hp;have hx:=hg.x hc lT (bO hd)
  have fO:=hx.res
  have TB: ∀{a b:Int},gK [a,b] 0=some a:=rfl
  have hg1: ∀{a b:Int},gK [a,b] 1=some b:=rfl
  have jg:Md.ak.ln l9=c.af.length:=Gz
  have Gy:=FF x.ops ([],[])
  have hr:gI (iu x.ops ([],[])).2 x.result=some ((iu x.ops ([],[])).2.getD x.result.toNat 0):=il fO.1 (by rw[Gy];simpa using fO.2)
  simp only[iB,e2,az,e1,au,show fe 2 (List.replicate 2 (0:Int))=some ()from rfl,show∀a b:Int,fe 2 [a,b]=some ()from fun _ _=>rfl];refine OL hn hx _ R fun m=>?_;simp only[show gN 2 0=some 0 from rfl,TB,hr,au,jg,iI hi,pF hb];rw[aN (by omega) (by simp;omega),au];have:=pE (F:=lE) hb hd
  unfold lE at this ⊢;rw[this,au,e3];exact ih _ rfl
 ·rintro self L hp e
  subst hp;simp only[iB,e,aC];rw[nE hb];exact hk
theorem Ss{c:ai}(hc:qI c)(h0:bh c=0)(hg:pn c){l9:List aj}(Gz:l9.length=c.af.length)(k:List aj×Int→Option (ai×Int))(R:Option (ai×Int))
  (hk:k (c.af.map (c6 lE),(c.af.length:Int))=R):iter (iC ak .ak n c l9 (aw c.af) k) n (c.af.map bare,0)=R:=by
 have AE:=hc.bl
 refine(aT (body:=iC ak .ak n c l9 (aw c.af) k) (mk:=fun(a:List aj) j=>(a,(j:Int))) (fun _ _ _=>R) (fun a j=>a=cA lE c.af j 0) c.af (by omega) ?_ ?_ n (by omega) _ vB.symm)
 ·rintro self L i b r hp hd hi e1 e2 e3 ih
  subst hp;simp only[iC,e2,az,e1,au];refine Sr hn hc h0 hg hd Gz _ R ?_;dsimp only;rw[e3];exact ih _ rfl
 ·rintro self L hp e
  subst hp;simp only[iC,e,aC];rw[pG];exact hk
theorem Su{c:ai}(AE:c.af.length≤16)(k:List aj×Int→Option (ai×Int)){b:aj}{r:List aj}(hb:c.af=b::r):iter (iD ak .ak n c (aw c.af) k) n ([bare b],1)=k (c.af.map bare,(c.af.length:Int)):=by
 have:=rK (body:=iD ak .ak n c (aw c.af) k) (mk:=fun(a:List aj) j=>(a,(j:Int))) (fun a r _=>k (a++r.map bare,(c.af.length:Int))) (fun a i=>a.length=i) c.af (by omega) ?_ ?_ n 1 (by rw[hb];simp) (by omega) [bare b] rfl
 ·refine this.trans ?_;rw[hb];rfl
 ·intro self l i x r hp hd hi e1 e2 e3 ih;simp only[iD,e2,az,e1,au];rw[aN (by omega) (by omega),au,e3,ih _ (by simp[hp])];simp[bare]
 ·intro self l hp e;simp only[iD,e,aC];simp
theorem YD{c:ai}(hc:qI c):rB ak .ak n c=some (bif decide (bh c=0)then(⟨c.af.map (c6 lE)⟩,0)else(⟨[]⟩,bh c)):=by
 unfold rB;rw[qG hn hc,au,bQ,bU];by_cases h0:bh c=0
 ·have hg:=gW h0
  have AE:=hc.bl
  obtain⟨b,r,hb⟩: ∃b r,c.af=b::r:=by
   cases h:c.af with
   |nil=>have:=hg.some.1;rw[h]at this;simp at this
   |cons b r=>exact⟨b,r,rfl⟩
  rw[bP h0,Bool.not_true,aC,az,au];have h1:ak.bf 0 (aw c.af)=true:=by show decide ((0:Int)<c.af.length)=true;rw[hb];simp
  have h2:gI c.af 0=some b:=by rw[hb];rfl
  have hw:ak.wrap .i64 (ak.add 0 1)=1:=by show IntKind.wrap .i64 1=1;rw[bL (by omega)]
  rw[h1,az,h2,au,aN (by omega) (by simp),au,hw];refine(Su hn AE _ hb).trans ?_;dsimp only;rw[au];refine Ss hn hc h0 hg (by simp) _ _ ?_;dsimp only;rw[eW (by simp[Md.ak]),au]
 ·rw[bI h0,Bool.not_false,az,aC]
theorem Kn{c:ai}(hc:qI c)(h0:bh c=0):ea ak .ak n c 2=some ⟨c.af.map (c6 lE)⟩:=by
 have hg:=gW h0
 refine A3 hn hc fun i b rb hb k self l j x hl hx e1 e2 e3=>?_;have lT:=bO hb
 simp only[dh,eM hb,au,e2,az,e1,show ak.aS 2 1=false from rfl,show ak.aS 2 2=true from rfl,aC,JT hn (hg.x hc lT hx)];rw[aN (by omega) (by omega),au,e3]
end
end Ab
namespace Ab
open Go
set_option maxRecDepth 10000
inductive Dd(x:ag):Nat→Prop where
 |call {i:Nat} {o:aD} {a:Int} (ho:x.ops[i]? =some o) (hc:ba o=true) (ha:a∈o.args):Dd x a.toNat
 |node {i:Nat} {o:aD} {a:Int} (hi:Dd x i) (ho:x.ops[i]? =some o) (hk:o.kind=3) (ha:a∈o.args):Dd x a.toNat
inductive Reach(x:ag)(s:Nat):Nat→Prop where
 |refl:Reach x s s
 |node {i:Nat} {o:aD} {a:Int} (hi:Reach x s i) (ho:x.ops[i]? =some o) (hk:o.kind=3) (ha:a∈o.args):Reach x s a.toNat
theorem Reach.zW{x:ag}{s j:Nat}(h:Reach x s j)(hs:Dd x s):Dd x j:=by
 induction h with
 |refl=>exact hs
 |node _ ho hk ha ih=>exact .node ih ho hk ha
theorem Reach.step{x:ag}{s j:Nat}{o:aD}{a:Int}(ho:x.ops[s]? =some o)(hk:o.kind=3)(ha:a∈o.args)(h:Reach x a.toNat j):Reach x s j:=by
 induction h with
 |refl=>exact .node .refl ho hk ha
 |node _ lf kR ha' ih=>exact .node ih lf kR ha'
abbrev On(l:List Bool)(j:Nat):Prop:=l.getD j false=true
def yo(x:ag)(l:List Bool)(j:Nat):Prop:= ∀o,x.ops[j]? =some o→o.kind=3→ ∀a∈o.args,On l a.toNat
theorem yo.mono{x:ag}{l l':List Bool}{j:Nat}(h:yo x l j)(hl: ∀j,On l j→On l' j):yo x l' j:=fun o ho hk a ha=>hl _ (h o ho hk a ha)
theorem vX{l:List Bool}{i j:Nat}(hi:i<l.length):On (l.set i true) j↔i=j∨On l j:=by
 unfold On;rw[dr];by_cases h:i=j
 ·subst h;rw[if_pos ⟨rfl,hi⟩];exact⟨fun _=> .inl rfl,fun _=>rfl⟩
 ·rw[if_neg (fun hh=>h hh.1)];exact⟨.inr,fun hh=>hh.resolve_left h⟩
section
variable{α R S A:Type}
theorem Gq{body:(S→Option R)→S→Option R}(mk:A→Nat→S)(P:A→Nat→Prop)(l:List α)(hl:l.length≤9223372036854775806)
  (h1: ∀(self:S→Option R) (a:A) (i:Nat) (x:α),P a i→i<l.length→gI l (i:Int)=some x→x∈l→ak.bf (i:Int) (aw l)=true→ak.wrap .i64 (ak.add (i:Int) 1)=((i+1:Nat):Int)→
   ∃a',P a' (i+1)∧body self (mk a i)=self (mk a' (i+1)))
  (n:Nat)(hn:l.length<n)(a:A)(ha:P a 0): ∃a' m,P a' l.length∧ak.bf (l.length:Int) (aw l)=false∧iter body n (mk a 0)=body (iter body m) (mk a' l.length):=by
 have key: ∀(d i n:Nat) (a:A),P a i→i+d=l.length→d<n→ ∃a' m,P a' l.length∧iter body n (mk a i)=body (iter body m) (mk a' l.length):=by
  intro d
  induction d with
  |zero=>
   intro i n a hp hd hn;obtain⟨m,rfl⟩: ∃m,n=m+1:=⟨n - 1,by omega⟩;have:i=l.length:=by omega
   subst this;exact⟨a,m,hp,rfl⟩
  |succ d ih=>
   intro i n a hp hd hn;obtain⟨m,rfl⟩: ∃m,n=m+1:=⟨n - 1,by omega⟩;have bc:i<l.length:=by omega
   obtain⟨a',Xs,hb⟩:=h1 (iter body m) a i l[i] hp bc (by rw[bK];exact eH bc) (List.getElem_mem bc) (by show decide ((i:Int)<l.length)=true;simp;omega) (by show IntKind.wrap .i64 ((i:Int)+1)=_;rw[yu (by omega)]);obtain⟨a2,m2,h2,h3⟩:=ih (i+1) m a' Xs (by omega) (by omega);exact⟨a2,m2,h2,hb.trans h3⟩
 obtain⟨a',m,h2,h3⟩:=key l.length 0 n a ha (by omega) hn;exact⟨a',m,h2,by show decide ((l.length:Int)<l.length)=false;simp,h3⟩
end
section
variable{n:Nat}(hn:100<n)
 include hn
theorem Rg{x:ag}(hx:fg x): ∀(k:Nat) (l:List Bool) (s:Int),l.length=x.ops.length→0≤s→s<x.ops.length→s.toNat<k→
  ∃l',zW ak .ak n x x.ops.length k l s=some l'∧l'.length=x.ops.length∧(∀j,On l j→On l' j)∧On l' s.toNat∧(∀j,On l' j→On l j∨Reach x s.toNat j)∧ ∀j,On l' j→ ¬On l j→yo x l' j
 |0,l,s,_,_,_,h=>absurd h (Nat.not_lt_zero _)
 |k+1,l,s,hl,h0,h1,hk=>by
  have hs:s.toNat<l.length:=by omega
  have hg:gI x.ops s=some (x.ops[s.toNat]'(by omega)):=RE h0 (by omega)
  have ho:x.ops[s.toNat]? =some (x.ops[s.toNat]'(by omega)):=eH _
  generalize x.ops[s.toNat]'(by omega)=o at hg ho;have hm:o∈x.ops:=fU ho
  have Aj:=hx.ar o hm
  unfold zW;simp only[zA h0 h1,au,El hn hs];cases hu:l.getD s.toNat false with
  |true=>
   exact⟨l,rfl,hl,fun j h=>h,hu,fun j h=> .inl h,fun j h1 h2=>absurd h1 h2⟩
  |false=>
   have hL:(l.set s.toNat true).length=x.ops.length:=by simpa using hl
   simp only[aC,mF hs,au,hg,bU];by_cases h3:o.kind=3
   ·simp only[bP h3,az];obtain⟨l',m,hp,e,hit⟩:=Gq (S:=List Bool×Int) (R:=List Bool) (mk:=fun(l:List Bool) i=>(l,(i:Int)))
     (body:=fun(self:List Bool×Int→Option (List Bool)) st=>match st with
      |(l6,z7)=>bif (ak.bf z7 (aw o.args))then(gI o.args z7).bind fun x8=>(zW ak .ak n x x.ops.length k l6 x8).bind fun l9=>self (l9,(ak.wrap .i64 (ak.add z7 1)))else some l6)
     (P:=fun l' i=>l'.length=x.ops.length∧(∀j,On (l.set s.toNat true) j→On l' j)∧(∀j,On l' j→On (l.set s.toNat true) j∨Reach x s.toNat j)∧(∀j,On l' j→ ¬On (l.set s.toNat true) j→yo x l' j)∧ ∀q a,q<i→o.args[q]? =some a→On l' a.toNat)
     o.args (by omega) (by
      rintro self l2 i a ⟨p1,p2,p3,p4,p5⟩ hi e1 yZ e2 e3
      have ha:=hx.args _ o ho a yZ
      obtain⟨l3,q0,q1,q2,q3,q4,q5⟩:=Rg hx k l2 a p1 ha.1 (by omega) (by omega);refine⟨l3,⟨q1,fun j hj=>q2 j (p2 j hj),fun j hj=>?_,fun j hj HL=>?_,fun q b hq hb=>?_⟩,?_⟩
      ·rcases q4 j hj with h|h
       ·exact p3 j h
       ·exact .inr (h.step ho h3 yZ)
      ·by_cases h2:On l2 j
       ·exact(p4 j h2 HL).mono q2
       ·exact q5 j hj h2
      ·by_cases hqi:q=i
       ·subst hqi;rw[bK,hb]at e1;cases e1;exact q3
       ·exact q2 _ (p5 q b (by omega) hb)
      ·simp only[e2,az,e1,au,q0,e3]) n (by omega) (l.set s.toNat true) ⟨hL,fun j h=>h,fun j h=> .inl h,fun j h1 h2=>absurd h1 h2,fun q a hq=>absurd hq (Nat.not_lt_zero _)⟩
    obtain⟨p1,p2,p3,p4,p5⟩:=hp;refine⟨l',?_,p1,fun j hj=>p2 j ((vX hs).2 (.inr hj)),p2 _ ((vX hs).2 (.inl rfl)),fun j hj=>?_,fun j hj HL=>?_⟩
    ·refine hit.trans ?_;simp only[e,aC]
    ·rcases p3 j hj with h|h
     ·rcases(vX hs).1 h with h|h
      ·subst h;exact .inr .refl
      ·exact .inl h
     ·exact .inr h
    ·by_cases hj2:On (l.set s.toNat true) j
     ·rcases(vX hs).1 hj2 with h|h
      ·subst h;intro o' lf _ a ha;rw[ho]at lf;cases lf;obtain⟨q,hq⟩:=List.getElem?_of_mem ha;exact p5 q a (bq.1 hq).1 hq
      ·exact absurd h HL
     ·exact p4 j hj hj2
   ·simp only[bI h3,aC];refine⟨_,rfl,hL,fun j hj=>(vX hs).2 (.inr hj),(vX hs).2 (.inl rfl),fun j hj=>?_,fun j hj HL=>?_⟩
    ·rcases(vX hs).1 hj with h|h
     ·subst h;exact .inr .refl
     ·exact .inl h
    ·rcases(vX hs).1 hj with h|h
     ·subst h;intro o' lf kR;rw[ho]at lf;cases lf;exact absurd kR h3
     ·exact absurd h HL
theorem EY(o:aD):gH ak .ak n o=some (ba o):=have _:=hn;by
 unfold gH ba;simp only[bg,bU,eE]
theorem UG{x:ag}(hx:fg x): ∃l,oe ak .ak n x=some l∧l.length=x.ops.length∧ ∀j,On l j↔Dd x j:=by
 have hlen:=hx.len
 unfold oe;have Nj:vZ 1 (aw x.ops) false=some (List.replicate x.ops.length false):=so (by omega) (by omega)
 rw[au,Nj,au];have jg:Md.ak.ln (List.replicate x.ops.length false)=x.ops.length:=by simp[Md.ak]
 have xT: ∀j,¬On (List.replicate x.ops.length false) j:=fun j h=>by
  unfold On at h;rw[List.getD_eq_getElem?_getD,List.getElem?_replicate]at h
  split at h<;>simp at h
 obtain⟨l',m,⟨p1,p2,p3,p4⟩,e,hit⟩:=Gq (S:=List Bool×Int) (R:=List Bool) (mk:=fun(l:List Bool) i=>(l,(i:Int)))
  (body:=kA ak .ak n x (List.replicate x.ops.length false) (aw x.ops) fun(Rp,wX)=>(ei (Md.ak.ln (List.replicate x.ops.length false)) Rp).bind fun u16=>some Rp)
  (P:=fun l i=>l.length=x.ops.length∧(∀j,On l j→Dd x j)∧(∀j,On l j→yo x l j)∧ ∀q o,q<i→x.ops[q]? =some o→ba o=true→ ∀a∈o.args,On l a.toNat)
  x.ops (by omega) (by
   rintro self l i o ⟨p1,p2,p3,p4⟩ hi e1 hm e2 e3
   have ho:x.ops[i]? =some o:=by rw[←bK];exact e1
   have Aj:=hx.ar o hm
   simp only[kA,e2,az,e1,au,EY hn,jg];cases hc:ba o with
   |false=>
    refine⟨l,⟨p1,p2,p3,fun q o' hq lf Qa=>?_⟩,by simp only[aC,e3]⟩;by_cases hqi:q=i
    ·subst hqi;rw[ho]at lf;cases lf;rw[hc]at Qa;cases Qa
    ·exact p4 q o' (by omega) lf Qa
   |true=>
    simp only[az];obtain⟨l2,m2,⟨q1,q2,q3,q4,q5⟩,f,aue⟩:=Gq (S:=List Bool×Int) (R:=List Bool) (mk:=fun(l:List Bool) i=>(l,(i:Int)))
     (body:=ky ak .ak n x (List.replicate x.ops.length false) (aw o.args) o fun(ia,pa)=>self (ia,(ak.wrap .i64 (ak.add (i:Int) 1))))
     (P:=fun l2 j=>l2.length=x.ops.length∧(∀j,On l2 j→Dd x j)∧(∀j,On l2 j→yo x l2 j)∧(∀j,On l j→On l2 j)∧ ∀q a,q<j→o.args[q]? =some a→On l2 a.toNat)
     o.args (by omega) (by
      rintro Dv l2 j a ⟨q1,q2,q3,q4,q5⟩ hj f1 yZ f2 f3
      have ha:=hx.args i o ho a yZ
      obtain⟨l3,r0,r1,r2,r3,r4,r5⟩:=Rg hn hx n l2 a q1 ha.1 (by omega) (by omega);refine⟨l3,⟨r1,fun j' hj'=>?_,fun j' hj'=>?_,fun j' hj'=>r2 _ (q4 j' hj'),fun q b hq hb=>?_⟩,?_⟩
      ·rcases r4 j' hj' with h|h
       ·exact q2 j' h
       ·exact h.zW (.call ho hc yZ)
      ·by_cases h2:On l2 j'
       ·exact(q3 j' h2).mono r2
       ·exact r5 j' hj' h2
      ·by_cases hqj:q=j
       ·subst hqj;rw[bK,hb]at f1;cases f1;exact r3
       ·exact r2 _ (q5 q b (by omega) hb)
      ·simp only[ky,f2,az,f1,au,jg,r0,f3]) n (by omega) l ⟨p1,p2,p3,fun j h=>h,fun q a hq=>absurd hq (Nat.not_lt_zero _)⟩
    refine⟨l2,⟨q1,q2,q3,fun q o' hq lf Qa a ha=>?_⟩,?_⟩
    ·by_cases hqi:q=i
     ·subst hqi;rw[ho]at lf;cases lf;obtain⟨q',xd⟩:=List.getElem?_of_mem ha;exact q5 q' a (bq.1 xd).1 xd
     ·exact q4 _ (p4 q o' (by omega) lf Qa a ha)
    ·refine aue.trans ?_;simp only[ky,f,aC,e3]) n (by omega) (List.replicate x.ops.length false) ⟨by simp,fun j h=>absurd h (xT j),fun j h=>absurd h (xT j),fun q o hq=>absurd hq (Nat.not_lt_zero _)⟩
 refine⟨l',hit.trans ?_,p1,fun j=>⟨p2 j,fun h=>?_⟩⟩
 ·simp only[kA,e,aC,jg];rw[eW p1.symm];rfl
 ·induction h with
  |call ho hc ha=>exact p4 _ _ (bq.1 ho).1 ho hc _ ha
  |node _ ho hk ha ih=>exact p3 _ ih _ ho hk _ ha
end
end Ab
namespace Ab
open Go
set_option maxRecDepth 10000
def mq(l:List Bool)(i:Nat)(o:aD):Bool:=ba o||(decide (o.kind=3)&&l.getD i false)
def xM(x:ag):Nat→List Bool→List Bool
 |0,l=>l
 |i+1,l=>match x.ops[i]? with
  |none=>l
  |some o=>xM x i (bif mq l i o then fJ true o.args l else l)
def sk(x:ag):List Bool:=xM x x.ops.length (List.replicate x.ops.length false)
theorem IF(x:ag): ∀(i:Nat) (l:List Bool),(xM x i l).length=l.length
 |0,l=>rfl
 |i+1,l=>by
  unfold xM;cases x.ops[i]? with
  |none=>rfl
  |some o=>dsimp only;rw[IF];cases mq l i o<;>simp[iG]
theorem IE(x:ag):(sk x).length=x.ops.length:=by unfold sk;rw[IF];simp
theorem uM{j:Nat}: ∀{args:List Int} {l:List Bool},(∀a∈args,a.toNat<l.length)→(On (fJ true args l) j↔(∃a∈args,a.toNat=j)∨On l j)
 |[],l,_=>by simp[fJ]
 |a::r,l,h=>by
  have e:fJ true (a::r) l=fJ true r (l.set a.toNat true):=by unfold fJ;rw[List.foldl_cons,Bool.or_true]
  rw[e,uM (fun b hb=>by rw[List.length_set];exact h b (by simp[hb])),vX (h a (by simp))];simp only[List.mem_cons,exists_eq_or_imp,or_assoc];constructor
  ·rintro(h|h|h)
   ·exact .inr (.inl h)
   ·exact .inl h
   ·exact .inr (.inr h)
  ·rintro(h|h|h)
   ·exact .inr (.inl h)
   ·exact .inl h
   ·exact .inr (.inr h)
theorem MN{x:ag}(hx:fg x): ∀(i:Nat) (l:List Bool),i≤x.ops.length→l.length=x.ops.length→(∀j,On l j→Dd x j)→(∀q o,i≤q→x.ops[q]? =some o→ba o=true→ ∀a∈o.args,On l a.toNat)→
  (∀q,i≤q→On l q→yo x l q)→ ∀j,On (xM x i l) j↔Dd x j
 |0,l,_,hl,h1,h2,h3,j=>⟨h1 j,fun h=>by
  show On l j
  induction h with
  |call ho hc ha=>exact h2 _ _ (Nat.zero_le _) ho hc _ ha
  |node _ ho hk ha ih=>exact h3 _ (Nat.zero_le _) ih _ ho hk _ ha⟩
 |i+1,l,hi,hl,h1,h2,h3,j=>by
  have ho:x.ops[i]? =some x.ops[i]:=eH hi
  have e:xM x (i+1) l=xM x i (bif mq l i x.ops[i]then fJ true x.ops[i].args l else l):=by
   conv=>lhs;unfold xM
   rw[ho]
  rw[e];generalize x.ops[i]=o at ho;have bc: ∀a∈o.args,a.toNat<l.length:=fun a ha=>by have:=hx.args i o ho a ha;omega
  have RA: ∀j,On l j→On (bif mq l i o then fJ true o.args l else l) j:=fun j hj=>by
   cases mq l i o with
   |true=>exact(uM bc).2 (.inr hj)
   |false=>exact hj
  have Xx: ∀q,i≤q→On (bif mq l i o then fJ true o.args l else l) q→On l q:=fun q hq hj=>by
   cases hu:mq l i o with
   |false=>rw[hu]at hj;exact hj
   |true=>
    rw[hu]at hj;rcases(uM bc).1 hj with⟨a,ha,XJ⟩|h
    ·have:=hx.args i o ho a ha;omega
    ·exact h
  refine MN hx i _ (by omega) (by cases mq l i o<;>simp[iG,hl]) (fun q hq=>?_) (fun q o' hq lf hc a ha=>?_) (fun q hq Tw=>?_) j
  ·cases hu:mq l i o with
   |false=>rw[hu]at hq;exact h1 q hq
   |true=>
    rw[hu]at hq;rcases(uM bc).1 hq with⟨a,ha,rfl⟩|h
    ·unfold mq at hu;simp only[Bool.or_eq_true,Bool.and_eq_true,decide_eq_true_eq]at hu;rcases hu with hc|⟨hk,Tw⟩
     ·exact .call ho hc ha
     ·exact .node (h1 i Tw) ho hk ha
    ·exact h1 q h
  ·by_cases hqi:q=i
   ·subst hqi;rw[ho]at lf;cases lf;have:mq l q o=true:=by unfold mq;rw[hc];rfl
    rw[this];exact(uM bc).2 (.inl ⟨a,ha,rfl⟩)
   ·exact RA _ (h2 q o' (by omega) lf hc a ha)
  ·have anX:=Xx q hq Tw
   by_cases hqi:q=i
   ·subst hqi;intro o' lf hk a ha;rw[ho]at lf;cases lf;have:mq l q o=true:=by
     unfold mq;rw[bP hk,show l.getD q false=true from anX];simp
    rw[this];exact(uM bc).2 (.inl ⟨a,ha,rfl⟩)
   ·exact(h3 q (by omega) anX).mono RA
theorem MM{x:ag}(hx:fg x)(j:Nat):On (sk x) j↔Dd x j:=by
 have xT: ∀j,¬On (List.replicate x.ops.length false) j:=fun j h=>by
  unfold On at h;rw[List.getD_eq_getElem?_getD,List.getElem?_replicate]at h
  split at h<;>simp at h
 refine MN hx _ _ (Nat.le_refl _) (by simp) (fun j h=>absurd h (xT j)) (fun q o hq ho=>?_) (fun q hq h=>absurd h (xT q)) j;have:=(bq.1 ho).1
 omega
theorem ah1{l m:List Bool}(hl:l.length=m.length)(h: ∀j,On l j↔On m j):l=m:=by
 apply List.ext_getElem hl;intro j h1 h2;have:=h j
 unfold On at this;simp only[List.getD_eq_getElem?_getD,eH h1,eH h2,Option.getD_some]at this;exact Bool.eq_iff_iff.2 this
def su(nd:List Bool)(i:Nat)(o:aD):aD:=bif decide (o.kind=4)&& !nd.getD i false then⟨5,o.name,o.num,o.args⟩else o
def gf(nd:List Bool):List aD→Nat→List aD
 |[],_=>[]
 |o::r,i=>su nd i o::gf nd r (i+1)
def gJ(x:ag):ag:=⟨x.head,x.aM,gf (sk x) x.ops 0,x.result⟩
section
variable{n:Nat}(hn:100<n)
 include hn
theorem Sf{x:ag}(hx:fg x):oe ak .ak n x=some (sk x):=by
 obtain⟨l,h1,h2,h3⟩:=UG hn hx;rw[h1,ah1 (h2.trans (IE x).symm) fun j=>(h3 j).trans (MM hx j).symm]
theorem G7(o:aD):kr ak .ak n o=some (ba o):=have _:=hn;by
 unfold kr ba;simp only[bg,bU,eE]
theorem Kz{x:ag}(hx:fg x){l0:List Bool}(P5:l0.length=x.ops.length){i:Nat}{o:aD}(ho:gI x.ops (i:Int)=some o)(k:List Bool×Int→Option ag)(l:List Bool)(hl:l.length=x.ops.length):
  iter (fk ak .ak n x l0 (i:Int) k) n (l,0)=k (bif mq l i o then fJ true o.args l else l,(o.args.length:Int)):=by
 have lf:x.ops[i]? =some o:=by rw[←bK];exact ho
 have hi:i<x.ops.length:=(bq.1 lf).1
 have Aj:=hx.ar o (fU lf)
 have jg:Md.ak.ln l0=x.ops.length:=P5
 refine aT (body:=fk ak .ak n x l0 (i:Int) k) (mk:=fun(a:List Bool) j=>(a,(j:Int))) (fun a r _=>k (bif mq l i o then fJ true r a else a,(o.args.length:Int))) (fun a _=>a.length=x.ops.length∧a.getD i false=l.getD i false) o.args (by omega) ?_ ?_ n (by omega) l ⟨hl,rfl⟩
 ·rintro self a j z r ⟨p1,p2⟩ hd hj e1 e2 e3 ih
  have hz:=hx.args i o lf z (bO hd)
  have B6:z.toNat<a.length:=by omega
  simp only[fk,ho,au,e2,az,G7 hn,jg,iI hi,El hn (show i<a.length by omega),p2];have hu:ak.pick (ba o) true (ak.pick (ak.aS (bif ba o then default else o).kind 3) (bif ba o then default else bif ak.aS (bif ba o then default else o).kind 3 then l.getD i false else default) false)=mq l i o:=by
   unfold mq;simp only[bg,bU];cases ba o with
   |true=>rfl
   |false=>simp only[aC,Bool.false_or];cases decide (o.kind=3)<;>rfl
  rw[HO (y:=o) fun _=>rfl,au,HO (y:=bif ak.aS (bif ba o then default else o).kind 3 then i else default) fun _=>Hr fun _=>rfl,au];rw[HO (y:=bif ak.aS (bif ba o then default else o).kind 3 then l.getD i false else default) fun hc=>by
   rw[hc];simp only[aC];refine Hr fun hk=>?_;rw[hk,az,El hn (show i<a.length by omega),p2],au,hu]
  cases hU:mq l i o with
  |true=>
   simp only[az,e1,au,zA hz.1 (show z<(x.ops.length:Nat)by omega),El hn B6,mF B6];rw[e3,ih _ ⟨by simpa using p1,by rw[dr,if_neg (by omega)];exact p2⟩,hU,az];unfold fJ;rw[List.foldl_cons,Bool.or_true]
  |false=>
   simp only[aC];rw[e3,ih a ⟨p1,p2⟩,hU,aC]
 ·rintro self a _ e
  simp only[fk,ho,au,e,aC];cases mq l i o<;>rfl
theorem Gh{x:ag}(hx:fg x):nV ak .ak n x=some (gJ x):=by
 have hlen:=hx.len
 unfold nV;have Nj:vZ 1 (aw x.ops) false=some (List.replicate x.ops.length false):=so (by omega) (by omega)
 have hw:ak.wrap .i64 (ak.sub (aw x.ops) 1)=(x.ops.length:Int) - 1:=by show IntKind.wrap .i64 ((x.ops.length:Int) - 1)=_;rw[bL (by omega)]
 have jg:Md.ak.ln (List.replicate x.ops.length false)=x.ops.length:=by simp[Md.ak]
 rw[au,Nj,au,hw];refine(CH (body:=iz ak .ak n x (List.replicate x.ops.length false) _) (mk:=fun a z=>(a,z)) (fun l i=>some ⟨x.head,x.aM,gf (xM x i l) x.ops 0,x.result⟩) (fun l _=>l.length=x.ops.length) x.ops.length (by omega) ?_ ?_ n (by omega) _ (by simp)).trans rfl
 ·intro self l i hl hi e2 e3 ih;have ho:x.ops[i]? =some x.ops[i]:=eH hi
  have hg:gI x.ops (i:Int)=some x.ops[i]:=by rw[bK];exact ho
  simp only[iz,e2,az];rw[Kz hn hx (by simp) hg _ l hl];dsimp only;rw[e3,ih _ (by cases mq l i x.ops[i]<;>simp[iG,hl])]
  conv=>rhs;unfold xM
  rw[ho]
 ·intro self l hl e;simp only[iz,e,aC];have:=aT (body:=iy ak .ak n x l (List.replicate x.ops.length false) fun(Te,z30)=>some (⟨x.head,x.aM,Te,x.result⟩:ag)) (mk:=fun(a:List aD) j=>(a,(j:Int))) (fun a r i=>some ⟨x.head,x.aM,a++gf l r i,x.result⟩) (fun a i=>a.length=i) x.ops (by omega) ?_ ?_ n (by omega) [] rfl
  ·refine this.trans ?_;simp[xM]
  ·intro self a i o r hp hd hi e1 e2 e3 ih;simp only[iy,au,e2,az,e1,jg,iI hi];rw[Hr (y:=i) fun _=>rfl,au,Hr (y:=l.getD i false) fun hk=>by rw[hk,az,El hn (show i<l.length by omega)],au];have hc:ak.pick (ak.aS o.kind 4) (ak.not (bif ak.aS o.kind 4 then l.getD i false else default)) false=(decide (o.kind=4)&& !l.getD i false):=by
    simp only[bg,bU,bQ];cases decide (o.kind=4)<;>rfl
   rw[hc];have hL:gf l (o::r) i=su l i o::gf l r (i+1):=rfl
   rw[hL];unfold su;cases decide (o.kind=4)&& !l.getD i false with
   |true=>
    simp only[az];rw[aN (by omega) (by omega),au,e3,ih _ (by simp[hp])];simp
   |false=>
    simp only[aC];rw[aN (by omega) (by omega),au,e3,ih _ (by simp[hp])];simp
  ·intro self a hp e;simp only[iy,au,e,aC];simp[gf]
end
end Ab
namespace Ab
open Go
set_option maxRecDepth 10000
def uW(i:Nat):List Int:=(List.range i).map fun(j:Nat)=>(j:Int)
theorem uV(i:Nat):(uW i).length=i:=by simp[uW]
theorem CJ(i:Nat):uW (i+1)=uW i++[(i:Int)]:=by simp[uW,List.range_succ]
theorem Gt{i:Nat}{a:Int}(h0:0≤a)(h:a<i):(uW i).getD a.toNat 0=a:=by
 have:a.toNat<i:=by omega
 simp[uW,List.getD_eq_getElem?_getD,this];omega
theorem Iq{i:Nat}{args:List Int}(h: ∀a∈args,0≤a∧a<i):aO (uW i) args=args:=by
 unfold aO
 conv=>rhs;rw[←List.map_id args]
 apply List.map_congr_left;intro a ha;rw[Gt (h a ha).1 (h a ha).2];rfl
theorem Gj(nd:List Bool): ∀(r:List aD) (i:Nat),(gf nd r i).length=r.length
 |[],i=>rfl
 |o::r,i=>by simp[gf,Gj nd r]
section
variable{n:Nat}(hn:100<n)
 include hn
theorem PH{x:ag}(hx:fg x){nd:List Bool}(hnd:nd.length=x.ops.length)(k:List aD×List Int×Int→Option (ai×Int)):
  iter (gn ak .ak n (aw x.ops) x nd k) n ([],[],0)=k (gf nd x.ops 0,uW x.ops.length,(x.ops.length:Int)):=by
 have hlen:=hx.len
 have:=aT (body:=gn ak .ak n (aw x.ops) x nd k) (mk:=fun(a:List aD) i=>(a,uW i,(i:Int))) (fun a r i=>k (a++gf nd r i,uW x.ops.length,(x.ops.length:Int))) (fun a i=>a.length=i) x.ops (by omega) ?_ ?_ n (by omega) [] rfl
 ·simpa[uW]using this
 ·rintro self out i o r hp hd hi e1 e2 e3 ih
  have ho:x.ops[i]? =some o:=by rw[←bK];exact e1
  have hm:o∈x.ops:=fU ho
  have cI: ∀a∈o.args,0≤a∧a<(uW i).length:=fun a ha=>by rw[uV];exact hx.args i o ho a ha
  have Tx:=hx.ar o hm
  have hui:gI nd (i:Int)=some (nd.getD i false):=by rw[bK];simp[List.getD_eq_getElem?_getD,show i<nd.length by omega]
  have hs:=rY hn (hd:=x.head) (kd:=x.aM) (z:=0) (ops:=out) cI Tx
  rw[Iq (fun a ha=>hx.args i o ho a ha)]at hs;have nM:=C9 (y:=o.args) (l:=out) (k:=o.kind) (z:=o.num) (nm:=o.name) (by omega) (by omega)
  have aeC:=C9 (y:=o.args) (l:=out) (k:=5) (z:=o.num) (nm:=o.name) (by omega) (by omega)
  simp only[au]at nM aeC;have hc:ak.pick (ak.aS o.kind 4) (ak.not (bif ak.aS o.kind 4 then nd.getD i false else default)) false=(decide (o.kind=4)&& !nd.getD i false):=by
   simp only[bg,bU,bQ];cases decide (o.kind=4)<;>rfl
  simp only[gn,e2,az,e1,au];rw[Hr (y:=nd.getD i false) fun _=>hui,au,hc];have hL:gf nd (o::r) i=su nd i o::gf nd r (i+1):=rfl
  rw[hL];unfold su;have hil:=uV i
  cases decide (o.kind=4)&& !nd.getD i false with
  |true=>
   simp only[az,hs,au];rw[aeC];simp only[au];rw[aN (by omega) (by omega),au,au,e3,hp,←CJ];have:=ih (out++[⟨5,o.name,o.num,o.args⟩]) (by simp[hp])
   rw[this];simp
  |false=>
   simp only[aC,hs,au];rw[nM];simp only[au];rw[aN (by omega) (by omega),au,au,e3,hp,←CJ];have:=ih (out++[o]) (by simp[hp])
   rw[this];simp
 ·rintro self out hp e
  simp only[gn,e,aC];simp[gf]
theorem PE{c:ai}(hc:qI c)(h0:bh c=0)(hg:pn c){i:Nat}{b:aj}{rb:List aj}(hb:c.af.drop i=b::rb){l9:List aj}(Gz:l9.length=c.af.length)(k:List Bool×List aj×Int→Option (ai×Int))(R:Option (ai×Int))
  (hk: ∀u,k (u,cA gJ c.af (i+1) 0,(b.ae.length:Int))=R)(u:List Bool):iter (gp ak .ak n c l9 (aw b.ae) b (i:Int) k) n (u,cA gJ c.af i 0,0)=R:=by
 have lT:=bO hb
 have XI:=hc.br b lT
 have hi:i<c.af.length:=(bq.1 (mB hb)).1
 refine aT (body:=gp ak .ak n c l9 (aw b.ae) b (i:Int) k) (mk:=fun(a:List Bool×List aj) j=>(a.1,a.2,(j:Int))) (fun _ _ _=>R) (fun a j=>a.2=cA gJ c.af i j) b.ae (by omega) ?_ ?_ n (by omega) (u,_) rfl
 ·rintro self ⟨u,L⟩ j x r hp hd hj e1 e2 e3 ih
  dsimp only at hp;subst hp;have hx:=hg.x hc lT (bO hd)
  have fO:=hx.res
  have TB: ∀{a b:Int},gK [a,b] 0=some a:=rfl
  have hg1: ∀{a b:Int},gK [a,b] 1=some b:=rfl
  simp only[gp,e2,az,e1,au,show fe 2 (List.replicate 2 (0:Int))=some ()from rfl,show∀a b:Int,fe 2 [a,b]=some ()from fun _ _=>rfl,show gN 2 0=some 0 from rfl,show gN 2 1=some 1 from rfl,TB,hg1,eM hb,Sf hn hx];rw[PH hn hx (IE x)];have hr:gI (uW x.ops.length) x.result=some x.result:=by
   rw[il fO.1 (by rw[uV];exact fO.2),Gt fO.1 fO.2]
  have jg:Md.ak.ln l9=c.af.length:=Gz
  simp only[hr,au,jg,iI hi,pF hb];rw[aN (by omega) (by simp;omega),au];have:=pE (F:=gJ) hb hd
  unfold gJ at this ⊢;rw[this,au,e3];exact ih (sk x,_) rfl
 ·rintro self ⟨u,L⟩ hp e
  dsimp only at hp;subst hp;simp only[gp,e,aC];rw[nE hb];exact hk u
theorem PF{c:ai}(hc:qI c)(h0:bh c=0)(hg:pn c){l9:List aj}(Gz:l9.length=c.af.length)(k:List Bool×List aj×Int→Option (ai×Int))(R:Option (ai×Int))
  (hk: ∀u,k (u,c.af.map (c6 gJ),(c.af.length:Int))=R)(u:List Bool):iter (gr ak .ak n c l9 (aw c.af) k) n (u,c.af.map bare,0)=R:=by
 have AE:=hc.bl
 refine(aT (body:=gr ak .ak n c l9 (aw c.af) k) (mk:=fun(a:List Bool×List aj) j=>(a.1,a.2,(j:Int))) (fun _ _ _=>R) (fun a j=>a.2=cA gJ c.af j 0) c.af (by omega) ?_ ?_ n (by omega) (u,_) vB.symm)
 ·rintro self ⟨u,L⟩ i b r hp hd hi e1 e2 e3 ih
  dsimp only at hp;subst hp;simp only[gr,e2,az,e1,au];refine PE hn hc h0 hg hd Gz _ R (fun u=>?_) u;dsimp only;rw[e3];exact ih (u,_) rfl
 ·rintro self ⟨u,L⟩ hp e
  dsimp only at hp;subst hp;simp only[gr,e,aC];rw[pG];exact hk u
theorem PG{c:ai}(AE:c.af.length≤16)(k:List aj×Int→Option (ai×Int)){b:aj}{r:List aj}(hb:c.af=b::r):iter (gv ak .ak n c (aw c.af) k) n ([bare b],1)=k (c.af.map bare,(c.af.length:Int)):=by
 have:=rK (body:=gv ak .ak n c (aw c.af) k) (mk:=fun(a:List aj) j=>(a,(j:Int))) (fun a r _=>k (a++r.map bare,(c.af.length:Int))) (fun a i=>a.length=i) c.af (by omega) ?_ ?_ n 1 (by rw[hb];simp) (by omega) [bare b] rfl
 ·refine this.trans ?_;rw[hb];rfl
 ·intro self l i x r hp hd hi e1 e2 e3 ih;simp only[gv,e2,az,e1,au];rw[aN (by omega) (by omega),au,e3,ih _ (by simp[hp])];simp[bare]
 ·intro self l hp e;simp only[gv,e,aC];simp
theorem T4{c:ai}(hc:qI c):ml ak .ak n c=some (bif decide (bh c=0)then(⟨c.af.map (c6 gJ)⟩,0)else(⟨[]⟩,bh c)):=by
 unfold ml;rw[qG hn hc,au,bQ,bU];by_cases h0:bh c=0
 ·have hg:=gW h0
  have AE:=hc.bl
  obtain⟨b,r,hb⟩: ∃b r,c.af=b::r:=by
   cases h:c.af with
   |nil=>have:=hg.some.1;rw[h]at this;simp at this
   |cons b r=>exact⟨b,r,rfl⟩
  rw[bP h0,Bool.not_true,aC,az,au];have h1:ak.bf 0 (aw c.af)=true:=by show decide ((0:Int)<c.af.length)=true;rw[hb];simp
  have h2:gI c.af 0=some b:=by rw[hb];rfl
  have hw:ak.wrap .i64 (ak.add 0 1)=1:=by show IntKind.wrap .i64 1=1;rw[bL (by omega)]
  rw[h1,az,h2,au,aN (by omega) (by simp),au,hw];refine(PG hn AE _ hb).trans ?_;dsimp only;rw[au];refine PF hn hc h0 hg (by simp) _ _ (fun u=>?_) [];dsimp only;rw[eW (by simp[Md.ak]),au]
 ·rw[bI h0,Bool.not_false,az,aC]
theorem HE{c:ai}(hc:qI c)(h0:bh c=0):ea ak .ak n c 5=some ⟨c.af.map (c6 gJ)⟩:=by
 have hg:=gW h0
 refine A3 hn hc fun i b rb hb k self l j x hl hx e1 e2 e3=>?_;have lT:=bO hb
 simp only[dh,eM hb,au,e2,az,e1,show ak.aS 5 1=false from rfl,show ak.aS 5 2=false from rfl,show ak.aS 5 3=false from rfl,show ak.aS 5 4=false from rfl,show ak.aS 5 5=true from rfl,aC,Gh hn (hg.x hc lT hx)];rw[aN (by omega) (by omega),au,e3]
end
end Ab
namespace Ab
open Go
set_option maxRecDepth 10000
theorem pn.kind{c:ai}(h:pn c){b:aj}(hb:b∈c.af){x:ag}(hx:x∈b.ae){o:aD}(ho:o∈x.ops):ba o=decide (3<o.kind):=by
 obtain⟨i,hi⟩:=List.getElem?_of_mem ho;have h1:=nn (h.ops b hb x hx).1 i o hi
 have h2:(decide (o.kind<1)||decide (5<o.kind))=false:=by
  unfold Cf at h1;cases hk:(decide (o.kind<1)||decide (5<o.kind))with
  |false=>rfl
  |true=>rw[hk]at h1;cases h1
 simp only[Bool.or_eq_false_iff,decide_eq_false_iff_not]at h2;unfold ba;rw[←Bool.decide_or,decide_eq_decide];omega
theorem qI.szd{c:ai}(h:qI c):Szd c:=
 ⟨by have:=h.bl;omega,fun b hb=>by have:=h.br b hb;omega,fun b hb x hx=>by have:=h.op b hb x hx;omega,fun b hb x hx o ho=>by have:=h.ar b hb x hx o ho;omega⟩
theorem aau:Szd ⟨[]⟩:=⟨by simp,fun b hb=>by simp at hb,fun b hb=>by simp at hb,fun b hb=>by simp at hb⟩
structure OpF(c:ai)(b:aj)(x:ag)(i:Nat)(o:aD):Prop where
 k:1≤o.kind∧o.kind≤5
 n0:0≤o.num
 take:o.kind=1→o.num<b.aI
 below:o.kind=2→o.num<x.aM
 args: ∀a∈o.args,0≤a∧a<i
 call:ba o=true→0≤find c o.name∧(o.args.length:Int)=mN c (find c o.name)
structure BlF(b:aj):Prop where
 n:1≤b.ae.length∧b.ae.length≤6
 len: ∀x∈b.ae,x.ops.length≤60
 ar:0≤b.aI∧b.aI≤4
 aM: ∀x∈b.ae,0≤x.aM∧x.aM≤4
 bare: ∀x∈b.ae,x.head=⟨#[]⟩→b.ae.length=1∧x.aM=0
 zW:b.aI=0→ ∀x∈b.ae,x.head=⟨#[]⟩
 keys:(b.ae.map qK).Nodup
theorem bz{c:Bool}{k R:Int}(hk:k≠0)(h:(bif c then k else R)=0):c=false∧R=0:=by
 cases c with
 |true=>exact absurd h hk
 |false=>exact⟨rfl,h⟩
theorem Dx{b:aj}(h:jO b=0):BlF b:=by
 unfold jO at h;obtain⟨h1,h⟩:=bz (by decide) h;obtain⟨h2,h⟩:=bz (by decide) h;obtain⟨h3,h⟩:=bz (by decide) h;obtain⟨h4,h⟩:=bz (by decide) h;obtain⟨h5,_⟩:=bz (by decide) h;simp only[Bool.or_eq_false_iff,decide_eq_false_iff_not,Bool.not_eq_false',List.all_eq_true]at h1 h2;simp only[Bool.or_eq_false_iff,Bool.and_eq_false_iff,decide_eq_false_iff_not,Bool.not_eq_false',List.all_eq_true,List.any_eq_false]at h4;refine⟨by omega,fun x hx=>?_,by omega,fun x hx=>?_,fun x hx hh=>?_,fun ha x hx=>?_,?_⟩
 ·have:=h1.2 x hx;simp[tB]at this;omega
 ·have:=h2.2 x hx;simp[ox]at this;omega
 ·have:=h4.1 x hx
  simp[alone,fI,hh]at this;exact⟨by omega,this.2⟩
 ·have:=(h4.2.resolve_left (by simp[ha])) x hx
  simpa[fI]using this
 ·have:=BM b.ae [] (by simp)
  rw[h5]at this;simp at this;exact this
theorem WM{c:ai}{b:aj}{x:ag}{i:Nat}{o:aD}(hb:BlF b)(hx:x∈b.ae)(h:Cf c b x i o=0):OpF c b x i o:=by
 have ha:=AQ h
 unfold Cf at h;obtain⟨h1,h⟩:=bz (by decide) h;obtain⟨h2,h⟩:=bz (by decide) h;obtain⟨h3,h⟩:=bz (by decide) h;obtain⟨h4,h⟩:=bz (by decide) h;obtain⟨h5,h⟩:=bz (by decide) h;simp only[Bool.or_eq_false_iff,decide_eq_false_iff_not]at h1 h3;have hk:=hb.aM x hx
 have Aj:=hb.ar
 refine⟨by omega,by omega,fun hk1=>?_,fun Ej=>?_,ha,fun hc=>?_⟩
 ·have:=h3.2
  unfold Ed at this;rw[hk1,bP rfl,az,bL (by omega)]at this;omega
 ·have:=h3.2
  unfold Ed at this;rw[Ej,bI (by decide),aC,bP rfl,az,bL (by omega)]at this;omega
 ·simp only[Bool.or_eq_false_iff,Bool.and_eq_false_iff,decide_eq_false_iff_not]at h5;rw[hc,Bool.not_true,aC]at h;obtain⟨h6,_⟩:=bz (by decide) h;simp only[Bool.or_eq_false_iff,Bool.not_eq_false',decide_eq_true_eq]at h6;have h7:=h5.2.resolve_left (by simp[hc])
  exact⟨by omega,h6.1⟩
def mD(c:ai)(s:ByteArray):aj:=(c.af[(find c s).toNat]?).getD default
theorem wJ{c:ai}{s:ByteArray}(h:0≤find c s):gI c.af (find c s)=some (mD c s)∧mD c s∈c.af∧mN c (find c s)=(mD c s).aI:=by
 have bc:(find c s).toNat<c.af.length:=by
  have:=KP (fun b=>decide (b.name=s)) c.af
  unfold find at h ⊢;omega
 have he:c.af[(find c s).toNat]? =some (mD c s):=by unfold mD;simp[bc]
 refine⟨by unfold gI;rw[if_pos h];exact he,fU he,?_⟩;unfold mN;rw[he];rfl
structure Rt(c:ai):Prop where
 ck:qI c
 fQ:pn c
 bl: ∀b∈c.af,BlF b
 op: ∀b∈c.af,∀x∈b.ae,∀(i:Nat) (o:aD),x.ops[i]? =some o→OpF c b x i o
theorem L8{c:ai}(hc:qI c)(h:bh c=0):Rt c:=by
 have hg:=gW h
 refine⟨hc,hg,fun b hb=>Dx (hg.right b hb),fun b hb x hx i o ho=>?_⟩;have:=nn (hg.ops b hb x hx).1 i o ho
 rw[Nat.zero_add]at this;exact WM (Dx (hg.right b hb)) hx this
def ku(x:ag):Bool:=x.ops.all fun o=> !ba o
def nK(b:aj):ag:=b.ae.headD default
def lb(b:aj):Bool:=decide (b.ae.length=1)&&(decide ((nK b).head=⟨#[]⟩)&&ku (nK b))
abbrev Ch:=List aD→List Int→aD→Option ag
def dS(c:ai):Ch:=fun _ _ o=>bif ba o&&lb (mD c o.name)then some (nK (mD c o.name))else none
def kJ(q:aD)(y:ag):Bool:=decide (y.head=q.name)&&decide (y.aM=(q.args.length:Int))
def da(c:ai):Ch:=fun out args o=>
 bif ba o&&(!decide ((nK (mD c o.name)).head=⟨#[]⟩)&&decide ((out.getD (args.getD 0 0).toNat default).kind=3))then
  ((mD c o.name).ae.find? (kJ (out.getD (args.getD 0 0).toNat default))).filter ku
 else none
def oa(args:List Int):List aD→List aD×List Int→List aD×List Int
 |[],st=>st
 |q::r,st=>oa args r (bif decide (q.kind=1)then(st.1,st.2++[args.getD q.num.toNat 0])else
   bif decide (q.kind=2)then(st.1,st.2++[(st.1.getD (args.getD 0 0).toNat default).args.getD q.num.toNat 0])
   else(st.1++[dk st.2 q],st.2++[(st.1.length:Int)]))
def eS(y:ag):Nat:=y.ops.countP fun q=>decide (q.kind=3)
def qJ(ch:Ch)(N i:Nat)(o:aD)(st:List aD×List Int):List aD×List Int:=
 match ch st.1 (aO st.2 o.args) o with
 |some y=>bif decide (st.1.length+eS y+(N - i - 1)≤60)then
   ((oa (aO st.2 o.args) y.ops (st.1,[])).1,st.2++[(oa (aO st.2 o.args) y.ops (st.1,[])).2.getD y.result.toNat 0])
  else(st.1++[dk st.2 o],st.2++[(st.1.length:Int)])
 |none=>(st.1++[dk st.2 o],st.2++[(st.1.length:Int)])
def nJ(ch:Ch)(N:Nat):List aD→Nat→List aD×List Int→List aD×List Int
 |[],_,st=>st
 |o::r,i,st=>nJ ch N r (i+1) (qJ ch N i o st)
def la(ch:Ch)(x:ag):ag:=⟨x.head,x.aM,(nJ ch x.ops.length x.ops 0 ([],[])).1,(nJ ch x.ops.length x.ops 0 ([],[])).2.getD x.result.toNat 0⟩
def zD(out:List aD):Prop:= ∀(j:Nat) (q:aD),out[j]? =some q→(∀a∈q.args,0≤a∧a<j)∧q.args.length≤50
def yk(out:List aD)(sl:List Int):Prop:= ∀a∈sl,0≤a∧a<(out.length:Int)
structure Fit(ar kd:Int)(y:ag):Prop where
 fQ:fg y
 len:y.ops.length≤60
 k: ∀q∈y.ops,q.kind=1∨q.kind=2∨q.kind=3
 n0: ∀q∈y.ops,0≤q.num
 take: ∀q∈y.ops,q.kind=1→q.num<ar
 below: ∀q∈y.ops,q.kind=2→q.num<kd
theorem fR{l:List Int}{i:Nat}(h:i<l.length):l.getD i 0∈l:=by
 rw[List.getD_eq_getElem?_getD,eH h];exact List.getElem_mem h
theorem Q8{out:List aD}{sl:List Int}{o:aD}(ho:zD out)(hs:yk out sl)(ha: ∀a∈o.args,0≤a∧a<(sl.length:Int))(hl:o.args.length≤50):zD (out++[dk sl o]):=fun j q hq=>by
 rcases Nat.lt_or_ge j out.length with h|h
 ·rw[gg h]at hq;exact ho j q hq
 ·have hj:j=out.length:=by have:=(bq.1 hq).1;simp at this;omega
  subst hj;simp at hq;subst hq;refine⟨fun a hm=>?_,by show(aO sl o.args).length≤50;rw[eP];exact hl⟩;unfold dk aO at hm;obtain⟨z,hz,rfl⟩:=List.mem_map.1 hm;have:=ha z hz
  exact hs _ (fR (by omega))
theorem AO{out:List aD}{sl args:List Int}(hs:yk out sl)(ha: ∀a∈args,0≤a∧a<(sl.length:Int)):yk out (aO sl args):=fun a hm=>by
 unfold aO at hm;obtain⟨z,hz,rfl⟩:=List.mem_map.1 hm;have:=ha z hz
 exact hs _ (fR (by omega))
theorem JO{out:List aD}{sl:List Int}(h:yk out sl)(o:aD):yk (out++[o]) sl:=fun a ha=>by have:=h a ha;simp;omega
theorem FE{out:List aD}{sl:List Int}{v:Int}(h:yk out sl)(hv:0≤v∧v<(out.length:Int)):yk out (sl++[v]):=fun a ha=>by
 rcases List.mem_append.1 ha with ha|ha
 ·exact h a ha
 ·rw[List.mem_singleton.1 ha];exact hv
theorem ud{α:Type}{l:List α}{i:Nat}{d:α}(h:i<l.length):l[i]? =some (l.getD i d):=by rw[List.getD_eq_getElem?_getD,eH h];rfl
theorem getD_congr{α:Type}{l m:List α}{i:Nat}{d:α}(h:l[i]? =m[i]?):l.getD i d=m.getD i d:=by rw[List.getD_eq_getElem?_getD,h,List.getD_eq_getElem?_getD]
def Dp(args:List Int)(q:aD)(st:List aD×List Int):List aD×List Int:=
 bif decide (q.kind=1)then(st.1,st.2++[args.getD q.num.toNat 0])else
  bif decide (q.kind=2)then(st.1,st.2++[(st.1.getD (args.getD 0 0).toNat default).args.getD q.num.toNat 0])
  else(st.1++[dk st.2 q],st.2++[(st.1.length:Int)])
theorem uI(args:List Int)(q:aD)(r:List aD)(st:List aD×List Int):oa args (q::r) st=oa args r (Dp args q st):=rfl
structure InI(out:List aD)(args:List Int)(st:List aD×List Int)(i:Nat):Prop where
 len:st.2.length=i
 oo:zD st.1
 sl:yk st.1 st.2
 aa:yk st.1 args
 many:out.length≤st.1.length∧st.1.length≤out.length+i
 pre: ∀j,j<out.length→st.1[j]? =out[j]?
structure yR(out:List aD)(args:List Int)(ar kd:Int):Prop where
 len:(args.length:Int)=ar
 kd:0<kd→0<args.length∧kd=((out.getD (args.getD 0 0).toNat default).args.length:Int)
theorem InI.akL{out:List aD}{args:List Int}{st:List aD×List Int}{i:Nat}(h:InI out args st i)(ho:yk out args)(h0:0<args.length):
  gI args 0=some (args.getD 0 0)∧gI st.1 (args.getD 0 0)=some (out.getD (args.getD 0 0).toNat default)∧st.1.getD (args.getD 0 0).toNat default=out.getD (args.getD 0 0).toNat default:=by
 have hm:=ho _ (fR h0)
 have hp:=h.pre (args.getD 0 0).toNat (by omega)
 refine⟨il (by omega) (by simpa using h0),?_,?_⟩
 ·unfold gI;rw[if_pos hm.1,hp];exact ud (by omega)
 ·exact getD_congr hp
theorem Fx{out:List aD}{args:List Int}{ar kd:Int}{y:ag}(hy:Fit ar kd y)(hc:yR out args ar kd)(ho:zD out)(hs:yk out args){st:List aD×List Int}{i:Nat}(h:InI out args st i){q:aD}(hq:y.ops[i]? =some q):InI out args (Dp args q st) (i+1):=by
 have hm:=fU hq
 have hn:=hy.n0 q hm
 unfold Dp;by_cases h1:q.kind=1
 ·rw[bP h1,az];have ht:=hy.take q hm h1
  have hl:=hc.len
  exact⟨by simp[h.len],h.oo,FE h.sl (h.aa _ (fR (by omega))),h.aa,⟨h.many.1,by have:=h.many.2;dsimp only;omega⟩,h.pre⟩
 ·rw[bI h1,aC];by_cases h2:q.kind=2
  ·rw[bP h2,az];have hb:=hy.below q hm h2
   obtain⟨h0,hk⟩:=hc.kd (by omega);obtain⟨_,_,e⟩:=h.akL hs h0;have Nj:=hs _ (fR h0)
   refine⟨by simp[h.len],h.oo,FE h.sl ?_,h.aa,⟨h.many.1,by have:=h.many.2;dsimp only;omega⟩,h.pre⟩;rw[e];have hoj:=ho (args.getD 0 0).toNat (out.getD (args.getD 0 0).toNat default) (ud (by omega))
   have:=hoj.1 _ (fR (l:=(out.getD (args.getD 0 0).toNat default).args) (i:=q.num.toNat) (by omega))
   have zy:=h.many.1
   show _∧_<(st.1.length:Int);omega
  ·rw[bI h2,aC];have Tx:=hy.fQ.ar q hm
   have dx: ∀a∈q.args,0≤a∧a<(st.2.length:Int):=fun a ha=>by have:=hy.fQ.args i q hq a ha;rw[h.len];exact this
   refine⟨by simp[h.len],Q8 h.oo h.sl dx Tx,FE (JO h.sl _) ⟨by omega,by simp;omega⟩,JO h.aa _,⟨by simp;have:=h.many.1;omega,by simp;have:=h.many.2;omega⟩,fun j hj=>?_⟩;show(st.1++[dk st.2 q])[j]? =out[j]?;rw[gg (by have:=h.many.1;omega)];exact h.pre j hj
theorem uH{out:List aD}{args:List Int}{ar kd:Int}{y:ag}(hy:Fit ar kd y)(hc:yR out args ar kd)(ho:zD out)(hs:yk out args): ∀(r:List aD) (i:Nat) (st:List aD×List Int),InI out args st i→y.ops.drop i=r→InI out args (oa args r st) (i+r.length)
 |[],i,st,h,_=>h
 |q::r,i,st,h,hd=>by
  rw[uI];have:=uH hy hc ho hs r (i+1) _ (Fx hy hc ho hs h (mB hd)) (by rw[←List.drop_drop,hd];rfl)
  rwa [show i+(q::r).length=i+1+r.length by simp;omega]
theorem Gr{out:List aD}{args:List Int}(ho:zD out)(hs:yk out args):InI out args (out,[]) 0:=⟨rfl,ho,fun a ha=>by simp at ha,hs,⟨Nat.le_refl _,Nat.le_refl _⟩,fun _ _=>rfl⟩
section
variable{n:Nat}(hn:100<n)
 include hn
theorem Cu{c:ai}(hc:c.af.length≤50){s:ByteArray}(hf:0≤find c s):ld ak .ak n c s=some (mD c s):=by
 have:fX ak .ak n c.af s=some (find c s):=
  cP (p:=fun b=>ot ak .ak n b s) (fun b=>decide (b.name=s)) (fun b _=>rfl) (by omega) (by omega)
 unfold ld;rw[this,au,(wJ hf).1];rfl
theorem IA{x:ag}(hx:x.ops.length≤70):oq ak .ak n x=some (ku x):=by
 have h1:iQ ak .ak n x.ops=some (eX (fun o=> !(!ba o)) x.ops):=
  cP (p:=fun o=>gG ak .ak n o) (fun o=> !(!ba o)) (fun o _=>by
   unfold gG sd;rw[EY hn];rfl) (by omega) (by omega)
 unfold oq mR fZ;rw[cQ h1,au,bQ,qd];rfl
theorem yN{b:aj}(h:1≤b.ae.length):gI b.ae 0=some (nK b):=have _:=hn;by
 unfold nK;cases hb:b.ae with
 |nil=>rw[hb]at h;simp at h
 |cons x r=>rfl
theorem F4{b:aj}(hb:1≤b.ae.length)(hl: ∀x∈b.ae,x.ops.length≤70):jW ak .ak n b=some (lb b):=by
 have hg:=yN hn hb
 have hm:nK b∈b.ae:=fU (by rw[←bK];exact hg)
 have hp:=IA hn (hl _ hm)
 unfold jW;have hz:aw b.ae=(b.ae.length:Int):=rfl
 have e1:ak.aS (b.ae.length:Int) 1=decide (b.ae.length=1):=Ru b.ae.length 1
 rw[au,hz,e1];unfold lb;by_cases h1:b.ae.length=1
 ·rw[bP h1];simp only[dp,beq_self_eq_true,az,hg,au,bg,jx,Bool.true_and];by_cases h2:(nK b).head=⟨#[]⟩
  ·rw[bP h2];simp only[beq_self_eq_true,az,au,Bool.true_and];rw[hp];rfl
  ·rw[bI h2];rfl
 ·rw[bI h1];rfl
theorem Dy{x:ag}(hx:x.ops.length≤70):nf ak .ak n x=some (ku x):=by
 unfold nf;refine(fM (body:=lZ ak .ak n x fun _=>some true) (fun r _=>some (r.all fun o=> !ba o)) x.ops (by omega) (fun self i o r hd hi e1 e2 e3 ih=>?_) (fun self e=>?_) n (by omega))
 ·simp only[lZ,au,e2,az,e1,G7 hn,List.all_cons];cases ba o with
  |true=>rfl
  |false=>rw[aC,e3,ih];rfl
 ·simp only[lZ,au,e,aC,List.all_nil]
theorem Mf{b:aj}(hb:1≤b.ae.length)(hl: ∀x∈b.ae,x.ops.length≤70):tz ak .ak n b=some (lb b):=by
 have hg:=yN hn hb
 have hm:nK b∈b.ae:=fU (by rw[←bK];exact hg)
 have hp:=Dy hn (hl _ hm)
 unfold tz;have hz:aw b.ae=(b.ae.length:Int):=rfl
 have e1:ak.aS (b.ae.length:Int) 1=decide (b.ae.length=1):=Ru b.ae.length 1
 rw[au,hz,e1];unfold lb;by_cases h1:b.ae.length=1
 ·rw[bP h1];simp only[dp,beq_self_eq_true,az,hg,au,bg,jx,Bool.true_and];by_cases h2:(nK b).head=⟨#[]⟩
  ·rw[bP h2];simp only[beq_self_eq_true,az,au,Bool.true_and];rw[hp];rfl
  ·rw[bI h2];rfl
 ·rw[bI h1];rfl
theorem NS{a b c:Nat}(h:a+b+c≤100000):iW ak .ak n [(a:Int),b,c]=some ((a+b+c:Nat):Int):=by
 unfold iW;refine(aT (body:=kC ak .ak n [(a:Int),b,c] (aw [(a:Int),b,c]) fun(z5,z6)=>some z5) (mk:=fun(z:Int) i=>(z,(i:Int))) (fun z r _=>some (z+r.sum)) (fun z i=>z=(([(a:Int),b,c]).take i).sum) [(a:Int),b,c] (by simp) ?_ ?_ n (by simp;omega) 0 rfl).trans ?_
 ·rintro self z i x r hp hd hi e1 e2 e3 ih
  have hs:(([(a:Int),b,c]).take (i+1)).sum=z+x:=by
   have hx:([(a:Int),b,c])[i]? =some x:=by rw[←bK];exact e1
   rw[List.take_add_one,hx,hp];simp
  have hw:ak.wrap .i64 (ak.add z x)=z+x:=by
   refine bL ?_;rw[adX,←hs]
   match i,hi with
   |0,_=>simp;omega
   |1,_=>simp;omega
   |2,_=>simp;omega
  simp only[kC,e2,az,e1,au,hw,e3];rw[ih (z+x) hs.symm];simp[Int.add_assoc]
 ·rintro self z hp e
  simp only[kC,e,aC];simp
 ·simp;omega
end
end Ab
namespace Ab
open Go
set_option maxRecDepth 10000
section
variable{n:Nat}(hn:100<n)
 include hn
theorem Yp{R:Type}{l:List aD}(hl:l.length≤70)(body:(Int×Int→Option R)→Int×Int→Option R)(k:Int×Int→Option R)
  (hb: ∀(self:Int×Int→Option R) (z i:Int),body self (z,i)=bif ak.bf i (aw l)then(gI l i).bind fun x=>bif ak.aS x.kind 3 then self (ak.wrap .i64 (ak.add z 1),ak.wrap .i64 (ak.add i 1))else self (z,ak.wrap .i64 (ak.add i 1))else k (z,i)):
  iter body n (0,0)=k (((l.countP fun q=>decide (q.kind=3):Nat):Int),(l.length:Int)):=by
 refine(aT (body:=body) (mk:=fun(a:Nat) i=>((a:Int),(i:Int))) (fun a r _=>k (((a+r.countP fun q=>decide (q.kind=3):Nat):Int),(l.length:Int))) (fun a i=>a≤i) l (by omega) ?_ ?_ n (by omega) 0 (Nat.le_refl _)).trans (by simp)
 ·rintro self a i q r hp hd hi e1 e2 e3 ih
  rw[hb];have hw:ak.wrap .i64 (ak.add (a:Int) 1)=((a+1:Nat):Int):=yu (by omega)
  simp only[e2,az,e1,au,bU,e3,hw,List.countP_cons];by_cases h3:q.kind=3
  ·rw[bP h3,az,ih (a+1) (by omega)];simp only[if_true];rw[show a+1+r.countP (fun q=>decide (q.kind=3))=a+(r.countP (fun q=>decide (q.kind=3))+1)by omega]
  ·rw[bI h3,aC,ih a (by omega)];simp
 ·rintro self a hp e
  rw[hb];simp only[e,aC,List.countP_nil,Nat.add_zero]
theorem adb{l:List aD}(hl:l.length≤70)(k:Int×Int→Option (List aD×List Int)):iter (ik ak .ak n l (aw l) k) n (0,0)=k (((l.countP fun q=>decide (q.kind=3):Nat):Int),(l.length:Int)):=Yp hn hl _ k fun _ _ _=>rfl
theorem ada{l:List aD}(hl:l.length≤70)(k:Int×Int→Option (List aD×List Int)):iter (ig ak .ak n l (aw l) k) n (0,0)=k (((l.countP fun q=>decide (q.kind=3):Nat):Int),(l.length:Int)):=Yp hn hl _ k fun _ _ _=>rfl
theorem Sn{hd:ByteArray}{kd z:Int}{sl args:List Int}(ha: ∀a∈args,0≤a∧a<sl.length)(hl:args.length≤50):gF ak .ak n hd kd z sl args=some (aO sl args):=
 rY hn (hd:=hd) (kd:=kd) (z:=z) (ops:=[]) ha hl
theorem Sm{hd:ByteArray}{kd z:Int}{ops:List aD}{c:ai}{sl args:List Int}(ha: ∀a∈args,0≤a∧a<sl.length)(hl:args.length≤50):kx ak .ak n hd kd ops z sl c args=some (aO sl args):=
 rY hn (hd:=hd) (kd:=kd) (z:=z) (ops:=ops) ha hl
theorem OH{hd:ByteArray}{kd z:Int}{ops:List aD}{c:ai}{sl args:List Int}(ha: ∀a∈args,0≤a∧a<sl.length)(hl:args.length≤50):jP ak .ak n hd kd ops z sl c args=some (aO sl args):=
 rY hn (hd:=hd) (kd:=kd) (z:=z) (ops:=ops) ha hl
theorem M8{out:List aD}{args:List Int}{ar kd:Int}{y:ag}(hy:Fit ar kd y)(hc:yR out args ar kd)(ho:zD out)(hs:yk out args)(hlen:out.length≤500)(k:List aD×List Int×Int→Option (List aD×List Int)):
  iter (cV ak .ak n y.ops (aw y.ops) args k) n (out,[],0)=k ((oa args y.ops (out,[])).1,(oa args y.ops (out,[])).2,(y.ops.length:Int)):=by
 have N4:=hy.len
 refine aT (body:=cV ak .ak n y.ops (aw y.ops) args k) (mk:=fun(a:List aD×List Int) i=>(a.1,a.2,(i:Int))) (fun a r _=>k ((oa args r a).1,(oa args r a).2,(y.ops.length:Int))) (fun a i=>InI out args a i) y.ops (by omega) ?_ ?_ n (by omega) (out,[]) (Gr ho hs)
 ·rintro self ⟨o1,ow⟩ i q r hp hd hi e1 e2 e3 ih
  have hq:y.ops[i]? =some q:=by rw[←bK];exact e1
  have hm:=fU hq
  have hqn:=hy.n0 q hm
  have gZ:=Fx hy hc ho hs hp hq
  have zy:=hp.many.2
  have hol:=hp.len
  dsimp only at zy hol;have B5:=ih _ gZ
  rw[uI];unfold Dp at B5 ⊢;simp only[cV,e2,az,e1,au,bU];by_cases h1:q.kind=1
  ·simp only[bP h1,az]at B5 ⊢;have hl:=hc.len
   have ht:=hy.take q hm h1
   rw[il hqn (by omega),au,aN (by omega) (by omega),au,e3];exact B5
  ·by_cases h2:q.kind=2
   ·simp only[bI h1,bP h2,az,aC]at B5 ⊢;have hb:=hy.below q hm h2
    obtain⟨h0,hk⟩:=hc.kd (by omega);obtain⟨g1,g2,e⟩:=hp.akL hs h0;rw[g1,au,g2,au,il hqn (by omega),au,aN (by omega) (by omega),au,e3];dsimp only at e;rw[e]at B5 ⊢;exact B5
   ·simp only[bI h1,bI h2,aC]at B5 ⊢;have dx: ∀a∈q.args,0≤a∧a<(ow.length:Int):=fun a ha=>by have:=hy.fQ.args i q hq a ha;rw[hol];exact this
    rw[Sn hn dx (hy.fQ.ar q hm),au];have nM:=C9 (y:=aO ow q.args) (l:=o1) (k:=q.kind) (z:=q.num) (nm:=q.name) (by rw[eP];have:=hy.fQ.ar q hm;omega) (by omega)
    simp only[au,bU]at nM ⊢;rw[nM,au];dsimp only;rw[aN (by omega) (by omega),au,e3];exact B5
 ·rintro self ⟨o1,ow⟩ hp e
  simp only[cV,e,aC,oa]
theorem R0{y sl:List Int}{l:List aD}{k z:Int}{nm:ByteArray}(hy:y.length≤1000)(hl:l.length≤1000)(hs:sl.length≤1000):
  ((some (aw y)).bind fun Y4=>
   (vZ 8 Y4 0).bind fun Ee=>
   (some (kO (Md.ak.ln Ee) y Ee)).bind fun KC=>
   (some (oY (Md.ak.ln Ee) y)).bind fun n44=>
   bif (ak.aS Y4 0)then
    (aP 56 l (⟨k,nm,z,[]⟩:aD)).bind fun M0=>
    (some (aw M0)).bind fun Y3=>
    (aP 8 sl (ak.wrap .i64 (ak.sub Y3 1))).bind fun PN=>
    some (M0,PN)
   else
    (ei (Md.ak.ln Ee) KC).bind fun u47=>
    (aP 56 l (⟨k,nm,z,KC⟩:aD)).bind fun PM=>
    (some (aw PM)).bind fun S7=>
    (aP 8 sl (ak.wrap .i64 (ak.sub S7 1))).bind fun Ro=>
    some (PM,Ro))=some (l++[⟨k,nm,z,y⟩],sl++[(l.length:Int)]):=have _:=hn;by
 have hm:vZ 8 (aw y) (0:Int)=some (List.replicate y.length 0):=so (by omega) (by omega)
 have hc:kO (Md.ak.ln (List.replicate y.length (0:Int))) y (List.replicate y.length 0)=y:=G4 (by simp)
 have hw: ∀o:aD,ak.wrap .i64 (ak.sub (aw (l++[o])) 1)=(l.length:Int):=fun o=>by
  show IntKind.wrap .i64 (((l++[o]).length:Int) - 1)=_;rw[List.length_append,List.length_singleton,show(((l.length+1:Nat):Int) - 1)=(l.length:Int)by omega,AK (by omega)]
 rw[au,hm,au,au,au,hc];by_cases h0:y=[]
 ·subst h0;have:ak.aS (aw ([]:List Int)) 0=true:=rfl
  rw[this,az,aN (by omega) (by omega),au,au,hw,aN (by omega) (by omega),au]
 ·have:ak.aS (aw y) 0=false:=by
   show decide ((y.length:Int)=0)=false;have:y.length≠0:=fun h=>h0 (List.eq_nil_of_length_eq_zero h)
   exact bI (by omega)
  rw[this,aC,eW (by simp[Md.ak]),au,aN (by omega) (by omega),au,au,hw,aN (by omega) (by omega),au]
end
end Ab
namespace Ab
open Go
set_option maxRecDepth 10000
structure Lw(st:List aD×List Int)(i:Nat):Prop where
 len:st.2.length=i
 oo:zD st.1
 sl:yk st.1 st.2
 many:st.1.length≤60+i
def QC(ch:Ch)(x:ag):Prop:= ∀(st:List aD×List Int) (i:Nat) (o:aD) (y:ag),x.ops[i]? =some o→Lw st i→ch st.1 (aO st.2 o.args) o=some y→ ∃ar kd,Fit ar kd y∧yR st.1 (aO st.2 o.args) ar kd
theorem Ct{args:List Int}: ∀(r:List aD) (st:List aD×List Int),(∀q∈r,q.kind=1∨q.kind=2∨q.kind=3)→(oa args r st).1.length=st.1.length+r.countP fun q=>decide (q.kind=3)
 |[],st,_=>rfl
 |q::r,st,h=>by
  rw[uI,Ct r _ (fun p hp=>h p (List.mem_cons_of_mem _ hp)),List.countP_cons];unfold Dp;rcases h q (List.mem_cons_self ..)with h1|h1|h1
  ·rw[bP h1,az];simp[h1]
  ·rw[bI (by omega),aC,bP h1,az];simp[h1]
  ·rw[bI (by omega),aC,bI (by omega),aC];simp[h1];omega
theorem Lw.args{x:ag}(hx:fg x){st:List aD×List Int}{i:Nat}{o:aD}(h:Lw st i)(ho:x.ops[i]? =some o): ∀a∈o.args,0≤a∧a<(st.2.length:Int):=fun a ha=>by have:=hx.args i o ho a ha;rw[h.len];exact this
theorem RZ{x:ag}(hx:fg x){st:List aD×List Int}{i:Nat}{o:aD}(h:Lw st i)(ho:x.ops[i]? =some o):Lw (st.1++[dk st.2 o],st.2++[(st.1.length:Int)]) (i+1):=
 ⟨by simp[h.len],Q8 h.oo h.sl (h.args hx ho) (hx.ar o (fU ho)),FE (JO h.sl _) ⟨by omega,by simp;omega⟩,by simp;have:=h.many;omega⟩
theorem AY{ch:Ch}{x:ag}(hx:fg x)(HN:QC ch x){st:List aD×List Int}{i:Nat}{o:aD}(h:Lw st i)(ho:x.ops[i]? =some o):Lw (qJ ch x.ops.length i o st) (i+1):=by
 unfold qJ;have hi:i<x.ops.length:=(bq.1 ho).1
 cases hc:ch st.1 (aO st.2 o.args) o with
 |none=>exact RZ hx h ho
 |some y=>
  dsimp only;by_cases hd:st.1.length+eS y+(x.ops.length - i - 1)≤60
  ·rw[bP hd,az];obtain⟨ar,kd,hf,XH⟩:=HN st i o y ho h hc;have PZ:=AO h.sl (h.args hx ho)
   have uw:=uH hf XH h.oo PZ y.ops 0 (st.1,[]) (Gr h.oo PZ) rfl
   rw[Nat.zero_add]at uw;have hm:=Ct (args:=aO st.2 o.args) y.ops (st.1,[]) hf.k
   have fO:=hf.fQ.res
   have hlen:=uw.len
   have hv:=uw.sl _ (fR (i:=y.result.toNat) (by omega))
   refine⟨by simp[h.len],uw.oo,?_,?_⟩
   ·refine FE (fun a ha=>?_) hv;have h1:=h.sl a ha
    have h2:=uw.many.1
    dsimp only;omega
   ·dsimp only at hm ⊢;rw[hm];unfold eS at hd;omega
  ·rw[bI hd,aC];exact RZ hx h ho
theorem Qf{c:ai}(rt:Rt c){B:aj}(hB:B∈c.af){y:ag}(hy:y∈B.ae)(hp:ku y=true):Fit B.aI y.aM y:=by
 have xf: ∀q∈y.ops,∃i,OpF c B y i q:=fun q hq=>by
  obtain⟨i,hi⟩:=List.getElem?_of_mem hq;exact⟨i,rt.op B hB y hy i q hi⟩
 refine⟨rt.fQ.x rt.ck hB hy,(rt.bl B hB).len y hy,fun q hq=>?_,fun q hq=>?_,fun q hq hk=>?_,fun q hq hk=>?_⟩
 ·obtain⟨i,hf⟩:=xf q hq;have h1:=List.all_eq_true.1 hp q hq
  simp[ba]at h1;have:=hf.k
  omega
 ·obtain⟨i,hf⟩:=xf q hq;exact hf.n0
 ·obtain⟨i,hf⟩:=xf q hq;exact hf.take hk
 ·obtain⟨i,hf⟩:=xf q hq;exact hf.below hk
theorem sj{b:aj}(h:1≤b.ae.length):nK b∈b.ae:=by
 unfold nK;cases hb:b.ae with
 |nil=>rw[hb]at h;simp at h
 |cons x r=>exact List.mem_cons_self ..
theorem NI{c:ai}{b:aj}{x:ag}{i:Nat}{o:aD}(hf:OpF c b x i o)(hc:ba o=true)(sl:List Int):mD c o.name∈c.af∧((aO sl o.args).length:Int)=(mD c o.name).aI:=by
 obtain⟨h1,h2⟩:=hf.call hc;obtain⟨h3,h4,h5⟩:=wJ h1;exact⟨h4,by rw[eP,h2,h5]⟩
theorem KK{c:ai}(rt:Rt c){b:aj}(hb:b∈c.af){x:ag}(hx:x∈b.ae):QC (dS c) x:=fun st i o y ho h hc=>by
 unfold dS at hc;cases mw:ba o&&lb (mD c o.name)with
 |false=>rw[mw]at hc;cases hc
 |true=>
  rw[mw,az]at hc;cases hc;simp only[Bool.and_eq_true,lb,decide_eq_true_eq]at mw;obtain⟨h1,h2,h3,h4⟩:=mw;obtain⟨hB,hl⟩:=NI (rt.op b hb x hx i o ho) h1 st.2;have hm:=sj (rt.bl _ hB).n.1
  have hk:=((rt.bl _ hB).bare _ hm h3).2
  exact⟨_,_,Qf rt hB hm h4,hl,fun h0=>by omega⟩
theorem KH{c:ai}(rt:Rt c){b:aj}(hb:b∈c.af){x:ag}(hx:x∈b.ae):QC (da c) x:=fun st i o y ho h hc=>by
 unfold da at hc;generalize hq:st.1.getD ((aO st.2 o.args).getD 0 0).toNat default=q at hc;cases mw:ba o&&(!decide ((nK (mD c o.name)).head=⟨#[]⟩)&&decide (q.kind=3))with
 |false=>rw[mw]at hc;cases hc
 |true=>
  rw[mw,az]at hc;simp only[Bool.and_eq_true,Bool.not_eq_true',decide_eq_false_iff_not,decide_eq_true_eq]at mw;obtain⟨h1,h2,h3⟩:=mw;obtain⟨hB,hl⟩:=NI (rt.op b hb x hx i o ho) h1 st.2;obtain⟨hf,hp⟩:=Option.filter_eq_some_iff.1 hc;have hm:=List.mem_of_find?_eq_some hf
  have gT:=List.find?_some hf
  simp only[kJ,Bool.and_eq_true,decide_eq_true_eq]at gT;have Zg:=rt.bl _ hB
  have ha:(mD c o.name).aI≠0:=fun e=>h2 (Zg.zW e _ (sj Zg.n.1))
  have Aj:=Zg.ar
  refine⟨_,_,Qf rt hB hm hp,hl,fun _=>⟨by omega,?_⟩⟩;rw[hq];exact gT.2
section
variable{n:Nat}(hn:100<n)
 include hn
theorem yB{R:Type}{body:(Unit→Option R)→Unit→Option R}{k:Unit→Option R}(hb: ∀self st,body self st=k ()):iter body n ()=k ():=by
 obtain⟨m,rfl⟩: ∃m,n=m+1:=⟨n - 1,by omega⟩;exact hb _ _
theorem yD(sl:List Int)(o:aD):(⟨o.kind,o.name,o.num,aO sl o.args⟩:aD)=dk sl o:=have _:=hn;rfl
theorem M9{c:ai}(rt:Rt c){b:aj}{bi xi:Nat}(hb:gI c.af (bi:Int)=some b){x:ag}(hx:gI b.ae (xi:Int)=some x){st:List aD×List Int}{i:Nat}{o:aD}(ho:gI x.ops (i:Int)=some o)(h:Lw st i)
  (k:List aD×List Int×Int→Option ai)(self:List aD×List Int×Int→Option ai)(hi:ak.bf (i:Int) (aw x.ops)=true)(e3:ak.wrap .i64 (ak.add (i:Int) 1)=((i+1:Nat):Int)):
  cW ak .ak n c c (aw x.ops) x (bi:Int) (xi:Int) k self (st.1,st.2,(i:Int))=self ((qJ (dS c) x.ops.length i o st).1,(qJ (dS c) x.ops.length i o st).2,((i+1:Nat):Int)):=by
 have lT:b∈c.af:=fU (by rw[←bK];exact hb)
 have Bq:x∈b.ae:=fU (by rw[←bK];exact hx)
 have lf:x.ops[i]? =some o:=by rw[←bK];exact ho
 have hom:=fU lf
 have yM:=rt.fQ.x rt.ck lT Bq
 have bc:i<x.ops.length:=(bq.1 lf).1
 have abw:=yM.len
 have HN:=KK rt lT Bq st i o
 have PZ:=AO h.sl (h.args yM lf)
 have hlen:=h.len
 have zy:=h.many
 have Aj:=yM.ar o hom
 have nM:=R0 hn (y:=aO st.2 o.args) (sl:=st.2) (l:=st.1) (k:=o.kind) (z:=o.num) (nm:=o.name) (by rw[eP];omega) (by omega) (by omega)
 have hw:ak.wrap .i64 (ak.sub (ak.wrap .i64 (ak.sub (aw x.ops) (i:Int))) 1)=((x.ops.length - i - 1:Nat):Int):=by
  have e1:ak.wrap .i64 (ak.sub (aw x.ops) (i:Int))=((x.ops.length - i:Nat):Int):=by
   show IntKind.wrap .i64 ((x.ops.length:Int) - i)=_;rw[bL (by omega)];omega
  rw[e1];show IntKind.wrap .i64 (((x.ops.length - i:Nat):Int) - 1)=_;rw[bL (by omega)];omega
 have hcc:(⟨c.af⟩:ai)=c:=rfl
 have g0:gK [(bi:Int),(xi:Int)] 0=some (bi:Int):=rfl
 have g1:gK [(bi:Int),(xi:Int)] 1=some (xi:Int):=rfl
 have n0:gN 2 0=some 0:=rfl
 have n1:gN 2 1=some 1:=rfl
 simp only[cW,hi,az,ho,au,Sm hn (h.args yM lf) Aj,EY hn,hcc];by_cases ca:ba o=true
 ·obtain⟨N6,hf2⟩:=(rt.op b lT x Bq i o lf).call ca;obtain⟨_,hB,_⟩:=wJ N6;have CN:=rt.bl _ hB
  have hBL: ∀y∈(mD c o.name).ae,y.ops.length≤70:=fun y hy=>by have:=CN.len y hy;omega
  have N4:=CN.len _ (sj CN.n.1)
  rw[ca,az];simp only[Cu hn (by have:=rt.ck.bl;omega) N6,au,yN hn CN.n.1,F4 hn CN.n.1 hBL,n0,n1,g0,g1,hb,hx];rw[adb hn (l:=(nK (mD c o.name)).ops) (by omega)];dsimp only;have pB:qJ (dS c) x.ops.length i o st=bif lb (mD c o.name)&&decide (st.1.length+eS (nK (mD c o.name))+(x.ops.length - i - 1)≤60)then
    ((oa (aO st.2 o.args) (nK (mD c o.name)).ops (st.1,[])).1,st.2++[(oa (aO st.2 o.args) (nK (mD c o.name)).ops (st.1,[])).2.getD (nK (mD c o.name)).result.toNat 0])else(st.1++[dk st.2 o],st.2++[(st.1.length:Int)]):=by
   unfold qJ dS;rw[ca,Bool.true_and];cases lb (mD c o.name)<;>rfl
  cases hp:lb (mD c o.name)with
  |false=>
   rw[hp,Bool.false_and,aC]at pB;simp only[au,bQ,bg,Bool.not_false,dp,az,show(true==false)=false from rfl,aC];simp only[au]at nM;rw[nM,au,e3,pB,yD hn]
  |true=>
   rw[hp,Bool.true_and]at pB;have aiL:aw st.1=((st.1.length:Nat):Int):=rfl
   have aji:(nK (mD c o.name)).ops.countP (fun q=>decide (q.kind=3))=eS (nK (mD c o.name)):=rfl
   have jY:eS (nK (mD c o.name))≤60:=Nat.le_trans (List.countP_le_length ..) N4
   simp only[au,bQ,bg,Bool.not_true,dp,aC,beq_self_eq_true,az,hw,aiL,aji];rw[NS hn (by omega),au,fW];have ajf:decide ((60:Int)<((st.1.length+eS (nK (mD c o.name))+(x.ops.length - i - 1):Nat):Int))= !decide (st.1.length+eS (nK (mD c o.name))+(x.ops.length - i - 1)≤60):=by
    by_cases hd:st.1.length+eS (nK (mD c o.name))+(x.ops.length - i - 1)≤60
    ·rw[bP hd,bI (by omega)];rfl
    ·rw[bI hd,bP (by omega)];rfl
   rw[ajf];by_cases hd:st.1.length+eS (nK (mD c o.name))+(x.ops.length - i - 1)≤60
   ·rw[bP hd,az]at pB;rw[bP hd,Bool.not_true,aC];have hc1:dS c st.1 (aO st.2 o.args) o=some (nK (mD c o.name)):=by unfold dS;rw[ca,hp];rfl
    obtain⟨ar,kd,gT,XH⟩:=HN _ lf h hc1;have uw:=uH gT XH h.oo PZ (nK (mD c o.name)).ops 0 _ (Gr h.oo PZ) rfl
    rw[Nat.zero_add]at uw;have fO:=gT.fQ.res
    rw[M8 hn gT XH h.oo PZ (by omega)];dsimp only;rw[il fO.1 (by rw[uw.len];exact fO.2),au,aN (by omega) (by omega),au,au,e3,pB]
   ·rw[bI hd,aC]at pB;rw[bI hd,Bool.not_false,az];simp only[au]at nM;rw[nM,au,e3,pB,yD hn]
 ·have ca:ba o=false:=by simpa using ca
  have pB:qJ (dS c) x.ops.length i o st=(st.1++[dk st.2 o],st.2++[(st.1.length:Int)]):=by
   unfold qJ dS;rw[ca];rfl
  rw[ca,aC];simp only[n0,n1,g0,g1,au,hb,hx];rw[yB hn (body:=ij ak .ak n _) (fun _ _=>rfl)];simp only[au,bQ,bg,Bool.not_false,dp,az,show(true==false)=false from rfl,aC];simp only[au]at nM;rw[nM,au,e3,pB,yD hn]
end
end Ab
namespace Ab
open Go
set_option maxRecDepth 10000
section
variable{n:Nat}(hn:100<n)
 include hn
theorem Tp{out:List aD}{args:List Int}{ar kd:Int}{y:ag}(hy:Fit ar kd y)(hc:yR out args ar kd)(ho:zD out)(hs:yk out args)(hlen:out.length≤500)(k:List aD×List Int×Int→Option (List aD×List Int)):
  iter (ic ak .ak n y.ops (aw y.ops) args k) n (out,[],0)=k ((oa args y.ops (out,[])).1,(oa args y.ops (out,[])).2,(y.ops.length:Int)):=M8 hn hy hc ho hs hlen k
def jOf:Option ag→Bool×ByteArray×Int×List aD×Int
 |some y=>(ku y,y.head,y.aM,y.ops,y.result)
 |none=>(false,⟨#[]⟩,0,[],0)
theorem aaA{B:aj}(hB:B.ae.length≤6)(hl: ∀y∈B.ae,y.ops.length≤70)(q:aD):
  iter (cC ak .ak n (aw B.ae) q B (fun(z50,Ua,H7,YT,IJ,y55)=>some (Ua,H7,YT,IJ,y55)) (fun z56=>some (false,⟨#[]⟩,0,[],0))) n 0=some (jOf (B.ae.find? fun y=>decide (q.kind=3)&&kJ q y)):=by
 refine fM (body:=cC ak .ak n (aw B.ae) q B (fun(z50,Ua,H7,YT,IJ,y55)=>some (Ua,H7,YT,IJ,y55)) (fun z56=>some (false,⟨#[]⟩,0,[],0))) (fun r _=>some (jOf (r.find? fun y=>decide (q.kind=3)&&kJ q y))) B.ae (by omega) (fun self i y r hd hi e1 e2 e3 ih=>?_) (fun self e=>?_) n (by omega)
 ·have hm:y∈B.ae:=fU (by rw[←bK];exact e1)
  have mw:ak.pick (ak.pick (ak.aS q.kind 3) (ak.seq y.head q.name) false) (ak.aS y.aM (aw q.args)) false=(decide (q.kind=3)&&kJ q y):=by
   simp only[bg,bU,jx,mO,kJ,Bool.and_assoc];rfl
  simp only[cC,e2,az,e1,au,mw,List.find?_cons,IA hn (hl y hm)];cases decide (q.kind=3)&&kJ q y with
  |true=>rfl
  |false=>rw[aC,e3,ih]
 ·simp only[cC,e,aC];rfl
theorem agm{c:ai}(rt:Rt c){b:aj}(lT:b∈c.af){x:ag}(Bq:x∈b.ae){st:List aD×List Int}{i:Nat}{o:aD}(lf:x.ops[i]? =some o)(ca:ba o=true)(h:Lw st i):
  ∃pb hd kd ops res,((ld ak .ak n c o.name).bind fun AH=>
   (gI AH.ae 0).bind fun Ol=>
   bif (ak.seq Ol.head (⟨#[]⟩:ByteArray))then
    some (false,⟨#[]⟩,0,[],0)
   else
    (gI o.args 0).bind fun x42=>
    (gI st.2 x42).bind fun x43=>
    (gI st.1 x43).bind fun LJ=>
    (some (aw AH.ae)).bind fun MO=>
    iter (cC ak .ak n MO LJ AH (fun(z50,Ua,H7,YT,IJ,y55)=>
     some (Ua,H7,YT,IJ,y55)) (fun z56=>
     some (false,⟨#[]⟩,0,[],0))) n 0)=some (pb,hd,kd,ops,res)∧ops.length≤60∧
   (pb=true→ ∃y,da c st.1 (aO st.2 o.args) o=some y∧y.ops=ops∧y.result=res)∧(pb=false→da c st.1 (aO st.2 o.args) o=none):=by
 have yM:=rt.fQ.x rt.ck lT Bq
 have xf:=rt.op b lT x Bq i o lf
 obtain⟨N6,hf2⟩:=xf.call ca;obtain⟨_,hB,hB2⟩:=wJ N6;have CN:=rt.bl _ hB
 have hBL: ∀y∈(mD c o.name).ae,y.ops.length≤70:=fun y hy=>by have:=CN.len y hy;omega
 rw[Cu hn (by have:=rt.ck.bl;omega) N6,au,yN hn CN.n.1,au,jx];by_cases hh:(nK (mD c o.name)).head=⟨#[]⟩
 ·rw[bP hh,az];refine⟨_,_,_,_,_,rfl,by simp,fun e=>(by cases e),fun _=>?_⟩;unfold da;rw[bP hh];simp
 ·rw[bI hh,aC];have ha:(mD c o.name).aI≠0:=fun e=>hh (CN.zW e _ (sj CN.n.1))
  have Aj:=CN.ar
  have h0:0<o.args.length:=by omega
  obtain⟨a,ra,IV⟩: ∃a r,o.args=a::r:=by
   cases ha:o.args with
   |nil=>rw[ha]at h0;simp at h0
   |cons a r=>exact⟨a,r,rfl⟩
  have ajo:=h.args yM lf a (by rw[IV];simp)
  have hs0:(aO st.2 o.args).getD 0 0=st.2.getD a.toNat 0:=by rw[IV];rfl
  have HK:=h.sl _ (fR (l:=st.2) (i:=a.toNat) (by omega))
  have hq:gI st.1 (st.2.getD a.toNat 0)=some (st.1.getD (st.2.getD a.toNat 0).toNat default):=by
   unfold gI;rw[if_pos HK.1];exact ud (by omega)
  rw[show gI o.args 0=some a by rw[IV];rfl,au,il ajo.1 ajo.2,au,hq,au,au,aaA hn CN.n.2 hBL];have Bu:da c st.1 (aO st.2 o.args) o=bif decide ((st.1.getD (st.2.getD a.toNat 0).toNat default).kind=3)then((mD c o.name).ae.find? (kJ (st.1.getD (st.2.getD a.toNat 0).toNat default))).filter ku else none:=by
   unfold da;rw[hs0,ca,bI hh];rfl
  generalize st.1.getD (st.2.getD a.toNat 0).toNat default=q at Bu;by_cases h3:q.kind=3
  ·rw[bP h3,az]at Bu;have hfn:((mD c o.name).ae.find? fun y=>decide (q.kind=3)&&kJ q y)=(mD c o.name).ae.find? (kJ q):=by rw[bP h3];simp
   rw[hfn];cases hfd:(mD c o.name).ae.find? (kJ q)with
   |none=>exact⟨_,_,_,_,_,rfl,by simp,fun e=>(by cases e),fun _=>by rw[Bu,hfd];rfl⟩
   |some y=>
    have hym:=List.mem_of_find?_eq_some hfd
    refine⟨_,_,_,_,_,rfl,CN.len y hym,fun e=>⟨y,?_,rfl,rfl⟩,fun e=>?_⟩
    ·rw[Bu,hfd];simp[e]
    ·rw[Bu,hfd];simp[e]
  ·rw[bI h3,aC]at Bu;have hfn:((mD c o.name).ae.find? fun y=>decide (q.kind=3)&&kJ q y)=none:=by rw[bI h3];simp
   rw[hfn];exact⟨_,_,_,_,_,rfl,by simp,fun e=>(by cases e),fun _=>Bu⟩
theorem PR{c:ai}(rt:Rt c){b:aj}{bi xi:Nat}(hb:gI c.af (bi:Int)=some b){x:ag}(hx:gI b.ae (xi:Int)=some x){st:List aD×List Int}{i:Nat}{o:aD}(ho:gI x.ops (i:Int)=some o)(h:Lw st i)
  (k:List aD×List Int×Int→Option ai)(self:List aD×List Int×Int→Option ai)(hi:ak.bf (i:Int) (aw x.ops)=true)(e3:ak.wrap .i64 (ak.add (i:Int) 1)=((i+1:Nat):Int)):
  cT ak .ak n c c (aw x.ops) x (bi:Int) (xi:Int) k self (st.1,st.2,(i:Int))=self ((qJ (da c) x.ops.length i o st).1,(qJ (da c) x.ops.length i o st).2,((i+1:Nat):Int)):=by
 have lT:b∈c.af:=fU (by rw[←bK];exact hb)
 have Bq:x∈b.ae:=fU (by rw[←bK];exact hx)
 have lf:x.ops[i]? =some o:=by rw[←bK];exact ho
 have hom:=fU lf
 have yM:=rt.fQ.x rt.ck lT Bq
 have bc:i<x.ops.length:=(bq.1 lf).1
 have abw:=yM.len
 have HN:=KH rt lT Bq st i o
 have PZ:=AO h.sl (h.args yM lf)
 have hlen:=h.len
 have zy:=h.many
 have Aj:=yM.ar o hom
 have nM:=R0 hn (y:=aO st.2 o.args) (sl:=st.2) (l:=st.1) (k:=o.kind) (z:=o.num) (nm:=o.name) (by rw[eP];omega) (by omega) (by omega)
 have hw:ak.wrap .i64 (ak.sub (ak.wrap .i64 (ak.sub (aw x.ops) (i:Int))) 1)=((x.ops.length - i - 1:Nat):Int):=by
  have e1:ak.wrap .i64 (ak.sub (aw x.ops) (i:Int))=((x.ops.length - i:Nat):Int):=by
   show IntKind.wrap .i64 ((x.ops.length:Int) - i)=_;rw[bL (by omega)];omega
  rw[e1];show IntKind.wrap .i64 (((x.ops.length - i:Nat):Int) - 1)=_;rw[bL (by omega)];omega
 have hcc:(⟨c.af⟩:ai)=c:=rfl
 have g0:gK [(bi:Int),(xi:Int)] 0=some (bi:Int):=rfl
 have g1:gK [(bi:Int),(xi:Int)] 1=some (xi:Int):=rfl
 have n0:gN 2 0=some 0:=rfl
 have n1:gN 2 1=some 1:=rfl
 simp only[cT,hi,az,ho,au,OH hn (h.args yM lf) Aj,EY hn,hcc];by_cases ca:ba o=true
 ·obtain⟨N6,hf2⟩:=(rt.op b lT x Bq i o lf).call ca;obtain⟨_,hB,_⟩:=wJ N6;have CN:=rt.bl _ hB
  have hBL: ∀y∈(mD c o.name).ae,y.ops.length≤70:=fun y hy=>by have:=CN.len y hy;omega
  rw[ca,az];have Xm:=agm hn rt lT Bq lf ca h
  simp only[Cu hn (by have:=rt.ck.bl;omega) N6,au,yN hn CN.n.1]at Xm ⊢;obtain⟨pb,hd,kd,ops,res,hJ,hl,ht,hf⟩:=Xm;rw[hJ,au];simp only[n0,n1,g0,g1,hb,hx,au];rw[ada hn (l:=ops) (by omega)];dsimp only;cases hp:pb with
  |false=>
   have pB:qJ (da c) x.ops.length i o st=(st.1++[dk st.2 o],st.2++[(st.1.length:Int)]):=by
    unfold qJ;rw[hf hp]
   simp only[au,bQ,bg,Bool.not_false,dp,az,show(true==false)=false from rfl,aC];simp only[au]at nM;rw[nM,au,e3,pB,yD hn]
  |true=>
   obtain⟨y,hc1,rfl,rfl⟩:=ht hp;have pB:qJ (da c) x.ops.length i o st=bif decide (st.1.length+eS y+(x.ops.length - i - 1)≤60)then
     ((oa (aO st.2 o.args) y.ops (st.1,[])).1,st.2++[(oa (aO st.2 o.args) y.ops (st.1,[])).2.getD y.result.toNat 0])else(st.1++[dk st.2 o],st.2++[(st.1.length:Int)]):=by
    unfold qJ;rw[hc1]
   have aiL:aw st.1=((st.1.length:Nat):Int):=rfl
   have aji:y.ops.countP (fun q=>decide (q.kind=3))=eS y:=rfl
   have jY:eS y≤60:=Nat.le_trans (List.countP_le_length ..) hl
   simp only[au,bQ,bg,Bool.not_true,dp,aC,beq_self_eq_true,az,hw,aiL,aji];rw[NS hn (by omega),au,fW];have ajf:decide ((60:Int)<((st.1.length+eS y+(x.ops.length - i - 1):Nat):Int))= !decide (st.1.length+eS y+(x.ops.length - i - 1)≤60):=by
    by_cases hd:st.1.length+eS y+(x.ops.length - i - 1)≤60
    ·rw[bP hd,bI (by omega)];rfl
    ·rw[bI hd,bP (by omega)];rfl
   rw[ajf];by_cases hd:st.1.length+eS y+(x.ops.length - i - 1)≤60
   ·rw[bP hd,az]at pB;rw[bP hd,Bool.not_true,aC];obtain⟨ar,kd,gT,XH⟩:=HN _ lf h hc1;have uw:=uH gT XH h.oo PZ y.ops 0 _ (Gr h.oo PZ) rfl
    rw[Nat.zero_add]at uw;have fO:=gT.fQ.res
    rw[Tp hn gT XH h.oo PZ (by omega)];dsimp only;rw[il fO.1 (by rw[uw.len];exact fO.2),au,aN (by omega) (by omega),au,au,e3,pB]
   ·rw[bI hd,aC]at pB;rw[bI hd,Bool.not_false,az];simp only[au]at nM;rw[nM,au,e3,pB,yD hn]
 ·have ca:ba o=false:=by simpa using ca
  have pB:qJ (da c) x.ops.length i o st=(st.1++[dk st.2 o],st.2++[(st.1.length:Int)]):=by
   unfold qJ da;rw[ca];rfl
  rw[ca,aC];simp only[n0,n1,g0,g1,au,hb,hx];rw[yB hn (body:=ib ak .ak n _) (fun _ _=>rfl)];simp only[au,bQ,bg,Bool.not_false,dp,az,show(true==false)=false from rfl,aC];simp only[au]at nM;rw[nM,au,e3,pB,yD hn]
end
end Ab
namespace Ab
open Go
set_option maxRecDepth 10000
theorem Mt{ch:Ch}{x:ag}(hx:fg x)(HN:QC ch x): ∀(r:List aD) (i:Nat) (st:List aD×List Int),Lw st i→x.ops.drop i=r→Lw (nJ ch x.ops.length r i st) (i+r.length)
 |[],i,st,h,_=>h
 |o::r,i,st,h,hd=>by
  unfold nJ;have:=Mt hx HN r (i+1) _ (AY hx HN h (mB hd)) (by rw[←List.drop_drop,hd];rfl)
  rwa [show i+(o::r).length=i+1+r.length by simp;omega]
theorem aed:Lw ([],[]) 0:=⟨rfl,fun j q hq=>by simp at hq,fun a ha=>by simp at ha,by simp⟩
theorem Mu{ch:Ch}{x:ag}(hx:fg x)(HN:QC ch x):Lw (nJ ch x.ops.length x.ops 0 ([],[])) x.ops.length:=by
 have:=Mt hx HN x.ops 0 _ aed rfl
 rwa [Nat.zero_add]at this
theorem Mr{ch:Ch}{x:ag}(hx:fg x)(HN:QC ch x):(nJ ch x.ops.length x.ops 0 ([],[])).2.length=x.ops.length:=(Mu hx HN).len
section
variable{n:Nat}(hn:100<n)
 include hn
theorem PU{c:ai}(rt:Rt c){b:aj}{bi xi:Nat}(hb:gI c.af (bi:Int)=some b){x:ag}(hx:gI b.ae (xi:Int)=some x)(k:List aD×List Int×Int→Option ai):
  iter (cW ak .ak n c c (aw x.ops) x (bi:Int) (xi:Int) k) n ([],[],0)=k ((nJ (dS c) x.ops.length x.ops 0 ([],[])).1,(nJ (dS c) x.ops.length x.ops 0 ([],[])).2,(x.ops.length:Int)):=by
 have lT:b∈c.af:=fU (by rw[←bK];exact hb)
 have Bq:x∈b.ae:=fU (by rw[←bK];exact hx)
 have yM:=rt.fQ.x rt.ck lT Bq
 have abw:=yM.len
 refine aT (body:=cW ak .ak n c c (aw x.ops) x (bi:Int) (xi:Int) k) (mk:=fun(a:List aD×List Int) i=>(a.1,a.2,(i:Int))) (fun a r i=>k ((nJ (dS c) x.ops.length r i a).1,(nJ (dS c) x.ops.length r i a).2,(x.ops.length:Int))) (fun a i=>Lw a i) x.ops (by omega) ?_ ?_ n (by omega) ([],[]) ⟨rfl,fun j q hq=>by simp at hq,fun a ha=>by simp at ha,by simp⟩
 ·intro self st i o r hp hd hi e1 e2 e3 ih;have lf:x.ops[i]? =some o:=by rw[←bK];exact e1
  rw[M9 hn rt hb hx e1 hp k self e2 e3];exact ih _ (AY yM (KK rt lT Bq) hp lf)
 ·intro self st hp e;simp only[cW,e,aC,nJ]
theorem PV{c:ai}(rt:Rt c){i:Nat}{b:aj}{rb:List aj}(hb:c.af.drop i=b::rb){l9:List aj}(Gz:l9.length=c.af.length){l0:List Int}(P5:l0.length=2)(k:List Int×List aj×Int→Option ai)(R:Option ai)
  (hk: ∀l,l.length=2→k (l,cA (la (dS c)) c.af (i+1) 0,(b.ae.length:Int))=R):iter (dO ak .ak n c c l9 (aw b.ae) b (i:Int) k) n (l0,cA (la (dS c)) c.af i 0,0)=R:=by
 have lT:=bO hb
 have XI:=rt.ck.br b lT
 have hi:i<c.af.length:=(bq.1 (mB hb)).1
 refine aT (body:=dO ak .ak n c c l9 (aw b.ae) b (i:Int) k) (mk:=fun(a:List Int×List aj) j=>(a.1,a.2,(j:Int))) (fun _ _ _=>R) (fun a j=>a.1.length=2∧a.2=cA (la (dS c)) c.af i j) b.ae (by omega) ?_ ?_ n (by omega) (l0,_) ⟨P5,rfl⟩
 ·rintro self ⟨l,L⟩ j x r ⟨sU,hp⟩ hd hj e1 e2 e3 ih
  dsimp only at hp sU;subst hp;have yM:=rt.fQ.x rt.ck lT (bO hd)
  have fO:=yM.res
  have TB: ∀{a b:Int},gK [a,b] 0=some a:=rfl
  have jg:Md.ak.ln l9=c.af.length:=Gz
  have Gy:(nJ (dS c) x.ops.length x.ops 0 ([],[])).2.length=x.ops.length:=Mr yM (KK rt lT (bO hd))
  have hr:gI (nJ (dS c) x.ops.length x.ops 0 ([],[])).2 x.result=some ((nJ (dS c) x.ops.length x.ops 0 ([],[])).2.getD x.result.toNat 0):=il fO.1 (by rw[Gy];exact fO.2)
  simp only[dO,e2,az,e1,au,show fe 2 (List.replicate 2 (0:Int))=some ()from rfl,show∀a b:Int,fe 2 [a,b]=some ()from fun _ _=>rfl,um sU];rw[PU hn rt (eM hb) e1];simp only[show gN 2 0=some 0 from rfl,TB,hr,au,jg,iI hi,pF hb];rw[aN (by omega) (by simp;omega),au];have:=pE (F:=la (dS c)) hb hd
  unfold la at this ⊢;rw[this,au,e3];exact ih ([(i:Int),(j:Int)],_) ⟨rfl,rfl⟩
 ·rintro self ⟨l,L⟩ ⟨sU,hp⟩ e
  dsimp only at hp sU;subst hp;simp only[dO,e,aC];rw[nE hb];exact hk _ sU
theorem PW{c:ai}(rt:Rt c){l9:List aj}(Gz:l9.length=c.af.length){l0:List Int}(P5:l0.length=2)(k:List Int×List aj×Int→Option ai)(R:Option ai)
  (hk: ∀l,l.length=2→k (l,c.af.map (c6 (la (dS c))),(c.af.length:Int))=R):iter (dP ak .ak n c c l9 (aw c.af) k) n (l0,c.af.map bare,0)=R:=by
 have AE:=rt.ck.bl
 refine(aT (body:=dP ak .ak n c c l9 (aw c.af) k) (mk:=fun(a:List Int×List aj) j=>(a.1,a.2,(j:Int))) (fun _ _ _=>R) (fun a j=>a.1.length=2∧a.2=cA (la (dS c)) c.af j 0) c.af (by omega) ?_ ?_ n (by omega) (l0,_) ⟨P5,vB.symm⟩)
 ·rintro self ⟨l,L⟩ i b r ⟨sU,hp⟩ hd hi e1 e2 e3 ih
  dsimp only at hp sU;subst hp;simp only[dP,e2,az,e1,au];refine PV hn rt hd Gz sU _ R fun l' tG=>?_;dsimp only;rw[e3];exact ih (l',_) ⟨tG,rfl⟩
 ·rintro self ⟨l,L⟩ ⟨sU,hp⟩ e
  dsimp only at hp sU;subst hp;simp only[dP,e,aC];rw[pG];exact hk _ sU
theorem PX{c:ai}(AE:c.af.length≤16)(k:List aj×Int→Option ai){b:aj}{r:List aj}(hb:c.af=b::r):iter (cX ak .ak n c (aw c.af) k) n ([bare b],1)=k (c.af.map bare,(c.af.length:Int)):=by
 have:=rK (body:=cX ak .ak n c (aw c.af) k) (mk:=fun(a:List aj) j=>(a,(j:Int))) (fun a r _=>k (a++r.map bare,(c.af.length:Int))) (fun a i=>a.length=i) c.af (by omega) ?_ ?_ n 1 (by rw[hb];simp) (by omega) [bare b] rfl
 ·refine this.trans ?_;rw[hb];rfl
 ·intro self l i x r hp hd hi e1 e2 e3 ih;simp only[cX,e2,az,e1,au];rw[aN (by omega) (by omega),au,e3,ih _ (by simp[hp])];simp[bare]
 ·intro self l hp e;simp only[cX,e,aC];simp
theorem T5{c:ai}(hc:qI c):mm ak .ak n c=some (bif decide (bh c=0)then(⟨c.af.map (c6 (la (dS c)))⟩,0)else(⟨[]⟩,bh c)):=by
 unfold mm;rw[qG hn hc,au,bQ,bU];by_cases h0:bh c=0
 ·have rt:=L8 hc h0
  have AE:=hc.bl
  obtain⟨b,r,hb⟩: ∃b r,c.af=b::r:=by
   cases h:c.af with
   |nil=>have:=rt.fQ.some.1;rw[h]at this;simp at this
   |cons b r=>exact⟨b,r,rfl⟩
  rw[bP h0,Bool.not_true,aC,az];unfold om;have h1:ak.bf 0 (aw c.af)=true:=by show decide ((0:Int)<c.af.length)=true;rw[hb];simp
  have h2:gI c.af 0=some b:=by rw[hb];rfl
  have hw:ak.wrap .i64 (ak.add 0 1)=1:=by show IntKind.wrap .i64 1=1;rw[bL (by omega)]
  simp only[au];rw[h1,az,h2,au,aN (by omega) (by simp),au,hw];rw[show iter (cX ak .ak n c (aw c.af) _) n ([]++[(⟨b.name,b.aI,[]⟩:aj)],1)=_ from PX hn AE _ hb];dsimp only;rw[PW hn rt (l9:=c.af.map bare) (by simp) (by simp) _ (some ⟨c.af.map (c6 (la (dS c)))⟩) (fun l hl=>by
   dsimp only;rw[eW (by simp[Md.ak]),au]),au]
 ·rw[bI h0,Bool.not_false,az,aC]
theorem Tk{c:ai}(rt:Rt c){b:aj}{bi xi:Nat}(hb:gI c.af (bi:Int)=some b){x:ag}(hx:gI b.ae (xi:Int)=some x)(k:List aD×List Int×Int→Option ai):
  iter (cT ak .ak n c c (aw x.ops) x (bi:Int) (xi:Int) k) n ([],[],0)=k ((nJ (da c) x.ops.length x.ops 0 ([],[])).1,(nJ (da c) x.ops.length x.ops 0 ([],[])).2,(x.ops.length:Int)):=by
 have lT:b∈c.af:=fU (by rw[←bK];exact hb)
 have Bq:x∈b.ae:=fU (by rw[←bK];exact hx)
 have yM:=rt.fQ.x rt.ck lT Bq
 have abw:=yM.len
 refine aT (body:=cT ak .ak n c c (aw x.ops) x (bi:Int) (xi:Int) k) (mk:=fun(a:List aD×List Int) i=>(a.1,a.2,(i:Int))) (fun a r i=>k ((nJ (da c) x.ops.length r i a).1,(nJ (da c) x.ops.length r i a).2,(x.ops.length:Int))) (fun a i=>Lw a i) x.ops (by omega) ?_ ?_ n (by omega) ([],[]) ⟨rfl,fun j q hq=>by simp at hq,fun a ha=>by simp at ha,by simp⟩
 ·intro self st i o r hp hd hi e1 e2 e3 ih;have lf:x.ops[i]? =some o:=by rw[←bK];exact e1
  rw[PR hn rt hb hx e1 hp k self e2 e3];exact ih _ (AY yM (KH rt lT Bq) hp lf)
 ·intro self st hp e;simp only[cT,e,aC,nJ]
theorem Tl{c:ai}(rt:Rt c){i:Nat}{b:aj}{rb:List aj}(hb:c.af.drop i=b::rb){l9:List aj}(Gz:l9.length=c.af.length){l0:List Int}(P5:l0.length=2)(k:List Int×List aj×Int→Option ai)(R:Option ai)
  (hk: ∀l,l.length=2→k (l,cA (la (da c)) c.af (i+1) 0,(b.ae.length:Int))=R):iter (dM ak .ak n c c l9 (aw b.ae) b (i:Int) k) n (l0,cA (la (da c)) c.af i 0,0)=R:=by
 have lT:=bO hb
 have XI:=rt.ck.br b lT
 have hi:i<c.af.length:=(bq.1 (mB hb)).1
 refine aT (body:=dM ak .ak n c c l9 (aw b.ae) b (i:Int) k) (mk:=fun(a:List Int×List aj) j=>(a.1,a.2,(j:Int))) (fun _ _ _=>R) (fun a j=>a.1.length=2∧a.2=cA (la (da c)) c.af i j) b.ae (by omega) ?_ ?_ n (by omega) (l0,_) ⟨P5,rfl⟩
 ·rintro self ⟨l,L⟩ j x r ⟨sU,hp⟩ hd hj e1 e2 e3 ih
  dsimp only at hp sU;subst hp;have yM:=rt.fQ.x rt.ck lT (bO hd)
  have fO:=yM.res
  have TB: ∀{a b:Int},gK [a,b] 0=some a:=rfl
  have jg:Md.ak.ln l9=c.af.length:=Gz
  have Gy:(nJ (da c) x.ops.length x.ops 0 ([],[])).2.length=x.ops.length:=Mr yM (KH rt lT (bO hd))
  have hr:gI (nJ (da c) x.ops.length x.ops 0 ([],[])).2 x.result=some ((nJ (da c) x.ops.length x.ops 0 ([],[])).2.getD x.result.toNat 0):=il fO.1 (by rw[Gy];exact fO.2)
  simp only[dM,e2,az,e1,au,show fe 2 (List.replicate 2 (0:Int))=some ()from rfl,show∀a b:Int,fe 2 [a,b]=some ()from fun _ _=>rfl,um sU];rw[Tk hn rt (eM hb) e1];simp only[show gN 2 0=some 0 from rfl,TB,hr,au,jg,iI hi,pF hb];rw[aN (by omega) (by simp;omega),au];have:=pE (F:=la (da c)) hb hd
  unfold la at this ⊢;rw[this,au,e3];exact ih ([(i:Int),(j:Int)],_) ⟨rfl,rfl⟩
 ·rintro self ⟨l,L⟩ ⟨sU,hp⟩ e
  dsimp only at hp sU;subst hp;simp only[dM,e,aC];rw[nE hb];exact hk _ sU
theorem Tm{c:ai}(rt:Rt c){l9:List aj}(Gz:l9.length=c.af.length){l0:List Int}(P5:l0.length=2)(k:List Int×List aj×Int→Option ai)(R:Option ai)
  (hk: ∀l,l.length=2→k (l,c.af.map (c6 (la (da c))),(c.af.length:Int))=R):iter (dN ak .ak n c c l9 (aw c.af) k) n (l0,c.af.map bare,0)=R:=by
 have AE:=rt.ck.bl
 refine(aT (body:=dN ak .ak n c c l9 (aw c.af) k) (mk:=fun(a:List Int×List aj) j=>(a.1,a.2,(j:Int))) (fun _ _ _=>R) (fun a j=>a.1.length=2∧a.2=cA (la (da c)) c.af j 0) c.af (by omega) ?_ ?_ n (by omega) (l0,_) ⟨P5,vB.symm⟩)
 ·rintro self ⟨l,L⟩ i b r ⟨sU,hp⟩ hd hi e1 e2 e3 ih
  dsimp only at hp sU;subst hp;simp only[dN,e2,az,e1,au];refine Tl hn rt hd Gz sU _ R fun l' tG=>?_;dsimp only;rw[e3];exact ih (l',_) ⟨tG,rfl⟩
 ·rintro self ⟨l,L⟩ ⟨sU,hp⟩ e
  dsimp only at hp sU;subst hp;simp only[dN,e,aC];rw[pG];exact hk _ sU
theorem Tn{c:ai}(AE:c.af.length≤16)(k:List aj×Int→Option ai){b:aj}{r:List aj}(hb:c.af=b::r):iter (cU ak .ak n c (aw c.af) k) n ([bare b],1)=k (c.af.map bare,(c.af.length:Int)):=by
 have:=rK (body:=cU ak .ak n c (aw c.af) k) (mk:=fun(a:List aj) j=>(a,(j:Int))) (fun a r _=>k (a++r.map bare,(c.af.length:Int))) (fun a i=>a.length=i) c.af (by omega) ?_ ?_ n 1 (by rw[hb];simp) (by omega) [bare b] rfl
 ·refine this.trans ?_;rw[hb];rfl
 ·intro self l i x r hp hd hi e1 e2 e3 ih;simp only[cU,e2,az,e1,au];rw[aN (by omega) (by omega),au,e3,ih _ (by simp[hp])];simp[bare]
 ·intro self l hp e;simp only[cU,e,aC];simp
theorem YL{c:ai}(hc:qI c):ou ak .ak n c=some (bif decide (bh c=0)then(⟨c.af.map (c6 (la (da c)))⟩,0)else(⟨[]⟩,bh c)):=by
 unfold ou;rw[qG hn hc,au,bQ,bU];by_cases h0:bh c=0
 ·have rt:=L8 hc h0
  have AE:=hc.bl
  obtain⟨b,r,hb⟩: ∃b r,c.af=b::r:=by
   cases h:c.af with
   |nil=>have:=rt.fQ.some.1;rw[h]at this;simp at this
   |cons b r=>exact⟨b,r,rfl⟩
  rw[bP h0,Bool.not_true,aC,az];unfold oh;have h1:ak.bf 0 (aw c.af)=true:=by show decide ((0:Int)<c.af.length)=true;rw[hb];simp
  have h2:gI c.af 0=some b:=by rw[hb];rfl
  have hw:ak.wrap .i64 (ak.add 0 1)=1:=by show IntKind.wrap .i64 1=1;rw[bL (by omega)]
  simp only[au];rw[h1,az,h2,au,aN (by omega) (by simp),au,hw];rw[show iter (cU ak .ak n c (aw c.af) _) n ([]++[(⟨b.name,b.aI,[]⟩:aj)],1)=_ from Tn hn AE _ hb];dsimp only;rw[Tm hn rt (l9:=c.af.map bare) (by simp) (by simp) _ (some ⟨c.af.map (c6 (la (da c)))⟩) (fun l hl=>by
   dsimp only;rw[eW (by simp[Md.ak]),au]),au]
 ·rw[bI h0,Bool.not_false,az,aC]
end
end Ab
namespace Ab
open Go
set_option maxRecDepth 10000
def pad(sl:List Int)(N:Nat):List Int:=sl++List.replicate (N - sl.length) 0
theorem A4{sl:List Int}{N:Nat}(h:sl.length≤N):(pad sl N).length=N:=by simp[pad];omega
theorem Q7{sl:List Int}{N:Nat}(h:sl.length<N)(v:Int):gD (pad sl N) sl.length v=some (pad (sl++[v]) N):=by
 rw[mF (by rw[A4 (by omega)];exact h)];unfold pad;rw[show N - sl.length=(N - (sl++[v]).length)+1 by simp;omega,List.replicate_succ,List.set_append_right _ _ (Nat.le_refl _)];simp
theorem Mz{sl:List Int}{N:Nat}(h:sl.length=N):pad sl N=sl:=by simp[pad,h]
theorem Iz{sl args:List Int}{N:Nat}(h: ∀a∈args,0≤a∧a<(sl.length:Int)):aO (pad sl N) args=aO sl args:=by
 unfold aO;apply List.map_congr_left;intro a ha;have:=h a ha
 unfold pad;exact getD_congr (gg (by omega))
theorem GJ{q:aD}: ∀{l:List ag},(l.map qK).Nodup→(l.find? (kJ q)).filter ku=l.find? fun y=>kJ q y&&ku y
 |[],_=>rfl
 |y::r,h=>by
  have hn:qK y ∉ r.map qK∧(r.map qK).Nodup:=List.nodup_cons.1 (by rw[←List.map_cons];exact h)
  simp only[List.find?_cons];cases hf:kJ q y with
  |false=>simpa using GJ hn.2
  |true=>
   cases hp:ku y with
   |true=>simp[hp]
   |false=>
    simp only[Bool.and_false];have:r.find? (fun z=>kJ q z&&ku z)=none:=by
     rw[List.find?_eq_none];intro z hz hh;simp only[Bool.and_eq_true]at hh;have e:qK z=qK y:=by
      simp only[kJ,Bool.and_eq_true,decide_eq_true_eq]at hf hh;unfold qK;rw[hf.1,hf.2,hh.1.1,hh.1.2]
     exact hn.1 (by rw[←e];exact List.mem_map_of_mem hz)
    rw[this];simp[hp]
theorem TG{q:ag→Bool}{l:List ag}:(l.find? q=none∧eX q l<0)∨ ∃y,l.find? q=some y∧0≤eX q l∧gI l (eX q l)=some y∧y∈l:=by
 unfold eX;cases h:l.findIdx? q with
 |none=>
  left;refine⟨?_,by dsimp only;omega⟩;rw[List.find?_eq_none];exact fun x hx=>by simpa using List.findIdx?_eq_none_iff.1 h x hx
 |some i=>
  right;obtain⟨h1,h2,h3⟩:=List.findIdx?_eq_some_iff_getElem.1 h;refine⟨l[i],?_,by dsimp only;omega,by rw[bK];simp[h1],List.getElem_mem h1⟩;rw[List.find?_eq_some_iff_getElem];exact⟨h2,i,h1,rfl,fun j hj=>by simpa using h3 j hj⟩
section
variable{n:Nat}(hn:100<n)
 include hn
theorem aaG{y:ag}(hl:y.ops.length≤70)(hk: ∀q∈y.ops,q.kind=1∨q.kind=2∨q.kind=3)(k:Int×Int→Option ag):iter (nc ak .ak n y k) n (0,0)=k ((eS y:Nat),(y.ops.length:Int)):=by
 refine(aT (body:=nc ak .ak n y k) (mk:=fun(a:Nat) i=>((a:Int),(i:Int))) (fun a r _=>k (((a+r.countP fun q=>decide (q.kind=3):Nat):Int),(y.ops.length:Int))) (fun a i=>a≤i) y.ops (by omega) ?_ ?_ n (by omega) 0 (Nat.le_refl _)).trans (by simp[eS])
 ·rintro self a i q r hp hd hi e1 e2 e3 ih
  have hm:q∈y.ops:=fU (by rw[←bK];exact e1)
  have hw:ak.wrap .i64 (ak.add (a:Int) 1)=((a+1:Nat):Int):=yu (by omega)
  simp only[nc,au,e2,az,e1,bQ,bU,bg,e3,hw,List.countP_cons];rcases hk q hm with h1|h1|h1
  ·simp only[h1,decide_true,Bool.not_true,aC];rw[ih a (by omega)];simp[dp,h1]
  ·simp only[h1,show decide ((2:Int)=1)=false from rfl,Bool.not_false,if_true,decide_true,Bool.not_true,az,aC];rw[ih a (by omega)];simp[dp,h1]
  ·simp only[h1,show decide ((3:Int)=1)=false from rfl,show decide ((3:Int)=2)=false from rfl,Bool.not_false,if_true,az];rw[ih (a+1) (by omega)];simp only[decide_true,if_true,dp,beq_self_eq_true,az,au,h1,show decide ((3:Int)=2)=false from rfl,Bool.not_false];rw[show a+1+r.countP (fun q=>decide (q.kind=3))=a+(r.countP (fun q=>decide (q.kind=3))+1)by omega]
 ·rintro self a hp e
  simp only[nc,au,e,aC,List.countP_nil,Nat.add_zero]
theorem SC{out:List aD}{y9:aD}{ar kd:Int}{y:ag}(hy:Fit ar kd y)(hc:yR out y9.args ar kd)(ho:zD out)(hs:yk out y9.args)(hlen:out.length≤500)(k:List Int×List aD×Int→Option ag):
  iter (na ak .ak n (List.replicate y.ops.length 0) y y9 k) n (List.replicate y.ops.length 0,out,0)=k ((oa y9.args y.ops (out,[])).2,(oa y9.args y.ops (out,[])).1,(y.ops.length:Int)):=by
 have N4:=hy.len
 have Nn:=uH hy hc ho hs y.ops 0 _ (Gr ho hs) rfl
 rw[Nat.zero_add]at Nn;have:=aT (body:=na ak .ak n (List.replicate y.ops.length 0) y y9 k) (mk:=fun(a:List aD×List Int) i=>(pad a.2 y.ops.length,a.1,(i:Int))) (fun a r _=>k (pad (oa y9.args r a).2 y.ops.length,(oa y9.args r a).1,(y.ops.length:Int))) (fun a i=>InI out y9.args a i) y.ops (by omega) ?_ ?_ n (by omega) (out,[]) (Gr ho hs)
 ·rw[Mz Nn.len]at this;simpa[pad]using this
 ·rintro self ⟨o1,ow⟩ i q r hp hd hi e1 e2 e3 ih
  have hq:y.ops[i]? =some q:=by rw[←bK];exact e1
  have hm:=fU hq
  have hqn:=hy.n0 q hm
  have gZ:=Fx hy hc ho hs hp hq
  have zy:=hp.many.2
  have hol:=hp.len
  dsimp only at zy hol;have B5:=ih _ gZ
  have jg:Md.ak.ln (List.replicate y.ops.length (0:Int))=y.ops.length:=by simp[Md.ak]
  have P6:gK (pad ow y.ops.length) i=some ((pad ow y.ops.length).getD i 0):=ud (by rw[A4 (by omega)];exact hi)
  have xc: ∀v:Int,gD (pad ow y.ops.length) i v=some (pad (ow++[v]) y.ops.length):=fun v=>by
   have:=Q7 (sl:=ow) (N:=y.ops.length) (by omega) v
   rwa [hol]at this
  rw[uI];unfold Dp at B5 ⊢;simp only[na,au,e2,az,e1,bU,jg,iI hi,P6,xc,e3];by_cases h1:q.kind=1
  ·simp only[bP h1,az]at B5 ⊢;have hl:=hc.len
   have ht:=hy.take q hm h1
   rw[il hqn (by omega),au];exact B5
  ·by_cases h2:q.kind=2
   ·simp only[bI h1,bP h2,az,aC]at B5 ⊢;have hb:=hy.below q hm h2
    obtain⟨h0,hk⟩:=hc.kd (by omega);obtain⟨g1,g2,e⟩:=hp.akL hs h0;rw[g1,au,g2,au,il hqn (by omega),au];dsimp only at e;rw[e]at B5 ⊢;exact B5
   ·simp only[bI h1,bI h2,aC]at B5 ⊢;have dx: ∀a∈q.args,0≤a∧a<(ow.length:Int):=fun a ha=>by have:=hy.fQ.args i q hq a ha;rw[hol];exact this
    have hz:aw o1=(o1.length:Int):=rfl
    have hpl:(pad (ow++[(o1.length:Int)]) y.ops.length).length=y.ops.length:=A4 (by simp;omega)
    have hmp:ep ak .ak n q (pad (ow++[(o1.length:Int)]) y.ops.length)=some (dk ow q):=by
     rw[yE hn (fun a ha=>by have:=dx a ha;rw[hpl];omega) (hy.fQ.ar q hm),Iz (fun a ha=>by have:=dx a ha;simp;omega)];have:aO (ow++[(o1.length:Int)]) q.args=aO ow q.args:=by
      unfold aO;apply List.map_congr_left;intro a ha;have:=dx a ha
      exact getD_congr (gg (by omega))
     rw[this];rfl
    rw[hz,eW hpl.symm,au,hmp,au,aN (by omega) (by omega),au];exact B5
 ·rintro self ⟨o1,ow⟩ hp e
  simp only[na,au,e,aC,oa]
end
end Ab
namespace Ab
open Go
set_option maxRecDepth 10000
def Ar(c:ai)(known:Bool):Ch:=bif known then da c else dS c
theorem TR{c:ai}(rt:Rt c){b:aj}(hb:b∈c.af){x:ag}(hx:x∈b.ae)(known:Bool):QC (Ar c known) x:=by
 cases known
 ·exact KK rt hb hx
 ·exact KH rt hb hx
section
variable{n:Nat}(hn:100<n)
 include hn
theorem abT{c:ai}(rt:Rt c){b:aj}(lT:b∈c.af){x:ag}(Bq:x∈b.ae){st:List aD×List Int}{i:Nat}{o:aD}(lf:x.ops[i]? =some o)(ca:ba o=true)(h:Lw st i)(known:Bool):
  (∃z,r9 ak .ak n (mD c o.name) (dk st.2 o) st.1 known=some z∧z<0∧Ar c known st.1 (aO st.2 o.args) o=none)∨
  ∃z y,r9 ak .ak n (mD c o.name) (dk st.2 o) st.1 known=some z∧0≤z∧gI (mD c o.name).ae z=some y∧Ar c known st.1 (aO st.2 o.args) o=some y:=by
 have yM:=rt.fQ.x rt.ck lT Bq
 have xf:=rt.op b lT x Bq i o lf
 obtain⟨N6,hf2⟩:=xf.call ca;obtain⟨_,hB,hB2⟩:=wJ N6;have CN:=rt.bl _ hB
 have hBL: ∀y∈(mD c o.name).ae,y.ops.length≤70:=fun y hy=>by have:=CN.len y hy;omega
 have hh0:=yN hn CN.n.1
 unfold r9;cases known with
 |false=>
  rw[bQ,Bool.not_false,az,show(⟨(mD c o.name).name,(mD c o.name).aI,(mD c o.name).ae⟩:aj)=mD c o.name from rfl,Mf hn CN.n.1 hBL,au];rw[show Ar c false=dS c from rfl];unfold dS;rw[ca,Bool.true_and];cases lb (mD c o.name)with
  |true=>exact .inr ⟨0,_,rfl,by decide,hh0,rfl⟩
  |false=>exact .inl ⟨-1,rfl,by decide,rfl⟩
 |true=>
  rw[bQ,Bool.not_true,aC,hh0,au];rw[show Ar c true=da c from rfl];by_cases hh:(nK (mD c o.name)).head=⟨#[]⟩
  ·left;refine⟨-1,?_,by decide,by unfold da;rw[bP hh];simp⟩;simp only[jx,hh,decide_true,dp,show(true==false)=false from rfl,aC,au,bg,az]
  ·have ha:(mD c o.name).aI≠0:=fun e=>hh (CN.zW e _ (sj CN.n.1))
   have Aj:=CN.ar
   have h0:0<o.args.length:=by omega
   obtain⟨a,ra,IV⟩: ∃a r,o.args=a::r:=by
    cases ha:o.args with
    |nil=>rw[ha]at h0;simp at h0
    |cons a r=>exact⟨a,r,rfl⟩
   have ajo:=h.args yM lf a (by rw[IV];simp)
   have hs0:(aO st.2 o.args).getD 0 0=st.2.getD a.toNat 0:=by rw[IV];rfl
   have HK:=h.sl _ (fR (l:=st.2) (i:=a.toNat) (by omega))
   have hq:gI st.1 (st.2.getD a.toNat 0)=some (st.1.getD (st.2.getD a.toNat 0).toNat default):=by
    unfold gI;rw[if_pos HK.1];exact ud (by omega)
   have XK:gI (dk st.2 o).args 0=some (st.2.getD a.toNat 0):=by
    show gI (aO st.2 o.args) 0=_;rw[IV];rfl
   have Bu:da c st.1 (aO st.2 o.args) o=bif decide ((st.1.getD (st.2.getD a.toNat 0).toNat default).kind=3)then((mD c o.name).ae.find? (kJ (st.1.getD (st.2.getD a.toNat 0).toNat default))).filter ku else none:=by
    unfold da;rw[hs0,ca,bI hh];rfl
   simp only[jx,bI hh,dp,beq_self_eq_true,az,XK,au,hq,bg,aC,bQ,bU];generalize st.1.getD (st.2.getD a.toNat 0).toNat default=q at Bu;by_cases h3:q.kind=3
   ·rw[bP h3,az,GJ CN.keys]at Bu;rw[bP h3,Bool.not_true,aC];have an6:iter (rv ak .ak n (mD c o.name) q fun eU=>some (-1)) n 0=some (eX (fun y=>kJ q y&&ku y) (mD c o.name).ae):=by
     have:=cP (p:=fun y=>(dp (decide (y.head=q.name)) true (some y) default).bind fun vE=>
       (dp (bif decide (y.head=q.name)then decide (vE.aM=aw q.args)else false) true (some y) default).bind fun wO=>
       (dp (bif decide (y.head=q.name)then decide (vE.aM=aw q.args)else false) true (nf ak .ak n wO) default).bind fun sP=>
       some (bif (bif decide (y.head=q.name)then decide (vE.aM=aw q.args)else false)then sP else false)) (fun y=>kJ q y&&ku y) (l:=(mD c o.name).ae) (fun y hy=>by
      unfold kJ;by_cases h1:y.head=q.name
      ·simp only[bP h1,dp,beq_self_eq_true,az,au,Bool.true_and];by_cases h2:y.aM=aw q.args
       ·have Nr:y.aM=(q.args.length:Int):=h2
        simp only[bP h2,bP Nr,beq_self_eq_true,az,au,Dy hn (hBL y hy),Bool.true_and]
       ·have Nr: ¬y.aM=(q.args.length:Int):=h2
        simp only[bI h2,bI Nr,show(false==true)=false from rfl,aC,au,Bool.false_and]
      ·simp only[bI h1,dp,show(false==true)=false from rfl,aC,au,Bool.false_and]) (n:=n) (by have:=CN.n.2;omega) (by have:=CN.n.2;omega)
     rw[←this];congr 1;funext self z;simp only[rv,CG,au,jx,bU,bg];cases ak.bf z (aw (mD c o.name).ae)with
     |false=>rfl
     |true=>
      simp only[az];cases hg:gI (mD c o.name).ae z with
      |none=>rfl
      |some y=>
       simp only[au,Option.bind_assoc]
    rw[an6];rcases TG (q:=fun y=>kJ q y&&ku y) (l:=(mD c o.name).ae)with⟨h1,h2⟩|⟨y,h1,h2,h4,_⟩
    ·exact .inl ⟨_,rfl,h2,by rw[Bu,h1]⟩
    ·exact .inr ⟨_,y,rfl,h2,h4,by rw[Bu,h1]⟩
   ·rw[bI h3,aC]at Bu;rw[bI h3,Bool.not_false,az];exact .inl ⟨-1,rfl,by decide,Bu⟩
end
end Ab
namespace Ab
open Go
set_option maxRecDepth 10000
section
variable{n:Nat}(hn:100<n)
 include hn
theorem WA{c:ai}(rt:Rt c){b:aj}(lT:b∈c.af){x:ag}(Bq:x∈b.ae)(known:Bool):uG ak .ak n c x known=some (la (Ar c known) x):=by
 have yM:=rt.fQ.x rt.ck lT Bq
 have abw:=yM.len
 have fO:=yM.res
 have HN:=TR rt lT Bq known
 have KU:=Mu yM HN
 unfold uG;have Nj:vZ 8 (aw x.ops) (0:Int)=some (List.replicate x.ops.length 0):=so (by omega) (by omega)
 rw[au,Nj,au];have jg:Md.ak.ln (List.replicate x.ops.length (0:Int))=x.ops.length:=by simp[Md.ak]
 have:=aT (body:=p7 ak .ak n c x known (List.replicate x.ops.length 0) fun(BZ,DL,Lx)=>
   (gN (Md.ak.ln (List.replicate x.ops.length (0:Int))) x.result).bind fun k87=>(gK BZ k87).bind fun YV=>some (⟨x.head,x.aM,DL,YV⟩:ag)) (mk:=fun(a:List aD×List Int) i=>(pad a.2 x.ops.length,a.1,(i:Int)))
   (fun a r i=>some ⟨x.head,x.aM,(nJ (Ar c known) x.ops.length r i a).1,(pad (nJ (Ar c known) x.ops.length r i a).2 x.ops.length).getD x.result.toNat 0⟩) (fun a i=>Lw a i) x.ops (by omega) ?_ ?_ n (by omega) ([],[]) aed
 ·rw[Mz KU.len]at this;simpa[pad,la]using this
 ·rintro self ⟨out,sl⟩ i o r hp hd hi e1 e2 e3 ih
  have lf:x.ops[i]? =some o:=by rw[←bK];exact e1
  have hom:=fU lf
  have Tx:=yM.ar o hom
  have cI:=hp.args yM lf
  have hlen:=hp.len
  have zy:=hp.many
  dsimp only at cI hlen zy;have hpl:(pad sl x.ops.length).length=x.ops.length:=A4 (by omega)
  have KT:ep ak .ak n o (pad sl x.ops.length)=some (dk sl o):=by
   rw[yE hn (fun a ha=>by have:=cI a ha;rw[hpl];omega) Tx,Iz cI];rfl
  have ajk:kr ak .ak n (dk sl o)=some (ba o):=by rw[G7 hn];rfl
  have P6:gK (pad sl x.ops.length) i=some ((pad sl x.ops.length).getD i 0):=ud (by rw[hpl];exact hi)
  have xc: ∀v:Int,gD (pad sl x.ops.length) i v=some (pad (sl++[v]) x.ops.length):=fun v=>by
   have:=Q7 (sl:=sl) (N:=x.ops.length) (by omega) v
   rwa [hlen]at this
  have hz:aw out=(out.length:Int):=rfl
  have hzx:aw x.ops=(x.ops.length:Int):=rfl
  have B5:=ih _ (AY yM HN hp lf)
  have aiP:nJ (Ar c known) x.ops.length (o::r) i (out,sl)=nJ (Ar c known) x.ops.length r (i+1) (qJ (Ar c known) x.ops.length i o (out,sl)):=rfl
  have hw: ∀m:Nat,m≤100→ak.wrap .i64 (ak.sub (ak.wrap .i64 (ak.sub (ak.wrap .i64 (ak.add (ak.wrap .i64 (ak.add (out.length:Int) (m:Int))) (x.ops.length:Int))) 1)) (i:Int))=((out.length+m+(x.ops.length - i - 1):Nat):Int):=fun m hm=>by
   have e1:ak.wrap .i64 (ak.add (out.length:Int) (m:Int))=((out.length+m:Nat):Int):=by
    show IntKind.wrap .i64 ((out.length:Int)+m)=_;rw[bL (by omega)];omega
   have e2:ak.wrap .i64 (ak.add ((out.length+m:Nat):Int) (x.ops.length:Int))=((out.length+m+x.ops.length:Nat):Int):=by
    show IntKind.wrap .i64 (((out.length+m:Nat):Int)+x.ops.length)=_;rw[bL (by omega)];omega
   have e3:ak.wrap .i64 (ak.sub ((out.length+m+x.ops.length:Nat):Int) 1)=((out.length+m+x.ops.length - 1:Nat):Int):=by
    show IntKind.wrap .i64 (((out.length+m+x.ops.length:Nat):Int) - 1)=_;rw[bL (by omega)];omega
   rw[e1,e2,e3];show IntKind.wrap .i64 (((out.length+m+x.ops.length - 1:Nat):Int) - i)=_;rw[bL (by omega)];omega
  rw[aiP];simp only[p7,au,e2,az,e1,eW hpl.symm,jg,KT,ajk];by_cases ca:ba o=true
  ·rw[ca,az];obtain⟨N6,hf2⟩:=(rt.op b lT x Bq i o lf).call ca;obtain⟨hg,hB,_⟩:=wJ N6;have CN:=rt.bl _ hB
   rw[show(⟨c.af⟩:ai)=c from rfl,show(dk sl o).name=o.name from rfl,zO hn (by have:=rt.ck.bl;omega),au,hg,au];rcases abT hn rt lT Bq lf ca hp known with⟨z,hf,ew,hc⟩|⟨z,y,hf,ew,hy,hc⟩
   ·have pB:qJ (Ar c known) x.ops.length i o (out,sl)=(out++[dk sl o],sl++[(out.length:Int)]):=by unfold qJ;rw[hc]
    rw[pB]at B5 ⊢;dsimp only at hf;rw[hf,au,zt,bI (by omega),aC];rw[show iter (xy ak .ak n _) n ()=_ from yB hn (fun _ _=>rfl)];simp only[au,bg,fW,bP ew,az,iI hi,P6,hz,xc,e3];rw[aN (by omega) (by omega),au];exact B5
   ·dsimp only at hf;rw[hf,au,zt,bP ew,az,hy,au];obtain⟨ar,kd,gT,XH⟩:=HN _ _ _ _ lf hp hc;have N4:=gT.len
    have jY:eS y≤60:=Nat.le_trans (List.countP_le_length ..) N4
    rw[aaG hn (by omega) gT.k];simp only[au,bg,fW,bI (show¬z<0 by omega),aC,iI hi,P6,hz,hzx,xc,e3,hw _ (show eS y≤100 by omega)];have pB:qJ (Ar c known) x.ops.length i o (out,sl)=bif decide (out.length+eS y+(x.ops.length - i - 1)≤60)then
      ((oa (aO sl o.args) y.ops (out,[])).1,sl++[(oa (aO sl o.args) y.ops (out,[])).2.getD y.result.toNat 0])else(out++[dk sl o],sl++[(out.length:Int)]):=by unfold qJ;rw[hc]
    by_cases hd:out.length+eS y+(x.ops.length - i - 1)≤60
    ·rw[bP hd,az]at pB;rw[pB]at B5 ⊢;rw[bI (by omega),aC];have PZ:=AO hp.sl cI
     dsimp only at XH PZ;have uw:=uH gT XH hp.oo PZ y.ops 0 _ (Gr hp.oo PZ) rfl
     rw[Nat.zero_add]at uw;have hyr:=gT.fQ.res
     have hzy:aw y.ops=(y.ops.length:Int):=rfl
     rw[hzy,so (by omega) (by omega),au,SC hn (y9:=dk sl o) gT XH hp.oo PZ (by omega)];dsimp only;have aub:Md.ak.ln (List.replicate y.ops.length (0:Int))=y.ops.length:=by simp[Md.ak]
     rw[aub,zA hyr.1 hyr.2,au];have hgy:gK (oa (dk sl o).args y.ops (out,[])).2 y.result.toNat=some ((oa (aO sl o.args) y.ops (out,[])).2.getD y.result.toNat 0):=ud (by
      show y.result.toNat<(oa (aO sl o.args) y.ops (out,[])).2.length;rw[uw.len];omega)
     rw[hgy,au];exact B5
    ·rw[bI hd,aC]at pB;rw[pB]at B5 ⊢;rw[bP (by omega),az];rw[aN (by omega) (by omega),au];exact B5
  ·have ca:ba o=false:=by simpa using ca
   have pB:qJ (Ar c known) x.ops.length i o (out,sl)=(out++[dk sl o],sl++[(out.length:Int)]):=by
    unfold qJ;have:Ar c known out (aO sl o.args) o=none:=by
     cases known
     ·show dS c out (aO sl o.args) o=none;unfold dS;rw[ca];rfl
     ·show da c out (aO sl o.args) o=none;unfold da;rw[ca];rfl
    rw[this]
   rw[pB]at B5 ⊢;rw[ca,aC];rw[show iter (xx ak .ak n _) n ()=_ from yB hn (fun _ _=>rfl)];simp only[au,bg,fW,show decide ((-1:Int)<0)=true from rfl,az,iI hi,P6,hz,xc,e3];rw[aN (by omega) (by omega),au];exact B5
 ·rintro self ⟨out,sl⟩ hp e
  have hlen:=hp.len
  dsimp only at hlen;simp only[p7,au,e,aC,jg,zA fO.1 fO.2,nJ];rw[ud (l:=pad sl x.ops.length) (d:=0) (show x.result.toNat<(pad sl x.ops.length).length by rw[A4 (by omega)];omega) |> fun h=>show gK (pad sl x.ops.length) x.result.toNat=_ from h,au]
theorem HF{c:ai}(hc:qI c)(h0:bh c=0):ea ak .ak n c 3=some ⟨c.af.map (c6 (la (dS c)))⟩:=by
 have rt:=L8 hc h0
 refine A3 hn hc fun i b rb hb k self l j x hl hx e1 e2 e3=>?_;have lT:=bO hb
 have hp:=WA hn rt lT hx false
 simp only[dh,eM hb,au,e2,az,e1,show ak.aS 3 1=false from rfl,show ak.aS 3 2=false from rfl,show ak.aS 3 3=true from rfl,aC,show(⟨c.af⟩:ai)=c from rfl,hp];rw[aN (by omega) (by omega),au,e3];rfl
theorem Ko{c:ai}(hc:qI c)(h0:bh c=0):ea ak .ak n c 4=some ⟨c.af.map (c6 (la (da c)))⟩:=by
 have rt:=L8 hc h0
 refine A3 hn hc fun i b rb hb k self l j x hl hx e1 e2 e3=>?_;have lT:=bO hb
 have hp:=WA hn rt lT hx true
 simp only[dh,eM hb,au,e2,az,e1,show ak.aS 4 1=false from rfl,show ak.aS 4 2=false from rfl,show ak.aS 4 3=false from rfl,show ak.aS 4 4=true from rfl,aC,show(⟨c.af⟩:ai)=c from rfl,hp];rw[aN (by omega) (by omega),au,e3];rfl
end
end Ab
namespace Ab
open Go
set_option maxRecDepth 10000
theorem Im: ∀(ops:List aD) (out:List Bool),∃t,xo out ops=out++t
 |[],out=>⟨[],by simp[xo]⟩
 |o::r,out=>by
  obtain⟨t,h⟩:=Im r (out++[qV out o]);exact⟨qV out o::t,by show xo (out++[qV out o]) r=_;rw[h];simp⟩
abbrev Td(l:List aD)(j:Nat):Bool:=(dA l).getD j false
theorem Fu{l m:List aD}{j:Nat}(h:j<l.length):Td (l++m) j=Td l j:=by
 obtain⟨t,ht⟩:=Im m (dA l);have e:dA (l++m)=dA l++t:=by rw[←ht];unfold dA xo;rw[List.foldl_append]
 unfold Td;rw[e,List.getD_eq_getElem?_getD,gg (by rw[uA];exact h),←List.getD_eq_getElem?_getD]
theorem OA(l:List aD)(o:aD):Td (l++[o]) l.length=qV (dA l) o:=by
 have e:dA (l++[o])=dA l++[qV (dA l) o]:=by unfold dA xo;rw[List.foldl_append];rfl
 unfold Td;rw[e,List.getD_eq_getElem?_getD,iY (by rw[uA];exact Nat.le_refl _),uA];simp
theorem U2{l:List aD}{j:Nat}{o:aD}(h:l[j]? =some o):l=(l.take j++[o])++l.drop (j+1):=by
 obtain⟨hj,he⟩:=bq.1 h;rw[List.append_assoc,List.singleton_append,←he,List.getElem_cons_drop,List.take_append_drop]
theorem EO{l:List aD}{j i:Nat}(h:j<i):Td (l.take i) j=Td l j:=by
 rcases Nat.lt_or_ge j l.length with hj|hj
 ·have:=Fu (l:=l.take i) (m:=l.drop i) (j:=j) (by simp;omega)
  rw[List.take_append_drop]at this;exact this.symm
 ·rw[List.take_of_length_le (by omega)]
theorem Ft{l:List aD}{j:Nat}{o:aD}(h:l[j]? =some o):Td l j=qV (dA (l.take j)) o:=by
 have hj:=(bq.1 h).1
 have e:=Fu (l:=l.take j++[o]) (m:=l.drop (j+1)) (j:=j) (by simp;omega)
 rw[←U2 h]at e;have:=OA (l.take j) o
 rw[List.length_take,Nat.min_eq_left (by omega)]at this;rw[e,this]
def mo(ar kd k:Int):Int:=bif decide (k=1)then IntKind.wrap .i64 (ar - 1)else bif decide (k=2)then IntKind.wrap .i64 (kd - 1)else 0
def WT(o:aD):Bool:=(looks o&& !decide (o.name=⟨#[]⟩))||(!looks o&& !e9 o.name)
def Rj(o:aD):Bool:=(looks o&&decide (0<o.args.length))||(decide (o.kind=3)&&decide (4<o.args.length))
structure YK(c:ai)(ar kd:Int)(T:List Bool)(i:Nat)(o:aD):Prop where
 k:1≤o.kind∧o.kind≤5
 nm:WT o=false
 num:0≤o.num∧o.num≤mo ar kd o.kind
 many:Rj o=false
 args: ∀a∈o.args,0≤a∧a<i
 call:ba o=true→0≤find c o.name∧(o.args.length:Int)=mN c (find c o.name)∧ ∀a∈o.args,T.getD a.toNat false=false
theorem ahZ{c:ai}{b:aj}{x:ag}{i:Nat}{o:aD}(h:Cf c b x i o=0):YK c b.aI x.aM (dA (x.ops.take i)) i o:=by
 have ha:=AQ h
 unfold Cf at h;obtain⟨h1,h⟩:=bz (by decide) h;obtain⟨h2,h⟩:=bz (by decide) h;obtain⟨h3,h⟩:=bz (by decide) h;obtain⟨h4,h⟩:=bz (by decide) h;obtain⟨h5,h⟩:=bz (by decide) h;simp only[Bool.or_eq_false_iff,decide_eq_false_iff_not]at h1 h3;refine⟨by omega,h2,⟨by omega,Int.not_lt.1 h3.2⟩,h4,ha,fun hc=>?_⟩;simp only[Bool.or_eq_false_iff,Bool.and_eq_false_iff,decide_eq_false_iff_not]at h5;rw[hc,Bool.not_true,aC]at h;obtain⟨h6,_⟩:=bz (by decide) h;simp only[Bool.or_eq_false_iff,Bool.not_eq_false',decide_eq_true_eq,List.any_eq_false,Bool.not_eq_true]at h6;have h7:=h5.2.resolve_left (by simp[hc])
 exact⟨by omega,h6.1,h6.2⟩
theorem agl{c:ai}{b:aj}{x:ag}{i:Nat}{o:aD}(h:YK c b.aI x.aM (dA (x.ops.take i)) i o):Cf c b x i o=0:=by
 have h1:(decide (o.kind<1)||decide (5<o.kind))=false:=by have:=h.k;simp;omega
 have h2:=h.nm
 have h3:(decide (o.num<0)||decide (Ed b x o<o.num))=false:=by
  have h':o.num≤Ed b x o:=h.num.2
  have:=h.num.1
  simp;omega
 have h4:=h.many
 have h5:o.args.all (before i)=true:=List.all_eq_true.2 fun a ha=>by have:=h.args a ha;simp[before,this]
 unfold WT at h2;unfold Rj at h4;unfold Cf;rw[h1,h2,h3,h4,h5];simp only[aC,Bool.not_true,Bool.false_or];cases hc:ba o with
 |false=>rfl
 |true=>
  obtain⟨g1,g2,g3⟩:=h.call hc;have h6:(o.args.any fun a=>(dA (x.ops.take i)).getD a.toNat false)=false:=by
   rw[List.any_eq_false];intro a ha;rw[g3 a ha];simp
  rw[h6,bP g2,bI (by omega)];rfl
structure adx(c:ai)(b:aj)(x y:ag):Prop where
 head:y.head=x.head
 aM:y.aM=x.aM
 len:1≤y.ops.length∧y.ops.length≤60
 res:0≤y.result∧y.result<y.ops.length
 ops: ∀(j:Nat) (q:aD),y.ops[j]? =some q→YK c b.aI x.aM (dA (y.ops.take j)) j q
theorem YK.ar{c:ai}(rt:Rt c){ar kd:Int}{T:List Bool}{i:Nat}{o:aD}(h:YK c ar kd T i o):o.args.length≤4:=by
 have hk:=h.k
 have hm:=h.many
 unfold Rj looks at hm;simp only[Bool.or_eq_false_iff,Bool.and_eq_false_iff,decide_eq_false_iff_not]at hm;rcases Int.lt_or_le o.kind 4 with h4|h4
 ·rcases hm.1 with h5|h5
  ·have:=hm.2.resolve_left (by omega);omega
  ·omega
 ·have hc:ba o=true:=by unfold ba;rw[←Bool.decide_or];exact bP (by omega)
  obtain⟨h1,h2,_⟩:=h.call hc;obtain⟨_,h4,h5⟩:=wJ h1;have:=(rt.bl _ h4).ar
  omega
theorem IB{c:ai}{b:aj}{x:ag}: ∀{r:List aD} {i:Nat},(∀(j:Nat) (o:aD),r[j]? =some o→Cf c b x (i+j) o=0)→iE c b x i r=none
 |[],i,_=>rfl
 |p::r,i,h=>by
  simp only[iE];rw[bP (show Cf c b x i p=0 from h 0 p rfl),az];exact IB fun j o ho=>by have:=h (j+1) o (by simpa using ho);rwa [show i+(j+1)=i+1+j by omega]at this
section
variable{c:ai}{F:ag→ag}
theorem Nv(s:ByteArray):find ⟨c.af.map (c6 F)⟩ s=find c s:=by
 unfold find eX;rw[List.findIdx?_map];rfl
theorem TW(z:Int):mN ⟨c.af.map (c6 F)⟩ z=mN c z:=by
 unfold mN;simp only[List.getElem?_map,Option.map_map];rfl
theorem ID: ∀(r:List aj) (i:Nat),ph ⟨c.af.map (c6 F)⟩ i (r.map (c6 F))=ph c i r
 |[],i=>rfl
 |b::r,i=>by simp only[List.map_cons,ph,Nv,ID r];rfl
theorem At{l:List ag}{p:ag→Bool}(h: ∀x∈l,p (F x)=p x):(l.map F).all p=l.all p:=by
 induction l with
 |nil=>rfl
 |cons x r ih=>simp only[List.map_cons,List.all_cons,h x (by simp),ih fun y hy=>h y (by simp[hy])]
theorem Qx{l:List ag}{p:ag→Bool}(h: ∀x∈l,p (F x)=p x):(l.map F).any p=l.any p:=by
 induction l with
 |nil=>rfl
 |cons x r ih=>simp only[List.map_cons,List.any_cons,h x (by simp),ih fun y hy=>h y (by simp[hy])]
theorem SD{b:aj}(h:jO b=0)(hF: ∀x∈b.ae,adx c b x (F x)):jO (c6 F b)=0:=by
 have hk: ∀x∈b.ae,ox (F x)=ox x:=fun x hx=>by unfold ox;rw[(hF x hx).aM]
 have hn: ∀x∈b.ae,fI (F x)=fI x:=fun x hx=>by unfold fI;rw[(hF x hx).head]
 have hh: ∀x∈b.ae,oy (F x)=oy x:=fun x hx=>by unfold oy;rw[hn x hx,(hF x hx).head]
 have IV: ∀(m:Nat),∀x∈b.ae,alone m (F x)=alone m x:=fun m x hx=>by unfold alone;rw[hn x hx,(hF x hx).aM]
 have hlen:(b.ae.map F).all tB=true:=by
  rw[List.all_eq_true];intro y hy;obtain⟨x,hx,rfl⟩:=List.mem_map.1 hy;have:=(hF x hx).len
  simp[tB];omega
 have uZ:(b.ae.map F).map qK=b.ae.map qK:=by
  rw[List.map_map];exact List.map_congr_left fun x hx=>by unfold qK;simp[(hF x hx).aM,(hF x hx).head]
 have auq:dup [] (b.ae.map F)=dup [] b.ae:=by
  have h1:=BM (b.ae.map F) [] (by simp)
  have h2:=BM b.ae [] (by simp)
  simp only[List.nil_append,uZ]at h1 h2;rw[←h2]at h1;exact Bool.eq_iff_iff.2 h1
 unfold jO at h;obtain⟨h1,h⟩:=bz (by decide) h;simp only[Bool.or_eq_false_iff]at h1;unfold jO;show(bif decide ((b.ae.map F).length<1)||decide (6<(b.ae.map F).length)|| !(b.ae.map F).all tB then(2:Int)
  else bif decide (b.aI<0)||decide (4<b.aI)|| !(b.ae.map F).all ox then 3
  else bif !e9 b.name|| !(b.ae.map F).all oy then 4
  else bif (b.ae.map F).any (alone (b.ae.map F).length)||(decide (b.aI=0)&& !(b.ae.map F).all fI)then 7
  else bif dup [] (b.ae.map F)then 5 else 0)=0
 rw[hlen,List.length_map,At hk,At hh,Qx (IV _),At hn,auq,h1.1.1,h1.1.2];exact h
theorem vW(rt:Rt c)(hF: ∀b∈c.af,∀x∈b.ae,adx c b x (F x)):qI ⟨c.af.map (c6 F)⟩∧bh ⟨c.af.map (c6 F)⟩=0:=by
 have xf: ∀b∈c.af,∀x∈b.ae,iE ⟨c.af.map (c6 F)⟩ (c6 F b) (F x) 0 (F x).ops=none:=fun b hb x hx=>IB fun j o ho=>by
  rw[Nat.zero_add];have h:=(hF b hb x hx).ops j o ho
  refine agl ⟨h.k,h.nm,?_,h.many,h.args,fun hc=>?_⟩
  ·rw[(hF b hb x hx).aM];exact h.num
  ·rw[Nv,TW];exact h.call hc
 have Zg:=rt.fQ.some
 refine⟨⟨by have:=rt.ck.bl;simpa using this,fun b' hb=>?_,fun b' hb x' hx=>?_,fun b' hb x' hx o ho=>?_⟩,?_⟩
 ·obtain⟨b,gb,rfl⟩:=List.mem_map.1 hb;have:=rt.ck.br b gb
  show(b.ae.map F).length≤16;simpa using this
 ·obtain⟨b,gb,rfl⟩:=List.mem_map.1 hb;obtain⟨x,gx,rfl⟩:=List.mem_map.1 (show x'∈b.ae.map F from hx);have:=(hF b gb x gx).len
  omega
 ·obtain⟨b,gb,rfl⟩:=List.mem_map.1 hb;obtain⟨x,gx,rfl⟩:=List.mem_map.1 (show x'∈b.ae.map F from hx);obtain⟨j,hj⟩:=List.getElem?_of_mem ho;have:=((hF b gb x gx).ops j o hj).ar rt
  omega
 ·unfold bh;have h0:(decide ((c.af.map (c6 F)).length<1)||decide (12<(c.af.map (c6 F)).length))=false:=by rw[List.length_map,bI (by omega),bI (by omega)];rfl
  have h1:(c.af.map (c6 F)).findSome? fB=none:=List.findSome?_eq_none_iff.2 fun b' hb=>by
   obtain⟨b,gb,rfl⟩:=List.mem_map.1 hb;unfold fB;rw[SD (rt.fQ.right b gb) (hF b gb)];rfl
  have h2:((c.af.map (c6 F)).findSome? fun b=>b.ae.findSome? (nF ⟨c.af.map (c6 F)⟩ b))=none:=List.findSome?_eq_none_iff.2 fun b' hb=>by
   obtain⟨b,gb,rfl⟩:=List.mem_map.1 hb;refine List.findSome?_eq_none_iff.2 fun x' hx=>?_;obtain⟨x,gx,rfl⟩:=List.mem_map.1 (show x'∈b.ae.map F from hx);unfold nF;have fO:=(hF b gb x gx).res
   have hr:vM (F x)=false:=by unfold vM;simp;omega
   rw[xf b gb x gx,hr];rfl
  dsimp only;rw[h0,h1,ID,rt.fQ.names,h2];rfl
end
end Ab
namespace Ab
open Go
set_option maxRecDepth 10000
def Az(c:ai)(ar kd:Int)(out:List aD):Prop:= ∀(j:Nat) (q:aD),out[j]? =some q→YK c ar kd (dA (out.take j)) j q
theorem Az.app{c:ai}{ar kd:Int}{out:List aD}(h:Az c ar kd out){o:aD}(ho:YK c ar kd (dA out) out.length o):Az c ar kd (out++[o]):=fun j q hq=>by
 rcases Nat.lt_or_ge j out.length with hj|hj
 ·rw[gg hj]at hq;rw[List.take_append_of_le_length (by omega)];exact h j q hq
 ·have:j=out.length:=by have:=(bq.1 hq).1;simp at this;omega
  subst this;simp at hq;subst hq;rw[List.take_left']
  ·exact ho
  ·rfl
structure Std(l out:List aD)(s:Nat)(v:Int):Prop where
 r:0≤v∧v<out.length
 t:Td l s=false→Td out v.toNat=false
theorem Std.more{l out:List aD}{s:Nat}{v:Int}(h:Std l out s v)(m:List aD):Std l (out++m) s v:=
 ⟨by have:=h.r;simp;omega,fun ht=>by have:=h.r;rw[Fu (by omega)];exact h.t ht⟩
structure Inv(c:ai)(b:aj)(x:ag)(R:Nat→Prop)(i:Nat)(st:List aD×List Int):Prop where
 len:st.2.length=i
 ok:Az c b.aI x.aM st.1
 sl: ∀s,s<i→R s→Std x.ops st.1 s (st.2.getD s 0)
 room:st.1.length+(x.ops.length - i)≤60
theorem Inv.ext{c:ai}{b:aj}{x:ag}{R:Nat→Prop}{i:Nat}{st:List aD×List Int}(h:Inv c b x R i st){m:List aD}{v:Int}(jX:Az c b.aI x.aM (st.1++m))(hv:R i→Std x.ops (st.1++m) i v)(hr:(st.1++m).length+(x.ops.length - (i+1))≤60):
  Inv c b x R (i+1) (st.1++m,st.2++[v]):=by
 refine⟨by simp[h.len],jX,fun s hs hR=>?_,hr⟩;rcases Nat.lt_or_ge s i with hj|hj
 ·have:=(h.sl s hj hR).more m
  rw[show(st.2++[v]).getD s 0=st.2.getD s 0 by rw[List.getD_eq_getElem?_getD,gg (by rw[h.len];exact hj),←List.getD_eq_getElem?_getD]];exact this
 ·have:s=i:=by omega
  subst this;have hl:=h.len
  rw[show(st.2++[v]).getD s 0=v by subst hl;simp];exact hv hR
theorem S8(sl:List Int)(o:aD):looks (dk sl o)=looks o:=rfl
theorem Pz{c:ai}{ar kd:Int}{l out:List aD}{sl:List Int}{i:Nat}{o:aD}(ho:l[i]? =some o)(hz:YK c ar kd (dA (l.take i)) i o)(hs: ∀a∈o.args,Std l out a.toNat (sl.getD a.toNat 0)):
  YK c ar kd (dA out) out.length (dk sl o)∧(Td l i=false→qV (dA out) (dk sl o)=false):=by
 have hlen:(dk sl o).args.length=o.args.length:=eP sl o.args
 refine⟨⟨hz.k,hz.nm,hz.num,?_,fun a ha=>?_,fun hc=>?_⟩,fun ht=>?_⟩
 ·have:=hz.many;unfold Rj at this ⊢;rw[S8,hlen];exact this
 ·obtain⟨z,zx,rfl⟩:=List.mem_map.1 ha;have:=(hs z zx).r
  exact this
 ·obtain⟨g1,g2,g3⟩:=hz.call hc;refine⟨g1,by rw[hlen];exact g2,fun a ha=>?_⟩;obtain⟨z,zx,rfl⟩:=List.mem_map.1 ha;have hzi:=hz.args z zx
  exact(hs z zx).t (by rw[←EO (l:=l) (i:=i) (by omega)];exact g3 z zx)
 ·rw[Ft ho]at ht;unfold qV at ht ⊢;simp only[Bool.or_eq_false_iff,Bool.and_eq_false_iff,decide_eq_false_iff_not]at ht ⊢;refine⟨ht.1,?_⟩;rcases ht.2 with h3|h3
  ·exact .inl h3
  ·refine .inr ?_;rw[List.any_eq_false]at h3 ⊢;intro a ha;obtain⟨z,zx,rfl⟩:=List.mem_map.1 ha;have hzi:=hz.args z zx
   have:=h3 z zx
   rw[Bool.not_eq_true]at this ⊢;exact(hs z zx).t (by rw[←EO (l:=l) (i:=i) (by omega)];exact this)
theorem Inv.add{c:ai}{b:aj}{x:ag}{R:Nat→Prop}{i:Nat}{st:List aD×List Int}(h:Inv c b x R i st){o:aD}(ho:x.ops[i]? =some o)(hz:YK c b.aI x.aM (dA (x.ops.take i)) i o)(hR: ∀a∈o.args,R a.toNat):
  Inv c b x R (i+1) (st.1++[dk st.2 o],st.2++[(st.1.length:Int)]):=by
 obtain⟨h1,h2⟩:=Pz (sl:=st.2) (out:=st.1) ho hz fun a ha=>h.sl _ (by have:=hz.args a ha;omega) (hR a ha);have hi:=(bq.1 ho).1
 refine h.ext (h.ok.app h1) (fun _=>⟨⟨by omega,by simp;omega⟩,fun ht=>?_⟩) (by have:=h.room;simp;omega);rw[Int.toNat_natCast,OA];exact h2 ht
theorem Qe{c:ai}{b:aj}{x y:ag}{R:Nat→Prop}{st:List aD×List Int}(h:Inv c b x R x.ops.length st)(hx:fg x)(hR:R x.result.toNat)(h1:y.head=x.head)(h2:y.aM=x.aM)(h3:y.ops=st.1)(h4:y.result=st.2.getD x.result.toNat 0):adx c b x y:=by
 have fO:=hx.res
 have hs:=(h.sl _ (by omega) hR).r
 have uY:=h.room
 refine⟨h1,h2,by rw[h3];omega,by rw[h3,h4];exact hs,by rw[h3];exact h.ok⟩
theorem aiD{c:ai}{b:aj}{x:ag}{R:Nat→Prop}(h:x.ops.length≤60):Inv c b x R 0 ([],[]):=
 ⟨rfl,fun j q hq=>by simp at hq,fun s hs=>absurd hs (Nat.not_lt_zero _),by simpa using h⟩
theorem Rt.z{c:ai}(rt:Rt c){b:aj}(hb:b∈c.af){x:ag}(hx:x∈b.ae):Az c b.aI x.aM x.ops:=fun j q hq=>by
 have:=nn (rt.fQ.ops b hb x hx).1 j q hq
 rw[Nat.zero_add]at this;exact ahZ this
theorem FG{c:ai}{b:aj}{x:ag}(hz:Az c b.aI x.aM x.ops): ∀(r:List aD) (i:Nat) (st:List aD×List Int),x.ops.drop i=r→i≤x.ops.length→Inv c b x (fun _=>True) i st→Inv c b x (fun _=>True) x.ops.length (iu r st)
 |[],i,st,hd,hi,h=>by
  have P7:x.ops.length≤i:=by simpa using hd
  have:i=x.ops.length:=by omega
  subst this;exact h
 |o::r,i,st,hd,hi,h=>by
  have ho:x.ops[i]? =some o:=by rw[←bK];exact eM hd
  have bc:=(bq.1 ho).1
  have mI:x.ops.drop (i+1)=r:=by rw[←List.drop_drop,hd];rfl
  unfold iu;refine FG hz r (i+1) _ mI bc ?_;cases hc:decide (0≤eX (fun q=>decide (q=dk st.2 o)) st.1)with
  |false=>exact h.add ho (hz i o ho) fun _ _=>trivial
  |true=>
   have P7:0≤eX (fun q=>decide (q=dk st.2 o)) st.1:=of_decide_eq_true hc
   obtain⟨v,hv⟩: ∃v:Nat,eX (fun q=>decide (q=dk st.2 o)) st.1=(v:Int):=⟨_,(Fv P7).symm⟩;rw[hv,az];have hat:st.1[v]? =some (dk st.2 o):=by
    unfold eX at hv;cases hf:st.1.findIdx? (fun q=>decide (q=dk st.2 o))with
    |none=>rw[hf]at hv;dsimp only at hv;omega
    |some k=>
     rw[hf]at hv;obtain⟨k1,k2,_⟩:=List.findIdx?_eq_some_iff_getElem.1 hf;have:k=v:=by dsimp only at hv;omega
     subst this;rw[eH k1,of_decide_eq_true k2]
   have hvl:=(bq.1 hat).1
   have:=h.ext (m:=[]) (v:=(v:Int)) (by rw[List.append_nil];exact h.ok) (fun _=>⟨⟨by omega,by simp;omega⟩,fun ht=>?_⟩) (by have:=h.room;simp;omega)
   ·rw[List.append_nil]at this;exact this
   ·rw[List.append_nil,Int.toNat_natCast,Ft hat];obtain⟨h1,h2⟩:=Pz (sl:=st.2) (out:=st.1) ho (hz i o ho) fun a ha=>h.sl _ (by have:=(hz i o ho).args a ha;omega) trivial;have h2:=h2 ht
    have h3:=(h.ok v _ hat).args
    unfold qV at h2 ⊢;simp only[Bool.or_eq_false_iff,Bool.and_eq_false_iff,decide_eq_false_iff_not]at h2 ⊢;refine⟨h2.1,h2.2.imp id fun h4=>?_⟩;rw[List.any_eq_false]at h4 ⊢;intro a ha;have:=h4 a ha
    rw[Bool.not_eq_true]at this ⊢;exact(EO (l:=st.1) (i:=v) (by have:=h3 a ha;omega)).trans this
theorem Du{c:ai}(rt:Rt c):qI ⟨c.af.map (c6 lE)⟩∧bh ⟨c.af.map (c6 lE)⟩=0:=
 vW rt fun b hb x hx=>Qe (FG (rt.z hb hx) x.ops 0 ([],[]) rfl (Nat.zero_le _) (aiD ((rt.bl b hb).len x hx))) (rt.fQ.x rt.ck hb hx) trivial rfl rfl rfl rfl
theorem Bh(u:Bool): ∀(args:List Int) (l:List Bool) (j:Nat),On l j→On (fJ u args l) j
 |[],l,j,h=>h
 |a::r,l,j,h=>by
  refine Bh u r (l.set a.toNat (l.getD a.toNat false||u)) j ?_;unfold On at h ⊢;rw[dr]
  split
  ·rename_i hh;rw[hh.1,h];rfl
  ·exact h
theorem MT: ∀(args:List Int) (l:List Bool) (a:Int),a∈args→a.toNat<l.length→On (fJ true args l) a.toNat
 |[],l,a,h,_=>by simp at h
 |b::r,l,a,h,hl=>by
  rcases List.mem_cons.1 h with h|h
  ·subst h;refine Bh true r (l.set a.toNat (l.getD a.toNat false||true)) _ ?_;unfold On;rw[dr,if_pos ⟨rfl,hl⟩,Bool.or_true]
  ·exact MT r (l.set b.toNat (l.getD b.toNat false||true)) a h (by simpa using hl)
theorem zZ(u:Bool): ∀(args:List Int) (l:List Bool) (j:Nat),(∀a∈args,a.toNat≠j)→(fJ u args l).getD j false=l.getD j false
 |[],l,j,_=>rfl
 |a::r,l,j,h=>by
  refine(zZ u r (l.set a.toNat (l.getD a.toNat false||u)) j fun b hb=>h b (by simp[hb])).trans ?_;rw[dr,if_neg (fun hh=>h a (by simp) hh.1)]
theorem Fm(x:ag): ∀(i:Nat) (l:List Bool) (j:Nat),On l j→On (lU x i l) j
 |0,l,j,h=>h
 |i+1,l,j,h=>by
  unfold lU;cases ho:x.ops[i]? with
  |none=>exact h
  |some o=>
   dsimp only;refine Fm x i _ j (Bh _ _ _ j ?_);unfold On at h ⊢;rw[dr]
   split
   ·rename_i hh;rw[hh.1,h];rfl
   ·exact h
theorem LR(x:ag)(hx: ∀(i:Nat) (o:aD),x.ops[i]? =some o→ ∀a∈o.args,0≤a∧a<i): ∀(i:Nat) (l:List Bool) (j:Nat),i≤j→(lU x i l).getD j false=l.getD j false
 |0,l,j,_=>rfl
 |i+1,l,j,h=>by
  unfold lU;cases ho:x.ops[i]? with
  |none=>rfl
  |some o=>
   dsimp only;rw[LR x hx i _ j (by omega),zZ _ _ _ _ (fun a ha=>by have:=hx i o ho a ha;omega),dr,if_neg (by omega)]
theorem Fo(x:ag)(hx: ∀(i:Nat) (o:aD),x.ops[i]? =some o→ ∀a∈o.args,0≤a∧a<i): ∀(i:Nat) (l:List Bool),i≤x.ops.length→l.length=x.ops.length→ ∀(j:Nat) (o:aD),j<i→x.ops[j]? =some o→On (lU x i l) j→ ∀a∈o.args,On (lU x i l) a.toNat
 |0,l,_,hl,j,o,h,_,_=>absurd h (Nat.not_lt_zero _)
 |i+1,l,hil0,hl,j,o,h,ho,Tw=>by
  unfold lU at Tw ⊢;cases hi:x.ops[i]? with
  |none=>have:=List.getElem?_eq_none_iff.1 hi;omega
  |some p=>
   rw[hi]at Tw;dsimp only at Tw ⊢;have hil:=(bq.1 hi).1
   generalize hu:(l.getD i false||decide ((i:Int)=x.result)||ba p)=u at Tw ⊢;rcases Nat.lt_or_ge j i with hj|hj
   ·exact Fo x hx i _ (by omega) (by rw[iG,List.length_set,hl]) j o hj ho Tw
   ·have:j=i:=by omega
    subst this;rw[hi]at ho;cases ho;intro a ha;have haj:=hx j _ hi a ha
    have h1:On (fJ u o.args (l.set j u)) j:=by
     unfold On at Tw ⊢;rwa [LR x hx j _ j (Nat.le_refl _)]at Tw
    have h2:u=true:=by
     unfold On at h1;rw[zZ _ _ _ _ (fun a ha=>by have:=hx j _ hi a ha;omega),dr,if_pos ⟨rfl,by omega⟩]at h1;exact h1
    rw[h2];exact Fm x j _ _ (MT _ _ a ha (by simp;omega))
theorem Ow{x:ag}(hx:fg x){j:Nat}{o:aD}(ho:x.ops[j]? =some o)(h:On (jh x) j): ∀a∈o.args,On (jh x) a.toNat:=
 Fo x hx.args _ _ (Nat.le_refl _) (by simp) j o (bq.1 ho).1 ho h
theorem Ig(x:ag): ∀(i:Nat) (l:List Bool) (j:Nat),j<i→(j:Int)=x.result→i≤l.length→i≤x.ops.length→On (lU x i l) j
 |0,l,j,h,_,_,_=>absurd h (Nat.not_lt_zero _)
 |i+1,l,j,h,hr,hl,hi=>by
  unfold lU;rw[eH (by omega)];dsimp only;rcases Nat.lt_or_ge j i with hj|hj
  ·exact Ig x i _ j hj hr (by rw[iG,List.length_set];omega) (by omega)
  ·have:j=i:=by omega
   subst this;refine Fm x j _ _ (Bh _ _ _ j ?_);unfold On;rw[dr,if_pos ⟨rfl,by omega⟩,bP hr,Bool.or_true,Bool.true_or]
theorem Sg{x:ag}(hx:fg x):On (jh x) x.result.toNat:=by
 have:=hx.res
 exact Ig x _ _ _ (by omega) (Fv this.1) (by simp) (Nat.le_refl _)
theorem I1{c:ai}{b:aj}{x:ag}(hx:fg x)(hz:Az c b.aI x.aM x.ops): ∀(r:List aD) (i:Nat) (st:List aD×List Int),x.ops.drop i=r→i≤x.ops.length→Inv c b x (On (jh x)) i st→Inv c b x (On (jh x)) x.ops.length (pk (jh x) r i st)
 |[],i,st,hd,hi,h=>by
  have P7:x.ops.length≤i:=by simpa using hd
  have:i=x.ops.length:=by omega
  subst this;exact h
 |o::r,i,st,hd,hi,h=>by
  have ho:x.ops[i]? =some o:=by rw[←bK];exact eM hd
  have bc:=(bq.1 ho).1
  have mI:x.ops.drop (i+1)=r:=by rw[←List.drop_drop,hd];rfl
  unfold pk;refine I1 hx hz r (i+1) _ mI bc ?_;cases hc:(jh x).getD i false with
  |true=>exact h.add ho (hz i o ho) (Ow hx ho hc)
  |false=>
   have:=h.ext (m:=[]) (v:=0) (by rw[List.append_nil];exact h.ok) (fun hh=>by unfold On at hh;rw[hc]at hh;cases hh) (by have:=h.room;simp;omega)
   rw[List.append_nil]at this;exact this
theorem GX{c:ai}(rt:Rt c):qI ⟨c.af.map (c6 rk)⟩∧bh ⟨c.af.map (c6 rk)⟩=0:=
 vW rt fun b hb x hx=>Qe (I1 (rt.fQ.x rt.ck hb hx) (rt.z hb hx) x.ops 0 ([],[]) rfl (Nat.zero_le _) (aiD ((rt.bl b hb).len x hx))) (rt.fQ.x rt.ck hb hx) (Sg (rt.fQ.x rt.ck hb hx)) rfl rfl rfl rfl
theorem rW{l:List aD}{j i:Nat}(h:j<i):(dA (l.take i)).getD j false=Td l j:=EO h
theorem z0(nd:List Bool): ∀(r:List aD) (i j:Nat),(gf nd r i)[j]? =(r[j]?).map (su nd (i+j))
 |[],i,j=>by simp[gf]
 |o::r,i,0=>by simp[gf]
 |o::r,i,j+1=>by simp only[gf,List.getElem?_cons_succ,z0 nd r (i+1) j];rw[show i+1+j=i+(j+1)by omega]
theorem CA{T:List Bool}{o:aD}(h:qV T o=false):o.kind≠5∧(o.kind=3→ ∀a∈o.args,T.getD a.toNat false=false):=by
 unfold qV at h;simp only[Bool.or_eq_false_iff,Bool.and_eq_false_iff,decide_eq_false_iff_not]at h;refine⟨h.1,fun h3 a ha=>?_⟩;have:=List.any_eq_false.1 (h.2.resolve_left (by simp[h3])) a ha
 simpa using this
theorem Ij{T:List Bool}{o:aD}(h5:o.kind≠5)(h:o.kind=3→ ∀a∈o.args,T.getD a.toNat false=false):qV T o=false:=by
 unfold qV;simp only[Bool.or_eq_false_iff,Bool.and_eq_false_iff,decide_eq_false_iff_not];refine⟨h5,?_⟩;by_cases h3:o.kind=3
 ·exact .inr (List.any_eq_false.2 fun a ha=>by rw[h h3 a ha];simp)
 ·exact .inl h3
theorem ML{c:ai}{ar kd:Int}{x:ag}(hz:Az c ar kd x.ops){j:Nat}(h:Dd x j):Td x.ops j=false:=by
 induction h with
 |call ho hc ha=>
  have hzo:=hz _ _ ho
  have:=(hzo.call hc).2.2 _ ha
  rwa [rW (by have:=hzo.args _ ha;omega)]at this
 |node hi ho hk ha ih=>
  rw[Ft ho]at ih;have:=(CA ih).2 hk _ ha
  rwa [rW (by have:=(hz _ _ ho).args _ ha;omega)]at this
theorem W6{x:ag}{j:Nat}{q:aD}(h:(gf (sk x) x.ops 0)[j]? =some q): ∃o,x.ops[j]? =some o∧q=su (sk x) j o:=by
 rw[z0,Nat.zero_add]at h;obtain⟨o,ho,hq⟩:=Option.map_eq_some_iff.1 h;exact⟨o,ho,hq.symm⟩
theorem Gi(nd:List Bool)(j:Nat)(o:aD):(su nd j o=o∧(o.kind=4→nd.getD j false=true))∨(o.kind=4∧nd.getD j false=false∧su nd j o=⟨5,o.name,o.num,o.args⟩):=by
 unfold su;by_cases h:o.kind=4
 ·cases hn:nd.getD j false with
  |true=>left;simp
  |false=>right;exact⟨h,rfl,by simp[h]⟩
 ·left;exact⟨by simp[h],fun hh=>absurd hh h⟩
theorem Bj{c:ai}{ar kd:Int}{x:ag}(hx:fg x)(hz:Az c ar kd x.ops): ∀(k j:Nat),j<k→Dd x j→j<x.ops.length→Td (gf (sk x) x.ops 0) j=false
 |0,j,h,_,_=>absurd h (Nat.not_lt_zero _)
 |k+1,j,h,hn,hl=>by
  obtain⟨o,ho⟩: ∃o,x.ops[j]? =some o:=⟨_,eH hl⟩;have hq:(gf (sk x) x.ops 0)[j]? =some (su (sk x) j o):=by rw[z0,Nat.zero_add,ho];rfl
  rw[Ft hq];have hu:=ML hz hn
  rw[Ft ho]at hu;obtain⟨h5,_⟩:=CA hu;have Tw:(sk x).getD j false=true:=(MM hx j).2 hn
  rcases Gi (sk x) j o with⟨e,_⟩|⟨_,e,_⟩
  ·rw[e];refine Ij h5 fun h3 a ha=>?_;have haj:=hx.args j o ho a ha
   rw[rW (by omega)];exact Bj hx hz k a.toNat (by omega) (.node hn ho h3 ha) (by omega)
  ·rw[Tw]at e;cases e
theorem PD{c:ai}{b:aj}{x:ag}(hx:fg x)(hl:x.ops.length≤60)(hz:Az c b.aI x.aM x.ops):adx c b x (gJ x):=by
 have hlen:(gJ x).ops.length=x.ops.length:=Gj _ _ _
 have fO:=hx.res
 refine⟨rfl,rfl,by rw[hlen];omega,by rw[hlen];exact fO,fun j q hq=>?_⟩;obtain⟨o,ho,rfl⟩:=W6 hq;have h:=hz j o ho
 have hj:=(bq.1 ho).1
 have ca:ba o=true→ ∀a∈o.args,(dA ((gf (sk x) x.ops 0).take j)).getD a.toNat false=false:=fun hc a ha=>by
  have haj:=h.args a ha
  rw[rW (by omega)];exact Bj hx hz _ a.toNat (Nat.lt_succ_self _) (.call ho hc ha) (by omega)
 rcases Gi (sk x) j o with⟨e,_⟩|⟨h4,_,e⟩
 ·rw[e];exact⟨h.k,h.nm,h.num,h.many,h.args,fun hc=>⟨(h.call hc).1,(h.call hc).2.1,ca hc⟩⟩
 ·rw[e];have hc:ba o=true:=by unfold ba;rw[h4];rfl
  have hnm:=h.nm
  have P1:=h.num
  unfold WT looks at hnm;rw[h4]at hnm P1;exact⟨⟨by show(1:Int)≤5;decide,by show(5:Int)≤5;decide⟩,hnm,P1,rfl,h.args,fun _=>⟨(h.call hc).1,(h.call hc).2.1,ca hc⟩⟩
theorem Bi{c:ai}(rt:Rt c):qI ⟨c.af.map (c6 gJ)⟩∧bh ⟨c.af.map (c6 gJ)⟩=0:=
 vW rt fun b hb x hx=>PD (rt.fQ.x rt.ck hb hx) ((rt.bl b hb).len x hx) (rt.z hb hx)
structure akQ(c:ai)(out:List aD)(args:List Int)(y:ag):Prop where
 B: ∃B,B∈c.af∧y∈B.ae∧(args.length:Int)=B.aI
 pl:ku y=true
 kd:0<y.aM→0<args.length∧(out.getD (args.getD 0 0).toNat default).kind=3∧y.aM=((out.getD (args.getD 0 0).toNat default).args.length:Int)
structure InZ(c:ai)(ar kd:Int)(out:List aD)(st:List aD×List Int)(i:Nat):Prop where
 len:st.2.length=i
 ok:Az c ar kd st.1
 sl: ∀v∈st.2,(0≤v∧v<st.1.length)∧Td st.1 v.toNat=false
 pre: ∃m,st.1=out++m
theorem AZ{y:ag}(hp:ku y=true)(hx:fg y): ∀(k j:Nat),j<k→j<y.ops.length→Td y.ops j=false
 |0,j,h,_=>absurd h (Nat.not_lt_zero _)
 |k+1,j,h,hl=>by
  obtain⟨o,ho⟩: ∃o,y.ops[j]? =some o:=⟨_,eH hl⟩;rw[Ft ho];have:=List.all_eq_true.1 hp o (fU ho)
  refine Ij (fun h5=>by rw[ba,h5]at this;simp at this) fun h3 a ha=>?_;have haj:=hx.args j o ho a ha
  rw[rW (by omega)];exact AZ hp hx k a.toNat (by omega) (by omega)
theorem InZ.push{c:ai}{ar kd:Int}{out:List aD}{st:List aD×List Int}{i:Nat}(h:InZ c ar kd out st i){v:Int}(hv:(0≤v∧v<st.1.length)∧Td st.1 v.toNat=false):InZ c ar kd out (st.1,st.2++[v]) (i+1):=
 ⟨by simp[h.len],h.ok,fun w hw=>by
  rcases List.mem_append.1 hw with hw|hw
  ·exact h.sl w hw
  ·rw[List.mem_singleton.1 hw];exact hv,h.pre⟩
section
variable{c:ai}{b:aj}{x:ag}{out:List aD}{args:List Int}{y:ag}
theorem Sk{ar kd:Int}(rt:Rt c)(hp:akQ c out args y)(jX:Az c ar kd out)(ha: ∀a∈args,(0≤a∧a<out.length)∧Td out a.toNat=false){st:List aD×List Int}{i:Nat}(h:InZ c ar kd out st i){q:aD}(hq:y.ops[i]? =some q):InZ c ar kd out (Dp args q st) (i+1):=by
 obtain⟨B,hB,hy,hl⟩:=hp.B;obtain⟨m,hm⟩:=h.pre;have hz:=rt.z hB hy i q hq
 have Aj:=(rt.bl B hB).ar
 have hkd:=(rt.bl B hB).aM y hy
 have yM:=rt.fQ.x rt.ck hB hy
 have aiS:=List.all_eq_true.1 hp.pl q (fU hq)
 have P1:=hz.num
 have up: ∀{v:Int},((0≤v∧v<out.length)∧Td out v.toNat=false)→(0≤v∧v<st.1.length)∧Td st.1 v.toNat=false:=fun{v} hv=>by
  rw[hm,Fu (by omega)];exact⟨by simp;omega,hv.2⟩
 unfold Dp;by_cases h1:q.kind=1
 ·rw[bP h1,az];rw[h1,show mo B.aI y.aM 1=IntKind.wrap .i64 (B.aI - 1)from rfl,bL (by omega)]at P1;exact h.push (up (ha _ (fR (by omega))))
 ·rw[bI h1,aC];by_cases h2:q.kind=2
  ·rw[bP h2,az];rw[h2,show mo B.aI y.aM 2=IntKind.wrap .i64 (y.aM - 1)from rfl,bL (by omega)]at P1;obtain⟨k1,k2,k3⟩:=hp.kd (by omega);have h0:=ha _ (fR k1)
   have bc:(args.getD 0 0).toNat<out.length:=by omega
   have he:st.1.getD (args.getD 0 0).toNat default=out.getD (args.getD 0 0).toNat default:=by
    rw[hm];exact getD_congr (gg bc)
   rw[he];have hpo:=ud (d:=(default:aD)) bc
   generalize hpd:out.getD (args.getD 0 0).toNat default=p at hpo k2 k3 ⊢;have yZ:p.args.getD q.num.toNat 0∈p.args:=fR (by omega)
   have hpa:=(jX _ _ hpo).args _ yZ
   have ht:=h0.2
   rw[Ft hpo]at ht;have:=(CA ht).2 k2 _ yZ
   rw[rW (by omega)]at this;exact h.push (up ⟨by omega,this⟩)
  ·rw[bI h2,aC];have h3:q.kind=3:=by
    have:=hz.k
    simp[ba]at aiS;omega
   have zx:YK c ar kd (dA (y.ops.take i)) i q:=⟨hz.k,hz.nm,by rw[h3]at P1 ⊢;exact P1,hz.many,hz.args,hz.call⟩
   obtain⟨g1,g2⟩:=Pz (sl:=st.2) (out:=st.1) hq zx fun a XJ=>by
    have:=h.sl _ (fR (l:=st.2) (i:=a.toNat) (by have:=hz.args a XJ;rw[h.len];omega))
    exact⟨this.1,fun _=>this.2⟩
   have g2:=g2 (AZ hp.pl yM _ i (Nat.lt_succ_self _) (bq.1 hq).1)
   refine⟨by simp[h.len],h.ok.app g1,fun v hv=>?_,⟨m++[dk st.2 q],by simp[hm]⟩⟩;rcases List.mem_append.1 hv with hv|hv
   ·have:=h.sl v hv
    rw[Fu (by omega)];exact⟨by simp;omega,this.2⟩
   ·rw[List.mem_singleton.1 hv,Int.toNat_natCast,OA];exact⟨⟨by omega,by simp;omega⟩,g2⟩
theorem Mv{ar kd:Int}(rt:Rt c)(hp:akQ c out args y)(jX:Az c ar kd out)(ha: ∀a∈args,(0≤a∧a<out.length)∧Td out a.toNat=false): ∀(r:List aD) (i:Nat) (st:List aD×List Int),InZ c ar kd out st i→y.ops.drop i=r→InZ c ar kd out (oa args r st) (i+r.length)
 |[],i,st,h,_=>h
 |q::r,i,st,h,hd=>by
  have hq:y.ops[i]? =some q:=by rw[←bK];exact eM hd
  rw[uI,List.length_cons,show i+(r.length+1)=i+1+r.length by omega];exact Mv rt hp jX ha r (i+1) _ (Sk rt hp jX ha h hq) (by rw[←List.drop_drop,hd];rfl)
def ChZ(c:ai)(x:ag)(ch:Ch):Prop:= ∀(out:List aD) (args:List Int) (i:Nat) (o:aD) (y:ag),x.ops[i]? =some o→args.length=o.args.length→ch out args o=some y→ba o=true∧akQ c out args y
theorem Ms{ch:Ch}(rt:Rt c)(hz:Az c b.aI x.aM x.ops)(HN:ChZ c x ch): ∀(r:List aD) (i:Nat) (st:List aD×List Int),x.ops.drop i=r→i≤x.ops.length→Inv c b x (fun _=>True) i st→Inv c b x (fun _=>True) x.ops.length (nJ ch x.ops.length r i st)
 |[],i,st,hd,hi,h=>by
  have P7:x.ops.length≤i:=by simpa using hd
  have:i=x.ops.length:=by omega
  subst this;exact h
 |o::r,i,st,hd,hi,h=>by
  have ho:x.ops[i]? =some o:=by rw[←bK];exact eM hd
  have bc:=(bq.1 ho).1
  have mI:x.ops.drop (i+1)=r:=by rw[←List.drop_drop,hd];rfl
  have hzo:=hz i o ho
  have nM:=h.add ho hzo fun _ _=>trivial
  unfold nJ;refine Ms rt hz HN r (i+1) _ mI bc ?_;unfold qJ;cases hc:ch st.1 (aO st.2 o.args) o with
  |none=>exact nM
  |some y=>
   dsimp only;by_cases uY:st.1.length+eS y+(x.ops.length - i - 1)≤60
   ·rw[bP uY,az];obtain⟨ca,hp⟩:=HN _ _ i o y ho (eP _ _) hc;have HK: ∀a∈aO st.2 o.args,(0≤a∧a<st.1.length)∧Td st.1 a.toNat=false:=fun a ha=>by
     obtain⟨z,zx,rfl⟩:=List.mem_map.1 ha;have hzi:=hzo.args z zx
     have hs:=h.sl z.toNat (by omega) trivial
     refine⟨hs.r,hs.t ?_⟩;have:=(hzo.call ca).2.2 z zx
     rwa [rW (by omega)]at this
    have uw:=Mv rt hp h.ok HK y.ops 0 (st.1,[]) ⟨rfl,h.ok,fun v hv=>by simp at hv,⟨[],by simp⟩⟩ rfl
    rw[Nat.zero_add]at uw;obtain⟨m,hm⟩:=uw.pre;obtain⟨B,hB,hy,_⟩:=hp.B;have zy:=Ct (args:=aO st.2 o.args) y.ops (st.1,[]) (Qf rt hB hy hp.pl).k
    have fO:=(rt.fQ.x rt.ck hB hy).res
    have hv:=uw.sl _ (fR (i:=y.result.toNat) (by rw[uw.len];omega))
    have hlen:(st.1++m).length=st.1.length+eS y:=by rw[←hm];exact zy
    have:=h.ext (m:=m) (by rw[←hm];exact uw.ok) (fun _=>⟨by rw[←hm];exact hv.1,fun _=>by rw[←hm];exact hv.2⟩) (by rw[hlen];omega)
    rw[hm];exact this
   ·rw[bI uY,aC];exact nM
theorem Iw(rt:Rt c){ch:Ch}(HN: ∀b∈c.af,∀x∈b.ae,ChZ c x ch):qI ⟨c.af.map (c6 (la ch))⟩∧bh ⟨c.af.map (c6 (la ch))⟩=0:=
 vW rt fun b hb x hx=>Qe (Ms rt (rt.z hb hx) (HN b hb x hx) x.ops 0 ([],[]) rfl (Nat.zero_le _) (aiD ((rt.bl b hb).len x hx))) (rt.fQ.x rt.ck hb hx) trivial rfl rfl rfl rfl
theorem Yq{i:Nat}{o:aD}(rt:Rt c)(hb:b∈c.af)(hx:x∈b.ae)(ho:x.ops[i]? =some o)(hc:ba o=true):mD c o.name∈c.af∧(o.args.length:Int)=(mD c o.name).aI:=by
 obtain⟨h1,h2⟩:=(rt.op b hb x hx i o ho).call hc;obtain⟨h3,h4,h5⟩:=wJ h1;exact⟨h4,by rw[h2,h5]⟩
theorem abt(rt:Rt c)(hb:b∈c.af)(hx:x∈b.ae):ChZ c x (dS c):=fun out args i o y ho hl hc=>by
 unfold dS at hc;cases mw:ba o&&lb (mD c o.name)with
 |false=>rw[mw]at hc;cases hc
 |true=>
  rw[mw,az]at hc;cases hc;simp only[Bool.and_eq_true,lb,decide_eq_true_eq]at mw;obtain⟨h1,h2,h3,h4⟩:=mw;obtain⟨hB,Ui⟩:=Yq rt hb hx ho h1;have hm:=sj (rt.bl _ hB).n.1
  have hk:=((rt.bl _ hB).bare _ hm h3).2
  exact⟨h1,⟨_,hB,hm,by rw[hl];exact Ui⟩,h4,fun h0=>by omega⟩
theorem abm(rt:Rt c)(hb:b∈c.af)(hx:x∈b.ae):ChZ c x (da c):=fun out args i o y ho hl hc=>by
 unfold da at hc;cases mw:ba o&&(!decide ((nK (mD c o.name)).head=⟨#[]⟩)&&decide ((out.getD (args.getD 0 0).toNat default).kind=3))with
 |false=>rw[mw]at hc;cases hc
 |true=>
  rw[mw,az]at hc;simp only[Bool.and_eq_true,Bool.not_eq_true',decide_eq_false_iff_not,decide_eq_true_eq]at mw;obtain⟨h1,h2,h3⟩:=mw;obtain⟨hB,Ui⟩:=Yq rt hb hx ho h1;obtain⟨hf,hp⟩:=Option.filter_eq_some_iff.1 hc;have hm:=List.mem_of_find?_eq_some hf
  have gT:=List.find?_some hf
  simp only[kJ,Bool.and_eq_true,decide_eq_true_eq]at gT;have Zg:=rt.bl _ hB
  have ha:(mD c o.name).aI≠0:=fun e=>h2 (Zg.zW e _ (sj Zg.n.1))
  have Aj:=Zg.ar
  exact⟨h1,⟨_,hB,hm,by rw[hl];exact Ui⟩,hp,fun _=>⟨by omega,h3,gT.2⟩⟩
theorem IQ(rt:Rt c):qI ⟨c.af.map (c6 (la (dS c)))⟩∧bh ⟨c.af.map (c6 (la (dS c)))⟩=0:=Iw rt fun b hb x hx=>abt rt hb hx
theorem IM(rt:Rt c):qI ⟨c.af.map (c6 (la (da c)))⟩∧bh ⟨c.af.map (c6 (la (da c)))⟩=0:=Iw rt fun b hb x hx=>abm rt hb hx
end
end Ab
namespace Ab
open Go
set_option maxRecDepth 10000
section
variable{n:Nat}(hn:100<n)
 include hn
theorem WJ{x:ag}(hx:fg x)(k:List aD×List Int×Int→Option ai):
  iter (fo ak .ak n (aw x.ops) x k) n ([],[],0)=k (x.ops,uW x.ops.length,(x.ops.length:Int)):=by
 have hlen:=hx.len
 have:=aT (body:=fo ak .ak n (aw x.ops) x k) (mk:=fun(a:List aD) i=>(a,uW i,(i:Int))) (fun a r i=>k (a++r,uW x.ops.length,(x.ops.length:Int))) (fun a i=>a.length=i) x.ops (by omega) ?_ ?_ n (by omega) [] rfl
 ·simpa[uW]using this
 ·rintro self out i o r hp hd hi e1 e2 e3 ih
  have ho:x.ops[i]? =some o:=by rw[←bK];exact e1
  have hm:o∈x.ops:=fU ho
  have cI: ∀a∈o.args,0≤a∧a<(uW i).length:=fun a ha=>by rw[uV];exact hx.args i o ho a ha
  have Tx:=hx.ar o hm
  have hs:=rY hn (hd:=x.head) (kd:=x.aM) (z:=0) (ops:=out) cI Tx
  rw[Iq (fun a ha=>hx.args i o ho a ha)]at hs;have nM:=C9 (y:=o.args) (l:=out) (k:=o.kind) (z:=o.num) (nm:=o.name) (by omega) (by omega)
  simp only[au]at nM;have hil:=uV i
  simp only[fo,e2,az,e1,au,hs];rw[nM];simp only[au];rw[aN (by omega) (by omega),au,au,e3,hp,←CJ];have:=ih (out++[o]) (by simp[hp])
  rw[this];simp
 ·rintro self out hp e
  simp only[fo,e,aC];simp
theorem aaU{c:ai}(hc:qI c)(hg:pn c){i:Nat}{b:aj}{rb:List aj}(hb:c.af.drop i=b::rb){l9:List aj}(Gz:l9.length=c.af.length)(k:List aj×Int→Option ai)(R:Option ai)
  (hk:k (cA (fun x=>x) c.af (i+1) 0,(b.ae.length:Int))=R):iter (fp ak .ak n l9 (aw b.ae) b (i:Int) k) n (cA (fun x=>x) c.af i 0,0)=R:=by
 have lT:=bO hb
 have XI:=hc.br b lT
 have hi:i<c.af.length:=(bq.1 (mB hb)).1
 refine aT (body:=fp ak .ak n l9 (aw b.ae) b (i:Int) k) (mk:=fun(a:List aj) j=>(a,(j:Int))) (fun _ _ _=>R) (fun a j=>a=cA (fun x=>x) c.af i j) b.ae (by omega) ?_ ?_ n (by omega) _ rfl
 ·rintro self L j x r hp hd hj e1 e2 e3 ih
  subst hp;have hx:=hg.x hc lT (bO hd)
  have fO:=hx.res
  have TB: ∀{a b:Int},gK [a,b] 0=some a:=rfl
  simp only[fp,e2,az,e1,au,show fe 2 (List.replicate 2 (0:Int))=some ()from rfl,show∀a b:Int,fe 2 [a,b]=some ()from fun _ _=>rfl];rw[WJ hn hx];have hr:gI (uW x.ops.length) x.result=some x.result:=by
   rw[il fO.1 (by rw[uV];exact fO.2),Gt fO.1 fO.2]
  have jg:Md.ak.ln l9=c.af.length:=Gz
  simp only[hr,au,jg,iI hi,pF hb,show gN 2 0=some 0 from rfl,TB];rw[aN (by omega) (by simp;omega),au];have:=pE (F:=fun x=>x) hb hd
  rw[this,au,e3];exact ih _ rfl
 ·rintro self L hp e
  subst hp;simp only[fp,e,aC];rw[nE hb];exact hk
theorem aa8(bs:List aj):bs.map (c6 fun x=>x)=bs:=by
 conv=>rhs;rw[←List.map_id bs]
 exact List.map_congr_left fun b _=>by unfold c6;simp
theorem aaV{c:ai}(hc:qI c)(hg:pn c){l9:List aj}(Gz:l9.length=c.af.length)(k:List aj×Int→Option ai)(R:Option ai)
  (hk:k (c.af,(c.af.length:Int))=R):iter (ed ak .ak n c l9 (aw c.af) k) n (c.af.map bare,0)=R:=by
 have AE:=hc.bl
 refine(aT (body:=ed ak .ak n c l9 (aw c.af) k) (mk:=fun(a:List aj) j=>(a,(j:Int))) (fun _ _ _=>R) (fun a j=>a=cA (fun x=>x) c.af j 0) c.af (by omega) ?_ ?_ n (by omega) _ vB.symm)
 ·rintro self L i b r hp hd hi e1 e2 e3 ih
  subst hp;simp only[ed,e2,az,e1,au];refine aaU hn hc hg hd Gz _ R ?_;dsimp only;rw[e3];exact ih _ rfl
 ·rintro self L hp e
  subst hp;simp only[ed,e,aC];rw[pG,aa8 hn];exact hk
theorem aaW{c:ai}(AE:c.af.length≤16)(k:List aj×Int→Option ai){b:aj}{r:List aj}(hb:c.af=b::r):iter (fu ak .ak n c (aw c.af) k) n ([bare b],1)=k (c.af.map bare,(c.af.length:Int)):=by
 have:=rK (body:=fu ak .ak n c (aw c.af) k) (mk:=fun(a:List aj) j=>(a,(j:Int))) (fun a r _=>k (a++r.map bare,(c.af.length:Int))) (fun a i=>a.length=i) c.af (by omega) ?_ ?_ n 1 (by rw[hb];simp) (by omega) [bare b] rfl
 ·refine this.trans ?_;rw[hb];rfl
 ·intro self l i x r hp hd hi e1 e2 e3 ih;simp only[fu,e2,az,e1,au];rw[aN (by omega) (by omega),au,e3,ih _ (by simp[hp])];simp[bare]
 ·intro self l hp e;simp only[fu,e,aC];simp
theorem ahY{c:ai}(hc:qI c)(h0:bh c=0):vV ak .ak n c=some c:=by
 unfold vV se;have hg:=gW h0
 have AE:=hc.bl
 obtain⟨b,r,hb⟩: ∃b r,c.af=b::r:=by
  cases h:c.af with
  |nil=>have:=hg.some.1;rw[h]at this;simp at this
  |cons b r=>exact⟨b,r,rfl⟩
 have h1:ak.bf 0 (aw c.af)=true:=by show decide ((0:Int)<c.af.length)=true;rw[hb];simp
 have h2:gI c.af 0=some b:=by rw[hb];rfl
 have hw:ak.wrap .i64 (ak.add 0 1)=1:=by show IntKind.wrap .i64 1=1;rw[bL (by omega)]
 rw[au,h1,az,h2,au,aN (by omega) (by simp),au,hw];have:=(aaW hn AE (fun(l8,z9)=>
  (some (aw c.af)).bind fun Ky=>
  iter (ed ak .ak n c l8 Ky (fun(l53,z54)=>
   (ei (Md.ak.ln l8) l53).bind fun u55=>
   some (⟨l53⟩:ai))) n (l8,0)) hb)
 refine(congrArg (fun q=>Option.bind q some) this).trans ?_;dsimp only;rw[au];rw[aaV hn hc hg (by simp) _ (some c) (by dsimp only;rw[eW (by simp[Md.ak]),au])];rfl
end
end Ab
namespace Ab
open Go
set_option maxRecDepth 10000
def bump(l:List Int)(k:Nat):List Int:=l.set k (l.getD k 0+1)
def Bm(o:aD):Nat:=bif decide (o.kind<1)||decide (5<o.kind)then 0 else o.kind.toNat
def G5(l:List Int)(o:aD):List Int:=bump l (Bm o)
def Lb(l:List Int)(x:ag):List Int:=x.ops.foldl G5 l
def Ew(l:List Int)(b:aj):List Int:=b.ae.foldl Lb l
def zh(c:ai):List Int:=c.af.foldl Ew (List.replicate 6 0)
structure Bd(m N:Nat)(l:List Int):Prop where
 len:l.length=m
 e: ∀e∈l,0≤e∧e≤N
theorem Bd.at{m N:Nat}{l:List Int}(h:Bd m N l){k:Nat}(hk:k<m):0≤l.getD k 0∧l.getD k 0≤N:=h.e _ (fR (by rw[h.len];exact hk))
theorem Bd.bump{m N:Nat}{l:List Int}(h:Bd m N l){k:Nat}(hk:k<m):Bd m (N+1) (bump l k):=
 ⟨by simp[Ab.bump,h.len],fun e he=>by
  rcases List.mem_or_eq_of_mem_set he with he|he
  ·have:=h.e e he;omega
  ·have:=h.at hk;omega⟩
theorem Gp(o:aD):Bm o<6:=by
 unfold Bm;cases hc:decide (o.kind<1)||decide (5<o.kind)with
 |true=>rw[az];omega
 |false=>rw[aC];simp at hc;omega
theorem adl{N:Nat}: ∀(r:List aD) (l:List Int) (N:Nat),Bd 6 N l→Bd 6 (N+r.length) (r.foldl G5 l)
 |[],l,N,h=>h
 |o::r,l,N,h=>by
  have:=adl (N:=N) r (G5 l o) (N+1) (h.bump (Gp o))
  rw[List.foldl_cons,List.length_cons,show N+(r.length+1)=N+1+r.length by omega];exact this
theorem Bd.le{m N N':Nat}{l:List Int}(h:Bd m N l)(hN:N≤N'):Bd m N' l:=⟨h.len,fun e he=>by have:=h.e e he;omega⟩
theorem adm: ∀(r:List ag) (l:List Int) (N:Nat),(∀x∈r,x.ops.length≤70)→Bd 6 N l→Bd 6 (N+70*r.length) (r.foldl Lb l)
 |[],l,N,_,h=>h
 |x::r,l,N,hx,h=>by
  have h1:=(adl (N:=N) x.ops l N h).le (N':=N+70) (by have:=hx x (by simp);omega)
  have:=adm r (Lb l x) (N+70) (fun y hy=>hx y (by simp[hy])) h1
  rw[List.foldl_cons];exact this.le (by simp;omega)
theorem apr: ∀(r:List aj) (l:List Int) (N:Nat),(∀b∈r,b.ae.length≤16∧ ∀x∈b.ae,x.ops.length≤70)→Bd 6 N l→Bd 6 (N+1120*r.length) (r.foldl Ew l)
 |[],l,N,_,h=>h
 |b::r,l,N,hb,h=>by
  have h1:=(adm b.ae l N (hb b (by simp)).2 h).le (N':=N+1120) (by have:=(hb b (by simp)).1;omega)
  have:=apr r (Ew l b) (N+1120) (fun y hy=>hb y (by simp[hy])) h1
  rw[List.foldl_cons];exact this.le (by simp;omega)
theorem bd0(m:Nat):Bd m 0 (List.replicate m 0):=⟨by simp,fun e he=>by rw[(List.mem_replicate.1 he).2];omega⟩
theorem wI{c:ai}(hc:qI c):Bd 6 20000 (zh c):=
 (apr c.af _ 0 (fun b hb=>⟨hc.br b hb,hc.op b hb⟩) (bd0 6)).le (by have:=hc.bl;omega)
theorem Lg{m N:Nat}{l:List Int}(h:Bd m N l)(hN:N≤1000000){z:Int}{k:Nat}(hz:z=(k:Int))(hk:k<m){R:Type}(f:List Int→Option R):
  ((gN m z).bind fun Y8=>(gK l Y8).bind fun UB=>(gD l Y8 (ak.wrap .i64 (ak.add UB 1))).bind f)=f (bump l k):=by
 subst hz;have hl:=h.len
 have ha:=h.at hk
 rw[iI hk,au,show gK l k=some (l.getD k 0)by unfold gK;exact ud (by omega),au,mF (by omega),au];congr 2;rw[show ak.wrap .i64 (ak.add (l.getD k 0) 1)=IntKind.wrap .i64 (l.getD k 0+1)from rfl,bL (by omega)]
section
variable{n:Nat}(hn:100<n)
 include hn
theorem Qi{x:ag}(hx:x.ops.length≤70){N:Nat}(hN:N≤900000)(k:List Int×Int→Option (List Int))(l:List Int)(h:Bd 6 N l):
  iter (jM ak .ak n (aw x.ops) x k) n (l,0)=k (Lb l x,(x.ops.length:Int)):=by
 refine(aT (body:=jM ak .ak n (aw x.ops) x k) (mk:=fun(a:List Int) i=>(a,(i:Int))) (fun a r _=>k (r.foldl G5 a,(x.ops.length:Int))) (fun a i=>Bd 6 (N+i) a) x.ops (by omega) ?_ ?_ n (by omega) l h)
 ·intro self a i o r hp hd hi e1 e2 e3 ih;simp only[jM,e2,az,e1,au,bg,fW,eE];have:=ih (G5 a o) (hp.bump (Gp o))
  rw[List.foldl_cons];cases hc:decide (o.kind<1)||decide (5<o.kind)with
  |true=>
   have hk:Bm o=0:=by unfold Bm;rw[hc];rfl
   rw[az,Lg hp (by omega) (z:=0) (k:=0) rfl (by omega),e3,←this];unfold G5;rw[hk]
  |false=>
   have hk:Bm o=o.kind.toNat:=by unfold Bm;rw[hc];rfl
   simp only[Bool.or_eq_false_iff,decide_eq_false_iff_not]at hc;rw[aC,Lg hp (by omega) (k:=o.kind.toNat) (by omega) (by omega),e3,←this];unfold G5;rw[hk]
 ·intro self a hp e;simp only[jM,e,aC,List.foldl_nil]
theorem Qj{b:aj}(hb:b.ae.length≤16)(hx: ∀x∈b.ae,x.ops.length≤70){N:Nat}(hN:N≤800000)(k:List Int×Int→Option (List Int))(l:List Int)(h:Bd 6 N l):
  iter (jN ak .ak n (aw b.ae) b k) n (l,0)=k (Ew l b,(b.ae.length:Int)):=by
 refine(aT (body:=jN ak .ak n (aw b.ae) b k) (mk:=fun(a:List Int) i=>(a,(i:Int))) (fun a r _=>k (r.foldl Lb a,(b.ae.length:Int))) (fun a i=>Bd 6 (N+70*i) a) b.ae (by omega) ?_ ?_ n (by omega) l h)
 ·intro self a i x r hp hd hi e1 e2 e3 ih;have hxl:=hx x (bO hd)
  simp only[jN,e2,az,e1,au];rw[Qi hn hxl (by omega) _ a hp,e3];refine(ih (Lb a x) ((adl (N:=N) x.ops a _ hp).le (by omega))).trans rfl
 ·intro self a hp e;simp only[jN,e,aC,List.foldl_nil]
theorem C2{c:ai}(hc:qI c):nA ak .ak n c=some (zh c):=by
 have AE:=hc.bl
 unfold nA;simp only[au];have hb:=wI hc
 refine(aT (body:=mC ak .ak n c (aw c.af) fun(HI,EG)=>(fe 6 HI).bind fun u27=>(fe 6 (List.replicate 6 0)).bind fun u28=>(fe 6 HI).bind fun u29=>some HI) (mk:=fun(a:List Int) i=>(a,(i:Int)))
  (fun a r _=>(fe 6 (r.foldl Ew a)).bind fun u27=>(fe 6 (List.replicate 6 (0:Int))).bind fun u28=>(fe 6 (r.foldl Ew a)).bind fun u29=>some (r.foldl Ew a)) (fun a i=>Bd 6 (1120*i) a) c.af (by omega) ?_ ?_ n (by omega) (List.replicate 6 0) (bd0 6)).trans ?_
 ·intro self a i b r hp hd hi e1 e2 e3 ih;have lT:=bO hd
  simp only[mC,e2,az,e1,au];rw[Qj hn (hc.br b lT) (hc.op b lT) (by omega) _ a hp,e3];refine(ih (Ew a b) ((adm b.ae a _ (hc.op b lT) hp).le (by have:=hc.br b lT;omega))).trans rfl
 ·intro self a hp e;simp only[mC,e,aC,List.foldl_nil];rfl
 ·show((fe 6 (zh c)).bind fun u27=>(fe 6 (List.replicate 6 (0:Int))).bind fun u28=>(fe 6 (zh c)).bind fun u29=>some (zh c))=_;rw[um hb.len,um (by simp)];rfl
end
section
variable{n:Nat}(hn:100<n)
 include hn
theorem Sy{o q:aD}(ho:o.args.length≤100):tN ak .ak n o q=some (decide (o=q)):=by
 unfold tN;rw[Hr (y:=decide (o.args=q.args)) fun _=>DV hn ho,au,F7];simp only[bg,bU,jx];cases decide (o.kind=q.kind)<;>cases decide (o.name=q.name)<;>cases decide (o.num=q.num)<;>cases decide (o.args=q.args)<;>rfl
theorem X2{l m:List aD}(hl:l.length≤70)(ha: ∀o∈l,o.args.length≤100):e8 ak .ak n l m=some (decide (l=m)):=by
 unfold e8;simp only[au,bQ,bU];by_cases HM:l.length=m.length
 ·have h0:decide (aw l=aw m)=true:=bP (by show(l.length:Int)=m.length;omega)
  rw[h0,jJ (fun x y=>decide (x=y)) HM (some true) (by omega) ?_ ?_ (by omega),pY]
  ·cases decide (l=m)<;>rfl
  ·intro self i x y e1 e2 hx _ e3 e4;simp only[ej,e3,az,e1,e2,au,bQ,Sy hn (ha x hx),e4];cases decide (x=y)<;>rfl
  ·intro self e;simp only[ej,e,aC]
 ·have h0:decide (aw l=aw m)=false:=bI (by show¬(l.length:Int)=m.length;omega)
  rw[h0,v7 HM];rfl
theorem Sz{x y:ag}(hl:x.ops.length≤70)(ha: ∀o∈x.ops,o.args.length≤100):oS ak .ak n x y=some (decide (x=y)):=by
 unfold oS;rw[Hr (y:=decide (x.ops=y.ops)) fun _=>X2 hn hl ha,au,NK];simp only[bg,bU,jx];cases decide (x.head=y.head)<;>cases decide (x.aM=y.aM)<;>cases decide (x.result=y.result)<;>cases decide (x.ops=y.ops)<;>rfl
theorem X5{l m:List ag}(hl:l.length≤16)(h1: ∀x∈l,x.ops.length≤70)(ha: ∀x∈l,∀o∈x.ops,o.args.length≤100):dC ak .ak n l m=some (decide (l=m)):=by
 unfold dC;simp only[au,bQ,bU];by_cases HM:l.length=m.length
 ·have h0:decide (aw l=aw m)=true:=bP (by show(l.length:Int)=m.length;omega)
  rw[h0,jJ (fun x y=>decide (x=y)) HM (some true) (by omega) ?_ ?_ (by omega),pY]
  ·cases decide (l=m)<;>rfl
  ·intro self i x y e1 e2 hx _ e3 e4;simp only[dg,e3,az,e1,e2,au,bQ,Sz hn (h1 x hx) (ha x hx),e4];cases decide (x=y)<;>rfl
  ·intro self e;simp only[dg,e,aC]
 ·have h0:decide (aw l=aw m)=false:=bI (by show¬(l.length:Int)=m.length;omega)
  rw[h0,v7 HM];rfl
theorem SA{x y:aj}(hl:x.ae.length≤16)(h1: ∀z∈x.ae,z.ops.length≤70)(ha: ∀z∈x.ae,∀o∈z.ops,o.args.length≤100):oR ak .ak n x y=some (decide (x=y)):=by
 unfold oR;rw[Hr (y:=decide (x.ae=y.ae)) fun _=>X5 hn hl h1 ha,au,NN];simp only[bg,bU,jx];cases decide (x.name=y.name)<;>cases decide (x.aI=y.aI)<;>cases decide (x.ae=y.ae)<;>rfl
theorem X6{c:ai}(hc:qI c)(m:List aj):dY ak .ak n c.af m=some (decide (c.af=m)):=by
 have AE:=hc.bl
 unfold dY;simp only[au,bQ,bU];by_cases HM:c.af.length=m.length
 ·have h0:decide (aw c.af=aw m)=true:=bP (by show(c.af.length:Int)=m.length;omega)
  rw[h0,jJ (fun x y=>decide (x=y)) HM (some true) (by omega) ?_ ?_ (by omega),pY]
  ·cases decide (c.af=m)<;>rfl
  ·intro self i x y e1 e2 hx _ e3 e4;simp only[dv,e3,az,e1,e2,au,bQ,SA hn (hc.br x hx) (hc.op x hx) (fun z hz o ho=>by have:=hc.ar x hx z hz o ho;omega),e4];cases decide (x=y)<;>rfl
  ·intro self e;simp only[dv,e,aC]
 ·have h0:decide (aw c.af=aw m)=false:=bI (by show¬(c.af.length:Int)=m.length;omega)
  rw[h0,v7 HM];rfl
theorem NG{c d:ai}(hc:qI c)(hd:qI d):ll ak .ak n c d=some (decide (c=d)):=by
 have e: ∀x:ai,(⟨x.af⟩:ai)=x:=fun _=>rfl
 have hcd:decide (c=d)=decide (c.af=d.af):=by cases c;cases d;simp
 unfold ll;rw[e c,e d,C2 hn hc,C2 hn hd,au,au,um (wI hc).len,um (wI hd).len];simp only[au];rw[Hr (y:=decide (c.af=d.af)) fun _=>X6 hn hc d.af,au,hcd];by_cases h:c.af=d.af
 ·have:zh c=zh d:=by unfold zh;rw[h]
  simp[this,h,bg]
 ·simp only[bg,bI h];cases decide (zh c=zh d)<;>rfl
end
end Ab
namespace Ab
open Go
set_option maxRecDepth 10000
def fv5(m:List Int)(o:aD):List Int:=bump m (o.kind - 1).toNat
theorem drop_set{l:List Int}{k:Nat}{v:Int}:(l.set (k+1) v).drop 1=(l.drop 1).set k v:=by cases l<;>simp
theorem TL{l:List Int}{k:Nat}:(l.drop 1).getD k 0=l.getD (k+1) 0:=by cases l<;>simp
theorem abS{l:List Int}{o:aD}(h:1≤o.kind∧o.kind≤5):fv5 (l.drop 1) o=(G5 l o).drop 1:=by
 have hk:Bm o=(o.kind - 1).toNat+1:=by
  unfold Bm;have:(decide (o.kind<1)||decide (5<o.kind))=false:=by simp;omega
  rw[this,aC];omega
 unfold fv5 G5 bump;rw[hk,drop_set,TL]
theorem aoA{l:List Int}(h:l.length=6): ∃z a b c d e,l=[z,a,b,c,d,e]:=by
 match l,h with
 |[z,a,b,c,d,e],_=>exact⟨z,a,b,c,d,e,rfl⟩
def kn(c:ai):Int:=((zh c).drop 1).sum
theorem arp{a b c d e:Int}(ha:0≤a∧a≤20000)(hb:0≤b∧b≤20000)(hc:0≤c∧c≤20000)(hd:0≤d∧d≤20000)(he:0≤e∧e≤20000):IntKind.wrap .i64 (IntKind.wrap .i64 (IntKind.wrap .i64 (IntKind.wrap .i64 (a+b)+c)+d)+e)=a+b+c+d+e:=by
 rw[bL (n:=a+b) (by omega),bL (n:=a+b+c) (by omega),bL (n:=a+b+c+d) (by omega),bL (by omega)]
section
variable{n:Nat}(hn:100<n)
 include hn
theorem OS{x:ag}(hx:x.ops.length≤70)(hk: ∀o∈x.ops,1≤o.kind∧o.kind≤5){N:Nat}(hN:N≤900000)(k:List Int×Int→Option (List Int))(l:List Int)(h:Bd 6 N l):
  iter (jD ak .ak n x k) n (l.drop 1,0)=k ((Lb l x).drop 1,(x.ops.length:Int)):=by
 refine(aT (body:=jD ak .ak n x k) (mk:=fun(a:List Int) i=>(a.drop 1,(i:Int))) (fun a r _=>k ((r.foldl G5 a).drop 1,(x.ops.length:Int))) (fun a i=>Bd 6 (N+i) a) x.ops (by omega) ?_ ?_ n (by omega) l h)
 ·intro self a i o r hp hd hi e1 e2 e3 ih;have hko:=hk o (bO hd)
  have h5:Bd 5 (N+i) (a.drop 1):=⟨by simp[hp.len],fun e he=>hp.e e (List.mem_of_mem_drop he)⟩
  have hw:ak.wrap .i64 (ak.sub o.kind 1)=((o.kind - 1).toNat:Int):=by show IntKind.wrap .i64 (o.kind - 1)=_;rw[bL (by omega)];omega
  simp only[jD,au,e2,az,e1,hw];rw[Lg h5 (by omega) (k:=(o.kind - 1).toNat) rfl (by omega),e3];have:=ih (G5 a o) (hp.bump (Gp o))
  rw[←abS hko]at this;exact this
 ·intro self a hp e;simp only[jD,au,e,aC,List.foldl_nil]
theorem SI{c:ai}(hc:qI c)(hk: ∀b∈c.af,∀x∈b.ae,∀o∈x.ops,1≤o.kind∧o.kind≤5):tA ak .ak n c=some ((zh c).drop 1):=by
 have AE:=hc.bl
 have hb:=wI hc
 unfold tA;simp only[au];refine(aT (body:=me ak .ak n c fun(IL,z23)=>(fe 5 IL).bind fun YY=>(fe 5 (List.replicate 5 0)).bind fun UO=>(fe 5 IL).bind fun u26=>some IL) (mk:=fun(a:List Int) i=>(a.drop 1,(i:Int)))
  (fun a r _=>(fe 5 ((r.foldl Ew a).drop 1)).bind fun u27=>(fe 5 (List.replicate 5 (0:Int))).bind fun u28=>(fe 5 ((r.foldl Ew a).drop 1)).bind fun u29=>some ((r.foldl Ew a).drop 1)) (fun a i=>Bd 6 (1120*i) a) c.af (by omega) ?_ ?_ n (by omega) (List.replicate 6 0) (bd0 6)).trans ?_
 ·intro self a i b r hp hd hi e1 e2 e3 ih;have lT:=bO hd
  have Zg:=hc.br b lT
  simp only[me,au,e2,az];have w:=aT (body:=mc ak .ak n c (i:Int) fun(PO,z21)=>self (PO,(ak.wrap .i64 (ak.add (i:Int) 1)))) (mk:=fun(a:List Int) j=>(a.drop 1,(j:Int))) (fun a r _=>self ((r.foldl Lb a).drop 1,(ak.wrap .i64 (ak.add (i:Int) 1)))) (fun a j=>Bd 6 (1120*i+70*j) a) b.ae (by omega) ?_ ?_ n (by omega) a hp
  ·refine w.trans ?_;rw[e3];exact(ih (Ew a b) ((adm b.ae a _ (hc.op b lT) hp).le (by omega))).trans rfl
  ·intro Dv a2 j x s sU hd2 hj f1 f2 f3 ih2;have Bq:=bO hd2
   have hxl:=hc.op b lT x Bq
   simp only[mc,e1,au,f2,az,f1];rw[OS hn hxl (hk b lT x Bq) (by omega) _ a2 sU,f3];exact(ih2 (Lb a2 x) ((adl (N:=0) x.ops a2 _ sU).le (by omega))).trans rfl
  ·intro Dv a2 sU f;simp only[mc,e1,au,f,aC,List.foldl_nil]
 ·intro self a hp e;simp only[me,au,e,aC,List.foldl_nil];rfl
 ·show((fe 5 ((zh c).drop 1)).bind fun u27=>(fe 5 (List.replicate 5 (0:Int))).bind fun u28=>(fe 5 ((zh c).drop 1)).bind fun u29=>some ((zh c).drop 1))=_;rw[um (by simp[hb.len]),um (by simp)];rfl
theorem L9{c:ai}(hc:qI c)(hk: ∀b∈c.af,∀x∈b.ae,∀o∈x.ops,1≤o.kind∧o.kind≤5):mQ ak .ak n c=some (kn c):=by
 have hb:=wI hc
 unfold mQ kn;rw[SI hn hc hk];obtain⟨z,a,b,c',d,e,hl⟩:=aoA hb.len;rw[hl]at hb ⊢;have h:=hb.e
 have:=arp (h a (by simp)) (h b (by simp)) (h c' (by simp)) (h d (by simp)) (h e (by simp))
 simp only[List.drop_succ_cons,List.drop_zero,au,show fe 5 (List.replicate 5 (0:Int))=some ()from rfl,show gN 5 0=some 0 from rfl,show gN 5 1=some 1 from rfl,show gN 5 2=some 2 from rfl,show gN 5 3=some 3 from rfl,show gN 5 4=some 4 from rfl];show some (IntKind.wrap .i64 (IntKind.wrap .i64 (IntKind.wrap .i64 (IntKind.wrap .i64 (a+b)+c')+d)+e))=_;rw[this];simp[List.sum_cons];omega
theorem Ym{c:ai}(hc:qI c):wG ak .ak n c=some (bif decide (bh c=0)then((zh c).drop 1,0)else(List.replicate 5 0,bh c)):=by
 have hb:=wI hc
 unfold wG;simp only[au];rw[qG hn hc,au,bQ,bU];by_cases h0:bh c=0
 ·rw[bP h0,Bool.not_true,aC,az,C2 hn hc,au];obtain⟨z,a,b,c',d,e,hl⟩:=aoA hb.len;rw[hl];rfl
 ·rw[bI h0];rfl
theorem QW{c:ai}(hc:qI c):vz ak .ak n c=some (bif decide (bh c=0)then(kn c,0)else(0,bh c)):=by
 have hb:=wI hc
 unfold vz;rw[Ym hn hc,au];have key: ∀(l:List Int) (e0:Int),Bd 5 20000 l→((some (List.replicate 5 (0:Int))).bind fun l2=>(fe 5 l2).bind fun u3=>(fe 5 l).bind fun u4=>iter (nC ak .ak n (l,e0) (fun(z8,z9)=>some (z9,e0))) n (0,0))=some (l.sum,e0):=fun l e0 h=>by
  have hl:=h.len
  rw[au,um (by simp),au,um hl,au];have w:=aT (body:=nC ak .ak n (l,e0) (fun(z8,z9)=>some (z9,e0))) (mk:=fun(a:Int) i=>((i:Int),a)) (fun a r _=>some (a+r.sum,e0)) (fun a i=>0≤a∧a≤20000*i) l (by omega) ?_ ?_ n (by omega) 0 (by simp)
  ·refine w.trans ?_;simp
  ·intro self a i x r hp hd hi e1 e2 e3 ih;have hx:=h.e x (bO hd)
   have e2':ak.bf (i:Int) 5=true:=by show decide ((i:Int)<5)=true;exact bP (by omega)
   have hw:ak.wrap .i64 (ak.add a x)=a+x:=by show IntKind.wrap .i64 (a+x)=_;rw[bL (by omega)]
   simp only[nC,e2',az,e1,au,e3,hw];rw[ih (a+x) (by omega),List.sum_cons,Int.add_assoc]
  ·intro self a hp e;have e2':ak.bf (l.length:Int) 5=false:=by show decide ((l.length:Int)<5)=false;exact bI (by omega)
   simp only[nC,e2',aC];simp
 by_cases h0:bh c=0
 ·rw[bP h0,az,az];exact key _ _ ⟨by simp[hb.len],fun e he=>hb.e e (List.mem_of_mem_drop he)⟩
 ·rw[bI h0,aC,aC];exact key _ _ ((bd0 5).le (by omega))
def DN(x y:aj):Bool:=decide (x.name=y.name)&&decide (x.aI=y.aI)
def Yu(c d:ai):Int:=bif decide (bh c=0)then bh d else bh c
def JS(c d:ai):Bool×Int:=bif decide (bh c=0)&&decide (bh d=0)then(decide (kn d≤kn c)&&(decide (c.af.length=d.af.length)&&C8 DN c.af d.af),0)else(false,Yu c d)
theorem XG{l m:List aj}(hl:l.length≤16):dX ak .ak n l m=some (decide (l.length=m.length)&&C8 DN l m):=by
 unfold dX;simp only[au,bQ,bU];by_cases HM:l.length=m.length
 ·have h0:decide (aw l=aw m)=true:=bP (by show(l.length:Int)=m.length;omega)
  rw[h0,jJ DN HM (some true) (by omega) ?_ ?_ (by omega),bP HM]
  ·cases C8 DN l m<;>rfl
  ·intro self i x y e1 e2 hx _ e3 e4;simp only[du,py,e3,az,e1,e2,au,bQ,bg,jx,bU,e4,DN];cases decide (x.name=y.name)<;>cases decide (x.aI=y.aI)<;>rfl
  ·intro self e;simp only[du,e,aC]
 ·have h0:decide (aw l=aw m)=false:=bI (by show¬(l.length:Int)=m.length;omega)
  rw[h0,bI HM];rfl
theorem OJ{c d:ai}(hc:qI c)(hd:qI d):kD ak .ak n c d=some (JS c d):=by
 unfold kD JS Yu;rw[QW hn hc,au];by_cases h0:bh c=0
 ·simp only[bP h0,az,bQ,bU,decide_true,Bool.not_true,aC,Bool.true_and];rw[QW hn hd,au];by_cases h1:bh d=0
  ·simp only[bP h1,az,decide_true,Bool.not_true,aC];rw[Hr (y:=decide (c.af.length=d.af.length)&&C8 DN c.af d.af) fun _=>XG hn hc.bl,au];simp only[bg,zt];cases decide (kn d≤kn c)<;>rfl
  ·simp only[bI h1,aC,Bool.not_false,az]
 ·simp only[bI h0,aC,bQ,bU,Bool.not_false,az,Bool.false_and]
theorem pn.kinds{c:ai}(h:pn c): ∀b∈c.af,∀x∈b.ae,∀o∈x.ops,1≤o.kind∧o.kind≤5:=fun b hb x hx o ho=>by
 obtain⟨i,hi⟩:=List.getElem?_of_mem ho;have h1:=nn (h.ops b hb x hx).1 i o hi
 unfold Cf at h1;obtain⟨h1,_⟩:=bz (by decide) h1;simp only[Bool.or_eq_false_iff,decide_eq_false_iff_not]at h1;omega
theorem Ma{c d:ai}(hc:qI c)(hd:qI d):ma ak .ak n c d=some (JS c d):=by
 unfold ma zP JS Yu;rw[xw hn hc,au];by_cases h0:bh c=0
 ·simp only[bP h0,az,bQ,bU,Bool.not_true,aC,Bool.true_and];rw[xw hn hd,au,au];by_cases h1:bh d=0
  ·simp only[bP h1,Bool.not_true,aC,az,au];by_cases hl:c.af.length=d.af.length
   ·have h2:decide (aw c.af=aw d.af)=true:=bP (by show(c.af.length:Int)=d.af.length;omega)
    have AE:=hc.bl
    rw[h2,Bool.not_true,aC,bP hl,Bool.true_and];have w:=fM (R:=Bool×Int) (body:=ju ak .ak n c d fun yS=>(mQ ak .ak n d).bind fun wL=>(mQ ak .ak n c).bind fun EI=>some ((ak.rL wL EI),0)) (fun r i=>some (decide (kn d≤kn c)&&C8 DN r (d.af.drop i),0)) c.af (by omega) ?_ ?_ n (by omega)
    ·refine w.trans ?_;simp
    ·intro self i x r hdr hi e1 e2 e3 ih;obtain⟨y,s,hy⟩: ∃y s,d.af.drop i=y::s:=by
      cases h:d.af.drop i with
      |nil=>simp at h;omega
      |cons y s=>exact⟨y,s,rfl⟩
     have hs:d.af.drop (i+1)=s:=by rw[←List.drop_drop,hy];rfl
     simp only[ju,au,e2,az,e1,eM hy,e3,ih,hy,hs];rw[HO (y:=x) fun _=>rfl,au,HO (y:=y) fun _=>rfl,au];simp only[bQ,jx,bU,bg,C8,DN];cases decide (x.name=y.name)<;>simp;cases decide (x.aI=y.aI)<;>simp
    ·intro self e;simp only[ju,au,e,aC];rw[L9 hn hd (pn.kinds hn (gW h1)),au,L9 hn hc (pn.kinds hn (gW h0)),au,zt];have:d.af.drop c.af.length=[]:=by simp[hl]
     rw[this];simp[C8]
   ·have h2:decide (aw c.af=aw d.af)=false:=bI (by show¬(c.af.length:Int)=d.af.length;omega)
    rw[h2,bI hl];simp
  ·simp only[bI h1,Bool.not_false,az,aC]
 ·simp only[bI h0,aC,bQ,bU,Bool.not_false,az,Bool.false_and,au]
end
end Ab
namespace Ab
open Go
set_option maxRecDepth 10000
def pL(c:ai):ai:=⟨c.af.map (c6 gJ)⟩
def pI(c:ai):ai:=⟨c.af.map (c6 (la (dS c)))⟩
def pK(c:ai):ai:=⟨c.af.map (c6 (la (da c)))⟩
def pS(c:ai):ai:=⟨c.af.map (c6 lE)⟩
def pD(c:ai):ai:=⟨c.af.map (c6 rk)⟩
def Cg(c:ai):ai:=pD (pS (pK (pI (pL c))))
structure Ri(c:ai):Prop where
 ck:qI c
 z:bh c=0
theorem Ri.rt{c:ai}(h:Ri c):Rt c:=L8 h.ck h.z
theorem Ri.L{c:ai}(h:Ri c):Ri (pL c):=⟨(Bi h.rt).1,(Bi h.rt).2⟩
theorem Ri.I{c:ai}(h:Ri c):Ri (pI c):=⟨(IQ h.rt).1,(IQ h.rt).2⟩
theorem Ri.K{c:ai}(h:Ri c):Ri (pK c):=⟨(IM h.rt).1,(IM h.rt).2⟩
theorem Ri.S{c:ai}(h:Ri c):Ri (pS c):=⟨(Du h.rt).1,(Du h.rt).2⟩
theorem Ri.D{c:ai}(h:Ri c):Ri (pD c):=⟨(GX h.rt).1,(GX h.rt).2⟩
theorem Ri.OO{c:ai}(h:Ri c):Ri (Cg c):=h.L.I.K.S.D
def C7:Nat→ai→Int→ai×Int
 |0,c,_=>(c,20)
 |k+1,c,i=>bif decide (c=Cg c)then(c,i)else C7 k (Cg c) (i+1)
theorem aee{i:Int}(h:i<20):ak.bf i 20=true:=bP h
theorem wr1{i:Int}(h:0≤i∧i<20):ak.wrap .i64 (ak.add i 1)=i+1:=by show IntKind.wrap .i64 (i+1)=_;rw[bL (by omega)]
section
variable{N:Nat}(hN:1000<N)
 include hN
theorem Dz: ∀(k n:Nat) (c:ai) (i:Int),k<n→0≤i→i+k=20→Ri c→iter (p8 ak .ak N (fun(l9,yS)=>some ((⟨l9⟩:ai),20))) n (c.af,i)=some (C7 k c i)
 |k,0,c,i,h,_,_,_=>absurd h (Nat.not_lt_zero _)
 |0,n+1,c,i,_,_,hi,_=>by
  have h2:i=20:=by omega
  subst h2;rfl
 |k+1,n+1,c,i,h,h0,hi,hr=>by
  have Qb:100<N:=by omega
  have e:(⟨c.af⟩:ai)=c:=rfl
  show p8 ak .ak N _ (iter _ n) (c.af,i)=_;simp only[p8,aee (show i<20 by omega),az,e];rw[HE Qb hr.ck hr.z,au,show(⟨c.af.map (c6 gJ)⟩:ai)=pL c from rfl,
   HF Qb hr.L.ck hr.L.z,au,show(⟨(pL c).af.map (c6 (la (dS (pL c))))⟩:ai)=pI (pL c)from rfl,
   Ko Qb hr.L.I.ck hr.L.I.z,au,show(⟨(pI (pL c)).af.map (c6 (la (da (pI (pL c)))))⟩:ai)=pK (pI (pL c))from rfl,
   Kn Qb hr.L.I.K.ck hr.L.I.K.z,au,show(⟨(pK (pI (pL c))).af.map (c6 lE)⟩:ai)=pS (pK (pI (pL c)))from rfl,
   Mx Qb hr.L.I.K.S.ck hr.L.I.K.S.z (fun b hb x hx o ho=>hr.L.I.K.S.rt.fQ.kind hb hx ho),au,show(⟨(pS (pK (pI (pL c)))).af.map (c6 rk)⟩:ai)=Cg c from rfl,
   r8 hN hr.ck.szd,au]
  unfold C7;cases decide (c=Cg c)with
  |true=>rfl
  |false=>
   simp only[aC];rw[wr1 (by omega)];exact Dz k n (Cg c) (i+1) (by omega) (by omega) (by omega) hr.OO
theorem SG{c:ai}(hr:Ri c):Cl ak .ak N c=some (C7 20 c 0):=Dz hN 20 N c 0 (by omega) (Int.le_refl _) rfl hr
theorem NP: ∀(k n:Nat) (c:ai) (i:Int),k<n→0≤i→i+k=20→Ri c→iter (ov ak .ak N (fun(ia,pa,eU)=>some ((⟨ia⟩:ai),eU,0))) n (c.af,i,i)=some ((C7 k c i).1,(C7 k c i).2,0)
 |k,0,c,i,h,_,_,_=>absurd h (Nat.not_lt_zero _)
 |0,n+1,c,i,_,_,hi,_=>by
  have h2:i=20:=by omega
  subst h2;rfl
 |k+1,n+1,c,i,h,h0,hi,hr=>by
  have Qb:100<N:=by omega
  have e: ∀c:ai,(⟨c.af⟩:ai)=c:=fun _=>rfl
  show ov ak .ak N _ (iter _ n) (c.af,i,i)=_;simp only[ov,lM,lL,lK,lJ,lI,aee (show i<20 by omega),az,e];rw[T4 Qb hr.ck,bP hr.z,az,au,au,show(⟨c.af.map (c6 gJ)⟩:ai)=pL c from rfl,
   T5 Qb hr.L.ck,bP hr.L.z,az,au,au,show(⟨(pL c).af.map (c6 (la (dS (pL c))))⟩:ai)=pI (pL c)from rfl,
   YL Qb hr.L.I.ck,bP hr.L.I.z,az,au,au,show(⟨(pI (pL c)).af.map (c6 (la (da (pI (pL c)))))⟩:ai)=pK (pI (pL c))from rfl,
   YD Qb hr.L.I.K.ck,bP hr.L.I.K.z,az,au,au,show(⟨(pK (pI (pL c))).af.map (c6 lE)⟩:ai)=pS (pK (pI (pL c)))from rfl,
   ady Qb hr.L.I.K.S.ck,bP hr.L.I.K.S.z,az,au,au,show(⟨(pS (pK (pI (pL c)))).af.map (c6 rk)⟩:ai)=Cg c from rfl,
   NG Qb hr.OO.ck hr.ck,au,show decide (Cg c=c)=decide (c=Cg c)by rw[decide_eq_decide];exact eq_comm]
  unfold C7;cases decide (c=Cg c)with
  |true=>rfl
  |false=>
   simp only[aC];rw[wr1 (by omega)];exact NP k n (Cg c) (i+1) (by omega) (by omega) (by omega) hr.OO
theorem akO{c:ai}(hc:qI c):pz ak .ak N c=some (bif decide (bh c=0)then((C7 20 c 0).1,(C7 20 c 0).2,0)else(⟨[]⟩,0,bh c)):=by
 have Qb:100<N:=by omega
 unfold pz;rw[qG Qb hc,au,bQ,bU];by_cases h0:bh c=0
 ·rw[bP h0,Bool.not_true,aC,az,ahY Qb hc h0,au];exact NP hN 20 N c 0 (by omega) (Int.le_refl _) rfl ⟨hc,h0⟩
 ·rw[bI h0,Bool.not_false,az,aC]
theorem Hc: ∀(k:Nat) (c:ai) (i:Int),Ri c→Ri (C7 k c i).1
 |0,c,i,h=>h
 |k+1,c,i,h=>by
  unfold C7;cases decide (c=Cg c)with
  |true=>exact h
  |false=>exact Hc k (Cg c) (i+1) h.OO
end
end Ab
namespace Ab
open Go
set_option maxHeartbeats 4000000
set_option maxRecDepth 100000
theorem Qu:qf ak .ak 2000=some true:=by kernel_rfl
theorem Pu(b:Bool):ak.pick false true b=b:=rfl
theorem all_val(c d:ai):mH ak .ak 2000 c d=some true:=by
 unfold mH;have e: ∀c:ai,(⟨c.af⟩:ai)=c:=fun _=>rfl
 simp only[e];rw[Qu,YO (by decide) c,YO (by decide) d];simp only[au];cases hb:TV c with
 |true=>rfl
 |false=>
  cases CL:TV d with
  |true=>rfl
  |false=>
   have hs:=I4 hb
   have KS:=I4 CL
   have hc:=hs.ck
   have hd:=KS.ck
   have hn:100<2000:=by decide
   have hN:1000<2000:=by decide
   have hid:dE ak .ak 2000 c c=some true:=by rw[r8 hN hc.szd];simp
   have aui:dE ak .ak 2000 d d=some true:=by rw[r8 hN hd.szd];simp
   have abC:dE ak .ak 2000 ⟨[]⟩ ⟨[]⟩=some true:=by rw[r8 hN aau];simp
   simp only[dp,beq_self_eq_true,az,au,Pu,aC,YJ hn hs,YJ hn KS,xw hn hc,bU,akO hN hc,OJ hn hc hd,Ma hn hc hd,hid,aui];by_cases h0:bh c=0
   ·have hr:Ri c:=⟨hc,h0⟩
    have Gu:dE ak .ak 2000 (C7 20 c 0).1 (C7 20 c 0).1=some true:=by rw[r8 hN (Hc hN 20 c 0 hr).ck.szd];simp
    simp only[h0,decide_true,az,SG hN hr,au,bQ,adW,Bool.not_true,Pu,beq_self_eq_true,Gu,aC];rfl
   ·simp only[bI h0,aC,au,decide_true,bQ,adW,Bool.not_true,Pu,beq_self_eq_true,abC,az];rfl
end Ab
namespace Ab
open Go Go.Proofs.Tryz
set_option maxHeartbeats 100000000
set_option maxRecDepth 100000
noncomputable def c5:Code:=f5.body.get (by kernel_rfl)
def alX:Nat→Tree
 |3=> .one 0 (.one 2 (.al 1 (.al 3 (.al 4 (.al 5 (.al 6 (.al 7 .done .nil) .nil) .nil) (.al 5 (.al 4 (.al 6 (.al 7 .done .nil) .nil) .nil) .nil)) (.al 4 (.al 3 (.al 5 (.al 6 (.al 7 .done .nil) .nil) .nil) (.al 5 (.al 3 (.al 6 (.al 7 .done .nil) .nil) .nil) .nil)) (.al 5 (.al 3 (.al 4 (.al 6 (.al 7 .done .nil) .nil) .nil) (.al 4 (.al 3 (.al 6 (.al 7 .done .nil) .nil) .nil) .nil)) .nil))) (.al 4 (.al 1 (.al 3 (.al 5 (.al 6 (.al 7 .done .nil) .nil) .nil) (.al 5 (.al 3 (.al 6 (.al 7 .done .nil) .nil) .nil) .nil)) (.al 5 (.al 1 (.al 3 (.al 6 (.al 7 .done .nil) .nil) .nil) .nil) .nil)) (.al 5 (.al 1 (.al 3 (.al 4 (.al 6 (.al 7 .done .nil) .nil) .nil) (.al 4 (.al 3 (.al 6 (.al 7 .done .nil) .nil) .nil) .nil)) (.al 4 (.al 1 (.al 3 (.al 6 (.al 7 .done .nil) .nil) .nil) .nil) .nil)) .nil))))
 |_=> .done
def aoW:Nat→List Nat
 |0=>[0,1,4]
 |1=>rg 17 5
 |2=>[23]
 |3=>[24,25,26,27]
 |4=>[28,29]
 |7=>[30]
 |8=>rg 32 5
 |9=>rg 37 6
 |10=>rg 43 6
 |11=>rg 49 6
 |12=>rg 7 5++[13,14,15,16]++rg 55 23
 |14=>[12,79,80]
 |15=>[2,3,5,6]++rg 81 11
 |_=>[]
def au4(r:Nat):FI:=⟨fun _=> .skip,0,[],fun _=> .done,[],r,fun _=>[],some (Xd RR)⟩
theorem ab4(r:Nat):mT PP im 25 (au4 r):= .inl ⟨_,rfl,abn au6 Sl⟩
noncomputable def c7:Code:=f7.body.get (by kernel_rfl)
def alW:Nat→Tree
 |_=> .done
def aoV:Nat→List Nat
 |0=>[0,2]
 |1=>[1]++rg 3 9
 |_=>[]
noncomputable def c33:Code:=f33.body.get (by kernel_rfl)
def af2:Nat→Tree
 |_=> .done
def akj:Nat→List Nat
 |0=>[4]
 |1=>[0,1,5,6,7,8]
 |_=>[]
noncomputable def c92:Code:=f92.body.get (by kernel_rfl)
def JG:Nat→Tree
 |_=> .done
def K3:Nat→List Nat
 |0=>[4]
 |1=>[6]
 |3=>[10]
 |4=>rg 11 5
 |5=>[5,17]
 |6=>[18]
 |_=>[]
noncomputable def c34:Code:=f34.body.get (by kernel_rfl)
def af1:Nat→Tree
 |_=> .done
def aki:Nat→List Nat
 |0=>[0,2]
 |1=>[1]++rg 3 15
 |_=>[]
noncomputable def c35:Code:=f35.body.get (by kernel_rfl)
def zL:Nat→Tree
 |_=> .done
def Ap:Nat→List Nat
 |0=>[4]
 |1=>[0,1,5,6,7,8]
 |_=>[]
noncomputable def c93:Code:=f93.body.get (by kernel_rfl)
def vJ:Nat→Tree
 |_=> .done
def wE:Nat→List Nat
 |0=>[4]
 |1=>[6]
 |3=>[10]
 |4=>rg 11 5
 |5=>[5,17]
 |6=>[18]
 |_=>[]
noncomputable def c36:Code:=f36.body.get (by kernel_rfl)
def af0:Nat→Tree
 |_=> .done
def akh:Nat→List Nat
 |0=>[0,2]
 |1=>[1]++rg 3 15
 |_=>[]
noncomputable def c37:Code:=f37.body.get (by kernel_rfl)
def UY:Nat→Tree
 |_=> .done
def Yl:Nat→List Nat
 |0=>[4]
 |1=>[0,1,5,6,7,8]
 |_=>[]
noncomputable def c94:Code:=f94.body.get (by kernel_rfl)
def UR:Nat→Tree
 |_=> .done
def Yf:Nat→List Nat
 |0=>[4]
 |1=>[6]
 |3=>[10]
 |4=>rg 11 5
 |5=>[5,17]
 |6=>[18]
 |_=>[]
noncomputable def c38:Code:=f38.body.get (by kernel_rfl)
def afZ:Nat→Tree
 |_=> .done
def akg:Nat→List Nat
 |0=>[0,2]
 |1=>[1]++rg 3 10
 |_=>[]
noncomputable def c13:Code:=f13.body.get (by kernel_rfl)
def agd:Nat→Tree
 |13=>on (rg 0 10) (.al 10 (.al 11 (.al 12 (.al 13 (.one 14 (.al 15 .done .nil)) .nil) .nil) .nil) .nil)
 |_=> .done
def aku:Nat→List Nat
 |0=>[0]
 |2=>[1,12]
 |4=>[17,18]
 |5=>rg 19 5
 |6=>[5,24]
 |8=>[29,30]
 |9=>rg 31 7
 |10=>[8,38]
 |12=>[43,44]
 |13=>[11]++rg 45 15
 |14=>[60]
 |15=>[9]++rg 61 6
 |16=>[67]
 |17=>[6]++rg 68 6
 |18=>[74]
 |19=>[3,75]
 |_=>[]
noncomputable def c61:Code:=f61.body.get (by kernel_rfl)
def afH:Nat→Tree
 |_=> .done
def ajY:Nat→List Nat
 |0=>[2]
 |1=>[0,3,4,5]
 |_=>[]
noncomputable def c8:Code:=f8.body.get (by kernel_rfl)
def Il:Nat→Tree
 |9=> .one 0 (.one 1 (.al 2 (.al 3 (.al 4 (.al 5 (.al 6 (.al 7 (.al 8 (.one 9 (.al 10 .done .nil)) .nil) .nil) .nil) .nil) .nil) (.al 4 (.al 3 (.al 5 (.al 6 (.al 7 (.al 8 (.one 9 (.al 10 .done .nil)) .nil) .nil) .nil) .nil) .nil) .nil)) (.al 4 (.al 2 (.al 3 (.al 5 (.al 6 (.al 7 (.al 8 (.one 9 (.al 10 .done .nil)) .nil) .nil) .nil) .nil) .nil) .nil) .nil)))
 |11=> .one 0 (.one 1 (.al 2 (.al 3 (.al 4 (.al 5 (.al 6 (.al 7 (.one 8 (.al 9 .done .nil)) .nil) .nil) .nil) .nil) .nil) (.al 3 (.al 2 (.al 4 (.al 5 (.al 6 (.al 7 (.one 8 (.al 9 .done .nil)) .nil) .nil) .nil) .nil) .nil) .nil)))
 |12=> .al 0 (.al 1 (.one 2 (.one 3 (.al 4 (.al 5 (.al 6 (.al 7 (.al 8 (.al 9 (.al 10 (.al 11 .done .nil) .nil) (.al 10 (.al 9 (.al 11 .done .nil) .nil) .nil)) (.al 10 (.al 8 (.al 9 (.al 11 .done .nil) .nil) .nil) .nil)) (.al 10 (.al 7 (.al 8 (.al 9 (.al 11 .done .nil) .nil) .nil) .nil) .nil)) (.al 10 (.al 6 (.al 7 (.al 8 (.al 9 (.al 11 .done .nil) .nil) .nil) .nil) .nil) .nil)) (.al 10 (.al 5 (.al 6 (.al 7 (.al 8 (.al 9 (.al 11 .done .nil) .nil) .nil) .nil) .nil) .nil) .nil)) (.al 10 (.al 4 (.al 5 (.al 6 (.al 7 (.al 8 (.al 9 (.al 11 .done .nil) .nil) .nil) .nil) .nil) .nil) .nil) .nil)))) (.al 4 (.al 1 (.one 2 (.one 3 (.al 5 (.al 6 (.al 7 (.al 8 (.al 9 (.al 10 (.al 11 .done .nil) .nil) (.al 10 (.al 9 (.al 11 .done .nil) .nil) .nil)) (.al 10 (.al 8 (.al 9 (.al 11 .done .nil) .nil) .nil) .nil)) (.al 10 (.al 7 (.al 8 (.al 9 (.al 11 .done .nil) .nil) .nil) .nil) .nil)) (.al 10 (.al 6 (.al 7 (.al 8 (.al 9 (.al 11 .done .nil) .nil) .nil) .nil) .nil) .nil)) (.al 10 (.al 5 (.al 6 (.al 7 (.al 8 (.al 9 (.al 11 .done .nil) .nil) .nil) .nil) .nil) .nil) .nil)))) (.al 5 (.al 1 (.one 2 (.one 3 (.al 6 (.al 7 (.al 8 (.al 9 (.al 10 (.al 11 .done .nil) .nil) (.al 10 (.al 9 (.al 11 .done .nil) .nil) .nil)) (.al 10 (.al 8 (.al 9 (.al 11 .done .nil) .nil) .nil) .nil)) (.al 10 (.al 7 (.al 8 (.al 9 (.al 11 .done .nil) .nil) .nil) .nil) .nil)) (.al 10 (.al 6 (.al 7 (.al 8 (.al 9 (.al 11 .done .nil) .nil) .nil) .nil) .nil) .nil)))) (.al 6 (.al 1 (.one 2 (.one 3 (.al 7 (.al 8 (.al 9 (.al 10 (.al 11 .done .nil) .nil) (.al 10 (.al 9 (.al 11 .done .nil) .nil) .nil)) (.al 10 (.al 8 (.al 9 (.al 11 .done .nil) .nil) .nil) .nil)) (.al 10 (.al 7 (.al 8 (.al 9 (.al 11 .done .nil) .nil) .nil) .nil) .nil)))) (.al 7 (.al 1 (.one 2 (.one 3 (.al 8 (.al 9 (.al 10 (.al 11 .done .nil) .nil) (.al 10 (.al 9 (.al 11 .done .nil) .nil) .nil)) (.al 10 (.al 8 (.al 9 (.al 11 .done .nil) .nil) .nil) .nil)))) (.al 10 (.al 1 (.one 2 (.one 3 (.al 8 (.al 9 (.al 11 .done .nil) .nil) .nil))) .nil) .nil)) (.al 10 (.al 1 (.one 2 (.one 3 (.al 7 (.al 8 (.al 9 (.al 11 .done .nil) .nil) .nil) .nil))) (.al 7 (.al 1 (.one 2 (.one 3 (.al 8 (.al 9 (.al 11 .done .nil) .nil) .nil))) .nil) .nil)) .nil))) (.al 10 (.al 1 (.one 2 (.one 3 (.al 6 (.al 7 (.al 8 (.al 9 (.al 11 .done .nil) .nil) .nil) .nil) .nil))) (.al 6 (.al 1 (.one 2 (.one 3 (.al 7 (.al 8 (.al 9 (.al 11 .done .nil) .nil) .nil) .nil))) (.al 7 (.al 1 (.one 2 (.one 3 (.al 8 (.al 9 (.al 11 .done .nil) .nil) .nil))) .nil) .nil)) .nil)) .nil))) (.al 10 (.al 1 (.one 2 (.one 3 (.al 5 (.al 6 (.al 7 (.al 8 (.al 9 (.al 11 .done .nil) .nil) .nil) .nil) .nil) .nil))) (.al 5 (.al 1 (.one 2 (.one 3 (.al 6 (.al 7 (.al 8 (.al 9 (.al 11 .done .nil) .nil) .nil) .nil) .nil))) (.al 6 (.al 1 (.one 2 (.one 3 (.al 7 (.al 8 (.al 9 (.al 11 .done .nil) .nil) .nil) .nil))) (.al 7 (.al 1 (.one 2 (.one 3 (.al 8 (.al 9 (.al 11 .done .nil) .nil) .nil))) .nil) .nil)) .nil)) .nil)) .nil))) (.al 10 (.al 1 (.one 2 (.one 3 (.al 4 (.al 5 (.al 6 (.al 7 (.al 8 (.al 9 (.al 11 .done .nil) .nil) .nil) .nil) .nil) .nil) .nil))) (.al 4 (.al 1 (.one 2 (.one 3 (.al 5 (.al 6 (.al 7 (.al 8 (.al 9 (.al 11 .done .nil) .nil) .nil) .nil) .nil) .nil))) (.al 5 (.al 1 (.one 2 (.one 3 (.al 6 (.al 7 (.al 8 (.al 9 (.al 11 .done .nil) .nil) .nil) .nil) .nil))) (.al 6 (.al 1 (.one 2 (.one 3 (.al 7 (.al 8 (.al 9 (.al 11 .done .nil) .nil) .nil) .nil))) (.al 7 (.al 1 (.one 2 (.one 3 (.al 8 (.al 9 (.al 11 .done .nil) .nil) .nil))) .nil) .nil)) .nil)) .nil)) .nil)) .nil))) (.al 10 (.al 0 (.al 1 (.one 2 (.one 3 (.al 4 (.al 5 (.al 6 (.al 7 (.al 8 (.al 9 (.al 11 .done .nil) .nil) .nil) .nil) .nil) .nil) .nil))) (.al 4 (.al 1 (.one 2 (.one 3 (.al 5 (.al 6 (.al 7 (.al 8 (.al 9 (.al 11 .done .nil) .nil) .nil) .nil) .nil) .nil))) (.al 5 (.al 1 (.one 2 (.one 3 (.al 6 (.al 7 (.al 8 (.al 9 (.al 11 .done .nil) .nil) .nil) .nil) .nil))) (.al 6 (.al 1 (.one 2 (.one 3 (.al 7 (.al 8 (.al 9 (.al 11 .done .nil) .nil) .nil) .nil))) (.al 7 (.al 1 (.one 2 (.one 3 (.al 8 (.al 9 (.al 11 .done .nil) .nil) .nil))) .nil) .nil)) .nil)) .nil)) .nil)) .nil) .nil)
 |13=>on (rg 0 27) (.al 27 (.al 28 (.al 29 (on [30,31,32,33] (.al 34 (on [35,36,37,38] (.al 39 (on (rg 40 8) (.al 48 (on [49,50,51] (.al 52 (.al 53 (.one 54 (.one 55 (.al 56 (.al 57 (.al 58 (.one 59 (.one 60 (.al 61 (.al 62 (.al 63 (.one 64 (.one 65 .done)) .nil) .nil) .nil))) .nil) .nil) (.al 57 (.al 56 (.al 58 (.one 59 (.one 60 (.al 61 (.al 62 (.al 63 (.one 64 (.one 65 .done)) .nil) .nil) .nil))) .nil) (.al 58 (.one 59 (.one 60 (.al 56 (.al 61 (.al 62 (.al 63 (.one 64 (.one 65 .done)) .nil) .nil) .nil) (.al 61 (.al 56 (.al 62 (.al 63 (.one 64 (.one 65 .done)) .nil) .nil) (.al 62 (.one 56 (.al 63 (.one 64 (.one 65 .done)) .nil)) .nil)) .nil)))) .nil)) .nil)))) .nil) .nil)) .nil)) .nil)) .nil)) .nil) .nil) (.al 28 (.one 27 (.al 29 (on [30,31,32,33] (.al 34 (on [35,36,37,38] (.al 39 (on (rg 40 8) (.al 48 (on [49,50,51] (.al 52 (.al 53 (.one 54 (.one 55 (.al 56 (.al 57 (.al 58 (.one 59 (.one 60 (.al 61 (.al 62 (.al 63 (.one 64 (.one 65 .done)) .nil) .nil) .nil))) .nil) .nil) (.al 57 (.al 56 (.al 58 (.one 59 (.one 60 (.al 61 (.al 62 (.al 63 (.one 64 (.one 65 .done)) .nil) .nil) .nil))) .nil) (.al 58 (.one 59 (.one 60 (.al 56 (.al 61 (.al 62 (.al 63 (.one 64 (.one 65 .done)) .nil) .nil) .nil) (.al 61 (.al 56 (.al 62 (.al 63 (.one 64 (.one 65 .done)) .nil) .nil) (.al 62 (.one 56 (.al 63 (.one 64 (.one 65 .done)) .nil)) .nil)) .nil)))) .nil)) .nil)))) .nil) .nil)) .nil)) .nil)) .nil)) .nil)) .nil))
 |_=> .done
def aoU:Nat→List Nat
 |0=>[0]
 |1=>rg 19 5
 |2=>rg 24 5
 |3=>rg 29 6
 |4=>rg 35 5
 |5=>[8]++rg 40 5
 |6=>rg 45 5
 |7=>rg 50 5
 |8=>[55,56,57]
 |9=>rg 58 10
 |10=>[68,69,70]
 |11=>rg 71 9
 |12=>rg 80 10
 |13=>rg 1 7++rg 9 10++rg 90 65
 |_=>[]
theorem avc:TO im Il c8 0=true:=by kernel_rfl
theorem avb:TO im Il c8 1=true:=by kernel_rfl
theorem ava:TO im Il c8 2=true:=by kernel_rfl
theorem au9:TO im Il c8 3=true:=by kernel_rfl
theorem d8_:cD im Il c8=true:=Yd 4 (by kernel_rfl) (by kernel_rfl) fun k h=>match k,h with
 |0,_=>avc
 |1,_=>avb
 |2,_=>ava
 |3,_=>au9
 |k+4,h=>absurd h (by omega)
noncomputable def c39:Code:=f39.body.get (by kernel_rfl)
def UX:Nat→Tree
 |_=> .done
def Yk:Nat→List Nat
 |1=>rg 1 22
 |_=>[]
noncomputable def au3(r:Nat):FI:=⟨fun _=>c39,23,[.cell 0 24],UX,[3021],r,Yk,none⟩
theorem ab3(r:Nat):mT PP im 39 (au3 r):= .inr ⟨rfl,_,func39,by kernel_rfl,ntmps39,by kernel_rfl,by kernel_rfl,enters func39 (c:=c39) (by kernel_rfl) (by kernel_rfl)⟩
noncomputable def c42:Code:=f42.body.get (by kernel_rfl)
def UW:Nat→Tree
 |_=> .done
def Yj:Nat→List Nat
 |1=>[0,3,4]
 |_=>[]
noncomputable def XS(r:Nat):FI:=⟨fun _=>c42,5,[.cell 2 24],UW,[],r,Yj,none⟩
theorem RI(r:Nat):mT PP im 42 (XS r):= .inr ⟨rfl,_,func42,by kernel_rfl,ntmps42,by kernel_rfl,by kernel_rfl,enters func42 (c:=c42) (by kernel_rfl) (by kernel_rfl)⟩
noncomputable def c46:Code:=f46.body.get (by kernel_rfl)
def afU:Nat→Tree
 |3=> .one 0 (.one 2 (.al 1 (.al 3 (on (rg 4 6) (.al 10 (.al 11 (.one 12 (.one 13 .done)) .nil) .nil)) .nil) .nil))
 |_=> .done
def akb:Nat→List Nat
 |0=>[0,1,4]
 |2=>[5,7]
 |3=>[2,3,6]++rg 8 13
 |_=>[]
noncomputable def c99:Code:=f99.body.get (by kernel_rfl)
def aff:Nat→Tree
 |_=> .done
def ajw:Nat→List Nat
 |0=>[0]
 |2=>[1,5]
 |4=>[8,9,10,11]
 |5=>[16]
 |6=>[4]++rg 17 6
 |7=>[3,23]
 |_=>[]
noncomputable def apb:Code:=f129.body.get (by kernel_rfl)
def ZZ:Nat→Tree
 |_=> .done
def acH:Nat→List Nat
 |0=>[0,2]
 |1=>[1,3]
 |_=>[]
noncomputable def aoG(r:Nat):FI:=⟨fun _=>apb,4,[.tmp 2],ZZ,[],r,acH,none⟩
theorem XY(r:Nat):mT PP im 129 (aoG r):= .inr ⟨rfl,_,func129,by kernel_rfl,ntmps129,by kernel_rfl,by kernel_rfl,enters func129 (c:=apb) (by kernel_rfl) (by kernel_rfl)⟩
noncomputable def ao9:Code:=f154.body.get (by kernel_rfl)
def ZC:Nat→Tree
 |_=> .done
def aci:Nat→List Nat
 |0=>[1,9]
 |2=>[14,15]
 |3=>[4,16]
 |5=>[21,22]
 |6=>[6,23]
 |8=>[28,29]
 |9=>[8,30,31,32]
 |10=>[34]
 |11=>[35]
 |12=>[36]
 |_=>[]
noncomputable def aoE(r:Nat):FI:=⟨fun _=>ao9,37,[],ZC,[],r,aci,none⟩
theorem XW(r:Nat):mT PP im 154 (aoE r):= .inr ⟨rfl,_,func154,by kernel_rfl,ntmps154,by kernel_rfl,by kernel_rfl,enters func154 (c:=ao9) (by kernel_rfl) (by kernel_rfl)⟩
noncomputable def c80:Code:=f80.body.get (by kernel_rfl)
def US:Nat→Tree
 |_=> .done
def Yg:Nat→List Nat
 |0=>[6]
 |1=>[10,11,12,13]
 |3=>[0]
 |5=>[19,20,21]
 |6=>[7,22,23,24,25]
 |7=>[8,9,26,27,28,29]
 |9=>[31]
 |_=>[]
noncomputable def av3:Code:=f100.body.get (by kernel_rfl)
def aaq:Nat→Tree
 |_=> .done
def ac8:Nat→List Nat
 |0=>[0,1,5]
 |1=>[2,3,4]++rg 6 20
 |_=>[]
noncomputable def api:Code:=f101.body.get (by kernel_rfl)
def QT:Nat→Tree
 |_=> .done
def RP:Nat→List Nat
 |0=>[6]
 |1=>[10,11,12,13]
 |3=>[0]
 |5=>[19,20,21]
 |6=>[7,22,23,24,25]
 |7=>[8,9,26,27,28,29]
 |9=>[31]
 |_=>[]
noncomputable def c97:Code:=f97.body.get (by kernel_rfl)
def afg:Nat→Tree
 |_=> .done
def ajx:Nat→List Nat
 |0=>[0,1,5]
 |1=>[2,3,4]++rg 6 27
 |_=>[]
noncomputable def c98:Code:=f98.body.get (by kernel_rfl)
def UQ:Nat→Tree
 |_=> .done
def Ye:Nat→List Nat
 |0=>[6]
 |1=>[10,11,12,13]
 |3=>[0]
 |5=>[19,20,21]
 |6=>[7,22,23,24,25]
 |7=>[8,9,26,27,28,29]
 |9=>[31]
 |_=>[]
noncomputable def c96:Code:=f96.body.get (by kernel_rfl)
def afh:Nat→Tree
 |_=> .done
def ajy:Nat→List Nat
 |0=>[0,1,4]
 |1=>[2,3]++rg 5 26
 |_=>[]
noncomputable def c47:Code:=f47.body.get (by kernel_rfl)
def afT:Nat→Tree
 |6=>on (rg 0 9) .done
 |_=> .done
def aka:Nat→List Nat
 |0=>[4]
 |1=>[6,7,8,9]
 |3=>[11]
 |5=>[15]
 |6=>[5]++rg 16 8
 |8=>[25]
 |_=>[]
noncomputable def c40:Code:=f40.body.get (by kernel_rfl)
def afY:Nat→Tree
 |_=> .done
def akf:Nat→List Nat
 |1=>rg 1 15
 |_=>[]
noncomputable def c43:Code:=f43.body.get (by kernel_rfl)
def afX:Nat→Tree
 |_=> .done
def ake:Nat→List Nat
 |1=>[0,1,2,7,8,9,10]
 |_=>[]
noncomputable def c45:Code:=f45.body.get (by kernel_rfl)
def afV:Nat→Tree
 |_=> .done
def akc:Nat→List Nat
 |1=>[0,1,2,3]++rg 9 5
 |_=>[]
noncomputable def c95:Code:=f95.body.get (by kernel_rfl)
def afi:Nat→Tree
 |_=> .done
def ajz:Nat→List Nat
 |1=>[0,1,2,3]++rg 9 5
 |_=>[]
noncomputable def c44:Code:=f44.body.get (by kernel_rfl)
def afW:Nat→Tree
 |_=> .done
def akd:Nat→List Nat
 |0=>[4]
 |1=>[0,1,5,6,7,8]
 |_=>[]
noncomputable def c41:Code:=f41.body.get (by kernel_rfl)
def JI:Nat→Tree
 |3=>on [0,1,2,3,5] (.al 4 (.al 6 (.one 7 (.one 8 (.al 9 .done .nil))) .nil) (.al 6 (on [4,7,8] (.al 9 .done .nil)) .nil))
 |4=>on (rg 0 5) (.al 5 (.al 6 (.al 7 .done .nil) .nil) .nil)
 |_=> .done
def K5:Nat→List Nat
 |1=>[3]
 |2=>rg 4 10
 |3=>rg 14 8
 |4=>[1,2]++rg 22 7
 |_=>[]
noncomputable def c23:Code:=f23.body.get (by kernel_rfl)
def af6:Nat→Tree
 |_=> .done
def akn:Nat→List Nat
 |0=>[0,3,4]
 |1=>[14,15]
 |2=>[16]
 |3=>[5,18,19]
 |4=>[1,20,21]
 |6=>rg 22 5
 |8=>[31,32]
 |9=>[10]++rg 33 5
 |10=>[38]
 |13=>[41]
 |16=>[46,47]
 |17=>[13,48,49,50]
 |18=>[51]
 |19=>[52,53]
 |20=>[11,55]
 |21=>[56,57]
 |22=>[58]
 |23=>[6,7,59,60]
 |_=>[]
noncomputable def c49:Code:=f49.body.get (by kernel_rfl)
def afR:Nat→Tree
 |13=>on [0,2,5] (.al 1 (.one 3 (.al 4 (.one 6 .done) .nil)) (.al 3 (.al 1 (.al 4 (.one 6 .done) .nil) .nil) .nil))
 |_=> .done
def aj8:Nat→List Nat
 |0=>[0,2]
 |1=>rg 14 9
 |3=>[24]
 |5=>[29,30]
 |6=>[4,31,32]
 |7=>[33]
 |8=>[5,35]
 |9=>[36]
 |10=>[37]
 |12=>[42,43,44]
 |13=>[6,7]++rg 45 6
 |15=>[52]
 |16=>[53]
 |18=>[58,59]
 |19=>[60]
 |21=>[65,66]
 |22=>[67,68]
 |24=>[72]
 |25=>[12]++rg 73 5
 |26=>[78]
 |27=>[13,80]
 |28=>[81]
 |29=>[11,82,83,84,85]
 |31=>[93]
 |32=>[94]
 |_=>[]
noncomputable def aph:Code:=f107.body.get (by kernel_rfl)
def aak:Nat→Tree
 |_=> .done
def ac2:Nat→List Nat
 |0=>[0,2]
 |1=>[1,3]
 |_=>[]
noncomputable def aoM(r:Nat):FI:=⟨fun _=>aph,4,[.tmp 2],aak,[],r,ac2,none⟩
theorem GM(r:Nat):mT PP im 107 (aoM r):= .inr ⟨rfl,_,func107,by kernel_rfl,ntmps107,by kernel_rfl,by kernel_rfl,enters func107 (c:=aph) (by kernel_rfl) (by kernel_rfl)⟩
noncomputable def avw:Code:=f143.body.get (by kernel_rfl)
def ZM:Nat→Tree
 |_=> .done
def acu:Nat→List Nat
 |0=>[0,3]
 |1=>[1,2,4,5,6,7]
 |_=>[]
noncomputable def avv:Code:=f144.body.get (by kernel_rfl)
def ZL:Nat→Tree
 |_=> .done
def acs:Nat→List Nat
 |0=>[0,3]
 |1=>[1,2,4,5,6,7]
 |_=>[]
noncomputable def avX:Code:=f108.body.get (by kernel_rfl)
def aaj:Nat→Tree
 |3=>on (rg 0 18) .done
 |18=>on [0,3,5,6,7] (.al 1 (.one 2 (.al 4 (.al 8 (on (rg 9 7) (.al 16 (.al 17 (.one 18 .done) .nil) .nil)) .nil) (.al 8 (on ([4]++rg 9 7) (.al 16 (.al 17 (.one 18 .done) .nil) .nil)) .nil))) (.al 4 (.al 1 (.one 2 (.al 8 (on (rg 9 7) (.al 16 (.al 17 (.one 18 .done) .nil) .nil)) .nil)) (.al 8 (on ([1,2]++rg 9 7) (.al 16 (.al 17 (.one 18 .done) .nil) .nil)) .nil)) (.al 8 (on ([1,2,4]++rg 9 7) (.al 16 (.al 17 (.one 18 .done) .nil) .nil)) .nil)))
 |_=> .done
def ac1:Nat→List Nat
 |0=>[0,1,2,3,8]
 |1=>rg 15 5
 |2=>[20,21]
 |3=>rg 22 16
 |4=>[5]++rg 38 11
 |5=>rg 50 8
 |7=>rg 59 16
 |9=>[13]++rg 76 9
 |11=>[11]++rg 86 18
 |13=>rg 105 15
 |15=>[12,121,122]
 |17=>[6,7]++rg 123 5
 |18=>[4,9,10,14]++rg 128 18
 |_=>[]
noncomputable def avu:Code:=f145.body.get (by kernel_rfl)
def ZK:Nat→Tree
 |_=> .done
def acr:Nat→List Nat
 |0=>[1,4]
 |1=>[0,3,5,6,7,8]
 |_=>[]
noncomputable def akD:Code:=f148.body.get (by kernel_rfl)
def JK:Nat→Tree
 |_=> .done
def K7:Nat→List Nat
 |0=>[4]
 |1=>[0,1,5,6,7,8]
 |_=>[]
noncomputable def akC:Code:=f159.body.get (by kernel_rfl)
def JJ:Nat→Tree
 |_=> .done
def K6:Nat→List Nat
 |0=>[4]
 |1=>[6]
 |3=>[10]
 |4=>rg 11 5
 |5=>[5,17]
 |6=>[18]
 |_=>[]
noncomputable def avm:Code:=f157.body.get (by kernel_rfl)
def ZA:Nat→Tree
 |_=> .done
def acg:Nat→List Nat
 |0=>[3]
 |1=>[0,1,4,5,6,7]
 |_=>[]
noncomputable def avt:Code:=f146.body.get (by kernel_rfl)
def ZJ:Nat→Tree
 |_=> .done
def acq:Nat→List Nat
 |0=>[3]
 |1=>[0,1]++rg 4 7
 |_=>[]
noncomputable def avz:Code:=f140.body.get (by kernel_rfl)
def ZP:Nat→Tree
 |_=> .done
def acx:Nat→List Nat
 |0=>[2]
 |1=>[0]++rg 3 13
 |_=>[]
noncomputable def avn:Code:=f156.body.get (by kernel_rfl)
def ZB:Nat→Tree
 |4=>on [0,1,2,4,5] (.al 3 (.al 6 (.one 7 .done) .nil) .nil)
 |_=> .done
def ach:Nat→List Nat
 |0=>[4]
 |1=>rg 7 5
 |2=>[0,13]
 |3=>rg 14 7
 |4=>[0,1]++rg 22 7
 |5=>rg 29 5
 |6=>[6]
 |7=>[0,5,35,36,37]
 |8=>[0,1]++rg 38 5
 |_=>[]
noncomputable def ao8:Code:=f163.body.get (by kernel_rfl)
def Zv:Nat→Tree
 |_=> .done
def aca:Nat→List Nat
 |0=>[4]
 |1=>[5,6]
 |2=>[8,9,10,11]
 |3=>[13,14]
 |4=>[0,15]
 |_=>[]
noncomputable def aoD(r:Nat):FI:=⟨fun _=>ao8,16,[.tmp 4],Zv,[],r,aca,none⟩
theorem XV(r:Nat):mT PP im 163 (aoD r):= .inr ⟨rfl,_,func163,by kernel_rfl,ntmps163,by kernel_rfl,by kernel_rfl,enters func163 (c:=ao8) (by kernel_rfl) (by kernel_rfl)⟩
noncomputable def ao7:Code:=f164.body.get (by kernel_rfl)
def Zu:Nat→Tree
 |_=> .done
def ab9:Nat→List Nat
 |0=>[4]
 |1=>[5,6]
 |2=>rg 8 7
 |3=>rg 16 5
 |4=>[0,21]
 |_=>[]
noncomputable def aoC(r:Nat):FI:=⟨fun _=>ao7,22,[.tmp 4],Zu,[],r,ab9,none⟩
theorem XU(r:Nat):mT PP im 164 (aoC r):= .inr ⟨rfl,_,func164,by kernel_rfl,ntmps164,by kernel_rfl,by kernel_rfl,enters func164 (c:=ao7) (by kernel_rfl) (by kernel_rfl)⟩
noncomputable def ao6:Code:=f167.body.get (by kernel_rfl)
def Zt:Nat→Tree
 |_=> .done
def ab8:Nat→List Nat
 |0=>[4]
 |1=>[0,1]++rg 5 5
 |_=>[]
noncomputable def aoB(r:Nat):FI:=⟨fun _=>ao6,10,[.tmp 4],Zt,[],r,ab8,none⟩
theorem XT(r:Nat):mT PP im 167 (aoB r):= .inr ⟨rfl,_,func167,by kernel_rfl,ntmps167,by kernel_rfl,by kernel_rfl,enters func167 (c:=ao6) (by kernel_rfl) (by kernel_rfl)⟩
noncomputable def avi:Code:=f162.body.get (by kernel_rfl)
def Zw:Nat→Tree
 |_=> .done
def acb:Nat→List Nat
 |0=>[3]
 |2=>[6,7,8]
 |3=>[10,11]
 |4=>[12,13,14]
 |5=>[15]
 |6=>[17]
 |7=>[5,18,19]
 |8=>[20]
 |_=>[]
noncomputable def avk:Code:=f160.body.get (by kernel_rfl)
def Zy:Nat→Tree
 |_=> .done
def ace:Nat→List Nat
 |0=>[4]
 |1=>[5,6,7,8]
 |2=>[14,15]
 |3=>[0,16]
 |_=>[]
noncomputable def avj:Code:=f161.body.get (by kernel_rfl)
def Zx:Nat→Tree
 |_=> .done
def acd:Nat→List Nat
 |0=>[4]
 |1=>[5,6,7,8]
 |2=>rg 17 5
 |3=>[0,22]
 |_=>[]
noncomputable def avs:Code:=f147.body.get (by kernel_rfl)
def ZI:Nat→Tree
 |_=> .done
def acp:Nat→List Nat
 |0=>[2]
 |2=>[0]
 |4=>[11,12]
 |5=>[5,13,14,15,16,26]
 |6=>[6,27,28,29,30]
 |7=>[31]
 |8=>[3,32]
 |_=>[]
noncomputable def avl:Code:=f158.body.get (by kernel_rfl)
def Zz:Nat→Tree
 |_=> .done
def acf:Nat→List Nat
 |0=>[3]
 |1=>[0,1,4,5,6,7]
 |_=>[]
noncomputable def avr:Code:=f149.body.get (by kernel_rfl)
def ZH:Nat→Tree
 |_=> .done
def aco:Nat→List Nat
 |0=>[3]
 |1=>[0,1,4,5,6,7]
 |_=>[]
noncomputable def avY:Code:=f106.body.get (by kernel_rfl)
def aal:Nat→Tree
 |_=> .done
def ac3:Nat→List Nat
 |0=>[0,2]
 |2=>[5]
 |3=>rg 7 16
 |5=>rg 24 14
 |7=>rg 39 11
 |9=>[51,52,53,54]
 |11=>[3]++rg 56 10
 |13=>[1,4,67,68,69,70]
 |_=>[]
noncomputable def adj:Code:=f137.body.get (by kernel_rfl)
def EN:Nat→Tree
 |_=> .done
def EX:Nat→List Nat
 |0=>[1,4]
 |1=>[0,3,5,6,7,8]
 |_=>[]
noncomputable def adi:Code:=f155.body.get (by kernel_rfl)
def EM:Nat→Tree
 |_=> .done
def EW:Nat→List Nat
 |0=>[0,3]
 |1=>[1,2,4,5,6,7]
 |_=>[]
noncomputable def avB:Code:=f138.body.get (by kernel_rfl)
def ZR:Nat→Tree
 |_=> .done
def acz:Nat→List Nat
 |0=>[0,2]
 |1=>[1]++rg 3 10
 |_=>[]
noncomputable def avA:Code:=f139.body.get (by kernel_rfl)
def ZQ:Nat→Tree
 |_=> .done
def acy:Nat→List Nat
 |0=>[0,2]
 |1=>[1]++rg 3 8
 |_=>[]
noncomputable def avy:Code:=f141.body.get (by kernel_rfl)
def ZO:Nat→Tree
 |_=> .done
def acw:Nat→List Nat
 |0=>[0,3]
 |1=>[1,2]++rg 4 8
 |_=>[]
noncomputable def avF:Code:=f133.body.get (by kernel_rfl)
def ZV:Nat→Tree
 |_=> .done
def acD:Nat→List Nat
 |0=>[0,2]
 |1=>[1,3,4,5]
 |_=>[]
noncomputable def avx:Code:=f142.body.get (by kernel_rfl)
def ZN:Nat→Tree
 |_=> .done
def acv:Nat→List Nat
 |0=>[0,4]
 |1=>[1,2,3]++rg 5 14
 |_=>[]
noncomputable def avE:Code:=f134.body.get (by kernel_rfl)
def ZU:Nat→Tree
 |_=> .done
def acC:Nat→List Nat
 |0=>[0,3]
 |1=>[6,7,8,9]
 |2=>[1,2,4]++rg 10 7
 |3=>[5,17,18]
 |_=>[]
noncomputable def avD:Code:=f135.body.get (by kernel_rfl)
def ZT:Nat→Tree
 |_=> .done
def acB:Nat→List Nat
 |0=>[0,3]
 |1=>[1,2]++rg 4 12
 |_=>[]
noncomputable def avC:Code:=f136.body.get (by kernel_rfl)
def ZS:Nat→Tree
 |_=> .done
def acA:Nat→List Nat
 |0=>[0,3]
 |1=>[1,2]++rg 4 12
 |_=>[]
noncomputable def c77:Code:=f77.body.get (by kernel_rfl)
def aft:Nat→Tree
 |_=> .done
def ajK:Nat→List Nat
 |0=>[0]
 |1=>[1,3,4]
 |_=>[]
noncomputable def c50:Code:=f50.body.get (by kernel_rfl)
def UU:Nat→Tree
 |11=>on (rg 0 5++[6,7,8]) (.al 5 (.al 9 (on [10,11,12] (.al 13 .done .nil)) .nil) (.al 9 (on [5,10,11,12] (.al 13 .done .nil)) .nil))
 |15=>on [0,1,2,3,5,6,7,8] (.al 4 (.al 9 (.al 10 (.al 11 (.one 12 (.one 13 (.al 14 .done .nil))) .nil) .nil) .nil) (.al 9 (.one 4 (.al 10 (.al 11 (.one 12 (.one 13 (.al 14 .done .nil))) .nil) .nil)) .nil))
 |17=>on (rg 0 12) (.al 12 .done .nil)
 |19=>on (rg 0 9) (.al 9 (.al 10 (.one 11 (.one 12 (.al 13 .done .nil))) .nil) .nil)
 |_=> .done
def Yi:Nat→List Nat
 |0=>[0,1,2]
 |2=>[16]
 |4=>[21,22]
 |5=>[9]++rg 23 10
 |6=>[33]
 |7=>[3,34]
 |10=>[38,39,40]
 |11=>rg 41 12
 |12=>[53]
 |14=>[58,59,60]
 |15=>[13,14]++rg 61 14
 |16=>[75]
 |17=>[11]++rg 76 12
 |18=>[10]++rg 88 5
 |19=>[12,15]++rg 93 13
 |20=>[7,106]
 |_=>[]
noncomputable def au2(r:Nat):FI:=⟨fun _=>c50,107,[.cell 6 24],UU,[1031,2097],r,Yi,none⟩
theorem yO(r:Nat):mT PP im 50 (au2 r):= .inr ⟨rfl,_,func50,by kernel_rfl,ntmps50,by kernel_rfl,by kernel_rfl,enters func50 (c:=c50) (by kernel_rfl) (by kernel_rfl)⟩
noncomputable def c54:Code:=f54.body.get (by kernel_rfl)
def afN:Nat→Tree
 |5=>on (rg 0 13) (.al 13 (.al 14 (.al 15 (on [16,17,18] (.al 19 .done .nil)) .nil) .nil) .nil)
 |_=> .done
def aj4:Nat→List Nat
 |0=>[1,6]
 |1=>[8,9,10]
 |2=>[11,12,13]
 |3=>[2,14,15]
 |5=>[4,7]++rg 17 19
 |6=>[0]++rg 36 7
 |_=>[]
noncomputable def auZ(r:Nat):FI:=⟨fun _=>c54,43,[.tmp 6],afN,[],r,aj4,none⟩
theorem wq(r:Nat):mT PP im 54 (auZ r):= .inr ⟨rfl,_,func54,by kernel_rfl,ntmps54,by kernel_rfl,by kernel_rfl,enters func54 (c:=c54) (by kernel_rfl) (by kernel_rfl)⟩
end Ab
