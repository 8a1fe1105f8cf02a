/- PassesPuts holds of every core (no condition): a part of the proof: an abstract interpreter of the code that is proved sound, models of the functions, and laws of these models. -/
import Derived.WalkKit
import Derived.RangeFuncSeq
import Derived.RangeFuncLeaves
set_option linter.unusedVariables false
set_option linter.unusedSimpArgs false
namespace Ab
open Go
def du(a b:Nat):Bool:=decide (a=b)
def mL(a b:Nat):Bool:=decide (a≤b)
def rm(a b:Nat):Bool:=decide (a<b)
 @[simp] theorem eqN_eq (a b:Nat):(du a b=true)=(a=b):=by simp[du]
 @[simp] theorem xP (a b:Nat):(mL a b=true)=(a≤b):=by simp[mL]
 @[simp] theorem ltN_eq (a b:Nat):(rm a b=true)=(a<b):=by simp[rm]
 @[simp] theorem Ud (a:Nat):du a a=true:=by simp
theorem dy{a b:Nat}(h:du a b=true):a=b:=by simpa using h
theorem JS{a b:Nat}(h:mL a b=true):a≤b:=by simpa using h
inductive Key where
 |s (d:Nat)
 |o (id:Nat)
 deriving DecidableEq
inductive Tok where
 |l (d:Nat)
 |c (id off:Nat)
 |n (d:Nat)
 deriving DecidableEq
inductive AV where
 |any
 |v (x:Value)
 |sl (r:Nat) (xs:List (List AV))
 |gs (r:Nat) (t:Tok) (xs:List (List AV))
 |aP (r:Nat) (cs:List AV) (off:Nat)
 |ptr (k:Key) (off:Nat)
 |iq (k:Key) (n:Nat)
 |cQ (k:Key) (i off z:Nat)
 |mp (k:Key)
 |po (k:Key)
 |ar (n z:Nat) (xs:List (List AV))
 |fn (f:Fn) (cap:List AV)
 |bm (f:Fn) (cs:List AV)
 |mN (r z:Nat) (xs:List (List AV))
 |agg (cs:List AV)
 |gd (vs:List AV)
 deriving Inhabited
inductive Own where
 |SX
 |jF
 |key (k:Key)
 |tok (t:Tok)
structure Env where
 h:Array Obj
 aM:Nat→Nat→Prop
 dH:Nat→Nat
 m:Key→Nat
 live:Key→Prop
 len:Key→Nat×Nat
 own:Nat→Own
 up:List Act:=[]
def aO(h:Array Obj)(b o:Nat):Option Value:=
 match h[b]? with
 |some (.cells c _ _)=>c[o]?
 |_=>none
theorem jr(w:World)(b o:Nat):w.cell? ⟨b,o,none⟩=aO w.heap b o:=by
 unfold World.cell? aO
 cases w.heap[b]? with
 |none=>rfl
 |some x=>cases x<;>rfl
def Key.loc:Key→Bool
 | .s _=>true
 | .o _=>false
def Tok.loc:Tok→Bool
 | .l _=>true
 | .c _ _=>true
 | .n _=>true
def Own.loc:Own→Bool
 | .key k=>k.loc
 | .tok t=>t.loc
 |_=>false
def Own.dz:Own→Bool
 | .key k=> !k.loc
 | .tok t=> !t.loc
 |_=>false
 mutual
def cq:AV→Bool
  | .gs .. =>false
  | .ptr k _=> !k.loc
  | .iq k _=> !k.loc
  | .mp k=> !k.loc
  | .cQ k _ _ _=> !k.loc
  | .po k=> !k.loc
  | .fn _ cs=>ca cs
  | .agg cs=>ca cs
  | .gd cs=>ca cs
  |_=>true
def ca:List AV→Bool
  |[]=>true
  |a::r=>cq a&&ca r
end
theorem bg{cs:List AV}(h:ca cs=true): ∀(q:Nat) (a:AV),cs[q]? =some a→cq a=true:=by
 induction cs with
 |nil=>intro q a hq;simp at hq
 |cons x r ih=>
  simp only[ca,Bool.and_eq_true]at h
  intro q a hq
  cases q with
  |zero=>simp at hq;subst hq;exact h.1
  |succ q=>exact ih h.2 q a (by simpa using hq)
theorem wo{cs:List AV}(h: ∀(q:Nat) (a:AV),cs[q]? =some a→cq a=true):ca cs=true:=by
 induction cs with
 |nil=>rfl
 |cons x r ih=>simp only[ca,Bool.and_eq_true];exact⟨h 0 x (by simp),ih fun q a hq=>h (q+1) a (by simpa using hq)⟩
inductive Cz(E:Env):AV→Value→Prop where
 |any (x:Value):Cz E .any x
 |v (x:Value):Cz E (.v x) x
 |mZ (r:Nat) (A:Option Addr) (c:Nat):Cz E (.sl r []) (.slice A 0 c)
 |sl (r:Nat) (xs:List (List AV)) (z b o c:Nat) (u:Nat→Value) (hp:0<xs.length) (hc:xs.length≤c) (hm:c≤maxLen) (dQ:0<z) (hz: ∀l∈xs,l.length=z) (hr:E.dH b=r)
   (hi: ∀(q:Nat) (a:AV),xs.flatten[q]? =some a→cq a=true) (hs: ∀(q:Nat) (a:AV),xs.flatten[q]? =some a→E.aM b (o+q)) (hu: ∀(q:Nat) (a:AV),xs.flatten[q]? =some a→aO E.h b (o+q)=some (u q))
   (hq: ∀(q:Nat) (a:AV),xs.flatten[q]? =some a→Cz E a (u q)):Cz E (.sl r xs) (.slice (some ⟨b,o,none⟩) xs.length c)
 |sq (r:Nat) (t:Tok):Cz E (.gs r t []) (.slice none 0 0)
 |gs (r:Nat) (t:Tok) (xs:List (List AV)) (z b c e:Nat) (cells:Array Value) (u:Nat→Value) (hc:xs.length≤c) (hm:c≤maxLen) (h0:xs.length=0→c=0) (dQ:0<z) (hz: ∀l∈xs,l.length=z) (hr:E.dH b=r)
   (hb:E.h[b]? =some (.cells cells e (0,0))) (dC:cells.size=c*z) (ho:E.own b= .tok t) (fP: ∀o,E.aM b o↔o<xs.length*z)
   (hi: ∀(q:Nat) (a:AV),xs.flatten[q]? =some a→cq a=true) (hu: ∀(q:Nat) (a:AV),xs.flatten[q]? =some a→aO E.h b (0+q)=some (u q))
   (hq: ∀(q:Nat) (a:AV),xs.flatten[q]? =some a→Cz E a (u q)):Cz E (.gs r t xs) (.slice (some ⟨b,0,none⟩) xs.length c)
 |aP (r:Nat) (cs:List AV) (off b o:Nat) (u:Nat→Value) (hr: ∀(q:Nat) (a:AV),cs[q]? =some a→E.dH b=r)
   (hi: ∀(q:Nat) (a:AV),cs[q]? =some a→cq a=true) (hs: ∀(q:Nat) (a:AV),cs[q]? =some a→E.aM b (o+q)) (hu: ∀(q:Nat) (a:AV),cs[q]? =some a→aO E.h b (o+q)=some (u q))
   (hq: ∀(q:Nat) (a:AV),cs[q]? =some a→Cz E a (u q)):Cz E (.aP r cs off) (.pointer (some ⟨b,o+off,none⟩))
 |ptr (k:Key) (off:Nat) (hl:E.live k):Cz E (.ptr k off) (.pointer (some ⟨E.m k,off,none⟩))
 |iq (k:Key) (n:Nat) (hl:E.live k) (hn:n≤(E.len k).1) (hc:(E.len k).1≤(E.len k).2) (hm:(E.len k).2≤maxLen):Cz E (.iq k n) (.slice (some ⟨E.m k,0,none⟩) n (E.len k).2)
 |cQ (k:Key) (i off z:Nat) (hl:E.live k):Cz E (.cQ k i off z) (.pointer (some ⟨E.m k,i*z+off,none⟩))
 |mp (k:Key) (hl:E.live k):Cz E (.mp k) (.map (some (E.m k)))
 |po (k:Key) (hl:E.live k):Cz E (.po k) (.func (.yield (E.m k)) #[] #[])
 |ar (n z:Nat) (xs:List (List AV)) (ys:List Value) (hn:xs.length=n) (hz: ∀l∈xs,l.length=z) (hl:ys.length=n*z) (hi: ∀(q:Nat) (a:AV),xs.flatten[q]? =some a→cq a=true)
   (hq: ∀(q:Nat) (a:AV) (y:Value),xs.flatten[q]? =some a→ys[q]? =some y→Cz E a y):Cz E (.ar n z xs) (.agg ys.toArray)
 |fn (f:Fn) (cap:List AV) (ys:List Value) (hl:ys.length=cap.length) (hq: ∀(q:Nat) (a:AV) (y:Value),cap[q]? =some a→ys[q]? =some y→Cz E a y):Cz E (.fn f cap) (.func f #[] ys.toArray)
 |bm (f:Fn) (cs:List AV) (ys:List Value) (hl:ys.length=cs.length) (hi: ∀(q:Nat) (a:AV),cs[q]? =some a→cq a=true) (hq: ∀(q:Nat) (a:AV) (y:Value),cs[q]? =some a→ys[q]? =some y→Cz E a y):Cz E (.bm f cs) (.func f ys.toArray #[])
 |mN (r z:Nat) (xs:List (List AV)) (x:Value) (hz: ∀l∈xs,l.length=z) (h:Cz E (.aP r xs.flatten 0) x):Cz E (.mN r z xs) x
 |agg (cs:List AV) (ys:List Value) (hl:ys.length=cs.length) (hq: ∀(q:Nat) (a:AV) (y:Value),cs[q]? =some a→ys[q]? =some y→Cz E a y):Cz E (.agg cs) (.agg ys.toArray)
 |gd (cs:List AV) (ys:List Value) (hl:ys.length=cs.length) (hq: ∀(q:Nat) (a:AV) (y:Value),cs[q]? =some a→ys[q]? =some y→Cz E a y):Cz E (.gd cs) (.tuple ys.toArray)
structure Ext(C:Own→Prop)(E E':Env):Prop where
 size:E.h.size≤E'.h.size
 aM: ∀b o,E.aM b o→E'.aM b o∧aO E'.h b o=aO E.h b o∧E'.dH b=E.dH b
 live: ∀k,E.live k→E'.live k∧E'.m k=E.m k∧E'.len k=E.len k
 bj: ∀b,b<E.h.size→ ¬C (E.own b)→E'.own b=E.own b∧E'.h[b]? =E.h[b]? ∧(∀o,E'.aM b o↔E.aM b o)∧E'.dH b=E.dH b
theorem Ext.refl(C:Own→Prop)(E:Env):Ext C E E:=
 ⟨Nat.le_refl _,fun _ _ h=>⟨h,rfl,rfl⟩,fun _ h=>⟨h,rfl,rfl⟩,fun _ _ _=>⟨rfl,rfl,fun _=>Iff.rfl,rfl⟩⟩
theorem Ext.mono{C C':Own→Prop}{E E':Env}(h:Ext C E E')(hC: ∀o,C o→C' o):Ext C' E E':=
 ⟨h.size,h.aM,h.live,fun b hb hn=>h.bj b hb fun hc=>hn (hC _ hc)⟩
 mutual
def qg(T:Tok→Bool):AV→AV
  | .gs r t xs=>if T t then .sl r xs else .gs r t xs
  | .fn f cs=> .fn f (kQ T cs)
  | .agg cs=> .agg (kQ T cs)
  | .gd cs=> .gd (kQ T cs)
  |a=>a
def kQ(T:Tok→Bool):List AV→List AV
  |[]=>[]
  |a::r=>qg T a::kQ T r
end
theorem pC(T:Tok→Bool)(cs:List AV)(q:Nat):(kQ T cs)[q]? =(cs[q]?).map (qg T):=by
 induction cs generalizing q with
 |nil=>simp[kQ]
 |cons a r ih=>cases q<;>simp[kQ,ih]
theorem dv(T:Tok→Bool)(cs:List AV):(kQ T cs).length=cs.length:=by
 induction cs with
 |nil=>rfl
 |cons a r ih=>simp[kQ,ih]
theorem aE{α:Type}{z:Nat}: ∀{xs:List (List α)},(∀l∈xs,l.length=z)→xs.flatten.length=xs.length*z
 |[],_=>by simp
 |l::r,h=>by
  have:=aE (xs:=r) (fun l' qJ=>h l' (by simp[qJ]))
  simp only[List.flatten_cons,List.length_append,List.length_cons,h l (by simp),this,Nat.succ_mul]
  omega
structure Wf(E:Env):Prop where
 aM: ∀b o,E.aM b o→b<E.h.size
 own: ∀b,E.own b≠ .SX→b<E.h.size
 fz: ∀b o,E.aM b o→1000000≤E.dH b→ ∃c e,E.h[b]? =some (.cells c e (0,0))
theorem pP{α:Type}{l:List α}(h:0<l.length): ∃a,l[0]? =some a:=⟨l[0],by simp⟩
theorem Cz.ext{C:Own→Prop}{E E':Env}(hE:Ext C E E')(hw:Wf E)(T:Tok→Bool)(hT: ∀t,C (.tok t)→T t=true){a:AV}{x:Value}(h:Cz E a x):
  Cz E' (qg T a) x∧(cq a=true→Cz E' a x):=by
 induction h with
 |any x=>exact⟨.any _,fun _=> .any _⟩
 |v x=>exact⟨.v _,fun _=> .v _⟩
 |mZ r A c=>exact⟨.mZ _ _ _,fun _=> .mZ _ _ _⟩
 |sl r xs z b o c u hp hc hm dQ hz hr hi hs hu hq ih=>
  have hf:=aE hz
  obtain⟨a0,TS⟩:=pP (l:=xs.flatten) (by rw[hf];exact Nat.mul_pos hp dQ)
  have:Cz E' (.sl r xs) (.slice (some ⟨b,o,none⟩) xs.length c):=
   .sl r xs z b o c u hp hc hm dQ hz ((hE.aM _ _ (hs 0 a0 TS)).2.2.trans hr) hi (fun q a cZ=>(hE.aM _ _ (hs q a cZ)).1) (fun q a cZ=>(hE.aM _ _ (hs q a cZ)).2.1.trans (hu q a cZ))
    (fun q a cZ=>(ih q a cZ).2 (hi q a cZ))
  exact⟨this,fun _=>this⟩
 |sq r t=>exact⟨by simp only[qg];split;exact .mZ _ _ _;exact .sq _ _,fun hi=>by simp[cq]at hi⟩
 |gs r t xs z b c e cells u hc hm h0 dQ hz hr hb dC ho fP hi hu hq ih=>
  refine⟨?_,fun hi=>by simp[cq]at hi⟩
  simp only[qg]
  have hf:=aE hz
  have hs: ∀(q:Nat) (a:AV),xs.flatten[q]? =some a→E.aM b (0+q):=fun q a cZ=>(fP _).2 (by have:=(List.getElem?_eq_some_iff.1 cZ).1;omega)
  by_cases ht:T t=true
  ·rw[if_pos ht]
   by_cases hp:0<xs.length
   ·obtain⟨a0,TS⟩:=pP (l:=xs.flatten) (by rw[hf];exact Nat.mul_pos hp dQ)
    exact .sl r xs z b 0 c u hp hc hm dQ hz ((hE.aM _ _ (hs 0 a0 TS)).2.2.trans hr) hi (fun q a cZ=>(hE.aM _ _ (hs q a cZ)).1) (fun q a cZ=>(hE.aM _ _ (hs q a cZ)).2.1.trans (hu q a cZ))
     (fun q a cZ=>(ih q a cZ).2 (hi q a cZ))
   ·have h0:xs=[]:=List.eq_nil_of_length_eq_zero (by omega)
    subst h0
    exact .mZ _ _ _
  ·rw[if_neg ht]
   obtain⟨k1,k2,k3,k4⟩:=hE.bj b (hw.own b (by rw[ho];simp)) (by rw[ho];exact fun hc=>ht (hT _ hc))
   exact .gs r t xs z b c e cells u hc hm h0 dQ hz (k4.trans hr) (k2.trans hb) dC (k1.trans ho) (fun o=>(k3 o).trans (fP o)) hi (fun q a cZ=>(hE.aM _ _ (hs q a cZ)).2.1.trans (hu q a cZ))
    (fun q a cZ=>(ih q a cZ).2 (hi q a cZ))
 |aP r cs off b o u hr hi hs hu hq ih=>
  have:Cz E' (.aP r cs off) (.pointer (some ⟨b,o+off,none⟩)):=
   .aP r cs off b o u (fun q a cZ=>(hE.aM _ _ (hs q a cZ)).2.2.trans (hr q a cZ)) hi (fun q a cZ=>(hE.aM _ _ (hs q a cZ)).1) (fun q a cZ=>(hE.aM _ _ (hs q a cZ)).2.1.trans (hu q a cZ))
    (fun q a cZ=>(ih q a cZ).2 (hi q a cZ))
  exact⟨this,fun _=>this⟩
 |ptr k off hl=>
  have:Cz E' (.ptr k off) (.pointer (some ⟨E.m k,off,none⟩)):=by rw[←(hE.live k hl).2.1];exact .ptr k off (hE.live k hl).1
  exact⟨this,fun _=>this⟩
 |iq k n hl hn hc hm=>
  have:Cz E' (.iq k n) (.slice (some ⟨E.m k,0,none⟩) n (E.len k).2):=by rw[←(hE.live k hl).2.1,←(hE.live k hl).2.2];exact .iq k n (hE.live k hl).1 (by rw[(hE.live k hl).2.2];exact hn) (by rw[(hE.live k hl).2.2];exact hc) (by rw[(hE.live k hl).2.2];exact hm)
  exact⟨this,fun _=>this⟩
 |cQ k i off z hl=>
  have:Cz E' (.cQ k i off z) (.pointer (some ⟨E.m k,i*z+off,none⟩)):=by rw[←(hE.live k hl).2.1];exact .cQ k i off z (hE.live k hl).1
  exact⟨this,fun _=>this⟩
 |mp k hl=>
  have:Cz E' (.mp k) (.map (some (E.m k))):=by rw[←(hE.live k hl).2.1];exact .mp k (hE.live k hl).1
  exact⟨this,fun _=>this⟩
 |po k hl=>
  have:Cz E' (.po k) (.func (.yield (E.m k)) #[] #[]):=by rw[←(hE.live k hl).2.1];exact .po k (hE.live k hl).1
  exact⟨this,fun _=>this⟩
 |ar n z xs ys hn hz hl hi hq ih=>
  have:Cz E' (.ar n z xs) (.agg ys.toArray):= .ar n z xs ys hn hz hl hi fun q a y ha hy=>(ih q a y ha hy).2 (hi q a ha)
  exact⟨this,fun _=>this⟩
 |bm f cs ys hl hi hq ih=>
  have:=Cz.bm (E:=E') f cs ys hl hi (fun q a y ha hy=>(ih q a y ha hy).2 (hi q a ha))
  exact⟨this,fun _=>this⟩
 |mN r z xs x hz h ih=>exact⟨.mN r z xs x hz (ih.2 rfl),fun _=> .mN r z xs x hz (ih.2 rfl)⟩
 |fn f cap ys hl hq ih=>
  refine⟨?_,fun hi=> .fn f cap ys hl fun q a y ha hy=>(ih q a y ha hy).2 (bg (by simpa[cq]using hi) q a ha)⟩
  simp only[qg]
  exact .fn f _ ys (by rw[dv];exact hl) fun q a y ha hy=>by
   rw[pC]at ha
   cases h:cap[q]? with
   |none=>simp[h]at ha
   |some a'=>simp[h]at ha;subst ha;exact(ih q a' y h hy).1
 |agg cs ys hl hq ih=>
  refine⟨?_,fun hi=> .agg cs ys hl fun q a y ha hy=>(ih q a y ha hy).2 (bg (by simpa[cq]using hi) q a ha)⟩
  simp only[qg]
  exact .agg _ ys (by rw[dv];exact hl) fun q a y ha hy=>by
   rw[pC]at ha
   cases h:cs[q]? with
   |none=>simp[h]at ha
   |some a'=>simp[h]at ha;subst ha;exact(ih q a' y h hy).1
 |gd cs ys hl hq ih=>
  refine⟨?_,fun hi=> .gd cs ys hl fun q a y ha hy=>(ih q a y ha hy).2 (bg (by simpa[cq]using hi) q a ha)⟩
  simp only[qg]
  exact .gd _ ys (by rw[dv];exact hl) fun q a y ha hy=>by
   rw[pC]at ha
   cases h:cs[q]? with
   |none=>simp[h]at ha
   |some a'=>simp[h]at ha;subst ha;exact(ih q a' y h hy).1
theorem Cz.read{E:Env}{r:Nat}{t:Tok}{xs:List (List AV)}{x:Value}(h:Cz E (.gs r t xs) x):Cz E (.sl r xs) x:=by
 cases h with
 |sq=>exact .mZ _ _ _
 |gs _ _ _ z b c e cells u hc hm h0 dQ hz hr hb dC ho fP hi hu hq=>
  by_cases hp:0<xs.length
  ·have hf:=aE hz
   exact .sl r xs z b 0 c u hp hc hm dQ hz hr hi (fun q a cZ=>(fP _).2 (by have:=(List.getElem?_eq_some_iff.1 cZ).1;omega)) hu hq
  ·have h0:xs=[]:=List.eq_nil_of_length_eq_zero (by omega)
   subst h0
   exact .mZ _ _ _
end Ab
namespace Ab
open Go
def look{α:Type}(d:Nat):List (Nat×α)→Option α
 |[]=>none
 |(k,x)::r=>bif du k d then some x else look d r
def cX{α:Type}(d:Nat)(x:α):List (Nat×α)→List (Nat×α)
 |[]=>[(d,x)]
 |(k,y)::r=>bif du k d then(d,x)::r else bif rm d k then(d,x)::(k,y)::r else(k,y)::cX d x r
def del{α:Type}(d:Nat):List (Nat×α)→List (Nat×α)
 |[]=>[]
 |(k,y)::r=>bif du k d then del d r else(k,y)::del d r
inductive TK where
 |sc|str|int (k:IntKind)|bool
 |slice (e:Nat)
 |da (fs:List (Nat×Nat))
 |arr (n e:Nat)
 |map (k e:Nat)
structure TI where
 k:TK
 size:Nat
 bytes:Nat
 zero:List Value
 ft:List Nat
abbrev nv:=Nat→Option TI
def TI.agg(i:TI):Bool:=match i.k with| .da _=>true| .arr _ _=>true|_=>false
structure Pr where
 wrap:IntKind→Int→Int
 add:Int→Int→Int
 sub:Int→Int→Int
 mul:Int→Int→Int
 aN:Int→Int→Bool
 aU:Int→Int→Bool
 rG:Int→Int→Bool
 seq:ByteArray→ByteArray→Bool
 cat:ByteArray→ByteArray→ByteArray
 beq:Bool→Bool→Bool
 not:Bool→Bool
 pick:Bool→Bool→Bool→Bool
 PB:Int→Int→Int
 imax:Int→Int→Int
 fp:List (List AV)→Nat
 MW:ByteArray→Nat
 app:List (List AV)→List (List AV)→List (List AV)
 Ei:List (List AV)→Int→Int→List (List AV)
 Ik:ByteArray→Int→Int→ByteArray
 flat:List (List AV)→List AV
 chunk:Nat→Nat→List AV→List (List AV)
 rep:Nat→List AV→List (List AV)
 set:List (List AV)→Nat→List AV→List (List AV)
 room:Nat→Nat→Nat→Prop
 within:Int→Int→Prop
 nat:Int→Nat
 DK:Int→Nat→Prop
 mS:Int→Int→Int→Prop
 nr:Nat→List (List AV)→Prop
 mutual
def ri(r:Nat):AV→Prop
  | .sl q xs=>q≠r∧mI r xs
  | .gs q _ xs=>q≠r∧mI r xs
  | .aP q cs _=>q≠r∧An r cs
  | .mN q _ xs=>q≠r∧mI r xs
  | .ar _ _ xs=>mI r xs
  | .fn _ cs=>An r cs
  | .bm _ cs=>An r cs
  | .agg cs=>An r cs
  | .gd cs=>An r cs
  |_=>True
def An(r:Nat):List AV→Prop
  |[]=>True
  |a::l=>ri r a∧An r l
def mI(r:Nat):List (List AV)→Prop
  |[]=>True
  |a::l=>An r a∧mI r l
end
def chunks(z:Nat):Nat→List AV→List (List AV)
 |0,_=>[]
 |n+1,l=>l.take z::chunks z n (l.drop z)
def an:Pr where
 wrap:=IntKind.wrap
 add:=(· + ·)
 sub:=(· - ·)
 mul:=(· * ·)
 aN:=fun a b=>decide (a=b)
 aU:=fun a b=>decide (a<b)
 rG:=fun a b=>decide (a≤b)
 seq:=fun a b=>decide (a=b)
 cat:=(· ++ ·)
 beq:=fun a b=>a==b
 not:=fun a=> !a
 pick:=fun c a b=>bif c then a else b
 PB:=fun a b=>if a≤b then a else b
 imax:=fun a b=>if a≤b then b else a
 fp:=List.length
 MW:=ByteArray.size
 app:=(· ++ ·)
 Ei:=fun xs l h=>(xs.take h.toNat).drop l.toNat
 Ik:=fun b l h=>b.extract l.toNat h.toNat
 flat:=List.flatten
 chunk:=chunks
 rep:=List.replicate
 set:=List.set
 room:=fun n m b=>(n+m)*b≤70368744177664∧n+m≤70368744177664
 within:=fun n m=>0≤n∧n<m
 nat:=Int.toNat
 DK:=fun n b=>0≤n∧n≤9223372036854775807∧n*b≤140737488355328
 mS:=fun l h n=>0≤l∧l≤h∧h≤n
 nr:=mI
inductive Ex where
 |normal
 |exit (id:Nat)
 |ret
inductive LS where
 |WK
 |busy
 |dn (e:Ex)
 |exh
inductive VK where
 |int (k:IntKind)
 |str
 |bool
inductive OwK where
 |sl (z:Nat)
 |mp (ks:List VK) (st:Option (Nat×Int))
def OwK.z:OwK→Nat
 | .sl z=>z
 | .mp ks _=>ks.length+1
inductive Ob where
 |box (cs:List AV)
 |arr (z:Nat) (xs:List (List AV))
 |ow (p:OwK) (sa:Option (Nat×Nat)) (xs:List (List AV))
 |lp (n:Nat×Nat) (t:List (Nat×AV)) (ps:List Nat) (nq body:Unit→Code) (st:LS)
structure Fr where
 n:Nat
 t:List (Nat×AV)
abbrev Path:=List (Nat×Bool)
structure St where
 n:Nat
 t:List (Nat×AV)
 b:List (Nat×Ob)
 c:List (Nat×Path)
 g:Nat→Option Ob
 nx:Nat
 up:List Fr:=[]
 fl:Bool:=false
def sR:Path→Path→Bool
 |[],_=>true
 |(d,w)::r,(e,v)::q=>du d e&&(w==v)&&sR r q
 |_::_,[]=>false
def isB(w:Bool):Option AV→Prop
 |some (.v (.bool g))=>g=w
 |_=>False
def aZ(s:St):Path→Prop
 |[]=>True
 |(d,w)::r=>isB w (look d s.t)∧aZ s r
def under(s:St)(p:Path)(X:Prop):Prop:=
 match p with
 |[]=>X
 |_=>aZ s p→X
def Dg(s:St)(p:Path)(d:Nat):AV:=
 match look d s.t with
 |none=> .any
 |some a=>match look d s.c with
  |none=>a
  |some q=>bif sR q p then a else .any
def bM(s:St)(p:Path):Operand→AV
 | .tmp d=>Dg s p d
 | .const x=> .v x
 | .func f=> .fn (.func f) []
 | .global _=> .any
def St.put(s:St)(p:Path)(dst:Option Nat)(a:AV):St:=
 match dst with
 |none=>s
 |some d=>{s with t:=cX d a s.t,c:=match p with|[]=>del d s.c|_=>cX d p s.c}
def HW(d:Nat):Path→Bool
 |[]=>false
 |(e,_)::r=>du e d||HW d r
def PA(d:Nat):List (Nat×Path)→Bool
 |[]=>false
 |(_,q)::r=>HW d q||PA d r
def vL(s:St):Option Nat→Bool
 |none=>true
 |some d=>rm d s.n&& !PA d s.c
def isBool:Option AV→Bool
 |some (.v (.bool _))=>true
 |_=>false
def cellsOf:AV→List AV
 | .agg cs=>cs
 | .v (.agg cs)=>cs.toList.map .v
 |x=>[x]
def cut(l:List AV)(o n:Nat):List AV:=(l.drop o).take n
def bE(l:List AV)(o:Nat)(cs:List AV):List AV:=l.take o++cs++l.drop (o+cs.length)
def part(i:TI)(cs:List AV)(o:Nat):Option AV:=
 bif mL (o+i.size) cs.length then
  (bif i.agg then some (.agg (cut cs o i.size))else match cs[o]? with|some a=>some a|none=>none)
 else none
def rd(a:AV):AV:=qg (fun _=>true) a
def fC:Value:= .slice none 0 0
def fV(T:Tok→Bool):List (Nat×AV)→List (Nat×AV)
 |[]=>[]
 |(d,a)::r=>(d,qg T a)::fV T r
def wU(T:Tok→Bool):Ob→Ob
 | .box cs=> .box (kQ T cs)
 | .arr z xs=> .arr z xs
 | .ow p l xs=> .ow p l xs
 | .lp n t ps nq body st=> .lp n (fV T t) ps nq body st
def lO(T:Tok→Bool):List Fr→List Fr
 |[]=>[]
 |f::r=>{n:=f.n,t:=fV T f.t}::lO T r
def eY(T:Tok→Bool):List (Nat×Ob)→List (Nat×Ob)
 |[]=>[]
 |(d,a)::r=>(d,wU T a)::eY T r
def Ph:Tok→Bool
 | .n _=>false
 |_=>true
def bf:Tok→Tok→Bool
 | .l d,.l e=>du d e
 | .c i o,.c j q=>du i j&&du o q
 | .n d,.n e=>du d e
 |_,_=>false
def bin(I:Pr):BinOp→Value→Value→Option Value
 | .add,.int k a,.int k' b=>bif k==k' then some (.int k (I.wrap k (I.add a b)))else none
 | .sub,.int k a,.int k' b=>bif k==k' then some (.int k (I.wrap k (I.sub a b)))else none
 | .mul,.int k a,.int k' b=>bif k==k' then some (.int k (I.wrap k (I.mul a b)))else none
 | .eql,.int k a,.int k' b=>bif k==k' then some (.bool (I.aN a b))else none
 | .neq,.int k a,.int k' b=>bif k==k' then some (.bool (I.not (I.aN a b)))else none
 | .lss,.int k a,.int k' b=>bif k==k' then some (.bool (I.aU a b))else none
 | .gtr,.int k a,.int k' b=>bif k==k' then some (.bool (I.aU b a))else none
 | .leq,.int k a,.int k' b=>bif k==k' then some (.bool (I.rG a b))else none
 | .geq,.int k a,.int k' b=>bif k==k' then some (.bool (I.rG b a))else none
 | .eql,.string a,.string b=>some (.bool (I.seq a b))
 | .neq,.string a,.string b=>some (.bool (I.not (I.seq a b)))
 |_,_,_=>none
def zJ:AV→Option Nat
 | .any=>none
 | .ar .. =>none
 | .v x=>some x.cells.size
 | .agg cs=>some cs.length
 | .gd _=>none
 |_=>some 1
def qV:Value→Bool
 | .agg _=>false
 | .tuple _=>false
 |_=>true
def SU:AV→Bool
 | .any=>false
 | .ar .. =>false
 | .v x=>qV x
 | .agg _=>false
 | .gd _=>false
 |_=>true
def o8:List AV→Bool
 |[]=>true
 |a::r=>SU a&&o8 r
def eb:List (List AV)→Bool
 |[]=>true
 |l::r=>o8 l&&eb r
def Gf(fs:List (Nat×Nat)):List AV→List (Nat×AV)→Option (List AV)
 |cells,[]=>some cells
 |cells,(i,a)::r=>match fs[i]? with
  |none=>none
  |some (o,z)=>match zJ a with
   |none=>none
   |some k=>bif du k z&&mL (o+z) cells.length then Gf fs (bE cells o (cellsOf a)) r else none
def nP(z:Nat):List AV→List (Nat×AV)→Option (List AV)
 |cells,[]=>some cells
 |cells,(i,a)::r=>match zJ a with
   |none=>none
   |some k=>bif du k z&&mL (i*z+z) cells.length then nP z (bE cells (i*z) (cellsOf a)) r else none
def gb(L:nv)(t f:Nat):Option Nat:=
 match L t with
 |some {k:= .da fs,..}=>match fs[f]? with
  |some (o,z)=>bif du z 0 then none else some o
  |none=>none
 |_=>none
def ah9:AV→Option AV
 | .ptr k off=>some (.ptr k off)
 | .aP r cs off=>some (.aP r cs off)
 | .cQ k i off z=>some (.cQ k i off z)
 | .mN r z xs=>some (.mN r z xs)
 |_=>none
def SO(o:Nat):AV→Option AV
 | .ptr k off=>some (.ptr k (off+o))
 | .aP r cs off=>some (.aP r cs (off+o))
 | .cQ k i off z=>some (.cQ k i (off+o) z)
 |_=>none
def SN(s:St)(ti:TI):AV→Option AV
 | .ptr (.s d) off=>match look d s.b with
  |some (.box cs)=>part ti cs off
  |_=>none
 | .aP _ cs off=>part ti cs off
 |_=>none
def aib(I:Pr)(op:BinOp):AV→AV→Option AV
 | .v a,.v b=>match bin I op a b with|some v=>some (.v v)|none=>none
 |_,_=>none
def pUn(I:Pr):UnOp→AV→Option AV
 | .not,.v (.bool b)=>some (.v (.bool (I.not b)))
 |_,_=>none
def Jy(i:Nat):AV→Option AV
 | .gd vs=>vs[i]?
 |_=>none
def Mc(L:nv)(t:Nat)(ps:List (Nat×AV)):Option AV:=
 match L t with
 |some {k:= .da fs,zero,..}=>match Gf fs (zero.map .v) ps with
  |some cs=>some (.agg cs)
  |none=>none
 |some {k:= .arr _ e,zero,..}=>match L e with
  |some ti=>match nP ti.size (zero.map .v) ps with
   |some cs=>some (.agg cs)
   |none=>none
  |none=>none
 |_=>none
def aia(I:Pr):TK→AV→Option AV
 | .slice _,.sl _ xs=>some (.v (.int .i64 (I.fp xs)))
 | .slice _,.gs _ _ xs=>some (.v (.int .i64 (I.fp xs)))
 | .slice _,.iq _ n=>some (.v (.int .i64 n))
 | .str,.v (.string b)=>some (.v (.int .i64 (I.MW b)))
 | .slice _,.v (.slice _ n _)=>some (.v (.int .i64 n))
 | .arr n _,_=>some (.v (.int .i64 n))
 |_,_=>none
def SM(L:nv)(t f:Nat)(x:AV):Option AV:=
 match L t with
 |some {k:= .da fs,ft,..}=>(match fs[f]?,ft[f]? with
  |some (o,_),some t'=>(match L t',x with
   |some tj,.agg cs=>part tj cs o
   |_,_=>none)
  |_,_=>none)
 |_=>none
def Jz(I:Pr)(L:nv)(b:Builtin)(ts:List Nat)(args:List AV):Option AV:=
 match b,ts,args with
 | .len,[t],[x]=>match L t with
  |some ti=>aia I ti.k x
  |none=>none
 |_,_,_=>none
def qY(I:Pr)(L:nv)(s:St)(p:Path):Op→Option AV
 | .move x=>some (bM s p x)
 | .assign x=>some (bM s p x)
 | .nilCheck x=>ah9 (bM s p x)
 | .fieldAddr t x f=>match gb L t f with
  |none=>none
  |some o=>SO o (bM s p x)
 | .load t x=>match L t with
  |none=>none
  |some ti=>SN s ti (bM s p x)
 | .binOp op _ x y _=>aib I op (bM s p x) (bM s p y)
 | .unOp op _ x=>pUn I op (bM s p x)
 | .extract x i=>Jy i (bM s p x)
 | .build t parts=>Mc L t (parts.toList.map fun q=>(q.1,bM s p q.2))
 | .field t x f=>SM L t f (bM s p x)
 | .call c=>match c.callee with
  | .builtin b=>Jz I L b c.argTypes.toList (c.args.toList.map (bM s p))
  |_=>none
 |_=>none
 mutual
def sb(d:Nat)(F:Nat→AV)(A:Nat→AV):AV→AV
  | .ptr (.s e) off=>bif du e d then F off else .ptr (.s e) off
  | .iq (.s e) n=>bif du e d then A n else .iq (.s e) n
  | .cQ (.s e) i off z=>bif du e d then .any else .cQ (.s e) i off z
  | .po (.s e)=>bif du e d then .any else .po (.s e)
  | .mp (.s e)=>bif du e d then .any else .mp (.s e)
  | .fn f cs=> .fn f (OV d F A cs)
  | .agg cs=> .agg (OV d F A cs)
  | .gd cs=> .gd (OV d F A cs)
  |a=>a
def OV(d:Nat)(F:Nat→AV)(A:Nat→AV):List AV→List AV
  |[]=>[]
  |a::r=>sb d F A a::OV d F A r
end
def Lt(d:Nat)(F:Nat→AV)(A:Nat→AV):List (Nat×AV)→List (Nat×AV)
 |[]=>[]
 |(k,a)::r=>(k,sb d F A a)::Lt d F A r
def Hd(d:Nat)(F:Nat→AV)(A:Nat→AV):List (Nat×Ob)→List (Nat×Ob)
 |[]=>[]
 |(k,.box cs)::r=>(k,.box (OV d F A cs))::Hd d F A r
 |(k,.arr z xs)::r=>(k,.arr z xs)::Hd d F A r
 |(k,.ow p l xs)::r=>(k,.ow p l xs)::Hd d F A r
 |(k,.lp n t ps nq body st)::r=>(k,.lp n (Lt d F A t) ps nq body st)::Hd d F A r
def Zx(d:Nat)(F:Nat→AV)(A:Nat→AV):List Fr→List Fr
 |[]=>[]
 |f::r=>{n:=f.n,t:=Lt d F A f.t}::Zx d F A r
def shut(ρ d:Nat)(s:St):Option St:=
 match look d s.b with
 |some (.box cs)=>
  let cs':=kQ (fun _=>true) cs
  bif ca cs' then
   let F:=fun off=>AV.aP ρ cs' off
   let A:=fun _=>AV.any
   some {s with t:=Lt d F A s.t,b:=Hd d F A (del d s.b),up:=Zx d F A s.up}
  else none
 |some (.arr z xs)=>
   let F:=fun _=>AV.any
   let A:=fun n=>AV.sl ρ (xs.take n)
   some {s with t:=Lt d F A s.t,b:=Hd d F A (del d s.b),up:=Zx d F A s.up}
 |some (.ow (.sl _) _ xs)=>
   let F:=fun _=>AV.any
   let A:=fun n=>AV.sl ρ (xs.take n)
   some {s with t:=Lt d F A s.t,b:=Hd d F A (del d s.b),up:=Zx d F A s.up}
 |some (.ow (.mp ..) ..)=>none
 |some (.lp ..)=>none
 |none=>none
 mutual
def zc:AV→List Nat
  | .ptr (.s d) _=>[d]
  | .iq (.s d) _=>[d]
  | .cQ (.s d) _ _ _=>[d]
  | .po (.s d)=>[d]
  | .mp (.s d)=>[d]
  | .fn _ cs=>jR cs
  | .agg cs=>jR cs
  | .gd cs=>jR cs
  |_=>[]
def jR:List AV→List Nat
  |[]=>[]
  |a::r=>zc a++jR r
end
def jw(ρ:Nat):List Nat→St→Option St
 |[],s=>some s
 |d::r,s=>match look d s.b with
  |none=>jw ρ r s
  |some _=>match shut ρ d s with
   |some s'=>jw ρ r s'
   |none=>none
def KC:List (Nat×Ob)→List Nat
 |[]=>[]
 |(d,.arr _ _)::r=>d::KC r
 |_::r=>KC r
abbrev bd:=AV→St→Prop
abbrev YH:=Nat→List AV→St→bd→Prop
abbrev ot:=(ρ:Nat)→(f:Nat)→(args:List AV)→(g:Nat→Option Ob)→(nx:Nat)→(r:AV)→(g':Nat→Option Ob)→(gS:Nat)→Prop
inductive Tree where
 |done
 |one (i:Nat) (t:Tree)
 |fork (i:Nat) (t:Tree) (more:Tree)
 |nil
structure dK where
 I:Pr
 L:nv
 ρ:Nat
 sh:List Nat
 tree:Nat→Tree
 call:ot
 base:Nat:=0
 op:List Nat:=[]
 sj:Nat→Bool:=fun _=>false
 inl:YH→Nat→List AV→St→bd→Prop:=fun _ _ _ _ _=>False
 At:YH→Nat→List AV→St→bd→Prop:=fun _ _ _ _ _=>False
 yl:YH:=fun _ _ _ _=>False
 dead:Nat→List Nat:=fun _=>[]
 cl:Nat→Bool:=fun _=>false
 keys:Nat→Option (List VK):=fun _=>none
 eqs:Nat→Option (List VK):=fun _=>none
def My(d:Nat):List Nat→Bool
 |[]=>false
 |k::r=>du k d||My d r
def wX:AV→Option (Nat×List (List AV))
 | .sl r xs=>some (r,xs)
 | .gs r _ xs=>some (r,xs)
 | .v (.slice none 0 0)=>some (0,[])
 |_=>none
def elemOf(L:nv)(t:Nat):Option (Nat×TI):=
 match L t with
 |some {k:= .slice e,..}=>match L e with
  |some ti=>some (e,ti)
  |none=>none
 |_=>none
def ZF(I:Pr)(c:AV)(a b:AV):Option AV:=
 match c,a,b with
 | .v (.bool g),.v (.bool x),.v (.bool y)=>some (.v (.bool (I.pick g x y)))
 |_,_,_=>none
def Q6:Operand→Option Nat
 | .tmp d=>some d
 |_=>none
def HI(C:dK)(s:St)(d:Nat)(cs:List AV)(K:AV→St→Prop):Prop:=
 bif My d C.sh then
  False
 else
  match look (C.base+d) s.b with
  |none=>K (.ptr (.s (C.base+d)) 0) {s with b:=cX (C.base+d) (.box cs) s.b}
  |some _=>False
def QM(C:dK)(p:Path)(c a b:Operand)(s:St)(K:bd):Prop:=
 match Q6 c with
 |none=>False
 |some d=>match ZF C.I (bM s p c) (bM s (p++[(d,true)]) a) (bM s (p++[(d,false)]) b)with
  |some x=>K x s
  |none=>False
def aaW(C:dK)(d:Nat)(a:AV)(s:St)(K:bd):Prop:=
 match zJ a with
 |some _=>HI C s d (cellsOf a) K
 |none=>False
def Lg(C:dK)(d e:Nat)(s:St)(K:bd):Prop:=
 match C.L e with
 |some ti=>match ti.k with
  | .arr n e'=>match C.L e',look (C.base+d) s.b with
   |some Lj,none=>bif du (n*Lj.size) ti.size&&(mL 1 Lj.size&&mL n 1048576)then∃zs,(ti.zero=(List.replicate n Lj.zero).flatten∧C.I.rep n (Lj.zero.map .v)=zs)∧K (.ptr (.s (C.base+d)) 0) {s with b:=cX (C.base+d) (.arr Lj.size zs) s.b}else False
   |_,_=>False
  |_=>HI C s d (ti.zero.map .v) K
 |none=>False
def oW(I:Pr)(ti:TI)(d off:Nat)(a:AV)(s:St)(K:bd):Prop:=
 match look d s.b with
 |some (.box cs)=>bif mL (off+ti.size) cs.length then(match a with
  | .gs r t xs=>Ph t=true∧K .any {s with t:=fV (bf t) s.t,up:=lO (bf t) s.up,b:=cX d (.box (bE (kQ (bf t) cs) off [.gs r (.c d off) xs])) (eY (bf t) s.b)}
  |a=>K .any {s with b:=cX d (.box (bE cs off (cellsOf a))) s.b})else False
 |some (.arr z xs)=>match ti.k with
  | .arr n _=>off=0∧I.fp xs=n∧n*z=ti.size∧ca (cellsOf (rd a))=true∧K .any {s with b:=cX d (.arr z (I.chunk z n (cellsOf (rd a)))) s.b}
  |_=>False
 |_=>False
def yw(I:Pr)(ti:TI)(d i off z:Nat)(a:AV)(s:St)(K:bd):Prop:=
 match look d s.b with
 |some (.arr z' xs)=> ∃cs,z=z'∧xs[i]? =some cs∧off+ti.size≤z∧ca (cellsOf (rd a))=true∧K .any {s with b:=cX d (.arr z (I.set xs i (bE cs off (cellsOf (rd a))))) s.b}
 |_=>False
def GS(C:dK)(t:Nat)(x a:AV)(s:St)(K:bd):Prop:=
 match C.L t,zJ a with
 |some ti,some k=>k=ti.size∧o8 (cellsOf a)=true∧
   (match x with
   | .ptr (.s d) off=>oW C.I ti d off a s K
   | .cQ (.s d) i off z=>yw C.I ti d i off z a s K
   |_=>False)
 |_,_=>False
def Nn(C:dK)(p:Path)(t:Nat)(x:AV)(s:St)(K:bd):Prop:=
 match C.L t with
 |none=>False
 |some ti=>match x with
  | .mN _ z xs=>match ti.k with
   | .arr n _=>(C.I.fp xs=n∧n*z=ti.size)∧K (.ar n z xs) s
   |_=>False
  | .ptr (.o i) off=> ∃cs a,under s p (s.g i=some (.box cs))∧part ti cs off=some a∧K a s
  | .ptr (.s d) off=>match look d s.b with
   |some (.arr z xs)=>match ti.k with
    | .arr n _=>(off=0∧under s p (C.I.fp xs=n)∧n*z=ti.size)∧K (.ar n z xs) s
    |_=>False
   |_=>False
  | .cQ (.s d) i off z=>match look d s.b with
   |some (.arr z' xs)=> ∃cs a,z=z'∧under s p (xs[i]? =some cs)∧part ti cs off=some a∧K a s
   |some (.ow (.sl z') _ xs)=> ∃cs a,z=z'∧under s p (xs[i]? =some cs)∧part ti cs off=some a∧K a s
   |_=>False
  |_=>False
def QN(C:dK)(p:Path)(t:Nat)(n:Int)(x:AV)(s:St)(K:bd):Prop:=
 match x with
 | .iq k m=>match elemOf C.L t with
  |some (_,ti)=>under s p (C.I.within n m)∧K (.cQ k (C.I.nat n) 0 ti.size) s
  |none=>False
 | .ptr (.s d) off=>match C.L t,look d s.b with
  |some ti,some (.arr z xs)=>match ti.k with
   | .arr m e=>match C.L e with
    |some tj=>off=0∧z=tj.size∧under s p (C.I.within n m)∧K (.cQ (.s d) (C.I.nat n) 0 z) s
    |none=>False
   |_=>False
  |_,_=>False
 |a=>match wX a,elemOf C.L t with
  |some (r,xs),some (_,ti)=> ∃cs,under s p (0≤n∧xs[n.toNat]? =some cs∧cs.length=ti.size)∧K (.aP r cs 0) s
  |_,_=>False
def intOf:AV→Option Int
 | .v (.int _ n)=>some n
 |_=>none
def isStr(L:nv)(t:Nat):Bool:=match L t with|some ti=>(match ti.k with| .str=>true|_=>false)|none=>false
def GW(C:dK)(p:Path)(t:Nat)(n:Int)(x:AV)(s:St)(K:bd):Prop:=
 match x with
 | .v (.string b)=>bif isStr C.L t then∃c:UInt8,under s p (0≤n∧b[n.toNat]? =some c)∧K (.v (.int .u8 c.toNat)) s else False
 | .agg cs=>match C.L t with
  |some ti=>match ti.k with
   | .arr m e=>match C.L e with
    |some tj=>bif du tj.size 1&& !tj.agg then∃a,under s p (0≤n∧n<m∧cs[n.toNat]? =some a)∧K a s else False
    |none=>False
   |_=>False
  |none=>False
 |_=>False
def qx(C:dK)(p:Path)(t len d:Nat)(parts:List (Nat×Operand))(s:St)(K:bd):Prop:=
 match elemOf C.L t with
 |some (_,ti)=>match jw C.ρ (jR (parts.map fun q=>bM s p q.2)) s with
  |some s1=>match nP ti.size ((List.replicate len (ti.zero.map AV.v)).flatten) (parts.map fun q=>(q.1,rd (bM s1 p q.2)))with
   |some cs=>bif ca cs&&(mL 1 ti.size&&mL (len*ti.size) 16777216)then K (.gs C.ρ (.l (C.base+d)) (chunks ti.size len cs)) {s1 with t:=fV (bf (.l (C.base+d))) s1.t,b:=eY (bf (.l (C.base+d))) s1.b,up:=lO (bf (.l (C.base+d))) s1.up}else False
   |none=>False
  |none=>False
 |none=>False
def closed(base:Nat)(op:List Nat):List Nat→List Nat
 |[]=>[]
 |d::r=>bif mL base d&& !My (d - base) op then d::closed base op r else closed base op r
def QO(C:dK)(p:Path)(f:Fn)(cap:List Operand)(s:St)(K:bd):Prop:=
 match jw C.ρ (closed C.base C.op (jR (cap.map (bM s p)))) s with
 |some s1=>K (.fn f (cap.map fun x=>rd (bM s1 p x))) s1
 |none=>False
def Nm(C:dK)(t d:Nat)(n m:Int)(s:St)(K:bd):Prop:=
 match elemOf C.L t,look (C.base+d) s.b with
 |some (_,ti),none=>1≤ti.size∧n=m∧C.I.DK n ti.bytes∧K (.iq (.s (C.base+d)) n.toNat) {s with b:=cX (C.base+d) (.arr ti.size (C.I.rep n.toNat (ti.zero.map .v))) s.b}
 |_,_=>False
def kT(s:St)(p:Path)(ap3:Int):Option Operand→Option Int
 |none=>some ap3
 |some y=>intOf (bM s p y)
def zY(C:dK)(p:Path)(t:Nat)(lo hi:Option Operand)(x:AV)(s:St)(K:bd):Prop:=
 match x with
 | .v (.string b)=>bif isStr C.L t then
   (match kT s p 0 lo,kT s p (C.I.MW b) hi with
   |some l,some h=>under s p (C.I.mS l h (C.I.MW b))∧K (.v (.string (C.I.Ik b l h))) s
   |_,_=>False)
  else False
 | .iq k m=>match elemOf C.L t,lo,kT s p m hi with
  |some _,none,some h=>under s p (C.I.mS 0 h m)∧K (.iq k h.toNat) s
  |_,_,_=>False
 | .ptr (.s d) off=>match C.L t,look d s.b with
  |some ti,some (.arr z xs)=>match ti.k with
   | .arr m e=>match C.L e,lo,kT s p m hi with
    |some _,none,some h=>off=0∧C.I.fp xs=m∧m≤1048576∧under s p (C.I.mS 0 h m)∧K (.iq (.s d) h.toNat) s
    |_,_,_=>False
   |_=>False
  |_,_=>False
 |a=>match wX a,elemOf C.L t with
  |some (r,xs),some (_,ti)=>match kT s p 0 lo,kT s p (C.I.fp xs) hi with
   |some l,some h=>under s p (C.I.mS l h (C.I.fp xs)∧ ∀cs∈xs,cs.length=ti.size)∧K (.sl r (C.I.Ei xs l h)) s
   |_,_=>False
  |_,_=>False
def lE(_:Tok):Bool:=false
def snap(ρ:Nat)(b:List (Nat×Ob)):AV→AV
 | .iq (.s d) n=>match look d b with
  |some (.arr _ xs)=> .sl ρ (xs.take n)
  |_=> .iq (.s d) n
 | .ptr (.s d) off=>match look d b with
  |some (.box cs)=>bif ca (kQ (fun _=>true) cs)then .aP ρ (kQ (fun _=>true) cs) off else .ptr (.s d) off
  |some (.arr z xs)=>bif du off 0 then .mN ρ z xs else .ptr (.s d) off
  |_=> .ptr (.s d) off
 |a=>a
def yy(ρ:Nat)(b:List (Nat×Ob)):AV→AV
 | .fn f cs=> .fn f (cs.map (snap ρ b))
 | .agg cs=> .agg (cs.map (snap ρ b))
 |a=>snap ρ b a
def Zv(C:dK)(p:Path)(f:AV)(args:List AV)(s:St)(K:bd):Prop:=
 match f with
 | .fn (.func k) cap=>match p with
  |[]=>bif C.sj k then C.inl C.yl k (args++cap) s K
   else bif ca (args++cap)then∃r g' gS,C.call C.ρ k (args++cap) s.g s.nx r g' gS∧K r {s with t:=fV lE s.t,b:=eY lE s.b,up:=lO lE s.up,g:=g',nx:=gS}
   else(∀ρ,ca ((args++cap).map (yy ρ s.b))=true)∧ ∃r g' gS,(∀ρ,C.call C.ρ k ((args++cap).map (yy ρ s.b)) s.g s.nx r g' gS)∧K r {s with t:=fV lE s.t,b:=eY lE s.b,up:=lO lE s.up,g:=g',nx:=gS}
  |_=>bif ca (args++cap)then∃r,(aZ s p→C.call C.ρ k (args++cap) s.g s.nx r s.g s.nx)∧K r {s with t:=fV lE s.t,b:=eY lE s.b,up:=lO lE s.up}
   else(∀ρ,ca ((args++cap).map (yy ρ s.b))=true)∧ ∃r,(aZ s p→ ∀ρ,C.call C.ρ k ((args++cap).map (yy ρ s.b)) s.g s.nx r s.g s.nx)∧K r {s with t:=fV lE s.t,b:=eY lE s.b,up:=lO lE s.up}
 | .po (.s d)=>match p with
  |[]=>C.yl d args s K
  |_=>False
 | .bm (.func k) cs=>match p with
  |[]=>bif ca (cs++args)then∃r g' gS,C.call C.ρ k (cs++args) s.g s.nx r g' gS∧K r {s with t:=fV lE s.t,b:=eY lE s.b,up:=lO lE s.up,g:=g',nx:=gS}else False
  |_=>False
 |_=>False
def Ow(C:dK)(ti:TI)(n:Nat)(ys:List (List AV)):Prop:=C.I.room n (C.I.fp ys) ti.bytes∧mL 1 ti.size=true∧eb ys=true∧ ∀l∈ys,l.length=ti.size
def Cm(C:dK)(t d:Nat)(x y:AV)(s:St)(K:bd):Prop:=
 match elemOf C.L t,wX y with
 |some (_,ti),some (_,ys)=>match x with
  | .gs r k xs=>Ph k=true∧Ow C ti (C.I.fp xs) ys∧(∀l∈xs,l.length=ti.size)∧
    K (.gs r (.l (C.base+d)) (C.I.app xs ys)) {s with t:=fV (fun q=>bf (.l (C.base+d)) q||bf k q) s.t,b:=eY (fun q=>bf (.l (C.base+d)) q||bf k q) s.b,up:=lO (fun q=>bf (.l (C.base+d)) q||bf k q) s.up}
  | .v (.slice none 0 0)=>Ow C ti 0 ys∧K (.gs C.ρ (.l (C.base+d)) ys) {s with t:=fV (bf (.l (C.base+d))) s.t,b:=eY (bf (.l (C.base+d))) s.b,up:=lO (bf (.l (C.base+d))) s.up}
  |_=>False
 |_,_=>False
def xIdx(C:dK)(p:Path)(t:Nat)(n:Int)(x:AV)(s:St)(K:bd):Prop:=
 match x with
 | .iq k m=>match elemOf C.L t with
  |some (_,ti)=> ∃j,under s p (C.I.within n m∧C.I.nat n=j)∧K (.cQ k j 0 ti.size) s
  |none=>False
 | .ptr (.s d) off=>match C.L t,look d s.b with
  |some ti,some (.arr z xs)=>match ti.k with
   | .arr m e=>match C.L e with
    |some tj=> ∃j,(off=0∧z=tj.size∧under s p (C.I.within n m∧C.I.nat n=j))∧K (.cQ (.s d) j 0 z) s
    |none=>False
   |_=>False
  |_,_=>False
 | .mN r z xs=>match C.L t with
  |some ti=>match ti.k with
   | .arr m e=>match C.L e with
    |some tj=> ∃cs,(C.I.fp xs=m∧z=tj.size∧under s p (0≤n∧xs[n.toNat]? =some cs))∧K (.aP r cs 0) s
    |none=>False
   |_=>False
  |none=>False
 |a=>QN C p t n a s K
def ahu(I:Pr)(ti:TI)(xs:List (List AV))(i off z z':Nat)(cs1:List AV)(zs:List (List AV)):Prop:=
 ∃cs,z=z'∧xs[i]? =some cs∧off+ti.size≤z∧ca cs1=true∧I.set xs i (bE cs off cs1)=zs
def GB(I:Pr)(ti:TI)(d off:Nat)(a:AV)(s:St)(K:bd):Prop:=
 match look d s.b with
 |some (.arr z xs)=>match ti.k with
  | .arr n _=> ∃zs,(off=0∧I.fp xs=n∧n*z=ti.size∧ca (cellsOf (rd a))=true∧I.chunk z n (cellsOf (rd a))=zs)∧K .any {s with b:=cX d (.arr z zs) s.b}
  |_=>False
 |_=>oW I ti d off a s K
def GC(I:Pr)(ti:TI)(d i off z:Nat)(a:AV)(s:St)(K:bd):Prop:=
 match look d s.b with
 |some (.arr z' xs)=> ∃zs,ahu I ti xs i off z z' (cellsOf (rd a)) zs∧K .any {s with b:=cX d (.arr z zs) s.b}
 |_=>False
def GD(C:dK)(t:Nat)(x a:AV)(s:St)(K:bd):Prop:=
 match C.L t,zJ a with
 |some ti,some k=>k=ti.size∧o8 (cellsOf a)=true∧
   (match x with
   | .ptr (.s d) off=>GB C.I ti d off a s K
   | .cQ (.s d) i off z=>GC C.I ti d i off z a s K
   |_=>False)
 |_,_=>False
def CI(C:dK)(t:Nat)(x:AV)(n z:Nat)(ys:List (List AV))(s:St)(K:bd):Prop:=
 match C.L t,x with
 |some ti,.ptr (.s d) off=>match ti.k,look d s.b with
  | .arr m _,some (.arr z' xs)=>(off=0∧z'=z∧n=m∧C.I.fp xs=m∧m*z=ti.size∧eb ys=true)∧K .any {s with b:=cX d (.arr z ys) s.b}
  |_,_=>False
 |_,_=>False
def aef:Option Ob→Bool
 |some (.ow ..)=>true
 |_=>false
def GF(C:dK)(t:Nat)(x a:AV)(s:St)(K:bd):Prop:=
 match a with
 | .ar n z ys=>CI C t x n z ys s K
 |a=>GD C t x a s K
def aaJ(C:dK)(d:Nat)(a:AV)(s:St)(K:bd):Prop:=
 match a with
 | .ar n z xs=>match look (C.base+d) s.b with
  |none=>(1≤z∧n≤1048576)∧K (.ptr (.s (C.base+d)) 0) {s with b:=cX (C.base+d) (.arr z xs) s.b}
  |some _=>False
 |a=>aaW C d a s K
def Nl:AV→AV→Prop
 |_,.any=>True
 | .v (.slice none 0 0),.gs _ _ xs=>xs=[]
 | .v (.slice none 0 0),.sl _ xs=>xs=[]
 | .gs r _ xs,.sl r' xs'=>r=r'∧xs=xs'
 |a,b=>a=b
def Zt:List AV→List AV→Prop
 |[],[]=>True
 |a::r,b::q=>Nl a b∧Zt r q
 |_,_=>False
def wkL:List (List AV)→List (List AV)→Prop
 |[],[]=>True
 |a::r,b::q=>(Zt a b∧ca b=true)∧wkL r q
 |_,_=>False
def MX(xs zs:List (List AV)):Prop:= ∃ws,wkL xs ws∧ws=zs
def uj(C:dK)(p:Path)(t len d:Nat)(parts:List (Nat×Operand))(s:St)(K:bd):Prop:=
 match elemOf C.L t with
 |some (_,ti)=>match jw C.ρ (jR (parts.map fun q=>bM s p q.2)) s with
  |some s1=>match nP ti.size ((List.replicate len (ti.zero.map AV.v)).flatten) (parts.map fun q=>(q.1,rd (bM s1 p q.2)))with
   |some cs=>bif ca cs&&(mL 1 ti.size&&mL (len*ti.size) 16777216)then∃zs,MX (chunks ti.size len cs) zs∧K (.gs C.ρ (.l (C.base+d)) zs) {s1 with t:=fV (bf (.l (C.base+d))) s1.t,b:=eY (bf (.l (C.base+d))) s1.b,up:=lO (bf (.l (C.base+d))) s1.up}else False
   |none=>False
  |none=>False
 |none=>False
def GK(C:dK)(t len d:Nat)(parts:List (Nat×Operand))(s:St)(K:bd):Prop:=
 match elemOf C.L t,look (C.base+d) s.b with
 |some (_,ti),none=>match nP ti.size ((List.replicate len (ti.zero.map AV.v)).flatten) (parts.map fun q=>(q.1,rd (bM s [] q.2)))with
   |some cs=>bif ca cs&&(mL 1 ti.size&&mL (len*ti.size) 16777216)then∃zs,MX (chunks ti.size len cs) zs∧K (.iq (.s (C.base+d)) len) {s with b:=cX (C.base+d) (.arr ti.size zs) s.b}else False
   |none=>False
 |_,_=>False
def aiu(C:dK)(ti:TI)(n m:Int)(xs:List (List AV))(j:Nat):Prop:=1≤ti.size∧n=m∧C.I.DK n ti.bytes∧C.I.rep n.toNat (ti.zero.map .v)=xs∧n.toNat=j
def QD(C:dK)(t d:Nat)(n m:Int)(s:St)(K:bd):Prop:=
 match elemOf C.L t,look (C.base+d) s.b with
 |some (_,ti),none=> ∃xs j,aiu C ti n m xs j∧K (.iq (.s (C.base+d)) j) {s with b:=cX (C.base+d) (.arr ti.size xs) s.b}
 |_,_=>False
def K6(C:dK)(p:Path)(t:Nat)(lo hi:Option Operand)(x:AV)(s:St)(K:bd):Prop:=
 match x with
 | .v (.string b)=>bif isStr C.L t then
   (match kT s p 0 lo,kT s p (C.I.MW b) hi with
   |some l,some h=> ∃b',under s p (C.I.mS l h (C.I.MW b)∧C.I.Ik b l h=b')∧K (.v (.string b')) s
   |_,_=>False)
  else False
 | .iq k m=>match elemOf C.L t,lo,kT s p m hi with
  |some _,none,some h=> ∃j,under s p (C.I.mS 0 h m∧h.toNat=j)∧K (.iq k j) s
  |_,_,_=>False
 | .ptr (.s d) off=>match C.L t,look d s.b with
  |some ti,some (.arr z xs)=>match ti.k with
   | .arr m e=>match C.L e,lo,kT s p m hi with
    |some _,none,some h=> ∃j,(off=0∧C.I.fp xs=m∧m≤1048576∧under s p (C.I.mS 0 h m∧h.toNat=j))∧K (.iq (.s d) j) s
    |_,_,_=>False
   |_=>False
  |_,_=>False
 |a=>match wX a,elemOf C.L t with
  |some (r,xs),some (_,ti)=>match kT s p 0 lo,kT s p (C.I.fp xs) hi with
   |some l,some h=> ∃zs,under s p ((C.I.mS l h (C.I.fp xs)∧ ∀cs∈xs,cs.length=ti.size)∧C.I.Ei xs l h=zs)∧K (.sl r zs) s
   |_,_=>False
  |_,_=>False
def UF(C:dK)(ti:TI)(xs ys zs:List (List AV)):Prop:=Ow C ti (C.I.fp xs) ys∧(∀l∈xs,l.length=ti.size)∧C.I.app xs ys=zs
def GL(C:dK)(t d:Nat)(x y:AV)(s:St)(K:bd):Prop:=
 match elemOf C.L t,wX y with
 |some (_,ti),some (_,ys)=>match x with
  | .gs r k xs=>Ph k=true∧ ∃zs,UF C ti xs ys zs∧
    K (.gs r (.l (C.base+d)) zs) {s with t:=fV (fun q=>bf (.l (C.base+d)) q||bf k q) s.t,b:=eY (fun q=>bf (.l (C.base+d)) q||bf k q) s.b,up:=lO (fun q=>bf (.l (C.base+d)) q||bf k q) s.up}
  | .v (.slice none 0 0)=> ∃zs,UF C ti [] ys zs∧K (.gs C.ρ (.l (C.base+d)) zs) {s with t:=fV (bf (.l (C.base+d))) s.t,b:=eY (bf (.l (C.base+d))) s.b,up:=lO (bf (.l (C.base+d))) s.up}
  |_=>False
 |_,_=>False
def dS(ρ:Nat):AV→AV
 | .v (.slice none 0 0)=> .sl ρ []
 |a=>a
def b8(ρ:Nat):List AV→List AV
 |[]=>[]
 |a::r=>dS ρ a::b8 ρ r
def isV:AV→Bool
 | .v _=>true
 |_=>false
def PX:List AV→Bool
 |[]=>true
 |a::r=>isV a&&PX r
def j0:Nat→AV:=fun _=> .any
def goO(r n:Nat)(b:Nat)(xs:List (List AV))(row:List AV)(C:dK)(zs:List (List AV))(n':Nat):Prop:=
 C.I.room n 1 b∧C.I.fp xs=n∧C.I.app xs [row]=zs∧C.I.fp zs=n'
def QG(C:dK)(t d:Nat)(x y:AV)(s:St)(K:bd):Prop:=
 match elemOf C.L t,wX y with
 |some (_,ti),some (r,[cs])=>bif PX cs&&(du cs.length ti.size&&(mL 1 ti.size&&o8 cs))then
   (match x with
   | .v (.slice none 0 0)=>(match look (C.base+d) s.b with
    |none=>C.I.room 0 1 ti.bytes∧ ∃zs n',([b8 r cs]=zs∧C.I.fp zs=n')∧K (.iq (.s (C.base+d)) n') {s with b:=cX (C.base+d) (.ow (.sl ti.size) none zs) s.b}
    |some _=>False)
   | .iq (.s k) n=>bif du k (C.base+d)then
    (match look k s.b with
    |some (.ow (.sl z) none xs)=>z=ti.size∧ ∃zs n',goO r n ti.bytes xs (b8 r cs) C zs n'∧
      K (.iq (.s k) n') {s with t:=Lt k j0 j0 s.t,b:=cX k (.ow (.sl z) none zs) (Hd k j0 j0 (del k s.b)),up:=Zx k j0 j0 s.up}
    |_=>False)else False
   |_=>False)else False
 |_,_=>False
def QE(C:dK)(t d:Nat)(x:AV)(s:St)(K:bd):Prop:=
 match C.L t,x with
 |some ti,.cQ (.s k) i off z=>match ti.k,look k s.b with
  | .slice _,some (.ow (.sl z') none xs)=> ∃cs r ys,(z=z'∧xs[i]? =some cs∧cs[off]? =some (.sl r ys)∧ti.size=1)∧
    K (.gs r (.l (C.base+d)) ys) {s with t:=fV (bf (.n k)) s.t,b:=cX k (.ow (.sl z') (some (i,off)) xs) (eY (bf (.n k)) s.b),up:=lO (bf (.n k)) s.up}
  |_,_=>False
 |_,_=>False
def akG(C:dK)(xs:List (List AV))(i j off W5 r:Nat)(ys zs:List (List AV)):Prop:=
 i=j∧off=W5∧ ∃cs,xs[i]? =some cs∧off<cs.length∧C.I.set xs i (bE cs off [.sl r ys])=zs
def Ni(C:dK)(d i off z r:Nat)(t:Tok)(ys:List (List AV))(s:St)(K:bd):Prop:=
 match look d s.b with
 |some (.ow (.sl z') (some (j,W5)) xs)=>Ph t=true∧z=z'∧ ∃zs,akG C xs i j off W5 r ys zs∧
   K .any {s with t:=fV (bf t) s.t,b:=cX d (.ow (.sl z') none zs) (eY (bf t) s.b),up:=lO (bf t) s.up}
 |_=>False
def mR:List VK→List AV→Bool
 |[],[]=>true
 | .int k::r,.v (.int k' _)::q=>(k==k')&&mR r q
 | .str::r,.v (.string _)::q=>mR r q
 | .bool::r,.v (.bool _)::q=>mR r q
 |_,_=>false
def JZ:AV→Bool
 | .v x=>qV x
 | .agg cs=>mL 2 cs.length
 |_=>false
def Bq(ks:List VK)(k:AV):Bool:=JZ k&&mR ks (cellsOf k)
def xm(xs:List (List AV))(kc:List AV):Option Nat→Prop
 |some i=> ∃row,xs[i]? =some row∧row.take kc.length=kc∧ ∀j OW,j<i→xs[j]? =some OW→OW.take kc.length≠kc
 |none=> ∀row∈xs,row.take kc.length≠kc
def Ar(C:dK)(t:Nat):Option (List VK×Nat×Nat×TI):=
 match C.L t with
 |some {k:= .map k e,..}=>match C.keys k,C.L e with
  |some ks,some ti=>some (ks,k,e,ti)
  |_,_=>none
 |_=>none
def aix(xs:List (List AV))(kc:List AV)(z a:AV):Prop:=
 (∃i row a0,xm xs kc (some i)∧xs[i]? =some row∧row[kc.length]? =some a0∧Nl a0 a)∨(xm xs kc none∧Nl z a)
def GG(C:dK)(p:Path)(t:Nat)(m k:AV)(s:St)(K:bd):Prop:=
 match Ar C t,m with
 |some (ks,_,_,ti),.mp (.s d)=>match look d s.b,ti.zero with
  |some (.ow (.mp Qf none) none xs),[z]=>bif Bq ks k&&(!ti.agg&&qV z)then
    ∃a,(ks=Qf∧ti.size=1∧cq a=true∧under s p (aix xs (cellsOf k) (.v z) a))∧K a s else False
  |_,_=>False
 |_,_=>False
def CK(C:dK)(t d:Nat)(s:St)(K:bd):Prop:=
 match Ar C t,look (C.base+d) s.b with
 |some (ks,_,_,_),none=> ∃zs,([]:List (List AV))=zs∧K (.mp (.s (C.base+d))) {s with b:=cX (C.base+d) (.ow (.mp ks none) none zs) s.b}
 |_,_=>False
def GH(C:dK)(t:Nat)(m k v:AV)(s:St)(K:bd):Prop:=
 match Ar C t,m with
 |some (ks,_,_,ti),.mp (.s d)=>match look d s.b with
  |some (.ow (.mp Qf none) none xs)=>bif Bq ks k&&(isV v&&SU v)then
    ∃zs,(ks=Qf∧xm xs (cellsOf k) none∧C.I.app xs [cellsOf k++[v]]=zs)∧K .any {s with b:=cX d (.ow (.mp Qf none) none zs) s.b}else False
  |_=>False
 |_,_=>False
def aj6(C:dK)(r0:Nat)(xs:List (List AV))(kc:List AV)(zs:List (List AV))(i r:Nat)(ys:List (List AV)):Prop:=
 (xm xs kc (some i)∧xs=zs∧ ∃row,xs[i]? =some row∧row[kc.length]? =some (.sl r ys))∨(xm xs kc none∧C.I.app xs [kc++[.sl r0 []]]=zs∧C.I.fp xs=i∧r=r0∧ys=[])
def K8(C:dK)(t d:Nat)(m k:AV)(s:St)(K:bd):Prop:=
 match Ar C t,m with
 |some (ks,_,_,ti),.mp (.s q)=>match ti.k,look q s.b with
  | .slice _,some (.ow (.mp Qf none) none xs)=>bif Bq ks k then
    ∃zs i r ys,(ks=Qf∧ti.size=1∧ti.zero=[fC]∧aj6 C C.ρ xs (cellsOf k) zs i r ys)∧ ∀z:Int,
     K (.gd [.gs r (.l (C.base+d)) ys,.v (.int .i64 z)]) {s with t:=fV (bf (.n q)) s.t,b:=cX q (.ow (.mp Qf (some (i,z))) (some (i,Qf.length)) zs) (eY (bf (.n q)) s.b),up:=lO (bf (.n q)) s.up}else False
  |_,_=>False
 |_,_=>False
def aj8(C:dK)(kz:Nat)(xs:List (List AV))(i j:Nat)(z z':Int)(r:Nat)(ys zs:List (List AV)):Prop:=
 i=j∧z=z'∧ ∃cs,xs[i]? =some cs∧C.I.set xs i (bE cs kz [.sl r ys])=zs
def xt(C:dK)(m st v:AV)(s:St)(K:bd):Prop:=
 match m,st,v with
 | .mp (.s q),.v (.int .i64 z),.gs r t ys=>match look q s.b with
  |some (.ow (.mp ks (some (i,z'))) (some (j,off)) xs)=>Ph t=true∧off=ks.length∧ ∃zs,aj8 C ks.length xs i j z z' r ys zs∧
    K .any {s with t:=fV (bf t) s.t,b:=cX q (.ow (.mp ks none) none zs) (eY (bf t) s.b),up:=lO (bf t) s.up}
  |_=>False
 |_,_,_=>False
def AW:AV→Option (List AV)
 | .agg cs=>some cs
 | .ar _ _ xs=>some xs.flatten
 |_=>none
def ae5(x y:AV)(b:Bool):Prop:= ∃xs ys,AW x=some xs∧AW y=some ys∧(b=true↔xs=ys)
def qL(C:dK)(t:Nat)(x:AV):Prop:=
 match C.eqs t,x with
 |some ks,.agg cs=>mR ks cs=true
 |some ks,.ar _ _ xs=>mR ks xs.flatten=true
 |_,_=>False
def xEq(C:dK)(p:Path)(neg:Bool)(t:Nat)(x y:AV)(s:St)(K:bd):Prop:=
 ∃b:Bool,under s p (qL C t x∧qL C t y∧ae5 x y b)∧K (.v (.bool (bif neg then C.I.not b else b))) s
def wm(L:nv)(t:Nat):Bool:=match L t with
 |some ti=>(match ti.k with| .bool=>true|_=>false)
 |none=>false
def sg(L:nv)(t:Nat):Bool:=match L t with
 |some ti=>(match ti.k with| .slice _=>true|_=>false)
 |none=>false
def OG(C:dK)(p:Path)(neg:Bool)(t:Nat)(x y:AV)(s:St)(K:bd):Prop:=
 match x,y with
 | .v (.bool a),.v (.bool b)=>bif wm C.L t then K (.v (.bool (bif neg then C.I.not (C.I.beq a b)else C.I.beq a b))) s else False
 | .sl _ xs,.v (.slice none 0 0)=>bif sg C.L t then∀b:Bool,under s p (b=true→C.I.fp xs=0)→K (.v (.bool (bif neg then C.I.not b else b))) s else False
 |x,y=>xEq C p neg t x y s K
def GA(C:dK)(t:Nat)(x a:AV)(s:St)(K:bd):Prop:=
 match x,a with
 | .cQ (.s d) i off z,.gs r tk ys=>bif aef (look d s.b)then(match C.L t with
   |some ti=>ti.size=1∧Ni C d i off z r tk ys s K
   |none=>False)else GF C t x a s K
 |_,_=>GF C t x a s K
def akg(I:Pr)(ti:TI)(z n:Nat)(xs ys zs:List (List AV))(j:Int):Prop:=
 z=ti.size∧eb ys=true∧(∀l∈ys,l.length=ti.size)∧I.PB (I.fp ys) n=j∧I.app (I.Ei ys 0 j) (I.Ei xs j (I.fp xs))=zs
def QF(C:dK)(t:Nat)(x y:AV)(s:St)(K:bd):Prop:=
 match elemOf C.L t,x,wX y with
 |some (_,ti),.iq (.s d) n,some (_,ys)=>match look d s.b with
  |some (.arr z xs)=> ∃zs j,akg C.I ti z n xs ys zs j∧K (.v (.int .i64 j)) {s with b:=cX d (.arr z zs) s.b}
  |_=>False
 |_,_,_=>False
def zq(C:dK)(k:Nat):Option Nat→Bool
 |some d=>My (d+k) C.op
 |none=>false
def noI(C:dK)(d:Option Nat):dK:=bif zq C 4000 d then{C with sj:=fun _=>false}else C
def yu(C:dK)(p:Path)(b:Builtin)(dst:Option Nat)(ts:List Nat)(args:List AV)(s:St)(K:bd):Prop:=
 match b,p,dst,ts,args with
 | .append,[],some d,[t,t'],[x,y]=>bif du t t' then(bif zq C 1000 (some d)then QG C t d x y s K else GL C t d x y s K)else False
 | .copy,[],_,[t,_],[x,y]=>QF C t x y s K
 | .len,_,_,_,_=>match Jz C.I C.L .len ts args with
  |some (.v (.int k m))=> ∃z,m=z∧K (.v (.int k z)) s
  |_=>False
 |_,_,_,_,_=>False
def GI(C:dK)(p:Path)(t:Nat)(n:Int)(x:AV)(s:St)(K:bd):Prop:=
 match x with
 | .v (.string b)=>bif isStr C.L t then∃z:Int,under s p (0≤n∧ ∃c:UInt8,b[n.toNat]? =some c∧(c.toNat:Int)=z)∧K (.v (.int .u8 z)) s else False
 | .ar m z xs=>match C.L t with
  |some ti=>match ti.k with
   | .arr m' e=>match C.L e with
    |some tj=>bif du tj.size 1&&(!tj.agg&&(du m m'&&du z 1))then∃a,under s p (0≤n∧xs[n.toNat]? =some [a])∧K a s else False
    |none=>False
   |_=>False
  |none=>False
 |a=>GW C p t n a s K
def isLen:Op→Bool
 | .call {callee:= .builtin .len,..}=>true
 |_=>false
def Bc(I:Pr)(L:nv)(s:St)(p:Path)(o:Op):Option AV:=bif isLen o then none else qY I L s p o
def U0(C:dK)(p:Path)(o:Oper)(s:St)(K:bd):Prop:=
 match o.op with
 | .makeMap t none=>match o.dst,p with
  |some d,[]=>CK C t d s K
  |_,_=>False
 | .insert t m k v=>match p with
  |[]=>GH C t (bM s p m) (bM s p k) (bM s p v) s K
  |_=>False
 | .lookup t m k false=>GG C p t (bM s p m) (bM s p k) s K
 | .mapEntry t m k=>match o.dst,p with
  |some d,[]=>K8 C t d (bM s p m) (bM s p k) s K
  |_,_=>False
 | .entryStore _ m st v=>match p with
  |[]=>xt C (bM s p m) (bM s p st) (bM s p v) s K
  |_=>False
 | .binOp .eql t x y _=>OG C p false t (bM s p x) (bM s p y) s K
 | .binOp .neq t x y _=>OG C p true t (bM s p x) (bM s p y) s K
 | .pick c a b=>QM C p c a b s K
 | .box _ x=>match o.dst,p with
  |some d,[]=>aaJ C d (bM s p x) s K
  |_,_=>False
 | .alloc e=>match o.dst,p with
  |some d,[]=>Lg C d e s K
  |_,_=>False
 | .store t x y=>match p with
  |[]=>GA C t (bM s p x) (bM s p y) s K
  |_=>False
 | .load t x=>bif zq C 2000 o.dst then(match o.dst,p with
   |some d,[]=>QE C t d (bM s p x) s K
   |_,_=>False)else Nn C p t (bM s p x) s K
 | .indexAddr t x y=>match intOf (bM s p y)with
  |some n=>xIdx C p t n (bM s p x) s K
  |none=>False
 | .index t x y=>match intOf (bM s p y)with
  |some n=>GI C p t n (bM s p x) s K
  |none=>False
 | .buildSlice t len parts=>match o.dst with
  |some d=>bif My (d+3000) C.op then(match p with
   |[]=>GK C t len d parts.toList s K
   |_=>False)else uj C p t len d parts.toList s K
  |none=>False
 | .makeFunc f first cap=>match first.toList with
  |[]=>QO C p f cap.toList s K
  |l=>match cap.toList with
   |[]=>bif ca (l.map fun x=>rd (bM s p x))then K (.bm f (l.map fun x=>rd (bM s p x))) s else False
   |_=>False
 | .makeSlice t x y=>match o.dst,p,intOf (bM s p x),intOf (bM s p y)with
  |some d,[],some n,some m=>QD C t d n m s K
  |_,_,_,_=>False
 | .slice t x lo hi mx=>match mx with
  |none=>K6 C p t lo hi (bM s p x) s K
  |some _=>False
 | .call c=>match c.callee with
  | .value f=>Zv (noI C o.dst) p (bM s p f) (c.args.toList.map fun x=>rd (bM s p x)) s K
  | .builtin b=>yu C p b o.dst c.argTypes.toList (c.args.toList.map (bM s p)) s K
  |_=>False
 |_=>False
def ed(s:St)(d:Nat):Path:=match look d s.c with|some q=>q|none=>[]
def Kt:Option Nat→Nat→Bool
 |some e,d=> !du e d
 |none,_=>true
def GP(C:dK)(all:List Oper)(o:Oper)(s:St)(K:St→Prop):Prop:=
  match o.guard with
  |none=>
    (match Bc C.I C.L s [] o.op with
    |some a=>vL s o.dst=true∧K (s.put [] o.dst a)
    |none=>U0 C [] o s (fun a s'=>vL s' o.dst=true∧K (s'.put [] o.dst a)))
  |some (j,b)=>match all[j]? with
   |none=>False
   |some og=>match og.dst with
    |none=>False
    |some d=>bif vL s o.dst&&(isBool (look d s.t)&&Kt o.dst d)then
      (match Bc C.I C.L s (ed s d++[(d,b)]) o.op with
      |some a=>vL s o.dst=true∧K (s.put (ed s d++[(d,b)]) o.dst a)
      |none=>U0 C (ed s d++[(d,b)]) o s (fun a s'=>vL s' o.dst=true∧K (s'.put (ed s d++[(d,b)]) o.dst a)))
     else False
def QJ(C:dK)(all:List Oper):List Oper→St→(St→Prop)→Prop
 |[],s,K=>K s
 |o::rest,s,K=>GP C all o s (fun s'=>QJ C all rest s' K)
def CN(C:dK)(all:List Oper):Tree→St→(St→Prop)→Prop
 | .done,s,K=>K s
 | .one i t,s,K=>match all[i]? with
  |some o=>GP C all o s (fun s'=>CN C all t s' K)
  |none=>False
 | .fork i t u,s,K=>(match all[i]? with
  |some o=>GP C all o s (fun s'=>CN C all t s' K)
  |none=>False)∧CN C all u s K
 | .nil,_,_=>True
def forget:List (Nat×Path)→List (Nat×AV)→List (Nat×AV)
 |[],t=>t
 |(d,_)::r,t=>forget r (del d t)
def St.clean(s:St):St:={s with t:=forget s.c s.t,c:=[]}
def Uh:List Nat→List (Nat×AV)→List (Nat×AV)
 |[],t=>t
 |d::r,t=>Uh r (del d t)
def St.Fb(s:St)(l:List Nat):St:={s with t:=Uh l s.t}
def wkT(t:List (Nat×AV)):List (Nat×AV)→Prop
 |[]=>True
 |(d,b)::r=>(match look d t with|some a=>Nl a b|none=>Nl .any b)∧wkT t r
def ahi:Ob→Ob→Prop
 | .box cs,.box cs'=>Zt cs cs'
 | .arr z xs,.arr z' xs'=>z=z'∧xs=xs'
 | .ow p l xs,.ow p' l' xs'=>p=p'∧l=l'∧xs=xs'
 | .lp n t ps nq body st,.lp n' t' U2 UD KA st'=>n=n'∧wkT t t'∧ps=U2∧nq=UD∧body=KA∧st=st'
 |_,_=>False
def wkU:List Fr→List Fr→Prop
 |[],[]=>True
 |f::r,f'::r'=>(f.n=f'.n∧wkT f.t f'.t)∧wkU r r'
 |_,_=>False
def wkB(t:List (Nat×Ob)):List (Nat×Ob)→Prop
 |[]=>True
 |(d,b)::r=>(match look d t with|some a=>ahi a b|none=>False)∧wkB t r
def hasB(b:List (Nat×Ob)):List Nat→Bool
 |[]=>true
 |d::r=>(match look d b with|some _=>true|none=>false)&&hasB b r
def SV(b:List (Nat×Ob)):List (Nat×AV)→Bool
 |[]=>true
 |(_,a)::r=>hasB b (zc a)&&SV b r
def okB(b:List (Nat×Ob)):List (Nat×Ob)→Bool
 |[]=>true
 |(_,.box cs)::r=>hasB b (jR cs)&&okB b r
 |(_,.arr _ _)::r=>okB b r
 |(_,.ow _ _ _)::r=>okB b r
 |(_,.lp _ t _ _ _ _)::r=>SV b t&&okB b r
def okU(b:List (Nat×Ob)):List Fr→Bool
 |[]=>true
 |f::r=>SV b f.t&&okU b r
def Pf(s:St):Bool:=SV s.b s.t&&(okB s.b s.b&&okU s.b s.up)
def wk(s s':St):Prop:=
 s.n=s'.n∧s.c=[]∧s'.c=[]∧s.g=s'.g∧s.nx=s'.nx∧wkT s.t s'.t∧wkB s.b s'.b∧wkU s.up s'.up∧Pf s'=true∧s.fl=s'.fl
def I9(ρ:Nat)(l:List Nat)(s:St)(K:St→Prop):Prop:=match jw ρ l s with
 |some s1=> ∃s2,wk s1 s2∧K s2
 |none=>False
def QQ{α:Type}:List (Nat×α)→List (Nat×α)→List (Nat×α)
 |[],t=>t
 |(d,x)::r,t=>QQ r (cX d x t)
def p8(s:St)(vu:Option (List Fr))(vt:List (Nat×AV))(vb:List (Nat×Ob))(vg:Nat→Option Ob)(vn:Nat):St:=
 {s with t:=QQ vt s.t,b:=QQ vb s.b,g:=vg,nx:=vn,up:=match vu with|none=>s.up|some u=>u}
def U1(R:St→Prop)(Q:Ex→St→Prop)(e:Ex)(s:St):Prop:=
 match e with
 | .normal=>R s
 |e=>Q e s
def jk(W:St→(Ex→St→Prop)→Prop)(Q:Ex→St→Prop):Nat→St→Prop
 |0,_=>False
 |n+1,s=>W s (U1 (fun s'=>jk W Q n s'∨ ∃s2,wk s' s2∧jk W Q n s2) Q)
def px(W:St→(Ex→St→Prop)→Prop)(n:Nat)(s:St)(Q:Ex→St→Prop):Prop:=jk W Q n s∨ ∃s2,wk s s2∧jk W Q n s2
def Nj(W:St→(Ex→St→Prop)→Prop)(s:St)(Q:Ex→St→Prop):Prop:= ∃n,px W n s Q
def aei(b0:List (Nat×Ob))(l:List Nat)(d:Nat):Bool:=match look d b0 with|some _=>true|none=>My d l
def ZP(b:List (Nat×Ob)):List Nat→List Nat
 |[]=>[]
 |d::r=>(match look d b with|some (.box cs)=>jR cs|_=>[])++ZP b r
def reach(b:List (Nat×Ob)):Nat→List Nat→List Nat
 |0,l=>l
 |n+1,l=>match l with
  |[]=>[]
  |l=>l++reach b n (ZP b l)
def wh(b0:List (Nat×Ob)):List (Nat×Ob)→List Nat
 |[]=>[]
 |(d,.box cs)::r=>(match look d b0 with|some _=>jR cs|none=>[])++wh b0 r
 |_::r=>wh b0 r
def xe(b0:List (Nat×Ob))(l:List Nat):List (Nat×Ob)→List (Nat×Ob)
 |[]=>[]
 |(d,o)::r=>bif aei b0 l d then(d,o)::xe b0 l r else xe b0 l r
def Mb:List Nat→List AV→List (Nat×AV)→List (Nat×AV)
 |p::ps,a::ab,t=>Mb ps ab (cX p a t)
 |_,_,t=>t
def KF(n:Nat):List Nat→Bool
 |[]=>true
 |p::r=>rm p n&&KF n r
def DP{α β:Type}:List α→List β→Bool
 |[],[]=>true
 |_::r,_::q=>DP r q
 |_,_=>false
def Xf:Ex→LS
 | .normal=> .WK
 |e=> .dn e
def aeg:Ex→Bool
 | .normal=>true
 |_=>false
def Lu(kd l:Nat)(b0:List (Nat×Ob))(K:bd)(e:Ex)(s:St):Prop:=
 match s.up,look kd s.b with
 |f::u,some (.lp n t ps nq body .busy)=>
  n.1=l∧(fun s'=>(bif Pf s' then K (.v (.bool (aeg e))) s' else False))
   {n:=f.n,t:=f.t,c:=[],g:=s.g,nx:=s.nx,up:=u,fl:=s.fl,b:=xe b0 (reach s.b 4 (wh b0 s.b)) (cX kd (.lp n t ps nq body (Xf e)) s.b)}
 |_,_=>False
def GN(kd:Nat)(ps:List Nat)(nq body:Unit→Code)(Wa Wb:St→(Ex→St→Prop)→Prop)(args:List AV)(s:St)(K:bd):Prop:=
 match look kd s.b with
 |some (.lp n t U2 UD KA .WK)=>(U2=ps∧UD=nq∧KA=body)∧
   (bif DP ps args&&KF n.2 ps&&ca args then
    Wa {s with n:=n.2,t:=Mb ps args t,c:=[],up:={n:=s.n,t:=s.clean.t}::s.up} (fun e s4=>match e with
     | .normal=>(match look kd s4.b with
      |some (.lp n4 t ps nq body .WK)=>n4.1=n.1∧Wb {s4 with b:=cX kd (.lp n4 t ps nq body .busy) s4.b} (Lu kd n.1 s.b K)
      |_=>False)
     |_=>False)
   else False)
 |_=>False
def Zy(kd l:Nat)(Q:Ex→St→Prop)(s:St):Prop:=
 match look kd s.b with
 |some (.lp n _ _ _ _ st)=>n.1=l∧(fun s'=>(bif Pf s' then(match st with| .WK=>Q .normal s'| .dn e=>Q e s'|_=>False)else False)) {s.clean with b:=del kd s.b}
 |_=>False
def Zu(W:St→(St→Prop)→Prop)(s:St)(Q:St→Prop):Prop:= ∃s',W s (fun s1=>s1=s'∨wk s1.clean s')∧ ∃s2,s'.clean=s2∧Q s2
def pt(C:dK):Code→St→(Ex→St→Prop)→Prop
 | .skip,s,Q=>Q .normal s
 | .label _,s,Q=>Q .normal s
 | .region id ops false,s,Q=>QJ C ops.toList ops.toList s (fun s'=>bif My (id+5000) C.op then I9 C.ρ (KC s'.b) (s'.clean.Fb (C.dead id)) (fun s2=>Q .normal s2)else Q .normal (s'.clean.Fb (C.dead id)))
 | .region id ops true,s,Q=>Zu (fun s K=>CN C ops.toList (C.tree id) s K) s (fun s'=>bif My (id+5000) C.op then I9 C.ρ (KC s'.b) (s'.Fb (C.dead id)) (fun s2=>Q .normal s2)else Q .normal (s'.Fb (C.dead id)))
 | .seq a b,s,Q=>pt C a s (fun e s'=>match e with| .normal=>pt C b s' Q|e=>Q e s')
 | .cond c a b,s,Q=>match bM s [] c with
  | .v (.bool x)=>(x=true→pt C a s Q)∧(x=false→pt C b s Q)
  |_=>False
 | .block id a,s,Q=>pt C a s (fun e s'=>match e with| .exit k=>(bif du k id then Q .normal s' else Q (.exit k) s')|e=>Q e s')
 | .loop a,s,Q=>Nj (fun s Q=>pt C a s Q) s Q
 | .exit id,s,Q=>Q (.exit id) s
 | .ret,s,Q=>Q .ret s
 | .scope a,s,Q=>pt C a s Q
 | .rangeFunc g ps nq body,s,Q=>match bM s [] g,look (C.base+999) s.b with
  | .fn (.func k) cap,none=> ∀l:Nat,C.At (fun d args s2 K2=>bif du d (C.base+999)
    then GN (C.base+999) ps.toList (fun _=>nq) (fun _=>body) (fun s Q=>pt C nq s Q) (fun s Q=>pt C body s Q) args s2 K2 else C.yl d args s2 K2)
    k (.po (.s (C.base+999))::cap) {s.clean with b:=cX (C.base+999) (.lp (l,s.n) s.clean.t ps.toList (fun _=>nq) (fun _=>body) .WK) s.b} (fun _ s2=>Zy (C.base+999) l Q s2)
  |_,_=>False
 |_,_,_=>False
end Ab
namespace Ab
open Go
theorem xJ{a b:Nat}(h:a≠b):du a b=false:=by
 cases hb:du a b with
 |false=>rfl
 |true=>exact absurd (dy hb) h
theorem fc(a:Nat):du a a=true:=Ud a
theorem aC{α:Type}(d k:Nat)(x:α)(r:List (Nat×α)):look d ((k,x)::r)=if k=d then some x else look d r:=by
 simp only[look]
 by_cases h:k=d
 ·subst h;simp
 ·rw[xJ h,if_neg h];rfl
theorem aF{α:Type}(d e:Nat)(x:α): ∀t,look d (cX e x t)=if e=d then some x else look d t
 |[]=>by simp[cX,aC,look]
 |(k,y)::r=>by
  simp only[cX]
  by_cases h1:k=e
  ·subst h1;rw[fc,cond_true,aC,aC];split<;>rfl
  ·rw[xJ h1,cond_false]
   cases h2:rm e k with
   |true=>rw[cond_true,aC]
   |false=>
    rw[cond_false,aC,aC,aF d e x r]
    by_cases h3:k=d
    ·rw[if_pos h3,if_pos h3,if_neg];omega
    ·rw[if_neg h3,if_neg h3]
theorem bK{α:Type}(d:Nat)(x:α)(t:List (Nat×α)):look d (cX d x t)=some x:=by rw[aF,if_pos rfl]
theorem uZ{α:Type}{d e:Nat}(x:α)(h:d≠e)(t:List (Nat×α)):look d (cX e x t)=look d t:=by rw[aF,if_neg (Ne.symm h)]
theorem ij{α:Type}(d e:Nat): ∀(t:List (Nat×α)),look d (del e t)=if e=d then none else look d t
 |[]=>by simp[del,look]
 |(k,y)::r=>by
  simp only[del]
  by_cases h1:k=e
  ·subst h1;rw[fc,cond_true,ij d k r,aC];split<;>rfl
  ·rw[xJ h1,cond_false,aC,aC,ij d e r]
   by_cases h3:k=d
   ·rw[if_pos h3,if_pos h3,if_neg];omega
   ·rw[if_neg h3,if_neg h3]
theorem JN{α:Type}{d e:Nat}(h:e≠d)(t:List (Nat×α)):look e (del d t)=look e t:=by rw[ij,if_neg (Ne.symm h)]
structure agq(P:Program)(t:Nat)(ti:TI):Prop where
 ex: ∃i d z,P.info? t=some i∧i.size=ti.size∧i.bytes=ti.bytes∧i.zero=some z∧z.cells.toList=ti.zero∧P.underlying t=some d∧
  (match ti.k with
   | .slice e=>d= .slice e
   | .da fs=> ∃F:Array Field,d= .struct F∧F.size=fs.length∧ ∀(j o z:Nat),fs[j]? =some (o,z)→ ∃f i',F[j]? =some f∧f.offset=o∧P.info? f.type=some i'∧i'.size=z
   | .arr n e=>d= .array n e
   | .map k e=>d= .map k e
   | .int k=>d= .int k
   | .bool=>d= .bool
   | .str=>d= .string
   | .sc=>(match d with| .struct _=>False| .array _ _=>False|_=>True))
 K0:ti.zero.length=ti.size
 alH: ∀x∈ti.zero,qV x=true
 zv:ti.agg=false→ ∀i z,P.info? t=some i→i.zero=some z→qV z=true
 fts: ∀F,P.underlying t=some (.struct F)→ ∀(j t':Nat),ti.ft[j]? =some t'→ ∃f:Field,F[j]? =some f∧f.type=t'
structure bk(P:Program)(L:nv):Prop where
 ok: ∀t ti,L t=some ti→agq P t ti
def xW:Ex→Option Code
 | .normal=>none
 | .exit k=>some (.exit k)
 | .ret=>some .ret
def agr:LS→LoopState→Option Code→Prop
 | .WK,s,p=>s= .ready∧p=none
 | .busy,s,_=>s= .busy
 | .dn e,s,p=>s= .done∧p=xW e∧p≠none
 | .exh,s,_=>s= .exhausted
def qS(E:Env)(t:Tok)(r:Nat)(ys:List (List AV))(v:Value):Prop:=
 (ys=[]∧v= .slice none 0 0)∨ ∃z b c e cells,v= .slice (some ⟨b,0,none⟩) ys.length c∧ys.length≤c∧c≤maxLen∧(ys.length=0→c=0)∧0<z∧(∀l∈ys,l.length=z)∧E.dH b=r∧
  E.h[b]? =some (.cells cells e (0,0))∧cells.size=c*z∧E.own b= .tok t∧ ∀o,E.aM b o↔o<ys.length*z
def Eu:Value→Option Nat
 | .slice (some a) _ _=>some a.block
 |_=>none
def Key.tok:Key→Tok
 | .s d=> .n d
 | .o d=> .n d
def Ml(z:Nat):Option (Nat×Nat)→Nat→Prop
 |some (i,off),q=>q=i*z+off
 |none,_=>False
def Fm(E:Env)(t:Tok)(z:Nat)(sa:Option (Nat×Nat))(xs:List (List AV))(u:Nat→Value):Prop:=
 (∀(q r:Nat) (ys:List (List AV)),xs.flatten[q]? =some (.sl r ys)→ ¬Ml z sa q→qS E t r ys (u q))∧
 ∀(q q' r r':Nat) (ys CE:List (List AV)) (b:Nat),xs.flatten[q]? =some (.sl r ys)→xs.flatten[q']? =some (.sl r' CE)→ ¬Ml z sa q→ ¬Ml z sa q'→q≠q'→Eu (u q)=some b→Eu (u q')≠some b
def bw:List VK→List Value→Bool
 |[],[]=>true
 | .int k::r,.int k' _::q=>(k==k')&&bw r q
 | .str::r,.string _::q=>bw r q
 | .bool::r,.bool _::q=>bw r q
 |_,_=>false
def fD:List Value→Value
 |[x]=>x
 |l=> .agg l.toArray
def Ez(p:OwK)(len:Nat×Nat)(ob:Option Obj)(xs:List (List AV))(u:Nat→Value):Prop:=
 match p with
 | .sl z=>0<z∧(∀l∈xs,l.length=z)∧xs.length=len.1∧len.1≤len.2∧len.2≤maxLen∧ ∃c e,ob=some (.cells c e (0,0))∧c.size=len.2*z∧ ∀(q:Nat) (a:AV),xs.flatten[q]? =some a→c[q]? =some (u q)
 | .mp ks st=>(∀l∈xs,l.length=ks.length+1)∧ ∃es clock,ob=some (.map es clock)∧(∀i z,st=some (i,z)→ ∃e,es[i]? =some e∧(e.born:Int)=z)∧es.size=xs.length∧(∀(i:Nat) (e:MapEntry),es[i]? =some e→e.born<clock)∧
   (∀(i j:Nat) (e e':MapEntry),es[i]? =some e→es[j]? =some e'→e.born=e'.born→i=j)∧
   ∀(i:Nat) (row:List AV) (e:MapEntry),xs[i]? =some row→es[i]? =some e→ ∃kv:List Value,bw ks kv=true∧row.take ks.length=kv.map .v∧e.key=fD kv∧u (i*(ks.length+1)+ks.length)=e.val∧ ∀j x,kv[j]? =some x→u (i*(ks.length+1)+j)=x
def cf(E:Env)(k:Key):Ob→Prop
 | .box cs=>E.live k∧ ∃c e,E.h[E.m k]? =some (.cells c e (0,0))∧E.own (E.m k)= .key k∧(∀o,¬E.aM (E.m k) o)∧c.size=cs.length∧
   ∀(q:Nat) (a:AV) (x:Value),cs[q]? =some a→c[q]? =some x→Cz E a x
 | .arr z xs=>E.live k∧E.len k=(xs.length,xs.length)∧0<z∧(∀l∈xs,l.length=z)∧xs.length≤maxLen∧ ∃c e,E.h[E.m k]? =some (.cells c e (0,0))∧E.own (E.m k)= .key k∧(∀o,¬E.aM (E.m k) o)∧c.size=xs.length*z∧
   (∀(q:Nat) (a:AV),xs.flatten[q]? =some a→cq a=true)∧ ∀(q:Nat) (a:AV) (x:Value),xs.flatten[q]? =some a→c[q]? =some x→Cz E a x
 | .ow p sa xs=>E.live k∧E.own (E.m k)= .key k∧(∀o,¬E.aM (E.m k) o)∧(∀(q:Nat) (a:AV),xs.flatten[q]? =some a→cq a=true)∧ ∃u:Nat→Value,Ez p (E.len k) E.h[E.m k]? xs u∧
   (∀(q:Nat) (a:AV),xs.flatten[q]? =some a→Cz E a (u q))∧Fm E k.tok p.z sa xs u
 | .lp n t ps nq body st=>E.live k∧E.own (E.m k)= .key k∧(∀o,¬E.aM (E.m k) o)∧ ∃rec:Loop,E.h[E.m k]? =some (.loop rec)∧rec.tmps.size=n.2∧rec.params.toList=ps∧rec.assign=nq ()∧rec.body=body ()∧agr st rec.state rec.pending∧E.m k=n.1∧
   ∀d x,look d t=some x→Cz E x (rec.tmps.getD d undef)
def aq3(E:Env)(a:Act)(f:Fr):Prop:=a.tmps.size=f.n∧ ∀d x,look d f.t=some x→Cz E x (a.tmps.getD d undef)
def kI(E:Env):List Act→List Fr→Prop
 |[],[]=>True
 |a::ab,f::fs=>aq3 E a f∧kI E ab fs
 |_,_=>False
def Dfs(n0:Nat)(E:Env)(l:List Deferred):Prop:=
 ∃Bs:List Nat,l=Bs.map (fun B=>{target:= .collected B,args:= #[]})∧Bs.Nodup∧ ∀B∈Bs,E.h[B]? =some (.deferred (some []))∧E.own B= .jF∧n0≤B
def PY(a:Act)(up:List Act):List Deferred:=a.defers++(up.map (·.defers)).flatten
def iC(w0 w:World):Prop:=w.os=w0.os∧w.tape=w0.tape∧w.output=w0.output
theorem iC.refl(w:World):iC w w:=⟨rfl,rfl,rfl⟩
theorem iC.trans{a b c:World}(h:iC a b)(k:iC b c):iC a c:=⟨k.1.trans h.1,k.2.1.trans h.2.1,k.2.2.trans h.2.2⟩
def dz(o:Own):Prop:=o.dz=true
def GOk(g:Nat→Option Ob):Prop:= ∀i ob,g i=some ob→match ob with
 | .box cs=> ∀(q:Nat) (a:AV),cs[q]? =some a→cq a=true
 | .arr _ _=>True
 | .ow .. =>False
 | .lp .. =>False
theorem qS.mono{E E':Env}{t:Tok}{r:Nat}{ys:List (List AV)}{v:Value}(h:qS E t r ys v)(hn: ∀b,E.own b= .tok t→b<E.h.size→E'.own b= .tok t∧E'.h[b]? =E.h[b]? ∧(∀o,E'.aM b o↔E.aM b o)∧E'.dH b=E.dH b):qS E' t r ys v:=by
 rcases h with h|⟨z,b,c,e,cells,h1,h2,h3,h4,h5,h6,h7,h8,h9,zU,H3⟩
 ·exact .inl h
 ·obtain⟨k1,k2,k3,k4⟩:=hn b zU (Array.getElem?_eq_some_iff.1 h8).1
  exact .inr ⟨z,b,c,e,cells,h1,h2,h3,h4,h5,h6,k4.trans h7,k2.trans h8,h9,k1,fun o=>(k3 o).trans (H3 o)⟩
theorem Fm.mono{E E':Env}{t:Tok}{z:Nat}{sa:Option (Nat×Nat)}{xs:List (List AV)}{u:Nat→Value}(h:Fm E t z sa xs u)(hn: ∀b,E.own b= .tok t→b<E.h.size→E'.own b= .tok t∧E'.h[b]? =E.h[b]? ∧(∀o,E'.aM b o↔E.aM b o)∧E'.dH b=E.dH b):Fm E' t z sa xs u:=
 ⟨fun q r ys hq hl=>(h.1 q r ys hq hl).mono hn,h.2⟩
theorem yR{E E':Env}{k:Key}{p:OwK}{sa:Option (Nat×Nat)}{xs:List (List AV)}(hl:E.live k→E'.live k)(hm:E'.m k=E.m k)(qe:E'.len k=E.len k)(ho:E.own (E.m k)= .key k→E'.own (E.m k)= .key k∧E'.h[E.m k]? =E.h[E.m k]? ∧ ∀o,E'.aM (E.m k) o→E.aM (E.m k) o)
  (hc: ∀(a:AV) (x:Value),cq a=true→Cz E a x→Cz E' a x)(hn: ∀b,E.own b= .tok k.tok→b<E.h.size→E'.own b= .tok k.tok∧E'.h[b]? =E.h[b]? ∧(∀o,E'.aM b o↔E.aM b o)∧E'.dH b=E.dH b)(h:cf E k (.ow p sa xs)):cf E' k (.ow p sa xs):=by
 obtain⟨h1,h2,h3,h4,u,h5,h6,h7⟩:=h
 obtain⟨k1,k2,k3⟩:=ho h2
 exact⟨hl h1,by rw[hm];exact k1,fun o=>by rw[hm];exact fun hh=>h3 o (k3 o hh),h4,u,by rw[hm,qe,k2];exact h5,fun q a ha=>hc a _ (h4 q a ha) (h6 q a ha),h7.mono hn⟩
structure bn(E0 E:Env)(w0 w:World)(s:St)(a:Act):Prop where
 heap:w.heap=E.h
 wf:Wf E
 IG:Dfs E0.h.size E (PY a E0.up)
 up:kI E E0.up s.up
 sz:a.tmps.size=s.n
 tm: ∀d x,look d s.t=some x→aZ s (ed s d)→Cz E x (a.tmps.getD d undef)
 cu: ∀d q,look d s.c=some q→ ¬aZ s q→a.tmps.getD d undef=undef
 bx: ∀d ob,look d s.b=some ob→cf E (.s d) ob
 lv: ∀d,E.live (.s d)→ ∃ob,look d s.b=some ob
 gx: ∀i ob,s.g i=some ob→cf E (.o i) ob
 gl: ∀i,E.live (.o i)↔i<s.nx
 ext:Ext dz E0 E
 xc: ∀b,b<E0.h.size→(E.own b).loc=false
 same:iC w0 w
 gk:GOk s.g
 nl: ∀d,¬E0.live (.s d)
 ng: ∀b,¬dz (E.own b)
 lo:s.fl=true→ ∀b,¬dz (E0.own b)∧ ∀o,E0.aM b o→E0.dH b<1000000
theorem Bd{s:St}: ∀{q p:Path},sR q p=true→aZ s p→aZ s q
 |[],_,_,_=>trivial
 |(d,w)::r,[],h,_=>by simp[sR]at h
 |(d,w)::r,(e,v)::p,h,hp=>by
  simp only[sR,Bool.and_eq_true]at h
  have h1:d=e:=dy h.1.1
  have h2:w=v:=by simpa using h.1.2
  subst h1;subst h2
  exact⟨hp.1,Bd h.2 hp.2⟩
theorem bn.slot{E0 E:Env}{w0 w:World}{s:St}{a:Act}(h:bn E0 E w0 w s a){p:Path}(hp:aZ s p)(d:Nat):Cz E (Dg s p d) (a.tmps.getD d undef):=by
 unfold Dg
 cases h1:look d s.t with
 |none=>exact .any _
 |some x=>
  have ht:=h.tm d x h1
  unfold ed at ht
  cases h2:look d s.c with
  |none=>rw[h2]at ht;exact ht trivial
  |some q=>
   rw[h2]at ht
   dsimp only
   by_cases h3:sR q p=true
   ·rw[h3];exact ht (Bd h3 hp)
   ·simp only[h3,cond_false];exact .any _
theorem bn.ev{E0 E:Env}{w0 w:World}{s:St}{a:Act}(h:bn E0 E w0 w s a){p:Path}(hp:aZ s p)(x:Operand):Cz E (bM s p x) (a.eval x):=by
 cases x with
 |tmp d=>exact h.slot hp d
 |const x=>exact .v _
 |global g=>exact .any _
 |func f=>exact .fn _ [] [] rfl (fun q a y h _=>by simp at h)
theorem lj{s s':St}: ∀{p:Path},(∀d,HW d p=true→look d s'.t=look d s.t)→(aZ s' p↔aZ s p)
 |[],_=>Iff.rfl
 |(d,w)::r,h=>by
  simp only[aZ]
  rw[h d (by simp[HW]),lj (p:=r) (fun e he=>h e (by simp[HW,he]))]
theorem zf{c:List (Nat×Path)}{d e:Nat}{q:Path}(h:look d c=some q)(he:HW e q=true):PA e c=true:=by
 induction c with
 |nil=>simp[look]at h
 |cons x r ih=>
  obtain⟨k,y⟩:=x
  rw[aC]at h
  by_cases h1:k=d
  ·rw[if_pos h1]at h;cases h;simp[PA,he]
  ·rw[if_neg h1]at h;simp[PA,ih h]
theorem uq(a:Act)(d e:Nat)(x:Value)(hd:d<a.tmps.size):(a.put (some d) x).tmps.getD e undef=if e=d then x else a.tmps.getD e undef:=by
 simp only[Act.put,Array.getD_eq_getD_getElem?]
 by_cases h:e=d
 ·subst h;simp[hd]
 ·rw[if_neg h,Array.getElem?_setIfInBounds_ne (Ne.symm h)]
theorem bn.put{E0 E:Env}{w0 w:World}{s:St}{a:Act}(h:bn E0 E w0 w s a){p:Path}{dst:Option Nat}(hd:vL s dst=true)(vf: ∀d,dst=some d→HW d p=false){r:AV}{x:Value}
  (hx:(aZ s p∧Cz E r x)∨(¬aZ s p∧x=undef)):bn E0 E w0 w (s.put p dst r) (a.put dst x):=by
 cases dst with
 |none=>exact h
 |some d=>
  simp only[vL,Bool.and_eq_true,Bool.not_eq_true']at hd
  have hd1:d<s.n:=by simpa using hd.1
  have hdn:d<a.tmps.size:=by rw[h.sz];exact hd1
  have ui: ∀e q,look e s.c=some q→HW d q=false:=fun e q hq=>by
   by_cases hh:HW d q=true
   ·rw[zf hq hh]at hd;exact absurd hd.2 (by simp)
   ·simpa using hh
  have Tz: ∀q:Path,HW d q=false→(aZ (s.put p (some d) r) q↔aZ s q):=fun q hq=>
   lj fun e he=>by
    have:e≠d:=fun hh=>by subst hh;rw[he]at hq;cases hq
    exact uZ r this _
  have hp:=Tz p (vf d rfl)
  have hc: ∀e,e≠d→look e (s.put p (some d) r).c=look e s.c:=fun e he=>by
   cases p with
   |nil=>exact JN he _
   |cons _ _=>exact uZ _ he _
  have hlp: ∀e,e≠d→ed (s.put p (some d) r) e=ed s e:=fun e he=>by unfold ed;rw[hc e he]
  have XG: ∀e,HW d (ed s e)=false:=fun e=>by
   unfold ed
   cases h2:look e s.c with
   |none=>rfl
   |some q=>exact ui e q h2
  refine⟨h.heap,h.wf,h.IG,h.up,by simp[Act.put,St.put,h.sz],?_,?_,h.bx,h.lv,h.gx,h.gl,h.ext,h.xc,h.same,h.gk,h.nl,h.ng,h.lo⟩
  ·intro e y he hpe
   rw[uq a d e x hdn]
   by_cases Qk:e=d
   ·subst Qk
    rw[if_pos rfl]
    have:look e (cX e r s.t)=some r:=bK e r s.t
    have oT:look e (cX e r s.t)=some y:=he
    rw[this]at oT;cases oT
    rcases hx with hx|hx
    ·exact hx.2
    ·exfalso
     cases p with
     |nil=>exact hx.1 trivial
     |cons p0 pr=>
      have:ed (s.put (p0::pr) (some e) r) e=p0::pr:=by unfold ed;rw[show look e (s.put (p0::pr) (some e) r).c=some (p0::pr)from bK e _ _]
      rw[this]at hpe
      exact hx.1 (hp.1 hpe)
   ·rw[if_neg Qk]
    rw[hlp e Qk]at hpe
    exact h.tm e y (by rw[←uZ r Qk s.t];exact he) ((Tz _ (XG e)).1 hpe)
  ·intro e q he hpe
   rw[uq a d e x hdn]
   by_cases Qk:e=d
   ·subst Qk
    rw[if_pos rfl]
    cases p with
    |nil=>
     have:look e (del e s.c)=none:=by rw[ij,if_pos rfl]
     have oT:look e (del e s.c)=some q:=he
     rw[this]at oT;cases oT
    |cons p0 pr=>
     have:look e (s.put (p0::pr) (some e) r).c=some (p0::pr):=bK e _ _
     rw[this]at he;cases he
     rcases hx with hx|hx
     ·exact absurd (hp.2 hx.1) hpe
     ·exact hx.2
   ·rw[if_neg Qk]
    rw[hc e Qk]at he
    exact h.cu e q he (fun hh=>hpe ((Tz q (ui e q he)).2 hh))
end Ab
namespace Ab
open Go
variable{P:Program}{L:nv}{E0 E:Env}{w0 w:World}{s:St}{a:Act}{p:Path}
theorem eT{t:Nat}{d:TypeDesc}(h:P.underlying t=some d)(w:World):(underlying t).run P w= .ok d w:=by simp[underlying,go_sem,h]
theorem kh{t:Nat}{i:TypeInfo}(h:P.info? t=some i)(w:World):(Go.sizeOf t).run P w= .ok i.size w:=by simp[Go.sizeOf,typeInfo,go_sem,h]
theorem ef(b o k:Nat):(⟨b,o,none⟩:Addr).add k=⟨b,o+k,none⟩:=by unfold Addr.add;split<;>simp_all
theorem lb(hL:bk P L){t f o:Nat}(hf:gb L t f=some o)(b q:Nat)(w:World):(Instr.fieldAt t (.pointer (some ⟨b,q,none⟩)) f).run P w= .ok (.pointer (some ⟨b,q+o,none⟩)) w:=by
 unfold gb at hf
 cases ht:L t with
 |none=>simp[ht]at hf
 |some ti=>
  obtain⟨k,size,bytes,zero⟩:=ti
  rw[ht]at hf
  cases k with
  |da fs=>
   obtain⟨i,d,z,h1,h2,h3,h4,h5,h6,F,h7,h8,h9⟩:=(hL.ok t _ ht).ex
   dsimp only at hf
   cases hfs:fs[f]? with
   |none=>simp[hfs]at hf
   |some oz=>
    obtain⟨o',z'⟩:=oz
    rw[hfs]at hf
    dsimp only at hf
    by_cases hz:z'=0
    ·subst hz;simp at hf
    ·rw[xJ hz]at hf
     simp only[cond_false,Option.some.injEq]at hf
     subst hf
     obtain⟨fd,i',g1,g2,g3,g4⟩:=h9 f o' z' hfs
     subst h7
     simp[Instr.fieldAt,fieldPlace,underlying,Go.sizeOf,typeInfo,Instr.sureAddr,go_sem,h6,g1,g3,g4,hz,g2,ef]
  |_=>simp at hf
theorem run_loadCells(P:Program)(w:World)(b o:Nat): ∀(n i:Nat) (acc:Array Value) (ys:List Value),ys.length=n→(∀(q:Nat) (y:Value),ys[q]? =some y→aO w.heap b (o+i+q)=some y)→
  (loadCellsFrom ⟨b,o,none⟩ i n acc).run P w= .ok (acc++ys.toArray) w
 |0,i,acc,ys,hl,h=>by
  have:ys=[]:=List.eq_nil_of_length_eq_zero hl
  subst this
  simp[loadCellsFrom,go_sem]
 |n+1,i,acc,ys,hl,h=>by
  cases ys with
  |nil=>simp at hl
  |cons y r=>
   have h0:w.cell? ⟨b,o+i,none⟩=some y:=by rw[jr];simpa using h 0 y (by simp)
   have ih:=run_loadCells P w b o n (i+1) (acc.push y) r (by simpa using hl) (fun q z hz=>by have:=h (q+1) z (by simpa using hz);rw[show o+(i+1)+q=o+i+(q+1)from by omega];exact this)
   unfold loadCellsFrom
   simp only[ef]
   rw[show((do let v←load ⟨b,o+i,none⟩;loadCellsFrom ⟨b,o,none⟩ (i+1) n (acc.push v)):Sem (Array Value)).run P w=(loadCellsFrom ⟨b,o,none⟩ (i+1) n (acc.push y)).run P w from by simp[go_sem,load,h0,Sem.run,Result.andThen]]
   rw[ih]
   simp
theorem iX(hL:bk P L){t:Nat}{ti:TI}(ht:L t=some ti){cs:List AV}{off b o:Nat}{r:AV}(jj:part ti cs off=some r)
  (IE: ∀(q:Nat) (a:AV),cs[q]? =some a→ ∃y,aO w.heap b (o+q)=some y∧Cz E a y):
  ∃x,(Instr.loadAt t (.pointer (some ⟨b,o+off,none⟩))).run P w= .ok x w∧Cz E r x:=by
 obtain⟨i,d,z,h1,h2,h3,h4,h5,h6,h7⟩:=(hL.ok t _ ht).ex
 unfold part at jj
 cases hle:mL (off+ti.size) cs.length with
 |false=>simp[hle]at jj
 |true=>
  have aeG:off+ti.size≤cs.length:=by simpa using hle
  rw[hle,cond_true]at jj
  cases so:ti.agg with
  |true=>
   rw[so,cond_true]at jj
   cases jj
   have hex: ∀n,n≤ti.size→ ∃ys:List Value,ys.length=n∧(∀(q:Nat) (y:Value),ys[q]? =some y→aO w.heap b (o+off+q)=some y)∧ ∀(q:Nat) (a:AV) (y:Value),(cut cs off ti.size)[q]? =some a→ys[q]? =some y→Cz E a y:=by
    intro n
    induction n with
    |zero=>intro _;exact⟨[],rfl,fun q y h=>by simp at h,fun q a y _ h=>by simp at h⟩
    |succ n ih=>
     intro hn
     obtain⟨ys,hl,hc,hz⟩:=ih (by omega)
     obtain⟨y,zh,hy2⟩:=IE (off+n) (cs[off+n]'(by omega)) (by simp)
     refine⟨ys++[y],by simp[hl],fun q y' hq=>?_,fun q a' y' ha hq=>?_⟩
     ·by_cases aS:q<n
      ·exact hc q y' (by rw[List.getElem?_append_left (by omega)]at hq;exact hq)
      ·have:q=n:=by
        have:=(List.getElem?_eq_some_iff.1 hq).1
        simp at this;omega
       subst this
       rw[List.getElem?_append_right (by omega)]at hq
       simp[hl]at hq;subst hq
       rw[Nat.add_assoc];exact zh
     ·by_cases aS:q<n
      ·exact hz q a' y' ha (by rw[List.getElem?_append_left (by omega)]at hq;exact hq)
      ·have:q=n:=by
        have:=(List.getElem?_eq_some_iff.1 hq).1
        simp at this;omega
       subst this
       rw[List.getElem?_append_right (by omega)]at hq
       simp[hl]at hq;subst hq
       simp only[cut,List.getElem?_take,List.getElem?_drop]at ha
       rw[if_pos (by omega)]at ha
       rw[List.getElem?_eq_getElem (by omega)]at ha
       cases ha
       exact hy2
   obtain⟨ys,hl,hc,hz⟩:=hex ti.size (Nat.le_refl _)
   refine⟨.agg ys.toArray,?_,.agg _ ys (by rw[hl];simp[cut];omega) hz⟩
   have N2:=run_loadCells P w b (o+off) ti.size 0 #[] ys hl (by simpa using hc)
   have DX: ∀w,(isAgg t).run P w= .ok true w:=by
    intro w
    unfold TI.agg at so
    cases hk:ti.k with
    |da fs=>rw[hk]at h7;obtain⟨F,h7,_⟩:=h7;subst h7;simp[isAgg,underlying,go_sem,h6]
    |arr n e=>rw[hk]at h7;subst h7;simp[isAgg,underlying,go_sem,h6]
    |_=>rw[hk]at so;simp at so
   simp only[Instr.loadAt,Instr.sureAddr,loadVar,loadCells]
   simp[go_sem,DX,Go.sizeOf,typeInfo,h1,h2,N2]
  |false=>
   rw[so,cond_false]at jj
   cases hg:cs[off]? with
   |none=>rw[hg]at jj;simp at jj
   |some a0=>
    rw[hg]at jj
    simp only[Option.some.injEq]at jj
    subst jj
    obtain⟨y,zh,hy2⟩:=IE off a0 hg
    refine⟨y,?_,hy2⟩
    have DX: ∀w,(isAgg t).run P w= .ok false w:=by
     intro w
     unfold TI.agg at so
     cases hk:ti.k with
     |da fs=>rw[hk]at so;simp at so
     |arr n e=>rw[hk]at so;simp at so
     |sc=>rw[hk]at h7;dsimp only at h7;cases d<;>simp_all [isAgg,underlying,go_sem]
     |_=>rw[hk]at h7;dsimp only at h7;subst h7;simp[isAgg,underlying,go_sem,h6]
    have h0:w.cell? ⟨b,o+off,none⟩=some y:=by rw[jr];exact zh
    simp[Instr.loadAt,Instr.sureAddr,loadVar,go_sem,DX,load,h0,Sem.run]
theorem om{a:AV}{x:Value}(h:Cz E a x){k:Nat}(hk:zJ a=some k):x.cells.size=k∧(cellsOf a).length=k∧ ∀(q:Nat) (a':AV) (y:Value),(cellsOf a)[q]? =some a'→x.cells[q]? =some y→Cz E a' y:=by
 have one: ∀(a:AV) (x:Value),Cz E a x→x.cells= #[x]→cellsOf a=[a]→x.cells.size=1∧(cellsOf a).length=1∧ ∀(q:Nat) (a':AV) (y:Value),(cellsOf a)[q]? =some a'→x.cells[q]? =some y→Cz E a' y:=
  fun a x h hx ha=>by
   rw[hx,ha]
   refine⟨rfl,rfl,fun q a' y h1 h2=>?_⟩
   cases q with
   |zero=>simp at h1 h2;subst h1;subst h2;exact h
   |succ q=>simp at h1
 cases h with
 |any x=>simp[zJ]at hk
 |gd=>simp[zJ]at hk
 |v x=>
  simp only[zJ,Option.some.injEq]at hk
  subst hk
  cases x with
  |agg c=>
   refine⟨rfl,by simp[cellsOf,Value.cells],fun q a' y h1 h2=>?_⟩
   simp only[cellsOf,List.getElem?_map,Array.getElem?_toList]at h1
   simp only[Value.cells]at h2
   rw[h2]at h1
   simp at h1;subst h1;exact .v _
  |_=>exact one _ _ (.v _) rfl rfl
 |agg cs ys hl hq=>
  simp only[zJ,Option.some.injEq]at hk
  subst hk
  exact⟨by simp[Value.cells,hl],rfl,fun q a' y h1 h2=>hq q a' y h1 (by simpa[Value.cells]using h2)⟩
 |mZ r A c=>cases hk;exact one _ _ (.mZ _ _ _) rfl rfl
 |sl r xs z b o c u h1 h2 h3 h4 h5 h6 h7 h8 h9 zU=>cases hk;exact one _ _ (.sl r xs z b o c u h1 h2 h3 h4 h5 h6 h7 h8 h9 zU) rfl rfl
 |sq r t=>cases hk;exact one _ _ (.sq _ _) rfl rfl
 |gs r t xs z b c e cells u h1 h2 h3 h4 h5 h6 h7 h8 h9 zU H3 h12 h13=>cases hk;exact one _ _ (.gs r t xs z b c e cells u h1 h2 h3 h4 h5 h6 h7 h8 h9 zU H3 h12 h13) rfl rfl
 |aP r cs off b o u h1 h2 h3 h4 h5=>cases hk;exact one _ _ (.aP r cs off b o u h1 h2 h3 h4 h5) rfl rfl
 |ptr k off hl=>cases hk;exact one _ _ (.ptr _ _ hl) rfl rfl
 |iq k n h1 h2 h3 h4=>cases hk;exact one _ _ (.iq _ _ h1 h2 h3 h4) rfl rfl
 |cQ k i off z hl=>cases hk;exact one _ _ (.cQ _ _ _ _ hl) rfl rfl
 |mp k hl=>cases hk;exact one _ _ (.mp _ hl) rfl rfl
 |ar=>simp[zJ]at hk
 |po k hl=>cases hk;exact one _ _ (.po _ hl) rfl rfl
 |bm f cs ys hl hi hq=>cases hk;exact one _ _ (.bm f cs ys hl hi hq) rfl rfl
 |mN r z xs x hz h=>
  cases hk
  have h':=h
  cases h with
  |aP=>exact one _ _ (.mN r z xs _ hz h') rfl rfl
 |fn f cap ys hl hq=>cases hk;exact one _ _ (.fn f cap ys hl hq) rfl rfl
theorem M1{n z:Nat}{xs:List (List AV)}{x:Value}(h:Cz E (.ar n z xs) x):Cz E (.agg xs.flatten) x∧xs.length=n∧(∀l∈xs,l.length=z)∧ca xs.flatten=true:=by
 cases h with
 |ar _ _ _ ys hn hz hl hi hq=>exact⟨.agg _ ys (by rw[hl,aE hz,hn]) hq,hn,hz,wo hi⟩
theorem UG{n z:Nat}{xs:List (List AV)}{x:Value}(h:Cz E (.agg xs.flatten) x)(hn:xs.length=n)(hz: ∀l∈xs,l.length=z)(hi: ∀(q:Nat) (a:AV),xs.flatten[q]? =some a→cq a=true):Cz E (.ar n z xs) x:=by
 cases h with
 |agg _ ys hl hq=>exact .ar n z xs ys hn hz (by rw[hl,aE hz,hn]) hi hq
def Row(E:Env)(cs:List AV)(c:Array Value):Prop:=c.size=cs.length∧ ∀(q:Nat) (a:AV) (y:Value),cs[q]? =some a→c[q]? =some y→Cz E a y
theorem pj(off:Nat): ∀(vs:List Value) (k:Nat) (c:Array Value),off+k+vs.length≤c.size→
  ((vs.zipIdx k).foldl (fun cs (x,j)=>cs.setIfInBounds (off+j) x) c).size=c.size∧
  ∀q,((vs.zipIdx k).foldl (fun cs (x,j)=>cs.setIfInBounds (off+j) x) c)[q]? =if off+k≤q∧q<off+k+vs.length then vs[q - (off+k)]? else c[q]?
 |[],k,c,_=>⟨rfl,fun q=>by simp;omega⟩
 |v::r,k,c,h=>by
  simp only[List.length_cons]at h
  obtain⟨h1,h2⟩:=pj off r (k+1) (c.setIfInBounds (off+k) v) (by simp;omega)
  simp only[List.zipIdx_cons,List.foldl_cons]
  refine⟨by rw[h1];simp,fun q=>?_⟩
  rw[h2]
  by_cases hq:q=off+k
  ·subst hq
   rw[if_neg (by omega),if_pos ⟨by omega,by simp⟩]
   rw[Array.getElem?_setIfInBounds_self,if_pos (by omega)];simp
  ·rw[Array.getElem?_setIfInBounds_ne (by omega)]
   by_cases aS:off+k≤q∧q<off+k+(r.length+1)
   ·rw[if_pos ⟨by omega,by omega⟩,if_pos (by simpa using aS)]
    rw[show q - (off+k)=(q - (off+(k+1)))+1 from by omega]
    simp
   ·rw[if_neg (by omega),if_neg (by simpa using aS)]
theorem xx{cs vs:List AV}{o q:Nat}(h:o+vs.length≤cs.length):(bE cs o vs)[q]? =if o≤q∧q<o+vs.length then vs[q - o]? else cs[q]? :=by
 unfold bE
 by_cases h1:q<o
 ·rw[if_neg (by omega),List.append_assoc,List.getElem?_append_left (by simp;omega),List.getElem?_take,if_pos h1]
 ·rw[List.append_assoc,List.getElem?_append_right (by simp;omega)]
  have hm:min o cs.length=o:=by omega
  simp only[List.length_take,hm]
  by_cases h2:q<o+vs.length
  ·rw[if_pos ⟨by omega,h2⟩,List.getElem?_append_left (by omega)]
  ·rw[if_neg (by omega),List.getElem?_append_right (by omega),List.getElem?_drop]
   congr 1;omega
theorem ka{cs vs:List AV}{o:Nat}(h:o+vs.length≤cs.length):(bE cs o vs).length=cs.length:=by
 unfold bE;simp;omega
theorem Row.bE{cs vs:List AV}{c:Array Value}{o:Nat}{ys:List Value}(h:Row E cs c)(ho:o+vs.length≤cs.length)(hl:ys.length=vs.length)
  (hy: ∀(q:Nat) (a:AV) (y:Value),vs[q]? =some a→ys[q]? =some y→Cz E a y):Row E (Ab.bE cs o vs) (ys.zipIdx.foldl (fun cs (x,j)=>cs.setIfInBounds (o+j) x) c):=by
 obtain⟨h1,h2⟩:=pj o ys 0 c (by rw[h.1];omega)
 refine⟨by rw[h1,ka ho];exact h.1,fun q a y ha hq=>?_⟩
 rw[xx ho]at ha
 rw[h2]at hq
 by_cases hc:o≤q∧q<o+vs.length
 ·rw[if_pos hc]at ha
  rw[if_pos (by simpa[hl]using hc)]at hq
  exact hy _ a y ha (by simpa using hq)
 ·rw[if_neg hc]at ha
  rw[if_neg (by simpa[hl]using hc)]at hq
  exact h.2 q a y ha hq
def vS(E:Env)(ps:List (Nat×AV))(vs:List (Nat×Value)):Prop:=ps.length=vs.length∧ ∀(q:Nat) (a:Nat×AV) (y:Nat×Value),ps[q]? =some a→vs[q]? =some y→a.1=y.1∧Cz E a.2 y.2
theorem vS.cons{p:Nat×AV}{ps:List (Nat×AV)}{vs:List (Nat×Value)}(h:vS E (p::ps) vs): ∃y ys,vs=y::ys∧p.1=y.1∧Cz E p.2 y.2∧vS E ps ys:=by
 cases vs with
 |nil=>simp[vS]at h
 |cons y ys=>
  have h0:=h.2 0 p y (by simp) (by simp)
  exact⟨y,ys,rfl,h0.1,h0.2,by have:=h.1;simpa using this,fun q a y ha hy=>h.2 (q+1) a y (by simpa using ha) (by simpa using hy)⟩
theorem D7{fs:List (Nat×Nat)}{place:Nat→Option (Nat×Nat)}(hp: ∀j o z,fs[j]? =some (o,z)→place j=some (o,z)):
  ∀{ps:List (Nat×AV)} {vs:List (Nat×Value)} {cs cs':List AV} {c:Array Value},vS E ps vs→Row E cs c→Gf fs cs ps=some cs'→ ∃c',Instr.fill place c vs=some c'∧Row E cs' c'
 |[],vs,cs,cs',c,h,hr,hf=>by
  have:vs=[]:=List.eq_nil_of_length_eq_zero (by have:=h.1;simp at this;omega)
  subst this
  simp only[Gf,Option.some.injEq]at hf;subst hf
  exact⟨c,by simp[Instr.fill],hr⟩
 |(i,a)::ps,vs,cs,cs',c,h,hr,hf=>by
  obtain⟨⟨i',y⟩,ys,rfl,h1,h2,h3⟩:=h.cons
  dsimp only at h1 h2
  subst h1
  simp only[Gf]at hf
  cases hfs:fs[i]? with
  |none=>rw[hfs]at hf;simp at hf
  |some oz=>
   obtain⟨o,z⟩:=oz
   rw[hfs]at hf
   dsimp only at hf
   cases hk:zJ a with
   |none=>rw[hk]at hf;simp at hf
   |some k=>
    rw[hk]at hf
    dsimp only at hf
    cases hb:du k z&&mL (o+z) cs.length with
    |false=>rw[hb]at hf;simp at hf
    |true=>
     rw[hb,cond_true]at hf
     simp only[Bool.and_eq_true]at hb
     have hkz:k=z:=dy hb.1
     have hle:o+z≤cs.length:=by simpa using hb.2
     obtain⟨c1,c2,c3⟩:=om h2 hk
     have mh:=hr.bE (o:=o) (vs:=cellsOf a) (ys:=y.cells.toList) (by omega) (by simp;omega) (fun q a' y' h1 h2=>c3 q a' y' h1 (by simpa using h2))
     obtain⟨c',g1,g2⟩:=D7 hp h3 mh hf
     refine⟨c',?_,g2⟩
     simp only[Instr.fill,hp i o z hfs]
     rw[if_neg (by simp only[Bool.or_eq_true,bne_iff_ne,decide_eq_true_eq,ne_eq,not_or,Decidable.not_not];exact⟨by omega,by rw[hr.1];omega⟩)]
     rw[←g1]
     congr 1
     rw[←Array.foldl_toList]
     simp
theorem Bu{z:Nat}:
  ∀{ps:List (Nat×AV)} {vs:List (Nat×Value)} {cs cs':List AV} {c:Array Value},vS E ps vs→Row E cs c→nP z cs ps=some cs'→ ∃c',Instr.fill (fun i=>some (i*z,z)) c vs=some c'∧Row E cs' c'
 |[],vs,cs,cs',c,h,hr,hf=>by
  have:vs=[]:=List.eq_nil_of_length_eq_zero (by have:=h.1;simp at this;omega)
  subst this
  simp only[nP,Option.some.injEq]at hf;subst hf
  exact⟨c,by simp[Instr.fill],hr⟩
 |(i,a)::ps,vs,cs,cs',c,h,hr,hf=>by
  obtain⟨⟨i',y⟩,ys,rfl,h1,h2,h3⟩:=h.cons
  dsimp only at h1 h2
  subst h1
  simp only[nP]at hf
  cases hk:zJ a with
  |none=>rw[hk]at hf;simp at hf
  |some k=>
   rw[hk]at hf
   dsimp only at hf
   cases hb:du k z&&mL (i*z+z) cs.length with
   |false=>rw[hb]at hf;simp at hf
   |true=>
    rw[hb,cond_true]at hf
    simp only[Bool.and_eq_true]at hb
    have hkz:k=z:=dy hb.1
    have hle:i*z+z≤cs.length:=by simpa using hb.2
    obtain⟨c1,c2,c3⟩:=om h2 hk
    have mh:=hr.bE (o:=i*z) (vs:=cellsOf a) (ys:=y.cells.toList) (by omega) (by simp;omega) (fun q a' y' h1 h2=>c3 q a' y' h1 (by simpa using h2))
    obtain⟨c',g1,g2⟩:=Bu h3 mh hf
    refine⟨c',?_,g2⟩
    simp only[Instr.fill]
    rw[if_neg (by simp only[Bool.or_eq_true,bne_iff_ne,decide_eq_true_eq,ne_eq,not_or,Decidable.not_not];exact⟨by omega,by rw[hr.1];omega⟩)]
    rw[←g1]
    congr 1
    rw[←Array.foldl_toList]
    simp
theorem Jc{α β:Type}(P:Program){g:α→Sem β}{h:α→β}(w:World): ∀(l:List α),(∀x∈l,(g x).run P w= .ok (h x) w)→(l.mapM g).run P w= .ok (l.map h) w
 |[],_=>by simp[go_sem]
 |x::r,hx=>by
  have h1:=hx x (by simp)
  have h2:=Jc P w r (fun y hy=>hx y (by simp[hy]))
  rw[List.mapM_cons]
  simp[go_sem,h1,h2]
theorem Jd{α β:Type}(P:Program){g:α→Sem β}{h:α→β}(w:World)(l:Array α)(hx: ∀x∈l.toList,(g x).run P w= .ok (h x) w):(l.mapM g).run P w= .ok (l.map h) w:=by
 rw[Array.mapM_eq_mapM_toList]
 have:=Jc P w l.toList hx
 simp[go_sem,this]
 exact Array.toList_inj.1 (by simp)
theorem run_build(hL:bk P L){t:Nat}{ps:List (Nat×AV)}{r:AV}(hr:Mc L t ps=some r){vs:Array (Nat×Value)}(hv:vS E ps vs.toList)(w:World):
  ∃x,(Instr.build t vs).run P w= .ok x w∧Cz E r x:=by
 unfold Mc at hr
 cases ht:L t with
 |none=>rw[ht]at hr;simp at hr
 |some ti=>
  have j8:=hL.ok t ti ht
  rw[ht]at hr
  obtain⟨k,size,bytes,zero⟩:=ti
  cases k with
  |da fs=>
   dsimp only at hr
   obtain⟨i,d,z,h1,h2,h3,h4,h5,h6,F,h7,h8,h9⟩:=j8.ex
   cases hf:Gf fs (zero.map .v) ps with
   |none=>rw[hf]at hr;simp at hr
   |some cs=>
    rw[hf]at hr
    simp only[Option.some.injEq]at hr
    subst hr;subst h7
    dsimp only at h5 h8 h9
    let Nv:Field→Nat:=fun f=>((P.info? f.type).map (·.size)).getD 0
    have Xz:((F.mapM fun f=>do pure (f.offset,←Go.sizeOf f.type):Sem (Array (Nat×Nat)))).run P w= .ok (F.map fun f=>(f.offset,Nv f)) w:=by
     refine Jd P w F fun f hfm=>?_
     obtain⟨j,hj,he⟩:=List.getElem_of_mem hfm
     have hj':j<fs.length:=by rw[←h8];simpa using hj
     obtain⟨f',i',g1,g2,g3,g4⟩:=h9 j (fs[j]).1 (fs[j]).2 (List.getElem?_eq_getElem hj')
     have:f'=f:=by
      have:F[j]? =some f:=by rw[←he];simp
      rw[this]at g1;cases g1;rfl
     subst this
     simp[go_sem,Go.sizeOf,typeInfo,g3,Nv]
    have mh:Row E (zero.map AV.v) z.cells:=by
     refine⟨by rw[List.length_map,←h5];simp,fun q a y ha hy=>?_⟩
     rw[←h5,List.getElem?_map,Array.getElem?_toList,hy]at ha
     simp at ha;subst ha;exact .v _
    obtain⟨c',g1,g2⟩:=D7 (place:=((F.map fun f=>(f.offset,Nv f))[·]?)) (fun j o zz hj=>by
     obtain⟨f',i',g1,g2,g3,g4⟩:=h9 j o zz hj
     simp[g1,g2,Nv,g3,g4]) hv mh hf
    refine⟨.agg c',?_,?_⟩
    ·have hz: ∀w,(zeroValue t).run P w= .ok z w:=by intro w;simp[zeroValue,typeInfo,go_sem,h1,h4]
     have hu: ∀w,(underlying t).run P w= .ok (.struct F) w:=eT h6
     simp only[bind_pure_comp]at Xz
     unfold Instr.build
     simp only[Sem.run_bind,hz,hu,Xz,Result.andThen,bind_pure_comp]
     simp only[g1]
     rfl
    ·have:=Cz.agg (E:=E) cs c'.toList (by simpa using g2.1) (fun q a y ha hy=>g2.2 q a y ha (by simpa using hy))
     simpa using this
  |arr n e=>
   dsimp only at hr
   obtain⟨i,d,z,h1,h2,h3,h4,h5,h6,h7⟩:=j8.ex
   dsimp only at h5 h7
   subst h7
   cases he:L e with
   |none=>rw[he]at hr;simp at hr
   |some te=>
    rw[he]at hr
    dsimp only at hr
    obtain⟨ie,de,ze,g1,g2,_⟩:=(hL.ok e te he).ex
    cases hf:nP te.size (zero.map .v) ps with
    |none=>rw[hf]at hr;simp at hr
    |some cs=>
     rw[hf]at hr
     simp only[Option.some.injEq]at hr
     subst hr
     have mh:Row E (zero.map AV.v) z.cells:=by
      refine⟨by rw[List.length_map,←h5];simp,fun q a y ha hy=>?_⟩
      rw[←h5,List.getElem?_map,Array.getElem?_toList,hy]at ha
      simp at ha;subst ha;exact .v _
     obtain⟨c',k1,k2⟩:=Bu (z:=te.size) hv mh hf
     refine⟨.agg c',?_,?_⟩
     ·have hz: ∀w,(zeroValue t).run P w= .ok z w:=by intro w;simp[zeroValue,typeInfo,go_sem,h1,h4]
      have hu: ∀w,(underlying t).run P w= .ok (.array n e) w:=eT h6
      have hs: ∀w,(Go.sizeOf e).run P w= .ok te.size w:=fun w=>by rw[←g2];exact kh g1 w
      unfold Instr.build
      simp only[Sem.run_bind,hz,hu,hs,Result.andThen]
      simp only[k1]
      rfl
     ·have:=Cz.agg (E:=E) cs c'.toList (by simpa using k2.1) (fun q a y ha hy=>k2.2 q a y ha (by simpa using hy))
      simpa using this
  |_=>dsimp only at hr;simp at hr
theorem bH{x:Value}{k:Value}(h:Cz E (.v k) x):x=k:=by cases h;rfl
theorem SL(h:bn E0 E w0 w s a)(hp:aZ s p)(parts:List (Nat×Operand)):vS E (parts.map fun q=>(q.1,bM s p q.2)) (parts.map fun q=>(q.1,a.eval q.2)):=by
 refine⟨by simp,fun q x y hx hy=>?_⟩
 simp only[List.getElem?_map]at hx hy
 cases hq:parts[q]? with
 |none=>rw[hq]at hx;simp at hx
 |some z=>rw[hq]at hx hy;simp at hx hy;subst hx;subst hy;exact⟨rfl,h.ev hp _⟩
theorem Ky(a b:ByteArray):(a.toList==b.toList)=decide (a=b):=by
 have:a.toList=b.toList↔a=b:=⟨fun h=>by
  have ha:a.data.toList=b.data.toList:=by
   have e: ∀c:ByteArray,c.toList=c.data.toList:=fun c=>ByteArray.toList_eq c
   rw[←e,←e];exact h
  cases a;cases b;simp at ha;simp[ha],fun h=>by rw[h]⟩
 by_cases h:a=b
 ·subst h;simp
 ·have h': ¬a.toList=b.toList:=fun hh=>h (this.1 hh)
  simp[h,h']
theorem Gk{op:BinOp}{t:Nat}{x y r:Value}(h:bin an op x y=some r)(w:World):(binOp op t x y).run P w= .ok r w:=by
 unfold bin at h
 split at h<;>first
  |(rename_i k a k' b
    cases hk:k==k' with
    |false=>rw[hk]at h;simp at h
    |true=>
     have hkk:k=k':=by simpa using hk
     subst hkk
     rw[hk,cond_true]at h
     cases h
     first
      |(simp[binOp,Op.intArith,Op.intCmp,go_sem,an];done)
      |(simp[binOp,Op.intArith,Op.intCmp,go_sem,an];rfl))
  |(cases h
    simp[binOp,Op.stringOp,go_sem,an,Ky]
    done)
  |(cases h
    simp[binOp,Op.stringOp,go_sem,an,Ky]
    rfl)
  |(simp at h)
theorem Cz.len{x:Value}{r:Nat}{xs:List (List AV)}(h:Cz E (.sl r xs) x): ∃A c,x= .slice A xs.length c:=by
 cases h with
 |mZ r A c=>exact⟨A,c,rfl⟩
 |sl=>exact⟨_,_,rfl⟩
def UA:Op→Bool
 | .load _ _=>false
 | .build _ _=>false
 |_=>true
theorem Jx(hL:bk P L){t f:Nat}{x r:AV}{v:Value}(h:SM L t f x=some r)(hc:Cz E x v): ∃y,(∀w,(Instr.field t v f).run P w= .ok y w)∧Cz E r y:=by
 unfold SM at h
 split at h
 ·rename_i fs size bytes zero ft ta
  split at h
  ·rename_i o z t' hf ht'
   cases MA:L t' with
   |none=>rw[MA]at h;cases h
   |some tj=>
    rw[MA]at h
    obtain⟨cs,rfl⟩: ∃cs,x= .agg cs:=by cases x<;>first|exact⟨_,rfl⟩|cases h
    dsimp only at h
    cases hc with
    |agg _ ys hlen hq=>
    have j8:=hL.ok t _ ta
    obtain⟨i,d,zz,h1,h2,h3,h4,h5,h6,F,h7,h8,h9⟩:=j8.ex
    obtain⟨ff,i',g1,g2,g3,g4⟩:=h9 f o z hf
    obtain⟨ff',g5,g6⟩:=j8.fts F (h7▸h6) f t' ht'
    have hff:ff'=ff:=by rw[g1]at g5;exact(Option.some.inj g5).symm
    subst hff
    obtain⟨i2,d2,z2,k1,k2,k3,k4,k5,k6,k7⟩:=(hL.ok t' tj MA).ex
    have ai1: ∀w,(underlying t).run P w= .ok (.struct F) w:=fun w=>by rw[run_underlying h6,h7]
    have Z0: ∀w,(underlying t').run P w= .ok d2 w:=fun w=>run_underlying k6 w
    unfold part at h
    cases hle:mL (o+tj.size) cs.length with
    |false=>rw[hle]at h;cases h
    |true=>
     rw[hle,cond_true]at h
     have aeG:o+tj.size≤cs.length:=JS hle
     cases so:tj.agg with
     |true=>
      rw[so,cond_true]at h
      cases h
      have TN: ∀w,(isAgg t').run P w= .ok true w:=fun w=>by
       unfold TI.agg at so
       unfold isAgg
       rw[Sem.run_bind,Z0]
       simp only[Result.andThen]
       cases hk:tj.k<;>rw[hk]at so k7<;>try cases so
       ·obtain⟨F2,hF2,_⟩:=k7;rw[hF2];rfl
       ·dsimp only at k7;rw[k7];rfl
      refine⟨.agg (ys.toArray.extract o (o+tj.size)),fun w=>?_,?_⟩
      ·simp[Instr.field,Sem.run_bind,ai1,Result.andThen,g1,g6,g2,asAgg,Go.part,TN,kh k1,k2]
      ·have e:ys.toArray.extract o (o+tj.size)=((ys.drop o).take tj.size).toArray:=by
        apply Array.toList_inj.1
        rw[Array.toList_extract,List.extract_eq_take_drop]
        simp
       rw[e]
       refine .agg _ _ (by simp[cut,hlen]) fun q a y ha hy=>?_
       unfold cut at ha
       rw[List.getElem?_take]at ha hy
       split at ha
       ·rw[List.getElem?_drop]at ha
        rw[if_pos (by assumption),List.getElem?_drop]at hy
        exact hq _ a y ha hy
       ·cases ha
     |false=>
      rw[so,cond_false]at h
      cases IE:cs[o]? with
      |none=>rw[IE]at h;cases h
      |some b=>
       rw[IE]at h
       cases h
       have aS:o<ys.length:=by rw[hlen];exact(List.getElem?_eq_some_iff.1 IE).1
       have hy:ys[o]? =some ys[o]:=by simp[aS]
       have TN: ∀w,(isAgg t').run P w= .ok false w:=fun w=>by
        unfold TI.agg at so
        unfold isAgg
        rw[Sem.run_bind,Z0]
        simp only[Result.andThen]
        cases hk:tj.k<;>rw[hk]at so k7<;>try cases so
        all_goals first
         |(dsimp only at k7;subst k7;rfl)
         |(dsimp only at k7;cases d2<;>first|rfl|exact k7.elim)
       refine⟨ys[o],fun w=>?_,hq o _ _ IE hy⟩
       simp[Instr.field,Sem.run_bind,ai1,Result.andThen,g1,g6,g2,asAgg,Go.part,TN,aS]
  ·cases h
 ·cases h
theorem uD(hL:bk P L)(h:bn E0 E w0 w s a)(hp:aZ s p){o:Oper}{r:AV}(hr:qY an L s p o.op=some r):
  ∃x,(∀w',(UA o.op=false→w'=w)→(execOp a.eval o).run P w'= .ok (.value x) w')∧Cz E r x:=by
 unfold qY at hr
 split at hr
 ·rename_i x he
  cases hr
  exact⟨a.eval x,fun _ _=>by simp[execOp,he,go_sem],h.ev hp x⟩
 ·rename_i x he
  cases hr
  exact⟨a.eval x,fun _ _=>by simp[execOp,he,go_sem],h.ev hp x⟩
 ·rename_i x he
  have hx:=h.ev hp x
  unfold ah9 at hr
  split at hr
  ·rename_i dO
   cases hr
   rw[dO]at hx
   cases dZ:a.eval x<;>rw[dZ]at hx<;>cases hx
   rename_i hl
   exact⟨.pointer (some ⟨E.m _,_,none⟩),fun w' BY=>by simp only[execOp,he,dZ];simp[go_sem],.ptr _ _ hl⟩
  ·rename_i rr cs off dO
   cases hr
   rw[dO]at hx
   cases dZ:a.eval x<;>rw[dZ]at hx<;>cases hx
   rename_i b q u k1 k2 k3 k4 k5
   exact⟨.pointer (some ⟨b,q+off,none⟩),fun w' BY=>by simp only[execOp,he,dZ];simp[go_sem],.aP _ cs off b q u k5 k1 k2 k3 k4⟩
  ·rename_i dO
   cases hr
   rw[dO]at hx
   cases dZ:a.eval x<;>rw[dZ]at hx<;>cases hx
   rename_i hl
   exact⟨.pointer (some ⟨E.m _,_,none⟩),fun w' BY=>by simp only[execOp,he,dZ];simp[go_sem],.cQ _ _ _ _ hl⟩
  ·rename_i rr z xs dO
   cases hr
   rw[dO]at hx
   have hx0:=hx
   cases hx with
   |mN _ _ _ _ hz hc=>
   cases dZ:a.eval x<;>rw[dZ]at hc hx0<;>cases hc
   rename_i b q u k1 k2 k3 k4 k5
   exact⟨.pointer (some ⟨b,q+0,none⟩),fun w' BY=>by simp only[execOp,he,dZ];simp[go_sem],hx0⟩
  ·simp at hr
 ·rename_i t x f he
  have hx:=h.ev hp x
  cases hf:gb L t f with
  |none=>rw[hf]at hr;simp at hr
  |some o'=>
   rw[hf]at hr
   dsimp only at hr
   unfold SO at hr
   split at hr
   ·rename_i k off dO
    cases hr
    rw[dO]at hx
    cases dZ:a.eval x<;>rw[dZ]at hx<;>cases hx
    rename_i hl
    exact⟨.pointer (some ⟨E.m k,off+o',none⟩),fun w' BY=>by simp only[execOp,he,dZ];simp[lb hL hf],.ptr _ _ hl⟩
   ·rename_i rr cs off dO
    cases hr
    rw[dO]at hx
    cases dZ:a.eval x<;>rw[dZ]at hx<;>cases hx
    rename_i b q u g1 g2 g3 g4 g5
    exact⟨.pointer (some ⟨b,q+off+o',none⟩),fun w' BY=>by simp only[execOp,he,dZ];simp[lb hL hf],by rw[Nat.add_assoc];exact .aP _ cs (off+o') b q u g5 g1 g2 g3 g4⟩
   ·rename_i k i off z dO
    cases hr
    rw[dO]at hx
    cases dZ:a.eval x<;>rw[dZ]at hx<;>cases hx
    rename_i hl
    exact⟨.pointer (some ⟨E.m k,i*z+off+o',none⟩),fun w' BY=>by simp only[execOp,he,dZ];simp[lb hL hf],by rw[Nat.add_assoc];exact .cQ k i (off+o') z hl⟩
   ·simp at hr
 ·rename_i t x he
  have hx:=h.ev hp x
  cases ht:L t with
  |none=>rw[ht]at hr;simp at hr
  |some ti=>
   rw[ht]at hr
   dsimp only at hr
   unfold SN at hr
   split at hr
   ·rename_i d off dO
    rw[dO]at hx
    split at hr
    ·rename_i cs fF
     cases dZ:a.eval x<;>rw[dZ]at hx<;>cases hx
     obtain⟨hl,c,e,hb,ho,hs,dC,hq⟩:=h.bx d _ fF
     obtain⟨y,g1,g2⟩:=iX (P:=P) (E:=E) (w:=w) hL ht (b:=E.m (.s d)) (o:=0) hr (fun q a' ha=>by
      have aS:q<c.size:=by rw[dC];exact(List.getElem?_eq_some_iff.1 ha).1
      refine⟨c[q],by simp[aO,h.heap,hb,aS],hq q a' _ ha (by simp)⟩)
     refine⟨y,?_,g2⟩
     rw[Nat.zero_add]at g1
     intro w' BY
     have e:=BY (by rw[he];rfl);subst e
     simp only[execOp,he,dZ];simp[g1]
    ·simp at hr
   ·rename_i rr cs off dO
    rw[dO]at hx
    cases dZ:a.eval x<;>rw[dZ]at hx<;>cases hx
    rename_i b q u k1 k2 k3 k4 k5
    obtain⟨y,g1,g2⟩:=iX (P:=P) (E:=E) (w:=w) hL ht (b:=b) (o:=q) hr (fun j a' ha=>⟨u j,by rw[h.heap];exact k3 j a' ha,k4 j a' ha⟩)
    exact⟨y,fun w' BY=>by have e:=BY (by rw[he];rfl);subst e;simp only[execOp,he,dZ];simp[g1],g2⟩
   ·simp at hr
 ·rename_i op t x y t' he
  have hx:=h.ev hp x
  have hy:=h.ev hp y
  unfold aib at hr
  split at hr
  ·rename_i u v hu hv
   rw[hu]at hx
   rw[hv]at hy
   cases hb:bin an op u v with
   |none=>rw[hb]at hr;simp at hr
   |some z=>
    rw[hb]at hr
    cases hr
    refine⟨z,?_,.v _⟩
    have e1:=bH hx
    have e2:=bH hy
    have hg: ∀w,(eqGuard op t x y (a.eval x) (a.eval y)).run P w= .ok () w:=by
     intro w
     rw[e1,e2]
     unfold bin at hb
     split at hb<;>first|(simp[eqGuard,go_sem];done)|(simp at hb)
    simp only[e1,e2]at hg
    intro w' _
    simp only[execOp,he,e1,e2]
    simp[Sem.run_bind,hg,Gk hb,Result.andThen]
  ·simp at hr
 ·rename_i op t x he
  have hx:=h.ev hp x
  unfold pUn at hr
  split at hr
  ·rename_i b dO
   cases hr
   rw[dO]at hx
   have e1:=bH hx
   exact⟨.bool (!b),fun w' BY=>by simp only[execOp,he,e1];simp[go_sem,Op.unary],.v _⟩
  ·simp at hr
 ·rename_i x i he
  have hx:=h.ev hp x
  unfold Jy at hr
  split at hr
  ·rename_i vs dO
   rw[dO]at hx
   cases dZ:a.eval x<;>rw[dZ]at hx<;>cases hx
   rename_i ys hl hq
   have aS:i<ys.length:=by rw[hl];exact(List.getElem?_eq_some_iff.1 hr).1
   exact⟨ys[i],fun w' BY=>by simp only[execOp,he,dZ];simp[go_sem,Instr.extract,aS],hq i r _ hr (by simp)⟩
  ·simp at hr
 ·rename_i t parts he
  obtain⟨x,g1,g2⟩:=run_build hL hr (vs:=parts.map fun q=>(q.1,a.eval q.2)) (by simpa using SL h hp parts.toList) w
  refine⟨x,?_,g2⟩
  intro w' BY
  have e:=BY (by rw[he];rfl);subst e
  have:(parts.map fun(i,x)=>(i,a.eval x))=parts.map fun q=>(q.1,a.eval q.2):=rfl
  simp[execOp,he,Sem.run_bind,this,g1,Result.andThen]
 ·rename_i t x f he
  obtain⟨y,h1,h2⟩:=Jx hL hr (h.ev hp x)
  exact⟨y,fun w' _=>by simp only[execOp,he];simp[Sem.run_bind,h1,Result.andThen],h2⟩
 ·rename_i c he
  split at hr
  ·rename_i b hb
   unfold Jz at hr
   split at hr
   ·rename_i t x Qh c5
    cases ta:L t with
    |none=>rw[ta]at hr;simp at hr
    |some ti=>
     rw[ta]at hr
     dsimp only at hr
     obtain⟨y,hy⟩: ∃y,c.args= #[y]:=by
      cases hc:c.args.toList with
      |nil=>rw[hc]at c5;simp at c5
      |cons y r=>cases r with
       |nil=>exact⟨y,Array.toList_inj.1 hc⟩
       |cons _ _=>rw[hc]at c5;simp at c5
     have ht:c.argTypes= #[t]:=Array.toList_inj.1 Qh
     rw[hy]at c5
     simp only[List.map_cons,List.map_nil,List.cons.injEq,and_true]at c5
     have hx:=h.ev hp y
     rw[c5]at hx
     obtain⟨i,d,z,h1,h2,h3,h4,h5,h6,h7⟩:=(hL.ok t ti ta).ex
     have key: ∀(n:Int) (w:World),(Builtin.len_ #[t] o.type #[a.eval y]).run P w= .ok (.int .i64 n) w→(execOp a.eval o).run P w= .ok (.value (.int .i64 n)) w:=fun n w hn=>by
      simp[execOp,he,resolve,hb,invoke,builtin,hy,ht,Sem.run_bind,hn,Result.andThen]
     unfold aia at hr
     split at hr
     ·rename_i e rr xs hk
      cases hr
      rw[hk]at h7;dsimp only at h7;subst h7
      obtain⟨A,cc,dZ⟩:=hx.len
      exact⟨.int .i64 xs.length,fun w' _=>key _ w' (by rw[dZ];simp[Builtin.len_,go_sem,underlying,h6,goInt]),.v _⟩
     ·rename_i e rr tt xs hk
      cases hr
      rw[hk]at h7;dsimp only at h7;subst h7
      obtain⟨A,cc,dZ⟩:=hx.read.len
      exact⟨.int .i64 xs.length,fun w' _=>key _ w' (by rw[dZ];simp[Builtin.len_,go_sem,underlying,h6,goInt]),.v _⟩
     ·rename_i e kk n hk
      cases hr
      rw[hk]at h7;dsimp only at h7;subst h7
      cases dZ:a.eval y<;>rw[dZ]at hx<;>cases hx
      exact⟨.int .i64 n,fun w' _=>key _ w' (by rw[dZ];simp[Builtin.len_,go_sem,underlying,h6,goInt]),.v _⟩
     ·rename_i b hk
      cases hr
      rw[hk]at h7;dsimp only at h7;subst h7
      have dZ:=bH hx
      exact⟨.int .i64 b.size,fun w' _=>key _ w' (by rw[dZ];simp[Builtin.len_,go_sem,underlying,h6,goInt]),.v _⟩
     ·rename_i e A n cc hk
      cases hr
      rw[hk]at h7;dsimp only at h7;subst h7
      have dZ:=bH hx
      exact⟨.int .i64 n,fun w' _=>key _ w' (by rw[dZ];simp[Builtin.len_,go_sem,underlying,h6,goInt]),.v _⟩
     ·rename_i n e hk
      cases hr
      rw[hk]at h7;dsimp only at h7;subst h7
      exact⟨.int .i64 n,fun w' _=>key _ w' (by simp[Builtin.len_,go_sem,underlying,h6,goInt]),.v _⟩
     ·simp at hr
   ·simp at hr
  ·simp at hr
 ·simp at hr
theorem sP(hL:bk P L)(h:bn E0 E w0 w s a)(hp:aZ s p){o:Oper}{r:AV}(hr:qY an L s p o.op=some r):
  ∃x,(execOp a.eval o).run P w= .ok (.value x) w∧Cz E r x:=
 let⟨x,h1,h2⟩:=uD hL h hp hr
 ⟨x,h1 w fun _=>rfl,h2⟩
end Ab
namespace Ab
open Go
variable{P:Program}{L:nv}{E0 E E':Env}{w0 w w':World}{s:St}{a:Act}{p:Path}
theorem r8(T:Tok→Bool)(d:Nat): ∀t,look d (fV T t)=(look d t).map (qg T)
 |[]=>rfl
 |(k,x)::r=>by
  simp only[fV,aC,r8 T d r]
  split<;>rfl
theorem cA(T:Tok→Bool)(d:Nat): ∀t,look d (eY T t)=(look d t).map (wU T)
 |[]=>rfl
 |(k,x)::r=>by
  simp only[eY,aC,cA T d r]
  split<;>rfl
def St.qg(T:Tok→Bool)(s:St):St:={s with t:=fV T s.t,b:=eY T s.b,up:=lO T s.up}
theorem iv(T:Tok→Bool): ∀{p:Path},aZ (s.qg T) p↔aZ s p
 |[]=>Iff.rfl
 |(d,b)::r=>by
  simp only[aZ,St.qg,r8]
  have ih:=iv T (p:=r)
  simp only[St.qg]at ih
  rw[ih]
  refine and_congr_left fun _=>?_
  cases look d s.t with
  |none=>rfl
  |some x=>
   cases x with
   |gs rr t xs=>cases ht:T t<;>simp[Ab.qg,ht,isB]
   |_=>rfl
def KJ(C:Own→Prop):Prop:= ∀o,C o→o.loc=true∨dz o
theorem Ext.xG{C:Own→Prop}(h:Ext dz E0 E)(k:Ext C E E')(hC:KJ C)(hold: ∀b,b<E0.h.size→(E.own b).loc=false):Ext dz E0 E':=
 ⟨Nat.le_trans h.size k.size,
  fun b o hs=>by obtain⟨h1,h2,h3⟩:=h.aM b o hs;obtain⟨k1,k2,k3⟩:=k.aM b o h1;exact⟨k1,k2.trans h2,k3.trans h3⟩,
  fun q hl=>by obtain⟨h1,h2,h3⟩:=h.live q hl;obtain⟨k1,k2,k3⟩:=k.live q h1;exact⟨k1,k2.trans h2,k3.trans h3⟩,
  fun b hb hn=>by
  obtain⟨h1,h2,h3,h4⟩:=h.bj b hb hn
  obtain⟨k1,k2,k3,k4⟩:=k.bj b (Nat.lt_of_lt_of_le hb h.size) (fun hc=>by
   rcases hC _ hc with hl|hg
   ·rw[hold b hb]at hl;cases hl
   ·rw[h1]at hg;exact hn hg)
  exact⟨k1.trans h1,k2.trans h2,fun o=>(k3 o).trans (h3 o),k4.trans h4⟩⟩
theorem Ext.xc{C:Own→Prop}(k:Ext C E E')(hC:KJ C)(h:Ext dz E0 E)(hold: ∀b,b<E0.h.size→(E.own b).loc=false)
  (xU: ∀b,b<E0.h.size→C (E.own b)→(E'.own b).loc=false): ∀b,b<E0.h.size→(E'.own b).loc=false:=fun b hb=>by
 by_cases hc:C (E.own b)
 ·exact xU b hb hc
 ·rw[(k.bj b (Nat.lt_of_lt_of_le hb h.size) hc).1];exact hold b hb
theorem v7{C:Own→Prop}(hE:Ext C E E')(hw:Wf E)(T:Tok→Bool)(hT: ∀t,C (.tok t)→T t=true){t:List (Nat×AV)}{A:Array Value}(h: ∀d x,look d t=some x→Cz E x (A.getD d undef)):
  ∀d x,look d (fV T t)=some x→Cz E' x (A.getD d undef):=by
 intro d x hd
 rw[r8]at hd
 cases hh:look d t with
 |none=>rw[hh]at hd;simp at hd
 |some y=>rw[hh]at hd;simp at hd;subst hd;exact((h d y hh).ext hE hw T hT).1
theorem cf.move{C:Own→Prop}(hE:Ext C E E')(hw:Wf E)(T:Tok→Bool)(hT: ∀t,C (.tok t)→T t=true){k:Key}{ob:Ob}(hk: ¬C (.key k))(hkn:aef (some ob)=true→ ¬C (.tok k.tok))(h:cf E k ob):cf E' k (wU T ob):=by
 cases ob with
 |ow p sa xs=>
  replace hkn:=hkn rfl
  have h0:=h
  obtain⟨hl,ho,_⟩:=h0
  obtain⟨l1,l2,l3⟩:=hE.live k hl
  have aS:E.m k<E.h.size:=hw.own _ (by rw[ho];simp)
  obtain⟨k1,k2,k3,k4⟩:=hE.bj (E.m k) aS (by rw[ho];exact hk)
  exact yR (fun _=>l1) l2 l3 (fun ho=>⟨k1.trans ho,k2,fun o=>(k3 o).1⟩) (fun a x hi hc=>(hc.ext hE hw T hT).2 hi) (fun b hb aS=>by
   obtain⟨q1,q2,q3,q4⟩:=hE.bj b aS (by rw[hb];exact hkn)
   exact⟨q1.trans hb,q2,q3,q4⟩) h
 |box cs=>
  obtain⟨hl,c,e,hb,ho,hs,dC,hq⟩:=h
  obtain⟨l1,l2,l3⟩:=hE.live k hl
  have aS:E.m k<E.h.size:=hw.own _ (by rw[ho];simp)
  obtain⟨k1,k2,k3,k4⟩:=hE.bj (E.m k) aS (by rw[ho];exact hk)
  refine⟨l1,c,e,?_,?_,?_,?_,?_⟩
  ·rw[l2,k2];exact hb
  ·rw[l2,k1];exact ho
  ·intro o;rw[l2,k3];exact hs o
  ·rw[dv];exact dC
  ·intro q a x ha hx
   rw[pC]at ha
   cases hh:cs[q]? with
   |none=>rw[hh]at ha;simp at ha
   |some a'=>rw[hh]at ha;simp at ha;subst ha;exact((hq q a' x hh hx).ext hE hw T hT).1
 |arr z xs=>
  obtain⟨hl,qe,dQ,hz,hm,c,e,hb,ho,hs,dC,hi,hq⟩:=h
  obtain⟨l1,l2,l3⟩:=hE.live k hl
  have aS:E.m k<E.h.size:=hw.own _ (by rw[ho];simp)
  obtain⟨k1,k2,k3,k4⟩:=hE.bj (E.m k) aS (by rw[ho];exact hk)
  refine⟨l1,l3.trans qe,dQ,hz,hm,c,e,?_,?_,?_,dC,hi,fun q a x ha hx=>((hq q a x ha hx).ext hE hw T hT).2 (hi q a ha)⟩
  ·rw[l2,k2];exact hb
  ·rw[l2,k1];exact ho
  ·intro o;rw[l2,k3];exact hs o
 |lp n t ps nq body st=>
  obtain⟨hl,ho,hs,rec,hb,h1,h2,h3,h4,h5,h6,hq⟩:=h
  obtain⟨l1,l2,l3⟩:=hE.live k hl
  have aS:E.m k<E.h.size:=hw.own _ (by rw[ho];simp)
  obtain⟨k1,k2,k3,k4⟩:=hE.bj (E.m k) aS (by rw[ho];exact hk)
  refine⟨l1,?_,?_,rec,?_,h1,h2,h3,h4,h5,l2.trans h6,v7 hE hw T hT hq⟩
  ·rw[l2,k1];exact ho
  ·intro o;rw[l2,k3];exact hs o
  ·rw[l2,k2];exact hb
theorem kI.move{C:Own→Prop}(hE:Ext C E E')(hw:Wf E)(T:Tok→Bool)(hT: ∀t,C (.tok t)→T t=true): ∀{ab:List Act} {fs:List Fr},kI E ab fs→kI E' ab (lO T fs)
 |[],[],_=>trivial
 |a::ab,f::fs,h=>⟨⟨h.1.1,v7 hE hw T hT h.1.2⟩,kI.move hE hw T hT h.2⟩
 |[],_::_,h=>h.elim
 |_::_,[],h=>h.elim
theorem Dfs.move{C:Own→Prop}(hE:Ext C E E')(hC: ¬C .jF){n0:Nat}{l:List Deferred}(h:Dfs n0 E l):Dfs n0 E' l:=by
 obtain⟨Bs,h1,h2,h3⟩:=h
 refine⟨Bs,h1,h2,fun B hB=>?_⟩
 obtain⟨h4,h5,h6⟩:=h3 B hB
 obtain⟨k1,k2,_⟩:=hE.bj B (Array.getElem?_eq_some_iff.1 h4).1 (by rw[h5];exact hC)
 exact⟨k2.trans h4,k1.trans h5,h6⟩
theorem KJ.jF{C:Own→Prop}(h:KJ C): ¬C .jF:=fun hc=>by
 rcases h _ hc with h|h
 ·cases h
 ·cases h
def EA(T:Tok→Bool):Prop:= ∀t,T t=false
 mutual
theorem jW{T:Tok→Bool}(h:EA T): ∀a,Ab.qg T a=a
  | .gs r t xs=>by simp[Ab.qg,h t]
  | .fn f cs=>by simp[Ab.qg,yA h cs]
  | .agg cs=>by simp[Ab.qg,yA h cs]
  | .gd cs=>by simp[Ab.qg,yA h cs]
  | .any=>rfl
  | .v _=>rfl
  | .sl _ _=>rfl
  | .aP _ _ _=>rfl
  | .ptr _ _=>rfl
  | .iq _ _=>rfl
  | .cQ _ _ _ _=>rfl
  | .mp _=>rfl
  | .po _=>rfl
  | .ar _ _ _=>rfl
  | .bm _ _=>rfl
  | .mN _ _ _=>rfl
theorem yA{T:Tok→Bool}(h:EA T): ∀a,Ab.kQ T a=a
  |[]=>rfl
  |a::r=>by simp[kQ,jW h a,yA h r]
end
theorem kJ{T:Tok→Bool}(h:EA T): ∀t,fV T t=t
 |[]=>rfl
 |(d,a)::r=>by simp[fV,jW h,kJ h r]
theorem nF{T:Tok→Bool}(h:EA T)(o:Ob):wU T o=o:=by cases o<;>simp[wU,yA h,kJ h]
theorem oX{T:Tok→Bool}(h:EA T): ∀t,lO T t=t
 |[]=>rfl
 |f::r=>by simp[lO,kJ h,oX h r]
theorem Nx{T:Tok→Bool}(h:EA T): ∀t,eY T t=t
 |[]=>rfl
 |(d,a)::r=>by simp[eY,nF h,Nx h r]
theorem St.jW{T:Tok→Bool}(h:EA T):s.qg T=s:=by cases s;simp[St.qg,kJ h,Nx h,oX h]
theorem bn.giveUp(h:bn E0 E w0 w s a)(T:Tok→Bool):bn E0 E w0 w (s.qg T) a:=by
 have hE:=Ext.refl (fun _=>False) E
 have hT: ∀t,(fun _:Own=>False) (.tok t)→T t=true:=fun _ hf=>hf.elim
 refine⟨h.heap,h.wf,h.IG,kI.move hE h.wf T hT h.up,h.sz,?_,?_,?_,?_,h.gx,h.gl,h.ext,h.xc,h.same,h.gk,h.nl,h.ng,h.lo⟩
 ·intro d x hd hp
  have ou:look d (fV T s.t)=some x:=hd
  rw[r8]at ou
  cases hh:look d s.t with
  |none=>rw[hh]at ou;simp at ou
  |some y=>rw[hh]at ou;simp at ou;subst ou;exact((h.tm d y hh ((iv T).1 hp)).ext hE h.wf T hT).1
 ·intro d q hd hp
  exact h.cu d q hd (fun hh=>hp ((iv T).2 hh))
 ·intro d ob hd
  have ou:look d (eY T s.b)=some ob:=hd
  rw[cA]at ou
  cases hh:look d s.b with
  |none=>rw[hh]at ou;simp at ou
  |some y=>rw[hh]at ou;simp at ou;subst ou;exact cf.move hE h.wf T hT (fun hf=>hf.elim) (fun _ hf=>hf.elim) (h.bx d y hh)
 ·intro d hl
  obtain⟨ob,ho⟩:=h.lv d hl
  exact⟨wU T ob,by show look d (eY T s.b)=_;rw[cA,ho];rfl⟩
theorem bn.draw(h:bn E0 E w0 w s a)(hh:w'.heap=w.heap)(hs:iC w w'):bn E0 E w0 w' s a:=
 ⟨hh.trans h.heap,h.wf,h.IG,h.up,h.sz,h.tm,h.cu,h.bx,h.lv,h.gx,h.gl,h.ext,h.xc,h.same.trans hs,h.gk,h.nl,h.ng,h.lo⟩
 mutual
theorem NY{T:Tok→Bool}: ∀{a:AV},cq a=true→Ab.qg T a=a
  | .gs r t xs,h=>by simp[cq]at h
  | .fn f cs,h=>by simp only[Ab.qg,ve (show ca cs=true by simpa[cq]using h)]
  | .agg cs,h=>by simp only[Ab.qg,ve (show ca cs=true by simpa[cq]using h)]
  | .gd cs,h=>by simp only[Ab.qg,ve (show ca cs=true by simpa[cq]using h)]
  | .any,_=>rfl
  | .v _,_=>rfl
  | .sl _ _,_=>rfl
  | .aP _ _ _,_=>rfl
  | .ptr _ _,_=>rfl
  | .iq _ _,_=>rfl
  | .cQ _ _ _ _,_=>rfl
  | .mp _,_=>rfl
  | .po _,_=>rfl
  | .ar _ _ _,_=>rfl
  | .bm _ _,_=>rfl
  | .mN _ _ _,_=>rfl
theorem ve{T:Tok→Bool}: ∀{a:List AV},ca a=true→kQ T a=a
  |[],_=>rfl
  |a::r,h=>by
   simp only[ca,Bool.and_eq_true]at h
   simp only[kQ,NY h.1,ve h.2]
end
theorem cf.shared{C:Own→Prop}(hE:Ext C E E')(hw:Wf E)(T:Tok→Bool)(hT: ∀t,C (.tok t)→T t=true){i:Nat}{ob:Ob}(hk: ¬C (.key (.o i)))
  (hg:match ob with
   | .box cs=> ∀(q:Nat) (a:AV),cs[q]? =some a→cq a=true
   | .arr _ _=>True
   | .ow .. =>False
   | .lp .. =>False)(h:cf E (.o i) ob):cf E' (.o i) ob:=by
 have hm:=cf.move hE hw T hT hk (fun ho=>by cases ob<;>first|(cases ho;done)|exact hg.elim) h
 cases ob with
 |arr z xs=>exact hm
 |lp=>exact hg.elim
 |ow=>exact hg.elim
 |box cs=>
  obtain⟨hl,c,e,hb,ho,hs,dC,hqq⟩:=hm
  obtain⟨_,c0,e0,Gc,_,_,hsz0,hq0⟩:=h
  refine⟨hl,c,e,hb,ho,hs,by rw[dC,dv],fun q a x ha hx=>?_⟩
  have:=hqq q (Ab.qg T a) x (by rw[pC,ha];rfl) hx
  rwa [NY (hg q a ha)]at this
theorem bn.xG(h:bn E0 E w0 w s a){C:Own→Prop}{T:Tok→Bool}(hE:Ext C E E')(hT: ∀t,C (.tok t)→T t=true)(hC:KJ C)(BY:Wf E')(hh:w'.heap=E'.h)(Kb:iC w w')
  (xU: ∀b,b<E0.h.size→C (E.own b)→(E'.own b).loc=false)(b':List (Nat×Ob))(g':Nat→Option Ob)(gS:Nat)
  (hb: ∀d ob,look d b'=some ob→(∃ob0,look d s.b=some ob0∧ob=wU T ob0∧ ¬C (.key (.s d))∧ ¬C (.tok (.n d)))∨cf E' (.s d) ob)
  (hlv: ∀d,E'.live (.s d)→ ∃ob,look d b'=some ob)
  (hg: ∀i ob,g' i=some ob→(s.g i=some ob∧ ¬C (.key (.o i)))∨cf E' (.o i) ob)
  (hgl: ∀i,E'.live (.o i)↔i<gS)(MI:GOk g')(hng: ∀b,¬dz (E'.own b)):
  bn E0 E' w0 w' {s with t:=fV T s.t,b:=b',g:=g',nx:=gS,up:=lO T s.up} a:=by
 refine⟨hh,BY,h.IG.move hE hC.jF,kI.move hE h.wf T hT h.up,h.sz,?_,?_,?_,hlv,?_,hgl,h.ext.xG hE hC h.xc,Ext.xc hE hC h.ext h.xc xU,h.same.trans Kb,MI,h.nl,hng,h.lo⟩
 ·intro d x hd hp
  have ou:look d (fV T s.t)=some x:=hd
  rw[r8]at ou
  have XA:aZ (s.qg T) (ed s d):=(lj (s:=s.qg T) (s':={s with t:=fV T s.t,b:=b',g:=g',nx:=gS,up:=lO T s.up}) (fun _ _=>rfl)).1 hp
  cases hk:look d s.t with
  |none=>rw[hk]at ou;simp at ou
  |some y=>rw[hk]at ou;simp at ou;subst ou;exact((h.tm d y hk ((iv T).1 XA)).ext hE h.wf T hT).1
 ·intro d q hd hp
  exact h.cu d q hd (fun hk=>hp ((lj (s:=s.qg T) (s':={s with t:=fV T s.t,b:=b',g:=g',nx:=gS,up:=lO T s.up}) (fun _ _=>rfl)).2 ((iv T).2 hk)))
 ·intro d ob hd
  rcases hb d ob hd with⟨ob0,h1,h2,h3,h4⟩|h1
  ·subst h2;exact(h.bx d ob0 h1).move hE h.wf T hT h3 (fun _=>h4)
  ·exact h1
 ·intro i ob hi
  rcases hg i ob hi with⟨h1,h2⟩|h1
  ·exact(h.gx i ob h1).shared hE h.wf T hT h2 (h.gk i ob h1)
  ·exact h1
end Ab
namespace Ab
open Go
variable{P:Program}{L:nv}{E0 E E':Env}{w0 w w':World}{s:St}{a:Act}{p:Path}{C:dK}
def Out(E0:Env)(w0:World)(a:Act)(K:bd)(x:Value)(w':World):Prop:= ∃r s' E',K r s'∧bn E0 E' w0 w' s' a∧Cz E' r x
def fH(E0:Env)(w0:World)(o:Oper)(a:Act)(K:bd):Act→World→Prop:=fun a' w'=> ∃x,a'=a.put o.dst x∧Out E0 w0 a K x w'
def CT(P:Program)(o:Oper)(a:Act)(K:Act→World→Prop):Result Next→Prop
 | .ok (.value v) w'=>K (a.put o.dst v) w'
 | .ok .skip w'=>K (a.put o.dst undef) w'
 | .ok (.enter f args) w'=>Calls P f args w' fun e QP=> ∃x,e= .returned x∧K (a.put o.dst x) QP
 | .ok (.round l f tmps nq body) w'=>RoundIn Fence.wide 0 P l f tmps nq body w' fun e QP=> ∃x,e= .returned x∧K (a.put o.dst x) QP
 |_=>False
def kU(P:Program)(o:Oper)(a:Act)(w:World)(K:Act→World→Prop)(_:Exit→Act→World→Prop):Prop:=CT P o a K ((execOp a.eval o).run P w)
theorem kU.mono{o:Oper}{Q:Exit→Act→World→Prop}{K K':Act→World→Prop}(h: ∀a w,K a w→K' a w)(hh:kU P o a w K Q):kU P o a w K' Q:=by
 unfold kU at*
 generalize (execOp a.eval o).run P w=r at*
 cases r with
 |ok n w'=>
  cases n<;>simp only[CT]at hh ⊢ <;>
   first
    |exact h _ _ hh
    |exact Calls.mono hh (fun e QP ⟨x,e1,e2⟩=>⟨x,e1,h _ _ e2⟩)
    |exact RoundIn.mono hh (fun e QP ⟨x,e1,e2⟩=>⟨x,e1,h _ _ e2⟩)
 |halt x w'=>simp only[CT]at hh
theorem cV{o:Oper}{Q:Exit→Act→World→Prop}{K:bd}{x:Value}(h:(execOp a.eval o).run P w= .ok (.value x) w')(k:Out E0 w0 a K x w'):kU P o a w (fH E0 w0 o a K) Q:=by
 unfold kU
 rw[h]
 exact⟨x,rfl,k⟩
theorem um{o:Oper}{Q:Exit→Act→World→Prop}{K:bd}(h:(execOp a.eval o).run P w= .ok .skip w')(k:Out E0 w0 a K undef w'):kU P o a w (fH E0 w0 o a K) Q:=by
 unfold kU
 rw[h]
 exact⟨undef,rfl,k⟩
theorem gC(P:Program)(e:Nat)(c:Array Value)(w:World):(newRow e c).run P w= .ok ⟨w.heap.size,0,none⟩ (w.alloc (.cells c e)):=rfl
def Env.addKey(E:Env)(k:Key)(o:Obj)(n:Nat:=0):Env:=
 {E with len:=fun q=>if q=k then(n,n)else E.len q,h:=E.h.push o,m:=fun q=>if q=k then E.h.size else E.m q,live:=fun q=>q=k∨E.live q,own:=fun b=>if b=E.h.size then .key k else E.own b}
theorem yd(h:Array Obj)(o:Obj){b:Nat}(hb:b<h.size)(i:Nat):aO (h.push o) b i=aO h b i:=by
 unfold aO
 rw[Array.getElem?_push,if_neg (by omega)]
theorem nt(hw:Wf E){k:Key}(hk: ¬E.live k)(o:Obj)(n:Nat:=0):Ext (fun _=>False) E (E.addKey k o n):=
 ⟨by simp[Env.addKey],
  fun b i hs=>⟨hs,yd _ _ (hw.aM b i hs) i,rfl⟩,
  fun q hq=>⟨.inr hq,by simp only[Env.addKey];rw[if_neg (fun e=>by subst e;exact hk hq)],by simp only[Env.addKey];rw[if_neg (fun e=>by subst e;exact hk hq)]⟩,
  fun b hb _=>⟨by simp only[Env.addKey];rw[if_neg (by omega)],by simp only[Env.addKey];rw[Array.getElem?_push,if_neg (by omega)],fun _=>Iff.rfl,rfl⟩⟩
theorem Gr(hw:Wf E)(k:Key)(o:Obj)(n:Nat:=0):Wf (E.addKey k o n):=
 ⟨fun b i hs=>by have:=hw.aM b i hs;simp[Env.addKey];omega,
  fun b hb=>by
  simp only[Env.addKey]at hb ⊢
  by_cases h:b=E.h.size
  ·subst h;simp
  ·rw[if_neg h]at hb;have:=hw.own b hb;simp;omega,
  fun b i hs hr=>by
  obtain⟨c,e,h⟩:=hw.fz b i hs hr
  have:=hw.aM b i hs
  exact⟨c,e,by simp only[Env.addKey];rw[Array.getElem?_push,if_neg (by omega)];exact h⟩⟩
theorem pQ:KJ (fun _=>False):=fun _ h=>h.elim
theorem sM(w:World)(o:Obj):iC w (w.alloc o):=⟨rfl,rfl,rfl⟩
theorem Gs(h: ∀b,¬dz (E.own b))(d:Nat){o:Obj}{n:Nat}(b:Nat): ¬dz ((E.addKey (.s d) o n).own b):=by
 simp only[Env.addKey]
 split
 ·simp[dz,Own.dz,Key.loc]
 ·exact h b
theorem bn.SZ(h:bn E0 E w0 w s a){d:Nat}(hd:look d s.b=none){ob:Ob}{c:Array Value}{e n:Nat}(td:cf (E.addKey (.s d) (.cells c e (0,0)) n) (.s d) ob):
  bn E0 (E.addKey (.s d) (.cells c e (0,0)) n) w0 (w.alloc (.cells c e)) {s with b:=cX d ob s.b} a:=by
 have zl: ¬E.live (.s d):=fun hl=>by obtain⟨ob,ho⟩:=h.lv d hl;rw[hd]at ho;cases ho
 have hE:=nt h.wf zl (.cells c e (0,0)) n
 have hs:=h.xG (T:=fun _=>false) hE (fun _ hf=>hf.elim) pQ (Gr h.wf _ _ n) (w':=w.alloc (.cells c e)) (by show w.heap.push _=_;rw[h.heap];rfl) (sM _ _) (fun _ _ hf=>hf.elim)
  (cX d ob s.b) s.g s.nx (fun d' DG h'=>by
   rw[aF]at h'
   by_cases rI:d=d'
   ·rw[if_pos rI]at h';cases h';subst rI;exact .inr td
   ·rw[if_neg rI]at h';exact .inl ⟨DG,h',(nF (fun _=>rfl) DG).symm,(fun hf=>hf),fun hf=>hf⟩)
  (fun d' hl=>by
   rw[aF]
   by_cases rI:d=d'
   ·exact⟨ob,by rw[if_pos rI]⟩
   ·rw[if_neg rI]
    rcases hl with hl|hl
    ·exact absurd (by injection hl with hl;exact hl.symm) rI
    ·exact h.lv d' hl)
  (fun i DG h'=> .inl ⟨h',fun hf=>hf⟩)
  (fun i=>by
   constructor
   ·rintro(hl|hl)
    ·cases hl
    ·exact(h.gl i).1 hl
   ·exact fun hl=> .inr ((h.gl i).2 hl)) h.gk (fun b=>Gs h.ng d b)
 have:fV (fun _=>false) s.t=s.t:=kJ (fun _=>rfl) _
 rw[this,oX (fun _=>rfl)]at hs
 exact hs
theorem M5(h:bn E0 E w0 w s a){k:Key}(hk: ¬E.live k){cs:List AV}{c:Array Value}(hr:Row E cs c)(e:Nat):cf (E.addKey k (.cells c e (0,0))) k (.box cs):=by
 have hE:=nt h.wf hk (.cells c e (0,0))
 refine⟨.inl rfl,c,e,by simp[Env.addKey],by simp[Env.addKey],fun o hs=>?_,hr.1,fun q a x ha hx=>?_⟩
 ·simp only[Env.addKey,if_true]at hs
  have:=h.wf.aM _ _ hs;omega
 ·have:=((hr.2 q a x ha hx).ext hE h.wf (fun _=>false) (fun _ hf=>hf.elim)).1
  rwa [jW (fun _=>rfl)]at this
theorem yZ(h:bn E0 E w0 w s a){d e:Nat}{cs:List AV}{c:Array Value}(hr:Row E cs c){K:bd}(hk:HI C s d cs K):
  Out E0 w0 a K (.pointer (some ⟨w.heap.size,0,none⟩)) (w.alloc (.cells c e)):=by
 unfold HI at hk
 cases ui:My d C.sh with
 |true=>
  rw[ui,cond_true]at hk
  exact hk.elim
 |false=>
  rw[ui,cond_false]at hk
  generalize C.base+d=d at hk
  cases hl:look d s.b with
  |some _=>rw[hl]at hk;exact hk.elim
  |none=>
   rw[hl]at hk
   have zl: ¬E.live (.s d):=fun qJ=>by obtain⟨ob,ho⟩:=h.lv d qJ;rw[hl]at ho;cases ho
   refine⟨_,_,_,hk,h.SZ hl (M5 h zl hr e),?_⟩
   have:(E.addKey (.s d) (.cells c e (0,0))).m (.s d)=w.heap.size:=by simp[Env.addKey,h.heap]
   rw[←this];exact .ptr _ _ (.inl rfl)
theorem Lf(h:bn E0 E w0 w s a){o:Oper}{e d:Nat}{x:Operand}(he:o.op= .box e x){K:bd}{Q:Exit→Act→World→Prop}(hk:aaW C d (bM s [] x) s K):kU P o a w (fH E0 w0 o a K) Q:=by
 unfold aaW at hk
 cases hz:zJ (bM s [] x)with
 |none=>rw[hz]at hk;exact hk.elim
 |some k=>
  rw[hz]at hk
  have hx:=h.ev (p:=[]) trivial x
  obtain⟨c1,c2,c3⟩:=om hx hz
  have:=yZ h (e:=e) (c:=(a.eval x).cells) ⟨by rw[c1,c2],c3⟩ hk
  refine cV (x:= .pointer (some ⟨w.heap.size,0,none⟩)) (w':=w.alloc (.cells (a.eval x).cells e)) ?_ this
  simp only[execOp,he,Instr.box,newVar]
  simp[gC]
theorem Qv{z:Value}{l:List Value}(h:z.cells.toList=l):Row E (l.map AV.v) z.cells:=by
 refine⟨by rw[List.length_map,←h];simp,fun q a y ha hy=>?_⟩
 rw[←h,List.getElem?_map,Array.getElem?_toList,hy]at ha
 simp at ha;subst ha;exact .v _
theorem FM{e:Nat}{z:Value}{i:TypeInfo}(h:P.info? e=some i)(hz:i.zero=some z)(w:World):(Instr.alloc e true (.tuple #[])).run P w= .ok (.pointer (some ⟨w.heap.size,0,none⟩)) (w.alloc (.cells z.cells e)):=by
 have h1: ∀w,(zeroValue e).run P w= .ok z w:=fun w=>by simp[zeroValue,typeInfo,go_sem,h,hz]
 unfold Instr.alloc
 simp[Sem.run_bind,h1,Result.andThen,newVar,gC]
theorem aej(l:List Value):ca (l.map AV.v)=true:=wo fun q a h=>by
 rw[List.getElem?_map]at h
 cases hq:l[q]? with
 |none=>rw[hq]at h;simp at h
 |some x=>rw[hq]at h;simp at h;subst h;rfl
theorem J8{a b:List AV}(ha:ca a=true)(hb:ca b=true):ca (a++b)=true:=by
 induction a with
 |nil=>exact hb
 |cons x r ih=>simp only[ca,Bool.and_eq_true,List.cons_append]at ha ⊢;exact⟨ha.1,ih ha.2⟩
theorem s8(n:Nat){l:List AV}(h:ca l=true):ca (List.replicate n l).flatten=true:=by
 induction n with
 |zero=>rfl
 |succ n ih=>rw[List.replicate_succ,List.flatten_cons];exact J8 h ih
theorem I0: ∀(n:Nat) (l:List Value),(List.replicate n (l.map AV.v)).flatten=((List.replicate n l).flatten).map AV.v
 |0,_=>rfl
 |n+1,l=>by rw[List.replicate_succ,List.replicate_succ,List.flatten_cons,List.flatten_cons,List.map_append,I0 n l]
theorem Ev(h:bn E0 E w0 w s a){k:Key}(hk: ¬E.live k){z:Nat}{n:Nat}{l:List Value}(hz:0<z)(hl:l.length=z)(hn:n≤maxLen){c:Array Value}(hc:c.toList=(List.replicate n l).flatten)(e:Nat):
  cf (E.addKey k (.cells c e (0,0)) n) k (.arr z (List.replicate n (l.map AV.v))):=by
 have hlen: ∀x∈List.replicate n l,x.length=z:=fun x hx=>by rw[(List.mem_replicate.1 hx).2];exact hl
 refine⟨.inl rfl,by simp[Env.addKey],hz,fun x hx=>by rw[(List.mem_replicate.1 hx).2];simp[hl],by simpa using hn,c,e,by simp[Env.addKey],by simp[Env.addKey],fun o hs=>?_,?_,?_,?_⟩
 ·simp only[Env.addKey,if_true]at hs
  have:=h.wf.aM _ _ hs;omega
 ·have:c.toList.length=n*z:=by rw[hc,aE hlen];simp
  simpa using this
 ·exact bg (s8 n (aej l))
 ·intro q a x ha hx
  rw[I0,List.getElem?_map,←hc,Array.getElem?_toList,hx]at ha
  simp at ha;subst ha;exact .v _
theorem qO{z:Nat}: ∀{n:Nat} {l:List AV},l.length=n*z→(chunks z n l).flatten=l∧(chunks z n l).length=n∧ ∀x∈chunks z n l,x.length=z
 |0,l,h=>by
  have:l=[]:=List.eq_nil_of_length_eq_zero (by simpa using h)
  subst this;simp[chunks]
 |n+1,l,h=>by
  rw[Nat.succ_mul]at h
  obtain⟨h1,h2,h3⟩:=qO (z:=z) (n:=n) (l:=l.drop z) (by simp;omega)
  refine⟨by simp[chunks,h1],by simp[chunks,h2],fun x hx=>?_⟩
  simp only[chunks,List.mem_cons]at hx
  rcases hx with rfl|hx
  ·simp;omega
  ·exact h3 x hx
theorem BD(h:bn E0 E w0 w s a){k:Key}(hk: ¬E.live k){z n:Nat}{cs:List AV}(hz:0<z)(hn:n≤maxLen){c:Array Value}(hl:cs.length=n*z)(hi:ca cs=true)(hr:Row E cs c)(e:Nat):
  cf (E.addKey k (.cells c e (0,0)) n) k (.arr z (chunks z n cs)):=by
 obtain⟨f1,f2,f3⟩:=qO hl
 have hE:=nt h.wf hk (.cells c e (0,0)) n
 refine⟨.inl rfl,by simp[Env.addKey,f2],hz,f3,by rw[f2];exact hn,c,e,by simp[Env.addKey],by simp[Env.addKey],fun o hs=>?_,by rw[f2,hr.1,hl],?_,?_⟩
 ·simp only[Env.addKey,if_true]at hs
  have:=h.wf.aM _ _ hs;omega
 ·rw[f1];exact bg hi
 ·rw[f1]
  intro q a x ha hx
  have:=((hr.2 q a x ha hx).ext hE h.wf (fun _=>false) (fun _ hf=>hf.elim)).1
  rwa [jW (fun _=>rfl)]at this
theorem GX(hL:bk P C.L)(hI:C.I=an)(h:bn E0 E w0 w s a){o:Oper}{e d:Nat}(he:o.op= .alloc e){K:bd}{Q:Exit→Act→World→Prop}(hk:Lg C d e s K):kU P o a w (fH E0 w0 o a K) Q:=by
 unfold Lg at hk
 cases ht:C.L e with
 |none=>rw[ht]at hk;exact hk.elim
 |some ti=>
  rw[ht]at hk
  dsimp only at hk
  obtain⟨i,dd,z,h1,h2,h3,h4,h5,h6,h7⟩:=(hL.ok e ti ht).ex
  have eP:(execOp a.eval o).run P w= .ok (.value (.pointer (some ⟨w.heap.size,0,none⟩))) (w.alloc (.cells z.cells e)):=by
   simp only[execOp,he]
   simp[FM h1 h4]
  refine cV eP ?_
  split at hk
  ·rename_i n e' kE
   split at hk
   ·rename_i Lj ht' fF
    cases hb:du (n*Lj.size) ti.size&&(mL 1 Lj.size&&mL n 1048576)with
    |false=>rw[hb]at hk;exact hk.elim
    |true=>
     rw[hb,cond_true]at hk
     simp only[Bool.and_eq_true]at hb
     have b1:n*Lj.size=ti.size:=dy hb.1
     have b2:1≤Lj.size:=by simpa using hb.2.1
     have b3:n≤1048576:=by simpa using hb.2.2
     generalize C.base+d=d at hk fF
     have zl: ¬E.live (.s d):=fun qJ=>by obtain⟨ob,ho⟩:=h.lv d qJ;rw[fF]at ho;cases ho
     obtain⟨zs,⟨hz1,PD⟩,hk⟩:=hk
     rw[hI]at PD
     have PD:List.replicate n (Lj.zero.map AV.v)=zs:=PD
     subst PD
     refine⟨_,_,_,hk,h.SZ fF (Ev h zl (z:=Lj.size) (n:=n) (l:=Lj.zero) (c:=z.cells) b2 (hL.ok e' Lj ht').K0 (by unfold maxLen;omega) (by rw[h5,hz1]) e),?_⟩
     have:(E.addKey (.s d) (.cells z.cells e (0,0)) n).m (.s d)=w.heap.size:=by simp[Env.addKey,h.heap]
     rw[←this];exact .ptr _ _ (.inl rfl)
   ·exact hk.elim
  ·exact yZ h (Qv h5) hk
theorem Hc(w:World)(b o:Nat)(v:Value){c:Array Value}{e:Nat}{fr:Nat×Nat}(h:w.heap[b]? =some (.cells c e fr)):
  (w.setCell ⟨b,o,none⟩ v).heap=w.heap.setIfInBounds b (.cells (c.setIfInBounds o v) e fr):=by
 obtain⟨aS,hb⟩:=Array.getElem?_eq_some_iff.1 h
 apply Array.ext
 ·simp[World.setCell]
 ·intro i h1 h2
  simp only[World.setCell]
  by_cases hi:i=b
  ·subst hi
   rw[Array.getElem_modify_self,Array.getElem_setIfInBounds_self,hb]
   obtain⟨x,y⟩:=fr
   rfl
  ·rw[Array.getElem_modify_of_ne (Ne.symm hi),Array.getElem_setIfInBounds_ne (by simpa[World.setCell]using h1) (Ne.symm hi)]
theorem fW(P:Program)(b off e:Nat): ∀(vs:List Value) (i:Nat) (w:World) (c:Array Value),w.heap[b]? =some (.cells c e (0,0))→off+i+vs.length≤c.size→(∀v∈vs,qV v=true)→
  ∃w',(storeCells ⟨b,off,none⟩ vs i).run P w= .ok () w'∧w'.heap=w.heap.setIfInBounds b (.cells ((vs.zipIdx i).foldl (fun cs (x,j)=>cs.setIfInBounds (off+j) x) c) e (0,0))∧iC w w'
 |[],i,w,c,hb,_,_=>by
  refine⟨w,by simp[storeCells,go_sem],?_,iC.refl _⟩
  obtain⟨aS,eQ⟩:=Array.getElem?_eq_some_iff.1 hb
  apply Array.ext
  ·simp
  ·intro j h1 h2
   by_cases hj:j=b
   ·subst hj;rw[Array.getElem_setIfInBounds_self];simpa using eQ
   ·rw[Array.getElem_setIfInBounds_ne h1 (Ne.symm hj)]
 |v::r,i,w,c,hb,hlen,hv=>by
  simp only[List.length_cons]at hlen
  have sm:w.cell? ⟨b,off+i,none⟩=some c[off+i]:=by rw[jr,aO,hb];simp
  have hfr:w.frozen? ⟨b,off+i,none⟩=false:=by simp[World.frozen?,hb]
  have h0:=hv v (by simp)
  have fP:(store ⟨b,off+i,none⟩ v).run P w= .ok () (w.setCell ⟨b,off+i,none⟩ v):=by
   unfold store
   cases v<;>first|(simp[qV]at h0;done)|(simp[Sem.run,sm,hfr])
  have Ke:=Hc w b (off+i) v hb
  have aS:b<w.heap.size:=(Array.getElem?_eq_some_iff.1 hb).1
  obtain⟨w',g1,g2,g3⟩:=fW P b off e r (i+1) (w.setCell ⟨b,off+i,none⟩ v) (c.setIfInBounds (off+i) v) (by rw[Ke];simp[aS]) (by simp;omega) (fun x hx=>hv x (by simp[hx]))
  refine⟨w',?_,?_,?_⟩
  ·simp only[storeCells,ef]
   simp[Sem.run_bind,fP,Result.andThen,g1]
  ·rw[g2,Ke]
   simp
  ·exact iC.trans ⟨rfl,rfl,rfl⟩ g3
theorem run_store(hL:bk P L){t:Nat}{ti:TI}(ht:L t=some ti){b off e:Nat}{c:Array Value}{v:Value}(hb:w.heap[b]? =some (.cells c e (0,0)))(dC:v.cells.size=ti.size)(hle:off+ti.size≤c.size)
  (hv: ∀x∈v.cells.toList,qV x=true):
  ∃w',(Instr.storeAt t (.pointer (some ⟨b,off,none⟩)) v).run P w= .ok () w'∧w'.heap=w.heap.setIfInBounds b (.cells (v.cells.toList.zipIdx.foldl (fun cs (x,j)=>cs.setIfInBounds (off+j) x) c) e (0,0))∧iC w w':=by
 obtain⟨i,d,z,h1,h2,h3,h4,h5,h6,h7⟩:=(hL.ok t ti ht).ex
 obtain⟨w',g1,g2,g3⟩:=fW P b off e v.cells.toList 0 w c hb (by simp;omega) hv
 refine⟨w',?_,g2,g3⟩
 unfold Instr.storeAt storeVar
 simp only[Instr.sureAddr]
 simp[Sem.run_bind,Go.sizeOf,typeInfo,Sem.run,program,h1,h2,dC,Result.andThen,g1]
theorem DD{cs:List AV}{c:Array Value}(hr:Row E cs c)(h:o8 cs=true): ∀x∈c.toList,qV x=true:=by
 have key: ∀(q:Nat) (a:AV),cs[q]? =some a→SU a=true:=by
  clear hr
  induction cs with
  |nil=>intro q a ha;simp at ha
  |cons y r ih=>
   simp only[o8,Bool.and_eq_true]at h
   intro q a ha
   cases q with
   |zero=>simp at ha;subst ha;exact h.1
   |succ q=>exact ih h.2 q a (by simpa using ha)
 intro x hx
 obtain⟨q,hq,he⟩:=List.getElem_of_mem hx
 have wq:q<cs.length:=by rw[←hr.1];simpa using hq
 have h1:=key q cs[q] (by simp)
 have h2:=hr.2 q cs[q] x (by simp) (by rw[←he];simp)
 cases IE:cs[q]<;>rw[IE]at h1 h2<;>cases h2<;>first|rfl|(simp[SU]at h1;done)|exact h1|(rename_i hc;cases hc;rfl)
def Env.write(E:Env)(k:Key)(o:Obj):Env:={E with h:=E.h.setIfInBounds (E.m k) o}
theorem ir{k:Key}(ho:E.own (E.m k)= .key k)(hs: ∀o,¬E.aM (E.m k) o)(o:Obj):Ext (fun x=>x= .key k) E (E.write k o):=
 ⟨by simp[Env.write],
  fun b i hb=>⟨hb,by
   have:b≠E.m k:=fun e=>by subst e;exact hs i hb
   simp only[Env.write,aO];rw[Array.getElem?_setIfInBounds_ne (Ne.symm this)],rfl⟩,
  fun q hq=>⟨hq,rfl,rfl⟩,
  fun b hb hn=>⟨rfl,by
   have:b≠E.m k:=fun e=>by subst e;exact hn ho
   simp only[Env.write];rw[Array.getElem?_setIfInBounds_ne (Ne.symm this)],fun _=>Iff.rfl,rfl⟩⟩
theorem QI(hw:Wf E)(k:Key)(o:Obj)(hn: ∀i,¬E.aM (E.m k) i):Wf (E.write k o):=
 ⟨fun b i hs=>by have:=hw.aM b i hs;simpa[Env.write]using this,fun b hb=>by have:=hw.own b hb;simpa[Env.write]using this,
  fun b i hs hr=>by
  obtain⟨c,e,h⟩:=hw.fz b i hs hr
  have:b≠E.m k:=fun e=>by subst e;exact hn i hs
  exact⟨c,e,by simp only[Env.write];rw[Array.getElem?_setIfInBounds_ne (Ne.symm this)];exact h⟩⟩
theorem JL(k:Key):KJ (fun x=>x= .key k):=fun o h=>by subst h;cases k<;>simp[Own.loc,dz,Own.dz,Key.loc]
theorem fb(k:Key): ∀t,(fun x=>x=Own.key k) (.tok t)→(fun _:Tok=>false) t=true:=fun t h=>by cases h
theorem bn.pq(h:bn E0 E w0 w s a){d:Nat}{ob ob0:Ob}(fF:look d s.b=some ob0){o:Obj}(td:cf (E.write (.s d) o) (.s d) ob)(hh:w'.heap=w.heap.setIfInBounds (E.m (.s d)) o)(Kb:iC w w')
  (ho:E.own (E.m (.s d))= .key (.s d))(hs: ∀o,¬E.aM (E.m (.s d)) o):bn E0 (E.write (.s d) o) w0 w' {s with b:=cX d ob s.b} a:=by
 have hE:=ir ho hs o
 have hx:=h.xG (T:=fun _=>false) hE (fb _) (JL _) (QI h.wf _ _ hs) (w':=w') (by rw[hh,h.heap];rfl) Kb
  (fun b hb hc=>by have:=h.xc b hb;rw[hc]at this;simp[Own.loc,Key.loc]at this) (cX d ob s.b) s.g s.nx
  (fun d' DG h'=>by
   rw[aF]at h'
   by_cases rI:d=d'
   ·rw[if_pos rI]at h';cases h';subst rI;exact .inr td
   ·rw[if_neg rI]at h';exact .inl ⟨DG,h',(nF (fun _=>rfl) DG).symm,(fun hf=>rI (by injection hf with hf;injection hf with hf;exact hf.symm)),fun hf=>by cases hf⟩)
  (fun d' hl=>by
   rw[aF]
   by_cases rI:d=d'
   ·exact⟨ob,by rw[if_pos rI]⟩
   ·rw[if_neg rI];exact h.lv d' hl)
  (fun i DG h'=> .inl ⟨h',fun hf=>by cases hf⟩) (fun i=>h.gl i) h.gk h.ng
 have:fV (fun _=>false) s.t=s.t:=kJ (fun _=>rfl) _
 rw[this,oX (fun _=>rfl)]at hx
 exact hx
theorem zW{k:Key}{cs vs:List AV}{c:Array Value}{e off:Nat}{ys:List Value}(hw:Wf E)(hl:E.live k)(hb:E.h[E.m k]? =some (.cells c e (0,0)))(ho:E.own (E.m k)= .key k)(hs: ∀o,¬E.aM (E.m k) o)
  (hr:Row E cs c)(hle:off+vs.length≤cs.length)(KR:ys.length=vs.length)(hy: ∀(q:Nat) (a:AV) (y:Value),vs[q]? =some a→ys[q]? =some y→Cz E a y):
  cf (E.write k (.cells (ys.zipIdx.foldl (fun cs (x,j)=>cs.setIfInBounds (off+j) x) c) e (0,0))) k (.box (bE cs off vs)):=by
 have zT:=hr.bE hle KR hy
 have hE:=ir ho hs (.cells (ys.zipIdx.foldl (fun cs (x,j)=>cs.setIfInBounds (off+j) x) c) e (0,0))
 have aS:E.m k<E.h.size:=(Array.getElem?_eq_some_iff.1 hb).1
 refine⟨hl,_,e,by simp[Env.write,aS],ho,hs,zT.1,fun q a x ha hx=>?_⟩
 have:=((zT.2 q a x ha hx).ext hE hw (fun _=>false) (fb _)).1
 rwa [jW (fun _=>rfl)]at this
theorem Cz.giveUp{av:AV}{v:Value}(hw:Wf E)(h:Cz E av v)(T:Tok→Bool):Cz E (Ab.qg T av) v:=(h.ext (Ext.refl (fun _=>False) E) hw T (fun _ hf=>hf.elim)).1
theorem Ov(T:Tok→Bool)(av:AV):zJ (Ab.qg T av)=zJ av:=by
 cases av with
 |gs r t xs=>simp only[Ab.qg];split<;>rfl
 |agg cs=>simp[Ab.qg,zJ,dv]
 |_=>rfl
theorem zX{k:Key}{z:Nat}{xs xs':List (List AV)}{vs:List AV}{c:Array Value}{e off:Nat}{ys:List Value}(hw:Wf E)(hl:E.live k)(qe:E.len k=(xs'.length,xs'.length))(dQ:0<z)(hm:xs'.length≤maxLen)(hz: ∀l∈xs',l.length=z)
  (hb:E.h[E.m k]? =some (.cells c e (0,0)))(ho:E.own (E.m k)= .key k)(hs: ∀o,¬E.aM (E.m k) o)
  (hr:Row E xs.flatten c)(hi: ∀(q:Nat) (a:AV),xs.flatten[q]? =some a→cq a=true)(hiv:ca vs=true)(hle:off+vs.length≤xs.flatten.length)(fG:xs'.flatten=bE xs.flatten off vs)
  (KR:ys.length=vs.length)(hy: ∀(q:Nat) (a:AV) (y:Value),vs[q]? =some a→ys[q]? =some y→Cz E a y):
  cf (E.write k (.cells (ys.zipIdx.foldl (fun cs (x,j)=>cs.setIfInBounds (off+j) x) c) e (0,0))) k (.arr z xs'):=by
 have zT:=hr.bE hle KR hy
 generalize (ys.zipIdx.foldl (fun cs (x,j)=>cs.setIfInBounds (off+j) x) c)=F at zT ⊢
 have hE:=ir ho hs (.cells F e (0,0))
 have aS:E.m k<E.h.size:=(Array.getElem?_eq_some_iff.1 hb).1
 rw[←fG]at zT
 refine⟨hl,qe,dQ,hz,hm,F,e,by simp[Env.write,aS],ho,hs,by have:=zT.1;rw[aE hz]at this;exact this,?_,fun q a x ha hx=>?_⟩
 ·intro q a ha
  rw[fG,xx hle]at ha
  split at ha
  ·exact bg hiv _ a ha
  ·exact hi q a ha
 ·have:=((zT.2 q a x ha hx).ext hE hw (fun _=>false) (fb _)).1
  rwa [jW (fun _=>rfl)]at this
theorem qK{z:Nat}: ∀{xs:List (List AV)} {i:Nat} {cs vs:List AV} {off:Nat},(∀l∈xs,l.length=z)→xs[i]? =some cs→off+vs.length≤z→(xs.set i (bE cs off vs)).flatten=bE xs.flatten (i*z+off) vs
 |[],i,cs,vs,off,_,h,_=>by simp at h
 |l::r,0,cs,vs,off,hz,h,hle=>by
  simp at h;subst h
  have hl:=hz l (by simp)
  simp only[List.set_cons_zero,List.flatten_cons,Nat.zero_mul,Nat.zero_add]
  unfold bE
  rw[List.take_append_of_le_length (by omega),List.drop_append_of_le_length (by omega)]
  simp
 |l::r,i+1,cs,vs,off,hz,h,hle=>by
  have hl:=hz l (by simp)
  have ih:=qK (xs:=r) (i:=i) (fun l' qJ=>hz l' (by simp[qJ])) (by simpa using h) hle
  simp only[List.set_cons_succ,List.flatten_cons,ih]
  unfold bE
  rw[Nat.succ_mul,List.take_append,List.drop_append,List.take_of_length_le (l:=l) (by omega),@List.drop_eq_nil_of_le _ l _ (by omega)]
  rw[show i*z+z+off - l.length=i*z+off from by omega,show i*z+z+off+vs.length - l.length=i*z+off+vs.length from by omega]
  simp
def Env.db(E:Env)(t t':Tok):Env:={E with own:=fun b=>match E.own b with| .tok q=>if q=t then .tok t' else .tok q|x=>x}
theorem rM{t t':Tok}{b:Nat}(h:E.own b≠ .tok t):(E.db t t').own b=E.own b:=by
 simp only[Env.db]
 split
 ·rename_i q hq;rw[if_neg (fun e=>h (by rw[hq,e]))];exact hq.symm
 ·rfl
theorem rN(t t':Tok):Ext (fun x=>x= .tok t) E (E.db t t'):=
 ⟨Nat.le_refl _,fun _ _ h=>⟨h,rfl,rfl⟩,fun _ h=>⟨h,rfl,rfl⟩,fun b _ hn=>⟨rM hn,rfl,fun _=>Iff.rfl,rfl⟩⟩
theorem ji(t:Tok): ¬dz (.tok t):=by cases t<;>simp[dz,Own.dz,Tok.loc]
theorem Jf(h: ∀b,¬dz (E.own b))(t t':Tok)(b:Nat): ¬dz ((E.db t t').own b):=by
 have:=h b
 simp only[Env.db]
 split
 ·split<;>exact ji _
 ·exact this
theorem Je(hw:Wf E)(t t':Tok):Wf (E.db t t'):=⟨hw.aM,fun b hb=>hw.own b (fun e=>hb (by simp only[Env.db];rw[e])),hw.fz⟩
theorem kW(t q:Tok):bf t q=true↔t=q:=by
 cases t<;>cases q<;>simp[bf]
theorem Cz.db{r:Nat}{t t':Tok}{xs:List (List AV)}{x:Value}(hw:Wf E)(h:Cz E (.gs r t xs) x):Cz (E.db t t') (.gs r t' xs) x:=by
 cases h with
 |sq=>exact .sq _ _
 |gs _ _ _ z b c e cells u hc hm h0 dQ hz hr hb dC ho fP hi hu hq=>
  exact .gs r t' xs z b c e cells u hc hm h0 dQ hz hr hb dC (by simp only[Env.db];rw[ho];simp) fP hi hu
   (fun q a ha=>((hq q a ha).ext (rN t t') hw (bf t) (fun q' wq=>(kW _ _).2 (by cases wq;rfl))).2 (hi q a ha))
theorem bn.db(h:bn E0 E w0 w s a)(t t':Tok)(N1:Ph t=true):bn E0 (E.db t t') w0 w (s.qg (bf t)) a:=by
 have hE:=rN (E:=E) t t'
 have hC:KJ (fun x=>x=Own.tok t):=fun o ho=>by subst ho;left;cases t<;>rfl
 have hx:=h.xG (T:=bf t) hE (fun t ht=>(kW _ _).2 (by cases ht;rfl)) hC (Je h.wf _ _) (w':=w) h.heap (iC.refl _)
  (fun b hb hc=>by
   have:=h.xc b hb
   rw[hc]at this;cases t<;>simp[Own.loc,Tok.loc]at this) (eY (bf t) s.b) s.g s.nx
  (fun d ob hd=>by
   rw[cA]at hd
   cases hh:look d s.b with
   |none=>rw[hh]at hd;simp at hd
   |some y=>rw[hh]at hd;simp at hd;exact .inl ⟨y,rfl,hd.symm,(fun hf=>by cases hf),fun hf=>by cases hf;cases N1⟩)
  (fun d hl=>by
   obtain⟨ob,ho⟩:=h.lv d hl
   exact⟨wU (bf t) ob,by rw[cA,ho];rfl⟩)
  (fun i ob hi=> .inl ⟨hi,fun hf=>by cases hf⟩) (fun i=>h.gl i) h.gk (Jf h.ng t t')
 exact hx
theorem wR(hL:bk P C.L)(h:bn E0 E w0 w s a){t:Nat}{ti:TI}(ht:C.L t=some ti){d off:Nat}{av:AV}{v:Value}(hv:Cz E av v){k:Nat}(hk:zJ av=some k)(hkz:k=ti.size)(xT:o8 (cellsOf av)=true){K:bd}
  (hK:oW an ti d off av s K): ∃w',(Instr.storeAt t (.pointer (some ⟨E.m (.s d),off,none⟩)) v).run P w= .ok () w'∧Out E0 w0 a K undef w':=by
 obtain⟨c1,c2,c3⟩:=om hv hk
 have Ka:=DD (E:=E) (c:=v.cells) ⟨by rw[c1,c2],c3⟩ xT
 unfold oW at hK
 split at hK
 ·rename_i cs fF
  cases hle:mL (off+ti.size) cs.length with
  |false=>rw[hle]at hK;exact hK.elim
  |true=>
   rw[hle,cond_true]at hK
   have aeG:off+ti.size≤cs.length:=by simpa using hle
   split at hK
   ·rename_i r t0 xs
    simp only[zJ,Option.some.injEq]at hk
    obtain⟨N1,hK⟩:=hK
    have h2:=h.db t0 (.c d off) N1
    have ajr:look d (eY (bf t0) s.b)=some (.box (kQ (bf t0) cs)):=by rw[cA,fF];rfl
    obtain⟨hl,c,e,hb,ho,hs,dC,hq⟩:=h2.bx d _ ajr
    have hv2:=hv.db (t':= .c d off) h.wf
    obtain⟨w',g1,g2,g3⟩:=run_store (w:=w) hL ht (b:=E.m (.s d)) (off:=off) (e:=e) (c:=c) (v:=v) (by rw[h.heap];exact hb) (by omega) (by rw[dC,dv];omega) Ka
    have hvc:v.cells= #[v]:=by cases hv<;>rfl
    refine⟨w',g1,_,_,_,hK,h2.pq ajr (zW h2.wf hl hb ho hs ⟨dC,hq⟩ (vs:=[.gs r (.c d off) xs]) (by rw[dv];simp;omega) (by simp[hvc]) (fun q' a' y h1 h2=>?_)) g2 g3 ho hs,.any _⟩
    rw[hvc]at h2
    cases q' with
    |zero=>simp at h1 h2;subst h1;subst h2;exact hv2
    |succ q'=>simp at h1
   obtain⟨hl,c,e,hb,ho,hs,dC,hq⟩:=h.bx d _ fF
   obtain⟨w',g1,g2,g3⟩:=run_store (w:=w) hL ht (b:=E.m (.s d)) (off:=off) (e:=e) (c:=c) (v:=v) (by rw[h.heap];exact hb) (by omega) (by omega) Ka
   refine⟨w',g1,_,_,_,hK,h.pq fF (zW h.wf hl hb ho hs ⟨dC,hq⟩ (by omega) (by simp;omega) (fun q a y h1 h2=>c3 q a y h1 (by simpa using h2))) g2 g3 ho hs,.any _⟩
 ·rename_i z xs fF
  split at hK
  ·rename_i n e' kE
   obtain⟨e0,e1,e2,hi,hK⟩:=hK
   have e1:xs.length=n:=e1
   subst e0;subst e1
   obtain⟨hl,qe,dQ,hz,hm,c,e,hb,ho,hs,dC,lG,hq⟩:=h.bx d _ fF
   have fG:=aE hz
   have hvr:=hv.giveUp h.wf (fun _=>true)
   obtain⟨d1,d2,d3⟩:=om hvr (k:=k) (by rw[Ov];exact hk)
   have hlen:(cellsOf (rd av)).length=xs.length*z:=by
    show(cellsOf (Ab.qg _ av)).length=_
    rw[d2,hkz,e2]
   obtain⟨f1,f2,f3⟩:=qO hlen
   obtain⟨w',g1,g2,g3⟩:=run_store (w:=w) hL ht (b:=E.m (.s d)) (off:=0) (e:=e) (c:=c) (v:=v) (by rw[h.heap];exact hb) (by omega) (by omega) Ka
   refine⟨w',g1,_,_,_,hK,h.pq fF (zX h.wf hl (by show _=((chunks _ _ _).length,(chunks _ _ _).length);rw[f2];exact qe) dQ (by show(chunks _ _ _).length≤_;rw[f2];exact hm) f3 hb ho hs ⟨by rw[dC,fG],hq⟩ lG hi (off:=0) (by rw[hlen,fG];omega) ?_ (by simp;omega) (fun q a y h1 h2=>d3 q a y h1 (by simpa using h2))) g2 g3 ho hs,.any _⟩
   show(chunks _ _ _).flatten=_
   rw[f1]
   unfold bE
   rw[hlen,←fG]
   simp
  ·exact hK.elim
 ·exact hK.elim
theorem EO(hL:bk P C.L)(h:bn E0 E w0 w s a){t:Nat}{ti:TI}(ht:C.L t=some ti){d i off z:Nat}{av:AV}{v:Value}(hv:Cz E av v){k:Nat}(hk:zJ av=some k)(hkz:k=ti.size)(xT:o8 (cellsOf av)=true){K:bd}
  (hK:yw an ti d i off z av s K): ∃w',(Instr.storeAt t (.pointer (some ⟨E.m (.s d),i*z+off,none⟩)) v).run P w= .ok () w'∧Out E0 w0 a K undef w':=by
 obtain⟨c1,c2,c3⟩:=om hv hk
 have Ka:=DD (E:=E) (c:=v.cells) ⟨by rw[c1,c2],c3⟩ xT
 unfold yw at hK
 split at hK
 ·rename_i z' xs fF
  obtain⟨cs,e0,e1,e2,hi,hK⟩:=hK
  subst e0
  obtain⟨hl,qe,dQ,hz,hm,c,e,hb,ho,hs,dC,lG,hq⟩:=h.bx d _ fF
  have fG:=aE hz
  have hvr:=hv.giveUp h.wf (fun _=>true)
  obtain⟨d1,d2,d3⟩:=om hvr (k:=k) (by rw[Ov];exact hk)
  have hlen:(cellsOf (rd av)).length=ti.size:=by show(cellsOf (Ab.qg _ av)).length=_;rw[d2,hkz]
  have BZ:i<xs.length:=(List.getElem?_eq_some_iff.1 e1).1
  have hmul:i*z+z≤xs.length*z:=by rw[←Nat.succ_mul];exact Nat.mul_le_mul_right _ BZ
  have D0:cs.length=z:=hz cs (by rw[List.getElem?_eq_getElem BZ]at e1;cases e1;simp)
  obtain⟨w',g1,g2,g3⟩:=run_store (w:=w) hL ht (b:=E.m (.s d)) (off:=i*z+off) (e:=e) (c:=c) (v:=v) (by rw[h.heap];exact hb) (by omega) (by omega) Ka
  refine⟨w',g1,_,_,_,hK,h.pq fF (zX h.wf hl (by show _=((List.set _ _ _).length,(List.set _ _ _).length);simpa using qe) dQ (by show(List.set _ _ _).length≤_;simpa using hm) ?_ hb ho hs ⟨by rw[dC,fG],hq⟩ lG hi (off:=i*z+off) (by rw[fG];omega) (qK hz e1 (by omega)) (by simp;omega) (fun q a y h1 h2=>d3 q a y h1 (by simpa using h2))) g2 g3 ho hs,.any _⟩
  intro l qJ
  rcases List.mem_or_eq_of_mem_set qJ with h1|h1
  ·exact hz l h1
  ·rw[h1,ka (by omega)];exact D0
 ·exact hK.elim
theorem AJ{z:Nat}: ∀{xs:List (List AV)},(∀l∈xs,l.length=z)→chunks z xs.length xs.flatten=xs
 |[],_=>rfl
 |l::r,h=>by
  have hl:=h l (by simp)
  have ih:=AJ (xs:=r) (fun l' qJ=>h l' (by simp[qJ]))
  simp only[List.length_cons,chunks,List.flatten_cons]
  rw[←hl,List.take_left,List.drop_left,hl,ih]
theorem JC{ys:List (List AV)}(h:eb ys=true):o8 ys.flatten=true:=by
 induction ys with
 |nil=>rfl
 |cons l r ih=>
  simp only[eb,Bool.and_eq_true]at h
  rw[List.flatten_cons]
  have:=ih h.2
  generalize r.flatten=q at this
  have h1:=h.1
  clear ih h
  induction l with
  |nil=>exact this
  |cons a l ih=>simp only[o8,Bool.and_eq_true,List.cons_append]at h1 ⊢;exact⟨h1.1,ih h1.2⟩
theorem CH(hL:bk P C.L)(hI:C.I=an)(h:bn E0 E w0 w s a){o:Oper}{t:Nat}{x y:Operand}(he:o.op= .store t x y){n z:Nat}{ys:List (List AV)}(dO:bM s [] y= .ar n z ys){K:bd}{Q:Exit→Act→World→Prop}(hk:CI C t (bM s [] x) n z ys s K):kU P o a w (fH E0 w0 o a K) Q:=by
 unfold CI at hk
 have hx:=h.ev (p:=[]) trivial x
 have hy:=h.ev (p:=[]) trivial y
 rw[dO]at hy
 obtain⟨zh,hn,hz,hi⟩:=M1 hy
 split at hk
 ·rename_i ti d off ta hex
  split at hk
  ·rename_i m e' z' xs kE fF
   obtain⟨⟨k1,k2,k3,k4,k5,k6⟩,hk⟩:=hk
   subst k1;subst k2;subst k3
   rw[hex]at hx
   cases dZ:a.eval x<;>rw[dZ]at hx<;>cases hx
   have N4:cellsOf (rd (.agg ys.flatten))=ys.flatten:=by show kQ _ _=_;exact ve hi
   have fG:=aE hz
   obtain⟨w',g1,g2⟩:=wR (C:=C) (K:=K) (k:=ys.flatten.length) hL h ta (d:=d) (off:=0) (av:= .agg ys.flatten) zh rfl (by rw[fG,hn];exact k5) (JC k6) (by
    unfold oW
    rw[fF]
    dsimp only
    rw[kE]
    dsimp only
    rw[hI]at k4
    refine⟨rfl,k4,k5,by rw[N4];exact hi,?_⟩
    rw[N4]
    show K .any {s with b:=cX d (.arr z' (chunks z' n ys.flatten)) s.b}
    rw[←hn,AJ hz]
    exact hk)
   refine um ?_ g2
   simp only[execOp,he,dZ]
   simp[g1]
  ·exact hk.elim
 ·exact hk.elim
theorem K9(h:bn E0 E w0 w s a){o:Oper}{e d:Nat}{x:Operand}(he:o.op= .box e x){K:bd}{Q:Exit→Act→World→Prop}(hk:aaJ C d (bM s [] x) s K):kU P o a w (fH E0 w0 o a K) Q:=by
 unfold aaJ at hk
 split at hk
 ·rename_i n z xs dO
  generalize C.base+d=d at hk
  have hx:=h.ev (p:=[]) trivial x
  rw[dO]at hx
  split at hk
  ·rename_i fF
   obtain⟨⟨k1,k2⟩,hk⟩:=hk
   obtain⟨zh,hn,hz,hi⟩:=M1 hx
   have zl: ¬E.live (.s d):=fun qJ=>by obtain⟨ob,ho⟩:=h.lv d qJ;rw[fF]at ho;cases ho
   generalize hv:a.eval x=v at zh
   cases zh with
   |agg _ ys hl hq=>
    have td:=BD (h:=h) zl (z:=z) (n:=n) (cs:=xs.flatten) (c:=ys.toArray) k1 (by unfold maxLen;omega) (by rw[aE hz,hn]) hi ⟨by simpa using hl,fun q b y hb hy=>hq q b y hb (by simpa using hy)⟩ e
    rw[←hn,AJ hz]at td
    refine cV (x:= .pointer (some ⟨w.heap.size,0,none⟩)) (w':=w.alloc (.cells ys.toArray e)) ?_ ⟨_,_,_,hk,h.SZ fF td,?_⟩
    ·simp only[execOp,he,Instr.box,newVar,hv]
     simp[gC,Value.cells]
    ·have:(E.addKey (.s d) (.cells ys.toArray e (0,0)) xs.length).m (.s d)=w.heap.size:=by simp[Env.addKey,h.heap]
     rw[←this];exact .ptr _ _ (.inl rfl)
  ·exact hk.elim
 ·exact Lf h he hk
theorem GR(hL:bk P C.L)(hI:C.I=an)(h:bn E0 E w0 w s a){o:Oper}{t:Nat}{x y:Operand}(he:o.op= .store t x y){K:bd}{Q:Exit→Act→World→Prop}(hk:GS C t (bM s [] x) (bM s [] y) s K):kU P o a w (fH E0 w0 o a K) Q:=by
 unfold GS at hk
 split at hk
 ·rename_i ti k ta hz
  obtain⟨k1,k2,k3⟩:=hk
  have hx:=h.ev (p:=[]) trivial x
  have hy:=h.ev (p:=[]) trivial y
  have fin: ∀w',(Instr.storeAt t (a.eval x) (a.eval y)).run P w= .ok () w'→Out E0 w0 a K undef w'→kU P o a w (fH E0 w0 o a K) Q:=fun w' g1 g2=>by
   refine um ?_ g2
   simp only[execOp,he]
   simp[g1]
  rw[hI]at k3
  split at k3
  ·rename_i d off dO
   rw[dO]at hx
   cases dZ:a.eval x<;>rw[dZ]at hx<;>cases hx
   obtain⟨w',g1,g2⟩:=wR hL h ta hy hz k1 k2 k3
   exact fin w' (by rw[dZ];exact g1) g2
  ·rename_i d i off z dO
   rw[dO]at hx
   cases dZ:a.eval x<;>rw[dZ]at hx<;>cases hx
   obtain⟨w',g1,g2⟩:=EO hL h ta hy hz k1 k2 k3
   exact fin w' (by rw[dZ];exact g1) g2
  ·exact k3.elim
 ·exact hk.elim
def Reads(P:Program)(E:Env)(w:World)(a:Act)(o:Oper)(s:St)(p:Path)(K:bd):Prop:= ∃r,K r s∧(aZ s p→ ∃x,(execOp a.eval o).run P w= .ok (.value x) w∧Cz E r x)
theorem bG{X:Prop}(h:under s p X)(hp:aZ s p):X:=by
 unfold under at h
 split at h
 ·exact h
 ·exact h hp
theorem dP{z:Nat}: ∀{xs:List (List AV)} {i:Nat} {cs:List AV},(∀l∈xs,l.length=z)→xs[i]? =some cs→ ∀q,q<z→xs.flatten[i*z+q]? =cs[q]?
 |[],i,cs,_,h,q,_=>by simp at h
 |l::r,0,cs,hz,h,q,hq=>by
  simp at h;subst h
  have hl:=hz l (by simp)
  rw[List.flatten_cons,List.getElem?_append_left (by omega)]
  simp
 |l::r,i+1,cs,hz,h,q,hq=>by
  have hl:=hz l (by simp)
  have ih:=dP (xs:=r) (i:=i) (fun l' qJ=>hz l' (by simp[qJ])) (by simpa using h) q hq
  rw[List.flatten_cons,List.getElem?_append_right (by rw[Nat.succ_mul];omega),Nat.succ_mul,show i*z+z+q - l.length=i*z+q from by omega]
  exact ih
theorem qv(hL:bk P C.L)(hI:C.I=an)(h:bn E0 E w0 w s a){o:Oper}{t:Nat}{x:Operand}(he:o.op= .load t x){K:bd}(hk:Nn C p t (bM s p x) s K):Reads P E w a o s p K:=by
 unfold Nn at hk
 cases ht:C.L t with
 |none=>rw[ht]at hk;exact hk.elim
 |some ti=>
  rw[ht]at hk
  dsimp only at hk
  have fin: ∀v y,a.eval x=v→(Instr.loadAt t v).run P w= .ok y w→(execOp a.eval o).run P w= .ok (.value y) w:=fun v y hv hy=>by
   simp only[execOp,he,hv]
   simp[hy]
  split at hk
  ·rename_i rr z xs dO
   split at hk
   ·rename_i n e' kE
    obtain⟨⟨k2,k3⟩,hk⟩:=hk
    rw[hI]at k2
    have k2:xs.length=n:=k2
    refine⟨_,hk,fun hp=>?_⟩
    have hx:=h.ev hp x
    rw[dO]at hx
    cases hx with
    |mN _ _ _ _ hz hc=>
    generalize dZ:a.eval x=v at hc
    cases hc with
    |aP _ _ _ b o u hr hi fP hu hq=>
    have fG:=aE hz
    have so:ti.agg=true:=by unfold TI.agg;rw[kE]
    have jj:part ti xs.flatten 0=some (.agg xs.flatten):=by
     have h1:mL (0+ti.size) xs.flatten.length=true:=by rw[xP];rw[fG,k2,k3];omega
     unfold part
     rw[h1,so]
     simp only[cond_true,cut,List.drop_zero]
     rw[List.take_of_length_le (by rw[fG,k2,k3];exact Nat.le_refl _)]
    obtain⟨y,g1,g2⟩:=iX (P:=P) (E:=E) (w:=w) hL ht (b:=b) (o:=o) jj (fun q a' ha=>⟨u q,by rw[h.heap];exact hu q a' ha,hq q a' ha⟩)
    exact⟨y,fin _ _ dZ g1,UG g2 k2 hz (fun q a ha=>hi q a ha)⟩
   ·exact hk.elim
  ·rename_i i off dO
   obtain⟨cs,r,hg,jj,hk⟩:=hk
   refine⟨r,hk,fun hp=>?_⟩
   have hx:=h.ev hp x
   rw[dO]at hx
   cases dZ:a.eval x<;>rw[dZ]at hx<;>cases hx
   obtain⟨hl,c,e,hb,ho,hs,dC,hq⟩:=h.gx i _ (bG hg hp)
   obtain⟨y,g1,g2⟩:=iX (P:=P) (E:=E) (w:=w) hL ht (b:=E.m (.o i)) (o:=0) jj (fun q a' ha=>by
    have aS:q<c.size:=by rw[dC];exact(List.getElem?_eq_some_iff.1 ha).1
    exact⟨c[q],by simp[aO,h.heap,hb,aS],hq q a' _ ha (by simp)⟩)
   rw[Nat.zero_add]at g1
   exact⟨y,fin _ _ dZ g1,g2⟩
  ·rename_i d off dO
   split at hk
   ·rename_i z xs fF
    split at hk
    ·rename_i n e' kE
     obtain⟨⟨k1,k2,k3⟩,hk⟩:=hk
     rw[hI]at k2
     subst k1
     refine⟨_,hk,fun hp=>?_⟩
     have k2:xs.length=n:=bG k2 hp
     have hx:=h.ev hp x
     rw[dO]at hx
     cases dZ:a.eval x<;>rw[dZ]at hx<;>cases hx
     obtain⟨hl,qe,dQ,hz,hm,c,e,hb,ho,hs,dC,lG,hq⟩:=h.bx d _ fF
     have fG:=aE hz
     have so:ti.agg=true:=by unfold TI.agg;rw[kE]
     have jj:part ti xs.flatten 0=some (.agg xs.flatten):=by
      have h1:mL (0+ti.size) xs.flatten.length=true:=by rw[xP];rw[fG,k2,k3];omega
      unfold part
      rw[h1,so]
      simp only[cond_true,cut,List.drop_zero]
      rw[List.take_of_length_le (by rw[fG,k2,k3];exact Nat.le_refl _)]
     obtain⟨y,g1,g2⟩:=iX (P:=P) (E:=E) (w:=w) hL ht (b:=E.m (.s d)) (o:=0) jj (fun q a' ha=>by
      have aS:q<c.size:=by rw[dC,←fG];exact(List.getElem?_eq_some_iff.1 ha).1
      exact⟨c[q],by simp[aO,h.heap,hb,aS],hq q a' _ ha (by simp)⟩)
     exact⟨y,fin _ _ dZ (by simpa using g1),UG g2 k2 hz lG⟩
    ·exact hk.elim
   ·exact hk.elim
  ·rename_i d i off z dO
   split at hk
   ·rename_i z' xs fF
    obtain⟨cs,r,e0,hg,jj,hk⟩:=hk
    subst e0
    refine⟨r,hk,fun hp=>?_⟩
    have hx:=h.ev hp x
    rw[dO]at hx
    cases dZ:a.eval x<;>rw[dZ]at hx<;>cases hx
    obtain⟨hl,qe,dQ,hz,hm,c,e,hb,ho,hs,dC,lG,hq⟩:=h.bx d _ fF
    have fG:=aE hz
    have Kf:=bG hg hp
    have BZ:i<xs.length:=(List.getElem?_eq_some_iff.1 Kf).1
    have hmul:i*z+z≤xs.length*z:=by rw[←Nat.succ_mul];exact Nat.mul_le_mul_right _ BZ
    have D0:cs.length=z:=hz cs (by rw[List.getElem?_eq_getElem BZ]at Kf;cases Kf;simp)
    obtain⟨y,g1,g2⟩:=iX (P:=P) (E:=E) (w:=w) hL ht (b:=E.m (.s d)) (o:=i*z) jj (fun q a' ha=>by
     have wq:q<z:=by rw[←D0];exact(List.getElem?_eq_some_iff.1 ha).1
     have aS:i*z+q<c.size:=by omega
     exact⟨c[i*z+q],by simp[aO,h.heap,hb,aS],hq (i*z+q) a' _ (by rw[dP hz Kf q wq];exact ha) (by simp)⟩)
    exact⟨y,fin _ _ dZ g1,g2⟩
   ·rename_i z' sa xs fF
    obtain⟨cs,r,e0,hg,jj,hk⟩:=hk
    subst e0
    refine⟨r,hk,fun hp=>?_⟩
    have hx:=h.ev hp x
    rw[dO]at hx
    cases dZ:a.eval x<;>rw[dZ]at hx<;>cases hx
    obtain⟨hl,ho,hs,lG,u,⟨dQ,hz,qe,hle,hm,c,e,hb,dC,hu⟩,hq,_⟩:=h.bx d _ fF
    have Kf:=bG hg hp
    have BZ:i<xs.length:=(List.getElem?_eq_some_iff.1 Kf).1
    have D0:cs.length=z:=hz cs (by rw[List.getElem?_eq_getElem BZ]at Kf;cases Kf;simp)
    obtain⟨y,g1,g2⟩:=iX (P:=P) (E:=E) (w:=w) hL ht (b:=E.m (.s d)) (o:=i*z) jj (fun q a' ha=>by
     have wq:q<z:=by rw[←D0];exact(List.getElem?_eq_some_iff.1 ha).1
     have hfa:xs.flatten[i*z+q]? =some a':=by rw[dP hz Kf q wq];exact ha
     exact⟨u (i*z+q),by simp[aO,h.heap,hb,hu _ _ hfa],hq _ _ hfa⟩)
    exact⟨y,fin _ _ dZ g1,g2⟩
   ·exact hk.elim
  ·exact hk.elim
theorem iY(hL:bk P L){t e:Nat}{ti:TI}(ht:elemOf L t=some (e,ti))(k:IntKind)(n:Int)(b o m c:Nat)(h0:0≤n)(h1:n<m)(w:World):
  (Instr.indexAt t (.slice (some ⟨b,o,none⟩) m c) (.int k n)).run P w= .ok (.pointer (some ⟨b,o+n.toNat*ti.size,none⟩)) w:=by
 unfold elemOf at ht
 cases hl:L t with
 |none=>rw[hl]at ht;simp at ht
 |some tj=>
  obtain⟨kk,size,bytes,zero⟩:=tj
  rw[hl]at ht
  cases kk with
  |slice e'=>
   dsimp only at ht
   cases he:L e' with
   |none=>rw[he]at ht;simp at ht
   |some tk=>
    rw[he]at ht
    simp only[Option.some.injEq,Prod.mk.injEq]at ht
    obtain⟨rfl,rfl⟩:=ht
    obtain⟨i,d,z,g1,g2,g3,g4,g5,g6,g7⟩:=(hL.ok t _ hl).ex
    obtain⟨i',d',z',k1,k2,k3,k4,k5,k6,k7⟩:=(hL.ok e' _ he).ex
    dsimp only at g7
    subst g7
    simp[Instr.indexAt,go_sem,underlying,g6,Go.sizeOf,typeInfo,k1,k2,h0,h1,ef]
  |_=>simp at ht
theorem yC(hL:bk P L){t n' e:Nat}{ti:TI}(ht:L t=some ti)(hk:ti.k= .arr n' e){tj:TI}(he:L e=some tj)(k:IntKind)(n:Int)(b o:Nat)(h0:0≤n)(h1:n<n')(w:World):
  (Instr.indexAt t (.pointer (some ⟨b,o,none⟩)) (.int k n)).run P w= .ok (.pointer (some ⟨b,o+n.toNat*tj.size,none⟩)) w:=by
 obtain⟨i,d,z,g1,g2,g3,g4,g5,g6,g7⟩:=(hL.ok t _ ht).ex
 obtain⟨i',d',z',k1,k2,k3,k4,k5,k6,k7⟩:=(hL.ok e _ he).ex
 rw[hk]at g7
 dsimp only at g7
 subst g7
 simp[Instr.indexAt,go_sem,underlying,g6,Go.sizeOf,typeInfo,k1,k2,h0,h1,ef,Instr.sureAddr]
theorem eN{x:Operand}{n:Int}(hn:intOf (bM s p x)=some n)(h:bn E0 E w0 w s a)(hp:aZ s p): ∃k,a.eval x= .int k n:=by
 unfold intOf at hn
 split at hn
 ·rename_i k m dO
  cases hn
  have hx:=h.ev hp x
  rw[dO]at hx
  exact⟨k,bH hx⟩
 ·simp at hn
theorem nJ{av:AV}{v:Value}{r:Nat}{xs:List (List AV)}(hr:wX av=some (r,xs))(h:Cz E av v):Cz E (.sl r xs) v:=by
 unfold wX at hr
 split at hr
 ·cases hr;exact h
 ·cases hr;exact h.read
 ·cases hr;have:=bH h;subst this;exact .mZ _ _ _
 ·simp at hr
theorem Cz.elem{r:Nat}{xs:List (List AV)}{v:Value}(h:Cz E (.sl r xs) v){i:Nat}{cs:List AV}(hi:xs[i]? =some cs):
  ∃b o c,v= .slice (some ⟨b,o,none⟩) xs.length c∧Cz E (.aP r cs 0) (.pointer (some ⟨b,o+i*cs.length,none⟩)):=by
 cases h with
 |mZ=>simp at hi
 |sl _ _ z b o c u hp hc hm dQ hz hr hii hs hu hq=>
  have iK:cs.length=z:=hz cs (by rw[List.getElem?_eq_some_iff]at hi;obtain⟨h1,h2⟩:=hi;rw[←h2];simp)
  have get: ∀q a,cs[q]? =some a→xs.flatten[i*z+q]? =some a:=fun q a ha=>by
   rw[dP hz hi q (by rw[←iK];exact(List.getElem?_eq_some_iff.1 ha).1)];exact ha
  refine⟨b,o,c,rfl,?_⟩
  have:=Cz.aP (E:=E) r cs 0 b (o+i*z) (fun q=>u (i*z+q)) (fun q a ha=>hr) (fun q a ha=>hii _ a (get q a ha)) (fun q a ha=>by rw[Nat.add_assoc];exact hs _ a (get q a ha))
   (fun q a ha=>by rw[Nat.add_assoc];exact hu _ a (get q a ha)) (fun q a ha=>hq _ a (get q a ha))
  rw[iK]
  simpa using this
theorem Le(hL:bk P C.L)(hI:C.I=an)(h:bn E0 E w0 w s a){o:Oper}{t:Nat}{x y:Operand}(he:o.op= .indexAddr t x y){n:Int}(hn:intOf (bM s p y)=some n){K:bd}(hk:QN C p t n (bM s p x) s K):Reads P E w a o s p K:=by
 have fin: ∀v z k,a.eval x=v→a.eval y= .int k n→(Instr.indexAt t v (.int k n)).run P w= .ok z w→(execOp a.eval o).run P w= .ok (.value z) w:=fun v z k hv hk hy=>by
  simp only[execOp,he,hv,hk]
  simp[hy]
 unfold QN at hk
 rw[hI]at hk
 split at hk
 ·rename_i k m dO
  split at hk
  ·rename_i e ti rH
   obtain⟨hb,hk⟩:=hk
   refine⟨_,hk,fun hp=>?_⟩
   obtain⟨h0,h1⟩:0≤n∧n<(m:Int):=by
    have q:=bG hb hp
    skip
    exact q
   obtain⟨ki,hy⟩:=eN hn h hp
   have hx:=h.ev hp x
   rw[dO]at hx
   cases dZ:a.eval x<;>rw[dZ]at hx<;>cases hx
   rename_i hl _ _
   exact⟨_,fin _ _ _ dZ hy (iY hL rH ki n _ _ _ _ h0 h1 w),by
    have:=Cz.cQ (E:=E) k n.toNat 0 ti.size (by assumption)
    show Cz E (.cQ _ n.toNat _ _) _;simpa using this⟩
  ·exact hk.elim
 ·rename_i d off dO
  split at hk
  ·rename_i ti z xs ta fF
   split at hk
   ·rename_i m e kE
    split at hk
    ·rename_i tj MA
     obtain⟨k1,k2,hb,hk⟩:=hk
     subst k1;subst k2
     refine⟨_,hk,fun hp=>?_⟩
     obtain⟨h0,h1⟩:0≤n∧n<(m:Int):=by
      have q:=bG hb hp
      skip
      exact q
     obtain⟨ki,hy⟩:=eN hn h hp
     have hx:=h.ev hp x
     rw[dO]at hx
     cases dZ:a.eval x<;>rw[dZ]at hx<;>cases hx
     rename_i hl
     exact⟨_,fin _ _ _ dZ hy (yC hL ta kE MA ki n _ _ h0 h1 w),by
      have:=Cz.cQ (E:=E) (.s d) n.toNat 0 tj.size hl
      show Cz E (.cQ _ n.toNat _ _) _;simpa using this⟩
    ·exact hk.elim
   ·exact hk.elim
  ·exact hk.elim
 ·split at hk
  ·rename_i r xs e ti N4 rH
   obtain⟨cs,hb,hk⟩:=hk
   refine⟨_,hk,fun hp=>?_⟩
   obtain⟨h0,h1,h2⟩:=bG hb hp
   obtain⟨ki,hy⟩:=eN hn h hp
   have hx:=nJ N4 (h.ev hp x)
   obtain⟨b,o',c,hv,hc⟩:=hx.elem h1
   refine⟨_,fin _ _ _ hv hy (iY hL rH ki n b o' xs.length c h0 (by
    have:=(List.getElem?_eq_some_iff.1 h1).1;omega) w),?_⟩
   rw[←h2];exact hc
  ·exact hk.elim
theorem yB(hL:bk P L){t:Nat}(ht:isStr L t=true)(k:IntKind)(n:Int)(b:ByteArray){c:UInt8}(h0:0≤n)(h1:b[n.toNat]? =some c)(w:World):
  (Instr.index t (.string b) (.int k n)).run P w= .ok (.int .u8 c.toNat) w:=by
 unfold isStr at ht
 cases hl:L t with
 |none=>rw[hl]at ht;simp at ht
 |some ti=>
  rw[hl]at ht
  dsimp only at ht
  obtain⟨i,d,z,g1,g2,g3,g4,g5,g6,g7⟩:=(hL.ok t _ hl).ex
  split at ht
  ·rename_i hk
   rw[hk]at g7
   dsimp only at g7
   subst g7
   simp[Instr.index,go_sem,underlying,g6,h0,h1]
  ·simp at ht
theorem yD(hL:bk P L){t m e:Nat}{ti tj:TI}(ht:L t=some ti)(hk:ti.k= .arr m e)(he:L e=some tj)(h1:tj.size=1)(h2:tj.agg=false)(k:IntKind)(n:Int)(cs:Array Value){y:Value}(h0:0≤n)(hn:n<m)(hy:cs[n.toNat]? =some y)(w:World):
  (Instr.index t (.agg cs) (.int k n)).run P w= .ok y w:=by
 obtain⟨i,d,z,g1,g2,g3,g4,g5,g6,g7⟩:=(hL.ok t _ ht).ex
 obtain⟨i',d',z',k1,k2,k3,k4,k5,k6,k7⟩:=(hL.ok e _ he).ex
 rw[hk]at g7
 dsimp only at g7
 subst g7
 have DX: ∀w,(isAgg e).run P w= .ok false w:=by
  intro w
  unfold TI.agg at h2
  cases hk:tj.k with
  |da fs=>rw[hk]at h2;simp at h2
  |arr n e=>rw[hk]at h2;simp at h2
  |sc=>rw[hk]at k7;dsimp only at k7;cases d'<;>simp_all [isAgg,underlying,go_sem]
  |_=>rw[hk]at k7;dsimp only at k7;subst k7;simp[isAgg,underlying,go_sem,k6]
 simp[Instr.index,go_sem,underlying,g6,Go.sizeOf,typeInfo,k1,k2,h1,h0,hn,Go.part,DX,hy]
theorem GV(hL:bk P C.L)(h:bn E0 E w0 w s a){o:Oper}{t:Nat}{x y:Operand}(he:o.op= .index t x y){n:Int}(hn:intOf (bM s p y)=some n){K:bd}(hk:GW C p t n (bM s p x) s K):Reads P E w a o s p K:=by
 have fin: ∀v z k,a.eval x=v→a.eval y= .int k n→(Instr.index t v (.int k n)).run P w= .ok z w→(execOp a.eval o).run P w= .ok (.value z) w:=fun v z k hv hk hy=>by
  simp only[execOp,he,hv,hk]
  simp[hy]
 unfold GW at hk
 split at hk
 ·rename_i b dO
  cases hs:isStr C.L t with
  |false=>rw[hs]at hk;exact hk.elim
  |true=>
   rw[hs,cond_true]at hk
   obtain⟨c,hb,hk⟩:=hk
   refine⟨_,hk,fun hp=>?_⟩
   obtain⟨h0,h1⟩:=bG hb hp
   obtain⟨ki,hy⟩:=eN hn h hp
   have hx:=h.ev hp x
   rw[dO]at hx
   exact⟨_,fin _ _ _ (bH hx) hy (yB hL hs ki n b h0 h1 w),.v _⟩
 ·rename_i cs dO
  split at hk
  ·rename_i ti ta
   split at hk
   ·rename_i m e kE
    split at hk
    ·rename_i tj MA
     cases eQ:du tj.size 1&& !tj.agg with
     |false=>rw[eQ]at hk;exact hk.elim
     |true=>
      rw[eQ,cond_true]at hk
      simp only[Bool.and_eq_true,Bool.not_eq_true']at eQ
      obtain⟨r,hb,hk⟩:=hk
      refine⟨_,hk,fun hp=>?_⟩
      obtain⟨h0,h1,h2⟩:=bG hb hp
      obtain⟨ki,hy⟩:=eN hn h hp
      have hx:=h.ev hp x
      rw[dO]at hx
      cases dZ:a.eval x<;>rw[dZ]at hx<;>cases hx
      rename_i ys hl hq
      have aS:n.toNat<ys.length:=by rw[hl];exact(List.getElem?_eq_some_iff.1 h2).1
      exact⟨ys[n.toNat],fin _ _ _ dZ hy (yD hL ta kE MA (dy eQ.1) eQ.2 ki n _ h0 h1 (by simp[aS]) w),hq _ r _ h2 (by simp)⟩
    ·exact hk.elim
   ·exact hk.elim
  ·exact hk.elim
 ·exact hk.elim
theorem uo(hI:C.I=an)(h:bn E0 E w0 w s a){o:Oper}{c x y:Operand}(he:o.op= .pick c x y){K:bd}(hk:QM C p c x y s K):Reads P E w a o s p K:=by
 unfold QM at hk
 split at hk
 ·exact hk.elim
 ·rename_i d hd
  split at hk
  ·rename_i r N5
   refine⟨r,hk,fun hp=>?_⟩
   unfold ZF at N5
   split at N5
   ·rename_i g u v h1 h2 h3
    cases N5
    have hc:=h.ev hp c
    rw[h1]at hc
    have ec:=bH hc
    have ai8:c= .tmp d:=by unfold Q6 at hd;split at hd<;>simp_all
    have hcd: ∃q,look d s.t=some (.v (.bool g))∧q=g:=by
     subst ai8
     have:Dg s p d= .v (.bool g):=h1
     unfold Dg at this
     cases hl:look d s.t with
     |none=>rw[hl]at this;simp at this
     |some z=>
      rw[hl]at this
      dsimp only at this
      split at this
      ·subst this;exact⟨g,rfl,rfl⟩
      ·rename_i q _
       cases hpb:sR q p with
       |true=>rw[hpb,cond_true]at this;subst this;exact⟨g,rfl,rfl⟩
       |false=>rw[hpb,cond_false]at this;cases this
    obtain⟨_,iK,_⟩:=hcd
    have Ju: ∀(w:Bool),g=w→aZ s (p++[(d,w)]):=fun w hw=>by
     have: ∀q:Path,aZ s q→aZ s (q++[(d,w)]):=fun q=>by
      induction q with
      |nil=>intro _;exact⟨by rw[iK];exact hw,trivial⟩
      |cons z r ih=>intro hq;exact⟨hq.1,ih hq.2⟩
     exact this p hp
    rw[hI]
    refine⟨.bool (bif g then u else v),?_,.v _⟩
    cases g with
    |true=>
     have hx:=h.ev (Ju true rfl) x
     rw[h2]at hx
     have ex:=bH hx
     simp only[execOp,he,ec,ex]
     simp[asBool,go_sem]
    |false=>
     have hx:=h.ev (Ju false rfl) y
     rw[h3]at hx
     have ex:=bH hx
     simp only[execOp,he,ec,ex]
     simp[asBool,go_sem]
   ·simp at N5
  ·exact hk.elim
theorem HB{d n:Int}{y:Option Operand}(hn:kT s p d y=some n)(h:bn E0 E w0 w s a)(hp:aZ s p):(y=none∧n=d)∨ ∃x k,y=some x∧a.eval x= .int k n:=by
 unfold kT at hn
 cases y with
 |none=>cases hn;exact .inl ⟨rfl,rfl⟩
 |some x=>obtain⟨k,hk⟩:=eN hn h hp;exact .inr ⟨x,k,rfl,hk⟩
theorem sN(P:Program)(isS:Bool)(len cap:Nat)(lo hi:Option Value)(l h:Nat)(hlo:(lo=none∧l=0)∨ ∃k,lo=some (.int k l))(hhi:(hi=none∧h=len)∨ ∃k,hi=some (.int k h))(h1:l≤h)(h2:h≤len)(h3:len≤cap)(w:World):
  (Instr.sliceBounds isS len cap lo hi none).run P w= .ok (l,h,cap) w:=by
 rcases hlo with⟨rfl,rfl⟩|⟨k,rfl⟩<;>rcases hhi with⟨rfl,rfl⟩|⟨k',rfl⟩
 ·simp[Instr.sliceBounds,go_sem]
 ·have t:h≤cap:=by omega
  simp[Instr.sliceBounds,Instr.sliceBound,asIntOf,go_sem,t]
 ·simp[Instr.sliceBounds,Instr.sliceBound,asIntOf,go_sem,h1]
 ·have t1:h≤cap:=by omega
  simp[Instr.sliceBounds,Instr.sliceBound,asIntOf,go_sem,t1,h1]
theorem r6{d n:Int}{y:Option Operand}(hn:kT s p d y=some n)(h:bn E0 E w0 w s a)(hp:aZ s p)(h0:0≤n):((y.map a.eval)=none∧n=d)∨ ∃k,(y.map a.eval)=some (.int k (n.toNat:Int)):=by
 rcases HB hn h hp with⟨rfl,rfl⟩|⟨x,k,rfl,hx⟩
 ·exact .inl ⟨rfl,rfl⟩
 ·exact .inr ⟨k,by simp[hx,Int.toNat_of_nonneg h0]⟩
theorem He(hL:bk P L){t:Nat}(ht:isStr L t=true)(b:ByteArray){lo hi:Option Value}{l h:Nat}(hb: ∀w,(Instr.sliceBounds false b.size b.size lo hi none).run P w= .ok (l,h,b.size) w)(w:World):
  (Instr.sliceAt t (.string b) lo hi none).run P w= .ok (.string (b.extract l h)) w:=by
 unfold isStr at ht
 cases hl:L t with
 |none=>rw[hl]at ht;simp at ht
 |some ti=>
  rw[hl]at ht
  dsimp only at ht
  obtain⟨i,d,z,g1,g2,g3,g4,g5,g6,g7⟩:=(hL.ok t _ hl).ex
  split at ht
  ·rename_i hk
   rw[hk]at g7
   dsimp only at g7
   subst g7
   have hu: ∀w,(underlying t).run P w= .ok .string w:=eT g6
   unfold Instr.sliceAt
   simp[Sem.run_bind,hu,Result.andThen,Instr.slice,hb]
  ·simp at ht
theorem gL(hL:bk P L){t e:Nat}{ti:TI}(ht:elemOf L t=some (e,ti)):P.underlying t=some (.slice e)∧L e=some ti∧ ∃i,P.info? e=some i∧i.size=ti.size∧i.bytes=ti.bytes∧ ∃z,i.zero=some z∧z.cells.toList=ti.zero:=by
 unfold elemOf at ht
 cases hl:L t with
 |none=>rw[hl]at ht;simp at ht
 |some tj=>
  obtain⟨kk,size,bytes,zero⟩:=tj
  rw[hl]at ht
  cases kk with
  |slice e'=>
   dsimp only at ht
   cases he:L e' with
   |none=>rw[he]at ht;simp at ht
   |some tk=>
    rw[he]at ht
    simp only[Option.some.injEq,Prod.mk.injEq]at ht
    obtain⟨rfl,rfl⟩:=ht
    obtain⟨i,d,z,g1,g2,g3,g4,g5,g6,g7⟩:=(hL.ok t _ hl).ex
    obtain⟨i',d',z',k1,k2,k3,k4,k5,k6,k7⟩:=(hL.ok e' _ he).ex
    dsimp only at g7
    subst g7
    exact⟨g6,he,i',k1,k2,k3,z',k4,k5⟩
  |_=>simp at ht
theorem A4(hL:bk P L){t e:Nat}{ti:TI}(ht:elemOf L t=some (e,ti))(A:Option Addr)(n c:Nat){lo hi:Option Value}{l h m:Nat}(hb: ∀w,(Instr.sliceBounds true n c lo hi none).run P w= .ok (l,h,m) w)(w:World):
  (Instr.sliceAt t (.slice A n c) lo hi none).run P w= .ok (.slice (if m=l then A else A.map (·.add (l*ti.size))) (h - l) (m - l)) w:=by
 obtain⟨g6,_,i,k1,k2,_⟩:=gL hL ht
 have hu: ∀w,(underlying t).run P w= .ok (.slice e) w:=eT g6
 have hz: ∀w,(Go.sizeOf e).run P w= .ok ti.size w:=fun w=>by rw[←k2];exact kh k1 w
 unfold Instr.sliceAt
 simp[Sem.run_bind,hu,Result.andThen,Instr.slice,hb,hz]
theorem Hf(hL:bk P L){t n e:Nat}{ti:TI}(ht:L t=some ti)(hk:ti.k= .arr n e)(b:Nat){lo hi:Option Value}{h m:Nat}(hb: ∀w,(Instr.sliceBounds false n n lo hi none).run P w= .ok (0,h,m) w){tj:TypeInfo}(he:P.info? e=some tj)(w:World):
  (Instr.sliceAt t (.pointer (some ⟨b,0,none⟩)) lo hi none).run P w= .ok (.slice (some ⟨b,0,none⟩) h m) w:=by
 obtain⟨i,d,z,g1,g2,g3,g4,g5,g6,g7⟩:=(hL.ok t _ ht).ex
 rw[hk]at g7
 dsimp only at g7
 subst g7
 have hu: ∀w,(underlying t).run P w= .ok (.array n e) w:=eT g6
 have hz: ∀w,(Go.sizeOf e).run P w= .ok tj.size w:=fun w=>kh he w
 unfold Instr.sliceAt
 simp only[Instr.sureAddr]
 simp[Sem.run_bind,hu,Result.andThen,hb,hz,ef]
theorem Cz.cut{r:Nat}{xs:List (List AV)}{A:Option Addr}{n c:Nat}(h:Cz E (.sl r xs) (.slice A n c)){l k z:Nat}(hz: ∀cs∈xs,cs.length=z)(h1:l≤k)(h2:k≤xs.length):
  n=xs.length∧Cz E (.sl r ((xs.take k).drop l)) (.slice (if c=l then A else A.map (·.add (l*z))) (k - l) (c - l))∧xs.length≤c∨(xs=[]∧n=0):=by
 cases h with
 |mZ=>exact .inr ⟨rfl,rfl⟩
 |sl _ _ z' b o c u hp hc hm dQ J9 hr hi hs hu hq=>
  left
  have PC:z'=z:=by
   cases xs with
   |nil=>simp at hp
   |cons x r=>rw[←J9 x (by simp),hz x (by simp)]
  subst PC
  refine⟨rfl,?_,hc⟩
  by_cases hk:k=l
  ·subst hk
   have:(xs.take k).drop k=[]:=by simp
   rw[this,Nat.sub_self]
   exact .mZ _ _ _
  ·have iK:c≠l:=by omega
   rw[if_neg iK]
   simp only[Option.map_some,ef]
   have hlen:((xs.take k).drop l).length=k - l:=by simp;omega
   have get: ∀q a,((xs.take k).drop l).flatten[q]? =some a→xs.flatten[l*z'+q]? =some a:=fun q a ha=>by
    have ek:xs.take l++(xs.take k).drop l=xs.take k:=by
     have:=List.take_append_drop l (xs.take k)
     rwa [List.take_take,Nat.min_eq_left h1]at this
    have e1:xs.take l++((xs.take k).drop l++xs.drop k)=xs:=by rw[←List.append_assoc,ek,List.take_append_drop]
    have e2:xs.flatten=(xs.take l).flatten++(((xs.take k).drop l).flatten++(xs.drop k).flatten):=by
     rw[←List.flatten_append,←List.flatten_append,e1]
    have e3:(xs.take l).flatten.length=l*z':=by
     rw[aE (z:=z') (fun x hx=>J9 x (List.mem_of_mem_take hx))]
     rw[List.length_take,Nat.min_eq_left (by omega)]
    rw[e2,List.getElem?_append_right (by omega),e3,show l*z'+q - l*z'=q from by omega]
    rw[List.getElem?_append_left (List.getElem?_eq_some_iff.1 ha).1]
    exact ha
   have:=Cz.sl (E:=E) r ((xs.take k).drop l) z' b (o+l*z') (c - l) (fun q=>u (l*z'+q)) (by omega) (by omega) (by omega) dQ (fun x hx=>J9 x (List.mem_of_mem_take (List.mem_of_mem_drop hx))) hr (fun q a ha=>hi _ a (get q a ha))
    (fun q a ha=>by rw[Nat.add_assoc];exact hs _ a (get q a ha)) (fun q a ha=>by rw[Nat.add_assoc];exact hu _ a (get q a ha)) (fun q a ha=>hq _ a (get q a ha))
   rw[hlen]at this
   exact this
theorem GU(hL:bk P C.L)(hI:C.I=an)(h:bn E0 E w0 w s a){o:Oper}{t:Nat}{x:Operand}{lo hi:Option Operand}(he:o.op= .slice t x lo hi none){K:bd}(hk:zY C p t lo hi (bM s p x) s K):Reads P E w a o s p K:=by
 have fin: ∀v y,a.eval x=v→(Instr.sliceAt t v (lo.map a.eval) (hi.map a.eval) none).run P w= .ok y w→(execOp a.eval o).run P w= .ok (.value y) w:=fun v y hv hy=>by
  simp only[execOp,he,hv,Option.map_none]
  simp[hy]
 unfold zY at hk
 rw[hI]at hk
 split at hk
 ·rename_i b dO
  cases hs:isStr C.L t with
  |false=>rw[hs]at hk;exact hk.elim
  |true=>
   rw[hs,cond_true]at hk
   split at hk
   ·rename_i l k hl hh
    obtain⟨hb,hk⟩:=hk
    refine⟨_,hk,fun hp=>?_⟩
    obtain⟨h0,h1,h2⟩:=bG hb hp
    have h2:k≤(b.size:Int):=h2
    have hx:=h.ev hp x
    rw[dO]at hx
    have e1:(l.toNat:Int)=l:=Int.toNat_of_nonneg h0
    have e2:(k.toNat:Int)=k:=Int.toNat_of_nonneg (by omega)
    refine⟨_,fin _ _ (bH hx) (He hL hs b (l:=l.toNat) (h:=k.toNat) (fun w=>sN P false b.size b.size _ _ _ _ ?_ ?_ (by omega) (by omega) (Nat.le_refl _) w) w),.v _⟩
    ·rcases r6 hl h hp h0 with⟨g1,g2⟩|⟨q,g⟩
     ·exact .inl ⟨g1,by omega⟩
     ·exact .inr ⟨q,g⟩
    ·rcases r6 hh h hp (by omega)with⟨g1,g2⟩|⟨q,g⟩
     ·exact .inl ⟨g1,by have g2:k=(b.size:Int):=g2;omega⟩
     ·exact .inr ⟨q,g⟩
   ·exact hk.elim
 ·rename_i kk m dO
  split at hk
  ·rename_i ee k rH hh
   obtain⟨e',ti⟩:=ee
   obtain⟨hb,hk⟩:=hk
   refine⟨_,hk,fun hp=>?_⟩
   obtain⟨_,h0,h1⟩:=bG hb hp
   have hx:=h.ev hp x
   rw[dO]at hx
   cases dZ:a.eval x<;>rw[dZ]at hx<;>cases hx
   have hcn:m≤(E.len kk).1:=by assumption
   have XK:(E.len kk).1≤(E.len kk).2:=by assumption
   have e2:(k.toNat:Int)=k:=Int.toNat_of_nonneg h0
   refine⟨_,fin _ _ dZ (A4 hL rH _ _ _ (l:=0) (h:=k.toNat) (m:=(E.len kk).2) (fun w=>sN P true m (E.len kk).2 _ _ _ _ (.inl ⟨rfl,rfl⟩) ?_ (by omega) (by omega) (by omega) w) w),?_⟩
   ·rcases r6 hh h hp h0 with⟨g1,g2⟩|⟨q,g⟩
    ·exact .inl ⟨g1,by omega⟩
    ·exact .inr ⟨q,g⟩
   ·have:=Cz.iq (E:=E) kk k.toNat (by assumption) (by omega) XK (by assumption)
    simp only[Option.map_some,ef,Nat.zero_mul,Nat.sub_zero,ite_self]
    exact this
  ·exact hk.elim
 ·rename_i d off dO
  split at hk
  ·rename_i ti z xs ta fF
   split at hk
   ·rename_i m e kE
    split at hk
    ·rename_i tj k MA hh
     obtain⟨k1,k2,k3,hb,hk⟩:=hk
     subst k1
     have k2:xs.length=m:=k2
     refine⟨_,hk,fun hp=>?_⟩
     obtain⟨_,h0,h1⟩:=bG hb hp
     have hx:=h.ev hp x
     rw[dO]at hx
     cases dZ:a.eval x<;>rw[dZ]at hx<;>cases hx
     rename_i hl
     have e2:(k.toNat:Int)=k:=Int.toNat_of_nonneg h0
     have qe:E.len (.s d)=(m,m):=by rw[←k2];exact(h.bx d _ fF).2.1
     have ajK:=Cz.iq (E:=E) (.s d) k.toNat hl (by rw[qe];dsimp only;omega) (by rw[qe];exact Nat.le_refl _) (by rw[qe];unfold maxLen;dsimp only;omega)
     rw[qe]at ajK
     obtain⟨i,dd,zz,g1,g2,g3,g4,g5,g6,g7⟩:=(hL.ok e _ MA).ex
     refine⟨_,fin _ _ dZ (Hf hL ta kE (E.m (.s d)) (h:=k.toNat) (m:=m) (fun w=>sN P false m m _ _ _ _ (.inl ⟨rfl,rfl⟩) ?_ (by omega) (by omega) (Nat.le_refl _) w) g1 w),ajK⟩
     rcases r6 hh h hp h0 with⟨g1,g2⟩|⟨q,g⟩
     ·exact .inl ⟨g1,by omega⟩
     ·exact .inr ⟨q,g⟩
    ·exact hk.elim
   ·exact hk.elim
  ·exact hk.elim
 ·split at hk
  ·rename_i r xs e ti N4 rH
   split at hk
   ·rename_i l k hl hh
    obtain⟨hb,hk⟩:=hk
    refine⟨_,hk,fun hp=>?_⟩
    obtain⟨⟨h0,h1,h2⟩,hz⟩:=bG hb hp
    have h2:k≤(xs.length:Int):=h2
    have hx:=nJ N4 (h.ev hp x)
    obtain⟨A,c,hv⟩:=hx.len
    rw[hv]at hx
    have e1:(l.toNat:Int)=l:=Int.toNat_of_nonneg h0
    have e2:(k.toNat:Int)=k:=Int.toNat_of_nonneg (by omega)
    have ML:xs.length≤c:=by
     cases hx with
     |mZ=>simp
     |sl=>assumption
    refine⟨_,fin _ _ hv (A4 hL rH A xs.length c (l:=l.toNat) (h:=k.toNat) (m:=c) (fun w=>sN P true xs.length c _ _ _ _ ?_ ?_ (by omega) (by omega) ML w) w),?_⟩
    ·rcases r6 hl h hp h0 with⟨g1,g2⟩|⟨q,g⟩
     ·exact .inl ⟨g1,by omega⟩
     ·exact .inr ⟨q,g⟩
    ·rcases r6 hh h hp (by omega)with⟨g1,g2⟩|⟨q,g⟩
     ·exact .inl ⟨g1,by have g2:k=(xs.length:Int):=g2;omega⟩
     ·exact .inr ⟨q,g⟩
    ·rcases hx.cut (z:=ti.size) hz (l:=l.toNat) (k:=k.toNat) (by omega) (by omega)with⟨_,g,_⟩|⟨g,_⟩
     ·exact g
     ·subst g
      have:k.toNat - l.toNat=0:=by simp at h2;omega
      rw[this]
      show Cz E (.sl r ((List.take _ []).drop _)) _
      simp only[List.take_nil,List.drop_nil]
      exact .mZ _ _ _
   ·exact hk.elim
  ·exact hk.elim
 mutual
theorem Mz{d:Nat}{F A:Nat→AV}: ∀{a:AV},cq a=true→sb d F A a=a
  | .gs r t xs,h=>by simp[cq]at h
  | .fn f cs,h=>by simp only[sb,Cu (show ca cs=true by simpa[cq]using h)]
  | .agg cs,h=>by simp only[sb,Cu (show ca cs=true by simpa[cq]using h)]
  | .gd cs,h=>by simp only[sb,Cu (show ca cs=true by simpa[cq]using h)]
  | .any,_=>rfl
  | .v _,_=>rfl
  | .sl _ _,_=>rfl
  | .aP _ _ _,_=>rfl
  | .ptr (.s e) _,h=>by simp[cq,Key.loc]at h
  | .ptr (.o e) _,_=>rfl
  | .iq (.s e) _,h=>by simp[cq,Key.loc]at h
  | .iq (.o e) _,_=>rfl
  | .cQ (.s e) _ _ _,h=>by simp[cq,Key.loc]at h
  | .cQ (.o e) _ _ _,_=>rfl
  | .mp (.s e),h=>by simp[cq,Key.loc]at h
  | .mp (.o e),_=>rfl
  | .po (.s e),h=>by simp[cq,Key.loc]at h
  | .po (.o e),_=>rfl
  | .ar _ _ _,_=>rfl
  | .bm _ _,_=>rfl
  | .mN _ _ _,_=>rfl
theorem Cu{d:Nat}{F A:Nat→AV}: ∀{a:List AV},ca a=true→OV d F A a=a
  |[],_=>rfl
  |a::r,h=>by
   simp only[ca,Bool.and_eq_true]at h
   simp only[OV,Mz h.1,Cu h.2]
end
theorem nA(d:Nat)(F A:Nat→AV)(cs:List AV)(q:Nat):(OV d F A cs)[q]? =(cs[q]?).map (sb d F A):=by
 induction cs generalizing q with
 |nil=>simp[OV]
 |cons a r ih=>cases q<;>simp[OV,ih]
theorem fx(d:Nat)(F A:Nat→AV)(cs:List AV):(OV d F A cs).length=cs.length:=by
 induction cs with
 |nil=>rfl
 |cons a r ih=>simp[OV,ih]
theorem r9(d:Nat)(F A:Nat→AV)(e:Nat): ∀t,look e (Lt d F A t)=(look e t).map (sb d F A)
 |[]=>rfl
 |(k,x)::r=>by
  simp only[Lt,aC,r9 d F A e r]
  split<;>rfl
def Ra(d:Nat)(F A:Nat→AV):Ob→Ob
 | .box cs=> .box (OV d F A cs)
 | .arr z xs=> .arr z xs
 | .ow p l xs=> .ow p l xs
 | .lp n t ps nq body st=> .lp n (Lt d F A t) ps nq body st
theorem mg(d:Nat)(F A:Nat→AV)(e:Nat): ∀t,look e (Hd d F A t)=(look e t).map (Ra d F A)
 |[]=>rfl
 |(k,.box x)::r=>by
  simp only[Hd,aC,mg d F A e r]
  split<;>rfl
 |(k,.arr z x)::r=>by
  simp only[Hd,aC,mg d F A e r]
  split<;>rfl
 |(k,.ow p l x)::r=>by
  simp only[Hd,aC,mg d F A e r]
  split<;>rfl
 |(k,.lp n t ps nq body st)::r=>by
  simp only[Hd,aC,mg d F A e r]
  split<;>rfl
def Env.shut(E:Env)(ρ d n:Nat):Env:=
 {E with aM:=fun b o=>E.aM b o∨(b=E.m (.s d)∧o<n),dH:=fun b=>if b=E.m (.s d)then ρ else E.dH b,live:=fun k=>k≠ .s d∧E.live k,own:=fun b=>if b=E.m (.s d)then .SX else E.own b}
structure rD(E:Env)(d:Nat):Prop where
 own:E.own (E.m (.s d))= .key (.s d)
 aM: ∀o,¬E.aM (E.m (.s d)) o
 cell: ∃c e,E.h[E.m (.s d)]? =some (.cells c e (0,0))
theorem ea{ρ d n:Nat}(hs:rD E d){a:AV}{x:Value}(h:Cz E a x):cq a=true→Cz (E.shut ρ d n) a x:=by
 induction h with
 |any x=>exact fun _=> .any _
 |v x=>exact fun _=> .v _
 |mZ r A c=>exact fun _=> .mZ _ _ _
 |sl r xs z b o c u hp hc hm dQ hz hr hi fP hu hq ih=>
  intro _
  have hf:=aE hz
  obtain⟨a0,TS⟩:=pP (l:=xs.flatten) (by rw[hf];exact Nat.mul_pos hp dQ)
  have cU:b≠E.m (.s d):=fun e=>by have:=fP 0 a0 TS;rw[e]at this;exact hs.aM _ this
  exact .sl r xs z b o c u hp hc hm dQ hz (by simp only[Env.shut];rw[if_neg cU];exact hr) hi (fun q a cZ=> .inl (fP q a cZ)) hu (fun q a cZ=>ih q a cZ (hi q a cZ))
 |sq r t=>exact fun _=> .sq _ _
 |gs r t xs=>intro hi;simp[cq]at hi
 |aP r cs off b o u hr hi fP hu hq ih=>
  intro _
  exact .aP r cs off b o u (fun q a cZ=>by
   have cU:b≠E.m (.s d):=fun e=>by have:=fP q a cZ;rw[e]at this;exact hs.aM _ this
   simp only[Env.shut];rw[if_neg cU];exact hr q a cZ) hi (fun q a cZ=> .inl (fP q a cZ)) hu (fun q a cZ=>ih q a cZ (hi q a cZ))
 |ptr k off hl=>intro hi;exact Cz.ptr (E:=E.shut ρ d n) k off ⟨fun e=>by subst e;simp[cq,Key.loc]at hi,hl⟩
 |iq k m hl hn hc hm=>intro hi;exact Cz.iq (E:=E.shut ρ d n) k m ⟨fun e=>by subst e;simp[cq,Key.loc]at hi,hl⟩ hn hc hm
 |cQ k i off z hl=>intro hi;exact Cz.cQ (E:=E.shut ρ d n) k i off z ⟨fun e=>by subst e;simp[cq,Key.loc]at hi,hl⟩
 |mp k hl=>intro hi;exact Cz.mp (E:=E.shut ρ d n) k ⟨fun e=>by subst e;simp[cq,Key.loc]at hi,hl⟩
 |po k hl=>intro hi;exact Cz.po (E:=E.shut ρ d n) k ⟨fun e=>by subst e;simp[cq,Key.loc]at hi,hl⟩
 |ar n' z xs ys hn hz hl hi hq ih=>exact fun _=> .ar n' z xs ys hn hz hl hi fun q a y ha hy=>ih q a y ha hy (hi q a ha)
 |bm f cs ys hl hi hq ih=>exact fun _=> .bm f cs ys hl hi fun q a y ha hy=>ih q a y ha hy (hi q a ha)
 |mN r z xs x hz h ih=>exact fun _=> .mN r z xs x hz (ih rfl)
 |fn f cap ys hl hq ih=>intro hi;exact .fn f cap ys hl fun q a y ha hy=>ih q a y ha hy (bg (by simpa[cq]using hi) q a ha)
 |agg cs ys hl hq ih=>intro hi;exact .agg cs ys hl fun q a y ha hy=>ih q a y ha hy (bg (by simpa[cq]using hi) q a ha)
 |gd cs ys hl hq ih=>intro hi;exact .gd cs ys hl fun q a y ha hy=>ih q a y ha hy (bg (by simpa[cq]using hi) q a ha)
theorem Ha{ρ d n:Nat}(hs:rD E d){F A:Nat→AV}(hF: ∀off,Cz (E.shut ρ d n) (F off) (.pointer (some ⟨E.m (.s d),off,none⟩)))
  (hA: ∀m c,m≤(E.len (.s d)).1→c=(E.len (.s d)).2→(E.len (.s d)).1≤c→c≤maxLen→Cz (E.shut ρ d n) (A m) (.slice (some ⟨E.m (.s d),0,none⟩) m c)){a:AV}{x:Value}(h:Cz E a x):Cz (E.shut ρ d n) (sb d F A a) x:=by
 induction h with
 |any x=>exact .any _
 |v x=>exact .v _
 |mZ r A c=>exact .mZ _ _ _
 |sl r xs z b o c u hp hc hm dQ hz hr hi fP hu hq ih=>exact ea hs (.sl r xs z b o c u hp hc hm dQ hz hr hi fP hu hq) rfl
 |sq r t=>exact .sq _ _
 |gs r t xs z b c e cells u hc hm h0 dQ hz hr hb dC ho fP hi hu hq ih=>
  have cU:b≠E.m (.s d):=fun e=>by rw[e,hs.own]at ho;cases ho
  exact Cz.gs (E:=E.shut ρ d n) r t xs z b c e cells u hc hm h0 dQ hz (by simp only[Env.shut];rw[if_neg cU];exact hr) hb dC (by simp only[Env.shut];rw[if_neg cU];exact ho)
   (fun o=>by simp only[Env.shut];rw[←fP o];exact⟨fun h=>h.resolve_right (fun h=>cU h.1),.inl⟩) hi hu (fun q a ha=>ea hs (hq q a ha) (hi q a ha))
 |aP r cs off b o u hr hi fP hu hq ih=>exact ea hs (.aP r cs off b o u hr hi fP hu hq) rfl
 |ptr k off hl=>
  cases k with
  |o i=>exact ea hs (.ptr _ _ hl) rfl
  |s e=>
   simp only[sb]
   by_cases h:e=d
   ·subst h;rw[fc,cond_true];exact hF off
   ·rw[xJ h,cond_false];exact Cz.ptr (E:=E.shut ρ d n) (.s e) off ⟨fun hh=>h (by injection hh),hl⟩
 |iq k m hl hn hc hm=>
  cases k with
  |o i=>exact ea hs (.iq _ _ hl hn hc hm) rfl
  |s e=>
   simp only[sb]
   by_cases h:e=d
   ·subst h;rw[fc,cond_true];exact hA m _ hn rfl hc hm
   ·rw[xJ h,cond_false];exact Cz.iq (E:=E.shut ρ d n) (.s e) m ⟨fun hh=>h (by injection hh),hl⟩ hn hc hm
 |cQ k i off z hl=>
  cases k with
  |o i=>exact ea hs (.cQ _ _ _ _ hl) rfl
  |s e=>
   simp only[sb]
   by_cases h:e=d
   ·subst h;rw[fc,cond_true];exact .any _
   ·rw[xJ h,cond_false];exact Cz.cQ (E:=E.shut ρ d n) (.s e) i off z ⟨fun hh=>h (by injection hh),hl⟩
 |mp k hl=>
  cases k with
  |o i=>exact ea hs (.mp _ hl) rfl
  |s e=>
   simp only[sb]
   by_cases h:e=d
   ·subst h;rw[fc,cond_true];exact .any _
   ·rw[xJ h,cond_false];exact Cz.mp (E:=E.shut ρ d n) (.s e) ⟨fun hh=>h (by injection hh),hl⟩
 |po k hl=>
  cases k with
  |o i=>exact ea hs (.po _ hl) rfl
  |s e=>
   simp only[sb]
   by_cases h:e=d
   ·subst h;rw[fc,cond_true];exact .any _
   ·rw[xJ h,cond_false];exact Cz.po (E:=E.shut ρ d n) (.s e) ⟨fun hh=>h (by injection hh),hl⟩
 |ar n' z xs ys hn hz hl hi hq ih=>exact ea hs (.ar n' z xs ys hn hz hl hi hq) rfl
 |bm f cs ys hl hi hq ih=>exact ea hs (.bm f cs ys hl hi hq) rfl
 |mN r z xs x hz h ih=>exact ea hs (.mN r z xs x hz h) rfl
 |fn f cap ys hl hq ih=>
  simp only[sb]
  exact .fn f _ ys (by rw[fx];exact hl) fun q a y ha hy=>by
   rw[nA]at ha
   cases h:cap[q]? with
   |none=>simp[h]at ha
   |some a'=>simp[h]at ha;subst ha;exact ih q a' y h hy
 |agg cs ys hl hq ih=>
  simp only[sb]
  exact .agg _ ys (by rw[fx];exact hl) fun q a y ha hy=>by
   rw[nA]at ha
   cases h:cs[q]? with
   |none=>simp[h]at ha
   |some a'=>simp[h]at ha;subst ha;exact ih q a' y h hy
 |gd cs ys hl hq ih=>
  simp only[sb]
  exact .gd _ ys (by rw[fx];exact hl) fun q a y ha hy=>by
   rw[nA]at ha
   cases h:cs[q]? with
   |none=>simp[h]at ha
   |some a'=>simp[h]at ha;subst ha;exact ih q a' y h hy
def St.sb(d:Nat)(F A:Nat→AV)(s:St):St:={s with t:=Lt d F A s.t,b:=Hd d F A (del d s.b),up:=Zx d F A s.up}
theorem rW(d:Nat)(F A:Nat→AV)(hF: ∀o g,F o≠ .v (.bool g))(hA: ∀o g,A o≠ .v (.bool g)): ∀{p:Path},aZ (s.sb d F A) p↔aZ s p
 |[]=>Iff.rfl
 |(e,b)::r=>by
  have ih:=rW d F A hF hA (p:=r)
  simp only[aZ,St.sb,r9]
  simp only[St.sb]at ih
  rw[ih]
  refine and_congr_left fun _=>?_
  cases look e s.t with
  |none=>rfl
  |some x=>
   have nb: ∀y:AV,(∀g,y≠ .v (.bool g))→(isB b (some y)↔False):=fun y hy=>by
    unfold isB
    split
    ·rename_i g hg;injection hg with hg;exact absurd hg (hy g)
    ·exact Iff.rfl
   cases x with
   |ptr k off=>
    cases k with
    |o i=>rfl
    |s e'=>
     simp only[Option.map_some,Ab.sb]
     cases du e' d with
     |true=>rw[cond_true,nb _ (hF off)];rfl
     |false=>rfl
   |mp k=>
    cases k with
    |o i=>rfl
    |s e'=>
     simp only[Option.map_some,Ab.sb]
     cases du e' d<;>rfl
   |iq k n=>
    cases k with
    |o i=>rfl
    |s e'=>
     simp only[Option.map_some,Ab.sb]
     cases du e' d with
     |true=>rw[cond_true,nb _ (hA n)];rfl
     |false=>rfl
   |cQ k i off z=>
    cases k with
    |o i=>rfl
    |s e'=>
     simp only[Option.map_some,Ab.sb]
     cases du e' d<;>rfl
   |po k=>
    cases k with
    |o i=>rfl
    |s e'=>
     simp only[Option.map_some,Ab.sb]
     cases du e' d<;>rfl
   |_=>rfl
theorem I7{ρ d n:Nat}(hs:rD E d){F A:Nat→AV}(hF: ∀off,Cz (E.shut ρ d n) (F off) (.pointer (some ⟨E.m (.s d),off,none⟩)))
  (hA: ∀m c,m≤(E.len (.s d)).1→c=(E.len (.s d)).2→(E.len (.s d)).1≤c→c≤maxLen→Cz (E.shut ρ d n) (A m) (.slice (some ⟨E.m (.s d),0,none⟩) m c)){t:List (Nat×AV)}{T:Array Value}(h: ∀e x,look e t=some x→Cz E x (T.getD e undef)):
  ∀e x,look e (Lt d F A t)=some x→Cz (E.shut ρ d n) x (T.getD e undef):=by
 intro e x hd
 rw[r9]at hd
 cases hh:look e t with
 |none=>rw[hh]at hd;simp at hd
 |some y=>rw[hh]at hd;simp at hd;subst hd;exact Ha hs hF hA (h e y hh)
theorem kI.sb{ρ d n:Nat}(hs:rD E d){F A:Nat→AV}(hF: ∀off,Cz (E.shut ρ d n) (F off) (.pointer (some ⟨E.m (.s d),off,none⟩)))
  (hA: ∀m c,m≤(E.len (.s d)).1→c=(E.len (.s d)).2→(E.len (.s d)).1≤c→c≤maxLen→Cz (E.shut ρ d n) (A m) (.slice (some ⟨E.m (.s d),0,none⟩) m c)): ∀{ab:List Act} {fs:List Fr},kI E ab fs→kI (E.shut ρ d n) ab (Zx d F A fs)
 |[],[],_=>trivial
 |a::ab,f::fs,h=>⟨⟨h.1.1,I7 hs hF hA h.1.2⟩,kI.sb hs hF hA h.2⟩
 |[],_::_,h=>h.elim
 |_::_,[],h=>h.elim
theorem bn.sb(h:bn E0 E w0 w s a){ρ d n:Nat}(hs:rD E d)(hl:E.live (.s d))(hn: ∀c e fr,E.h[E.m (.s d)]? =some (.cells c e fr)→n≤c.size){F A:Nat→AV}(hF: ∀off,Cz (E.shut ρ d n) (F off) (.pointer (some ⟨E.m (.s d),off,none⟩)))
  (hA: ∀m c,m≤(E.len (.s d)).1→c=(E.len (.s d)).2→(E.len (.s d)).1≤c→c≤maxLen→Cz (E.shut ρ d n) (A m) (.slice (some ⟨E.m (.s d),0,none⟩) m c))(hF': ∀o g,F o≠ .v (.bool g))(hA': ∀o g,A o≠ .v (.bool g)):bn E0 (E.shut ρ d n) w0 w (s.sb d F A) a:=by
 have aS:E.m (.s d)<E.h.size:=h.wf.own _ (by rw[hs.own];simp)
 have oS:E0.h.size≤E.m (.s d):=by
  rcases Nat.lt_or_ge (E.m (.s d)) E0.h.size with hh|hh
  ·have:=h.xc _ hh;rw[hs.own]at this;simp[Own.loc,Key.loc]at this
  ·exact hh
 have obs: ∀k ob,k≠ .s d→cf E k ob→cf (E.shut ρ d n) k (Ra d F A ob):=by
  intro k ob hk ho
  have hm: ∀o:Own,E.own (E.m k)= .key k→E.m k≠E.m (.s d):=fun _ ho e=>by rw[e,hs.own]at ho;injection ho with ho;exact hk ho.symm
  cases ob with
  |box cs=>
   obtain⟨g1,c,e,g2,g3,g4,g5,g6⟩:=ho
   have cU:=hm .SX g3
   refine⟨⟨hk,g1⟩,c,e,g2,by simp only[Env.shut];rw[if_neg cU];exact g3,fun o hh=>?_,by rw[fx];exact g5,fun q a x ha hx=>?_⟩
   ·rcases hh with hh|hh
    ·exact g4 o hh
    ·exact cU hh.1
   ·rw[nA]at ha
    cases hc:cs[q]? with
    |none=>rw[hc]at ha;simp at ha
    |some a'=>rw[hc]at ha;simp at ha;subst ha;exact Ha hs hF hA (g6 q a' x hc hx)
  |arr z xs=>
   obtain⟨g1,gl,gz,gz',gm,c,e,g2,g3,g4,g5,g6,g7⟩:=ho
   have cU:=hm .SX g3
   refine⟨⟨hk,g1⟩,gl,gz,gz',gm,c,e,g2,by simp only[Env.shut];rw[if_neg cU];exact g3,fun o hh=>?_,g5,g6,fun q a x ha hx=>ea hs (g7 q a x ha hx) (g6 q a ha)⟩
   rcases hh with hh|hh
   ·exact g4 o hh
   ·exact cU hh.1
  |ow p sa xs=>
   have ho0:=ho
   obtain⟨g1,g3,_⟩:=ho0
   have cU:=hm .SX g3
   refine yR (fun g1=>⟨hk,g1⟩) rfl rfl (fun g3=>⟨by simp only[Env.shut];rw[if_neg cU];exact g3,rfl,fun o hh=>hh.resolve_right fun hh=>cU hh.1⟩) (fun a x hi hc=>ea hs hc hi) (fun b hb aS=>?_) ho
   have XN:b≠E.m (.s d):=fun e=>by rw[e,hs.own]at hb;cases hb
   exact⟨by simp only[Env.shut];rw[if_neg XN];exact hb,rfl,fun o=>⟨fun hh=>hh.resolve_right fun hh=>XN hh.1,.inl⟩,by simp only[Env.shut];rw[if_neg XN]⟩
  |lp n t ps nq body st=>
   obtain⟨g1,g3,g4,rec,g2,g5,g6,g7,g8,g9,XP,gq⟩:=ho
   have cU:=hm .SX g3
   refine⟨⟨hk,g1⟩,by simp only[Env.shut];rw[if_neg cU];exact g3,fun o hh=>?_,rec,g2,g5,g6,g7,g8,g9,XP,I7 hs hF hA gq⟩
   rcases hh with hh|hh
   ·exact g4 o hh
   ·exact cU hh.1
 have hdf:Dfs E0.h.size (E.shut ρ d n) (PY a E0.up):=by
  obtain⟨Bs,q1,q2,q3⟩:=h.IG
  refine⟨Bs,q1,q2,fun B hB=>?_⟩
  obtain⟨q4,q5,q6⟩:=q3 B hB
  refine⟨q4,?_,q6⟩
  simp only[Env.shut]
  rw[if_neg (fun e=>by rw[e,hs.own]at q5;cases q5)]
  exact q5
 refine⟨h.heap,⟨fun b o hh=>?_,fun b hh=>?_,fun b o hh hr=>?_⟩,hdf,h.up.sb hs hF hA,h.sz,?_,?_,?_,?_,?_,?_,⟨h.ext.size,fun b o hh=>?_,fun k hk=>?_,fun b hb hg=>?_⟩,fun b hb=>?_,h.same,h.gk,h.nl,fun b=>by
  have:=h.ng b
  simp only[Env.shut]
  split
  ·simp[dz,Own.dz]
  ·exact this,h.lo⟩
 ·rcases hh with hh|⟨rfl,_⟩
  ·exact h.wf.aM b o hh
  ·exact aS
 ·simp only[Env.shut]at hh
  by_cases e:b=E.m (.s d)
  ·rw[e];exact aS
  ·rw[if_neg e]at hh;exact h.wf.own b hh
 ·rcases hh with hh|⟨rfl,_⟩
  ·have cU:b≠E.m (.s d):=fun e=>by subst e;exact hs.aM _ hh
   simp only[Env.shut]at hr
   rw[if_neg cU]at hr
   exact h.wf.fz b o hh hr
  ·exact hs.cell
 ·intro e x he hp
  have oT:look e (Lt d F A s.t)=some x:=he
  rw[r9]at oT
  cases hh:look e s.t with
  |none=>rw[hh]at oT;simp at oT
  |some y=>rw[hh]at oT;simp at oT;subst oT;exact Ha hs hF hA (h.tm e y hh ((rW d F A hF' hA').1 hp))
 ·intro e q he hp
  exact h.cu e q he (fun hh=>hp ((rW d F A hF' hA').2 hh))
 ·intro e ob he
  have oT:look e (Hd d F A (del d s.b))=some ob:=he
  rw[mg,ij]at oT
  by_cases hde:d=e
  ·rw[if_pos hde]at oT;simp at oT
  ·rw[if_neg hde]at oT
   cases hh:look e s.b with
   |none=>rw[hh]at oT;simp at oT
   |some y=>
    rw[hh]at oT;simp at oT;subst oT
    exact obs _ _ (fun hh=>hde (by injection hh with hh;exact hh.symm)) (h.bx e y hh)
 ·intro e he
  obtain⟨ob,ho⟩:=h.lv e he.2
  refine⟨Ra d F A ob,?_⟩
  show look e (Hd d F A (del d s.b))=_
  rw[mg,ij,if_neg (fun hh=>he.1 (by rw[hh])),ho];rfl
 ·intro i ob hi
  have h1:=obs (.o i) ob (fun hh=>by cases hh) (h.gx i ob hi)
  have MI:=h.gk i ob hi
  cases ob with
  |arr z xs=>exact h1
  |lp=>exact MI.elim
  |ow=>exact MI.elim
  |box cs=>
   obtain⟨g1,c,e,g2,g3,g4,g5,g6⟩:=h1
   obtain⟨_,_,_,_,_,_,k5,_⟩:=h.gx i _ hi
   refine⟨g1,c,e,g2,g3,g4,by rw[g5,fx],fun q a x ha hx=>?_⟩
   have:=g6 q (Ab.sb d F A a) x (by rw[nA,ha];rfl) hx
   rwa [Mz (MI q a ha)]at this
 ·intro i
  exact⟨fun hh=>(h.gl i).1 hh.2,fun hh=>⟨(fun e=>by cases e),(h.gl i).2 hh⟩⟩
 ·obtain⟨k1,k2,k3⟩:=h.ext.aM b o hh
  have cU:b≠E.m (.s d):=fun e=>by rw[e]at k1;exact hs.aM _ k1
  exact⟨.inl k1,k2,by simp only[Env.shut];rw[if_neg cU];exact k3⟩
 ·obtain⟨k1,k2,k3⟩:=h.ext.live k hk
  exact⟨⟨fun e=>by subst e;exact h.nl d hk,k1⟩,k2,k3⟩
 ·obtain⟨k1,k2,k3,k4⟩:=h.ext.bj b hb hg
  have cU:b≠E.m (.s d):=by omega
  exact⟨by simp only[Env.shut];rw[if_neg cU];exact k1,k2,fun o=>⟨fun hh=>(k3 o).1 (hh.resolve_right (fun hh=>cU hh.1)),fun hh=> .inl ((k3 o).2 hh)⟩,by simp only[Env.shut];rw[if_neg cU];exact k4⟩
 ·have cU:b≠E.m (.s d):=by omega
  simp only[Env.shut];rw[if_neg cU];exact h.xc b hb
theorem WA(h:bn E0 E w0 w s a){ρ d:Nat}{s':St}{p:OwK}{sa:Option (Nat×Nat)}{xs:List (List AV)}(hl:look d s.b=some (.ow p sa xs))(hs:Ab.shut ρ d s=some s'): ∃n F A,bn E0 (E.shut ρ d n) w0 w s' a∧s'=s.sb d F A∧rD E d:=by
 unfold Ab.shut at hs
 rw[hl]at hs
 cases p with
 |mp=>dsimp only at hs;cases hs
 |sl z=>
  dsimp only at hs
  cases hs
  obtain⟨g1,g2,g3,gi,u,⟨gz0,gz,gln,gle,gm,c,e,gh,gc,gu⟩,g6,_⟩:=h.bx d _ hl
  have j8:rD E d:=⟨g2,g3,c,e,gh⟩
  have fG:=aE gz
  have ML:xs.length*z≤c.size:=by rw[gc,gln];exact Nat.mul_le_mul_right _ gle
  have hA: ∀m cc,m≤(E.len (.s d)).1→cc=(E.len (.s d)).2→(E.len (.s d)).1≤cc→cc≤maxLen→Cz (E.shut ρ d (xs.length*z)) (.sl ρ (xs.take m)) (.slice (some ⟨E.m (.s d),0,none⟩) m cc):=by
   intro m cc h1 h2 h3 h4
   have hlen:(xs.take m).length=m:=by rw[List.length_take];omega
   by_cases hm:m=0
   ·subst hm;simp only[List.take_zero];exact .mZ _ _ _
   ·have get: ∀q a,(xs.take m).flatten[q]? =some a→xs.flatten[q]? =some a:=fun q a ha=>by
     have:xs.flatten=(xs.take m).flatten++(xs.drop m).flatten:=by rw[←List.flatten_append,List.take_append_drop]
     rw[this,List.getElem?_append_left (List.getElem?_eq_some_iff.1 ha).1];exact ha
    have:=Cz.sl (E:=E.shut ρ d (xs.length*z)) ρ (xs.take m) z (E.m (.s d)) 0 cc u (by omega) (by omega) h4 gz0 (fun l hl=>gz l (List.mem_of_mem_take hl)) (by simp[Env.shut]) (fun q a ha=>gi q a (get q a ha))
     (fun q a ha=> .inr ⟨rfl,by have:=(List.getElem?_eq_some_iff.1 (get q a ha)).1;omega⟩)
     (fun q a ha=>by simp[aO,Env.shut,gh,gu q a (get q a ha)])
     (fun q a ha=>ea j8 (g6 q a (get q a ha)) (gi q a (get q a ha)))
    rw[hlen]at this
    exact this
  exact⟨xs.length*z,_,_,h.sb j8 g1 (fun c' e' fr hh=>by rw[gh]at hh;cases hh;omega) (fun off=> .any _) hA (fun o g hh=>by cases hh) (fun o g hh=>by cases hh),rfl,j8⟩
theorem Ls(h:bn E0 E w0 w s a){ρ d:Nat}{s':St}(hs:Ab.shut ρ d s=some s'): ∃n F A,bn E0 (E.shut ρ d n) w0 w s' a∧s'=s.sb d F A∧rD E d:=by
 have hs0:=hs
 unfold Ab.shut at hs
 cases hl:look d s.b with
 |none=>rw[hl]at hs;simp at hs
 |some ob=>
  rw[hl]at hs
  cases ob with
  |box cs=>
   dsimp only at hs
   cases hi:ca (kQ (fun _=>true) cs)with
   |false=>rw[hi]at hs;simp at hs
   |true=>
    rw[hi,cond_true]at hs
    cases hs
    obtain⟨g1,c,e,g2,g3,g4,g5,g6⟩:=h.bx d _ hl
    have j8:rD E d:=⟨g3,g4,c,e,g2⟩
    have hF: ∀off,Cz (E.shut ρ d cs.length) (.aP ρ (kQ (fun _=>true) cs) off) (.pointer (some ⟨E.m (.s d),off,none⟩)):=by
     intro off
     have:=Cz.aP (E:=E.shut ρ d cs.length) ρ (kQ (fun _=>true) cs) off (E.m (.s d)) 0 (fun q=>c[q]?.getD undef) (fun q a ha=>by simp[Env.shut]) (bg hi)
      (fun q a ha=> .inr ⟨rfl,by have:=(List.getElem?_eq_some_iff.1 ha).1;rw[dv]at this;omega⟩)
      (fun q a ha=>by
       have hq:q<c.size:=by have:=(List.getElem?_eq_some_iff.1 ha).1;rw[dv]at this;omega
       simp[aO,Env.shut,g2,hq])
      (fun q a ha=>by
       have hq:q<c.size:=by have:=(List.getElem?_eq_some_iff.1 ha).1;rw[dv]at this;omega
       have hia:=bg hi q a ha
       rw[pC]at ha
       cases hc:cs[q]? with
       |none=>rw[hc]at ha;simp at ha
       |some a'=>
        rw[hc]at ha;simp at ha;subst ha
        refine ea j8 ?_ hia
        exact(g6 q a' _ hc (by simp[hq])).giveUp h.wf _)
     simpa using this
    exact⟨cs.length,_,_,h.sb j8 g1 (fun c' e' fr hh=>by rw[g2]at hh;cases hh;omega) hF (fun m c _ _ _ _=> .any _) (fun o g hh=>by cases hh) (fun o g hh=>by cases hh),rfl,j8⟩
  |lp=>dsimp only at hs;cases hs
  |ow p sa xs=>exact WA h hl hs0
  |arr z xs=>
   dsimp only at hs
   cases hs
   obtain⟨g1,gl,gz0,gz,gm,c,e,g2,g3,g4,g5,gi,g6⟩:=h.bx d _ hl
   have j8:rD E d:=⟨g3,g4,c,e,g2⟩
   have fG:=aE gz
   have hA: ∀m cc,m≤(E.len (.s d)).1→cc=(E.len (.s d)).2→(E.len (.s d)).1≤cc→cc≤maxLen→Cz (E.shut ρ d (xs.length*z)) (.sl ρ (xs.take m)) (.slice (some ⟨E.m (.s d),0,none⟩) m cc):=by
    intro m cc h1 h2 h5 h3
    rw[gl]at h1 h2
    dsimp only at h1 h2
    have hlen:(xs.take m).length=m:=by rw[List.length_take];omega
    by_cases hm:m=0
    ·subst hm;simp only[List.take_zero];exact .mZ _ _ _
    ·have get: ∀q a,(xs.take m).flatten[q]? =some a→xs.flatten[q]? =some a:=fun q a ha=>by
      have:xs.flatten=(xs.take m).flatten++(xs.drop m).flatten:=by rw[←List.flatten_append,List.take_append_drop]
      rw[this,List.getElem?_append_left (List.getElem?_eq_some_iff.1 ha).1];exact ha
     have:=Cz.sl (E:=E.shut ρ d (xs.length*z)) ρ (xs.take m) z (E.m (.s d)) 0 cc (fun q=>c[q]?.getD undef) (by omega) (by omega) h3 gz0 (fun l hl=>gz l (List.mem_of_mem_take hl)) (by simp[Env.shut]) (fun q a ha=>gi q a (get q a ha))
      (fun q a ha=> .inr ⟨rfl,by have:=(List.getElem?_eq_some_iff.1 (get q a ha)).1;omega⟩)
      (fun q a ha=>by
       have hq:q<c.size:=by have:=(List.getElem?_eq_some_iff.1 (get q a ha)).1;omega
       simp[aO,Env.shut,g2,hq])
      (fun q a ha=>by
       have hq:q<c.size:=by have:=(List.getElem?_eq_some_iff.1 (get q a ha)).1;omega
       exact ea j8 (g6 q a _ (get q a ha) (by simp[hq])) (gi q a (get q a ha)))
     rw[hlen]at this
     exact this
   exact⟨xs.length*z,_,_,h.sb j8 g1 (fun c' e' fr hh=>by rw[g2]at hh;cases hh;omega) (fun off=> .any _) hA (fun o g hh=>by cases hh) (fun o g hh=>by cases hh),rfl,j8⟩
theorem Hb{ρ d:Nat}{s':St}(hs:Ab.shut ρ d s=some s'): ∃F A,s'=s.sb d F A∧(∀o g,F o≠ .v (.bool g))∧(∀o g,A o≠ .v (.bool g)):=by
 unfold Ab.shut at hs
 cases hl:look d s.b with
 |none=>rw[hl]at hs;simp at hs
 |some ob=>
  rw[hl]at hs
  cases ob with
  |box cs=>
   dsimp only at hs
   cases hi:ca (kQ (fun _=>true) cs)with
   |false=>rw[hi]at hs;simp at hs
   |true=>rw[hi,cond_true]at hs;cases hs;exact⟨_,_,rfl,(fun o g hh=>by cases hh),(fun o g hh=>by cases hh)⟩
  |arr z xs=>dsimp only at hs;cases hs;exact⟨_,_,rfl,(fun o g hh=>by cases hh),(fun o g hh=>by cases hh)⟩
  |ow p sa xs=>cases p with
   |mp=>dsimp only at hs;cases hs
   |sl z=>dsimp only at hs;cases hs;exact⟨_,_,rfl,(fun o g hh=>by cases hh),(fun o g hh=>by cases hh)⟩
  |lp=>dsimp only at hs;cases hs
theorem er{ρ:Nat}: ∀{l:List Nat} {E:Env} {s s':St},bn E0 E w0 w s a→jw ρ l s=some s'→ ∃E',bn E0 E' w0 w s' a∧(∀p,aZ s' p↔aZ s p)
 |[],E,s,s',h,hs=>by simp only[jw,Option.some.injEq]at hs;subst hs;exact⟨E,h,fun _=>Iff.rfl⟩
 |d::r,E,s,s',h,hs=>by
  simp only[jw]at hs
  cases hl:look d s.b with
  |none=>rw[hl]at hs;exact er h hs
  |some ob=>
   rw[hl]at hs
   dsimp only at hs
   cases h1:Ab.shut ρ d s with
   |none=>rw[h1]at hs;simp at hs
   |some s1=>
    rw[h1]at hs
    obtain⟨n,F,A,g1,g2,g3⟩:=Ls h h1
    obtain⟨F',A',q1,q2,q3⟩:=Hb h1
    obtain⟨E',k1,k2⟩:=er g1 hs
    exact⟨E',k1,fun p=>(k2 p).trans (by rw[q1];exact rW d F' A' q2 q3)⟩
def KL(P:Program)(E0:Env)(w0 w:World)(a:Act)(o:Oper)(s:St)(p:Path)(K:bd):Prop:=
 ∃r s' E',K r s'∧bn E0 E' w0 w s' a∧(∀q,aZ s' q↔aZ s q)∧(aZ s p→ ∃x,(execOp a.eval o).run P w= .ok (.value x) w∧Cz E' r x)
theorem Cn(h:bn E0 E w0 w s a)(hp:aZ s p)(T:Tok→Bool): ∀(l:List Operand) (q:Nat) (b:AV) (y:Value),(l.map fun x=>Ab.qg T (bM s p x))[q]? =some b→(l.map a.eval)[q]? =some y→Cz E b y:=by
 intro l q b y h1 h2
 rw[List.getElem?_map]at h1 h2
 cases hq:l[q]? with
 |none=>rw[hq]at h1;simp at h1
 |some x=>rw[hq]at h1 h2;simp at h1 h2;subst h1;subst h2;exact(h.ev hp x).giveUp h.wf T
theorem AU(h:bn E0 E w0 w s a){o:Oper}{f:Fn}{first cap:Array Operand}(he:o.op= .makeFunc f first cap)(hf:first.toList=[]){K:bd}(hk:QO C p f cap.toList s K):KL P E0 w0 w a o s p K:=by
 unfold QO at hk
 split at hk
 ·rename_i s1 zi
  obtain⟨E',g1,g2⟩:=er h zi
  refine⟨_,s1,E',hk,g1,g2,fun hp=>⟨.func f #[] (cap.map a.eval),?_,?_⟩⟩
  ·have:first= #[]:=Array.toList_inj.1 hf
   simp only[execOp,he,this]
   simp[Instr.makeFunc]
  ·have:=Cz.fn (E:=E') f (cap.toList.map fun x=>rd (bM s1 p x)) (cap.toList.map a.eval) (by simp) (fun q b y h1 h2=>Cn g1 ((g2 p).2 hp) _ cap.toList q b y h1 h2)
   have e:(cap.toList.map a.eval).toArray=cap.map a.eval:=Array.toList_inj.1 (by simp)
   rw[e]at this
   exact this
 ·exact hk.elim
theorem Fz(h:bn E0 E w0 w s a){o:Oper}{f:Fn}{first cap:Array Operand}(he:o.op= .makeFunc f first cap)(hc:cap.toList=[])(hi:ca (first.toList.map fun x=>rd (bM s p x))=true){K:bd}(hk:K (.bm f (first.toList.map fun x=>rd (bM s p x))) s):KL P E0 w0 w a o s p K:=
 ⟨_,s,E,hk,h,fun _=>Iff.rfl,fun hp=>⟨.func f (first.map a.eval) #[],by
  have:cap= #[]:=Array.toList_inj.1 hc
  simp only[execOp,he,this]
  simp[Instr.makeFunc],by
  have:=Cz.bm (E:=E) f (first.toList.map fun x=>rd (bM s p x)) (first.toList.map a.eval) (by simp) (fun q b hq=>bg hi q b hq) (fun q b y h1 h2=>Cn h hp _ first.toList q b y h1 h2)
  have e:(first.toList.map a.eval).toArray=first.map a.eval:=Array.toList_inj.1 (by simp)
  rw[e]at this
  exact this⟩⟩
end Ab
namespace Ab
open Go
variable{P:Program}{L:nv}{E0 E E':Env}{w0 w w':World}{s:St}{a:Act}{p:Path}{C:dK}
def Env.fa(E:Env)(t:Tok)(ρ n:Nat)(o:Obj):Env:=
 {E with h:=E.h.push o,aM:=fun b i=>E.aM b i∨(b=E.h.size∧i<n),dH:=fun b=>if b=E.h.size then ρ else E.dH b,own:=fun b=>if b=E.h.size then .tok t else E.own b}
theorem yf(hw:Wf E)(t:Tok)(ρ n:Nat)(o:Obj):Ext (fun _=>False) E (E.fa t ρ n o):=
 ⟨by simp[Env.fa],
  fun b i hs=>⟨.inl hs,yd _ _ (hw.aM b i hs) i,by have:=hw.aM b i hs;simp only[Env.fa];rw[if_neg (by omega)]⟩,
  fun q hq=>⟨hq,rfl,rfl⟩,
  fun b hb _=>⟨by simp only[Env.fa];rw[if_neg (by omega)],by simp only[Env.fa];rw[Array.getElem?_push,if_neg (by omega)],
   fun i=>⟨fun hh=>hh.resolve_right (fun hh=>by omega),.inl⟩,by simp only[Env.fa];rw[if_neg (by omega)]⟩⟩
theorem Gq(hw:Wf E)(t:Tok)(ρ n:Nat)(o:Obj)(td: ∃c e,o= .cells c e (0,0)):Wf (E.fa t ρ n o):=
 ⟨fun b i hs=>by
  rcases hs with hs|⟨rfl,_⟩
  ·have:=hw.aM b i hs;simp[Env.fa];omega
  ·simp[Env.fa],
  fun b hb=>by
  simp only[Env.fa]at hb ⊢
  by_cases h:b=E.h.size
  ·subst h;simp
  ·rw[if_neg h]at hb;have:=hw.own b hb;simp;omega,
  fun b i hs hr=>by
  simp only[Env.fa]at hr ⊢
  rcases hs with hs|⟨rfl,_⟩
  ·have:=hw.aM b i hs
   rw[if_neg (by omega)]at hr
   obtain⟨c,e,h⟩:=hw.fz b i hs hr
   exact⟨c,e,by rw[Array.getElem?_push,if_neg (by omega)];exact h⟩
  ·obtain⟨c,e,rfl⟩:=td
   exact⟨c,e,by simp⟩⟩
theorem bn.anN(h:bn E0 E w0 w s a)(t:Tok)(ρ n:Nat)(c:Array Value)(e:Nat):bn E0 (E.fa t ρ n (.cells c e (0,0))) w0 (w.alloc (.cells c e)) s a:=by
 have hE:=yf h.wf t ρ n (.cells c e (0,0))
 have hs:=h.xG (T:=fun _=>false) hE (fun _ hf=>hf.elim) pQ (Gq h.wf _ _ _ _ ⟨_,_,rfl⟩) (w':=w.alloc (.cells c e)) (by show w.heap.push _=_;rw[h.heap];rfl) (sM _ _) (fun _ _ hf=>hf.elim)
  s.b s.g s.nx (fun d' DG h'=> .inl ⟨DG,h',(nF (fun _=>rfl) DG).symm,(fun hf=>hf),fun hf=>hf⟩) (fun d' hl=>h.lv d' hl)
  (fun i DG h'=> .inl ⟨h',fun hf=>hf⟩) (fun i=>h.gl i) h.gk (fun b=>by
   have:=h.ng b
   simp only[Env.fa]
   split
   ·cases t<;>simp[dz,Own.dz,Tok.loc]
   ·exact this)
 have:fV (fun _=>false) s.t=s.t:=kJ (fun _=>rfl) _
 rw[this,oX (fun _=>rfl)]at hs
 exact hs
theorem NP(h:bn E0 E w0 w s a){t:Tok}{ρ z n:Nat}{cs:List AV}{c:Array Value}{e cap:Nat}(hz:0<z)(hl:cs.length=n*z)(hi:ca cs=true)(hr: ∀(q:Nat) (a:AV) (y:Value),cs[q]? =some a→c[q]? =some y→Cz E a y)
  (hc:c.size=cap*z)(hn:n≤cap)(hm:cap≤maxLen)(h0:n=0→cap=0):Cz (E.fa t ρ (n*z) (.cells c e (0,0))) (.gs ρ t (chunks z n cs)) (.slice (some ⟨w.heap.size,0,none⟩) n cap):=by
 obtain⟨f1,f2,f3⟩:=qO hl
 have hE:=yf h.wf t ρ (n*z) (.cells c e (0,0))
 have hle:n*z≤cap*z:=Nat.mul_le_mul_right _ hn
 have:=Cz.gs (E:=E.fa t ρ (n*z) (.cells c e (0,0))) ρ t (chunks z n cs) z E.h.size cap e c (fun q=>c[q]?.getD undef) (by rw[f2];exact hn) hm (by rw[f2];exact h0) hz f3 (by simp[Env.fa]) (by simp[Env.fa]) hc (by simp[Env.fa])
  (fun o=>by
   simp only[Env.fa,f2]
   exact⟨fun hh=>by rcases hh with hh|hh;(have:=h.wf.aM _ _ hh;omega);exact hh.2,fun hh=> .inr (by simpa using hh)⟩)
  (by rw[f1];exact bg hi)
  (by
   rw[f1];intro q a ha
   have hq:q<c.size:=by have:=(List.getElem?_eq_some_iff.1 ha).1;omega
   simp[aO,Env.fa,hq])
  (by
   rw[f1];intro q a ha
   have hq:q<c.size:=by have:=(List.getElem?_eq_some_iff.1 ha).1;omega
   have:=((hr q a (c[q]?.getD undef) ha (by simp[hq])).ext hE h.wf (fun _=>false) (fun _ hf=>hf.elim)).1
   rwa [jW (fun _=>rfl)]at this)
 rw[f2]at this
 rw[h.heap]
 exact this
theorem vv{z:Nat}: ∀{ps:List (Nat×AV)} {vs:List (Nat×Value)} {cs cs':List AV} {c:Array Value},vS E ps vs→Row E cs c→nP z cs ps=some cs'→ ∃c',Instr.fill (fun i=>some (i*z,z)) c vs=some c'∧Row E cs' c'
 |[],vs,cs,cs',c,h,hr,hf=>by
  have:vs=[]:=List.eq_nil_of_length_eq_zero (by have:=h.1;simp at this;omega)
  subst this
  simp only[nP,Option.some.injEq]at hf;subst hf
  exact⟨c,by simp[Instr.fill],hr⟩
 |(i,a)::ps,vs,cs,cs',c,h,hr,hf=>by
  obtain⟨⟨i',y⟩,ys,rfl,h1,h2,h3⟩:=h.cons
  dsimp only at h1 h2
  subst h1
  simp only[nP]at hf
  cases hk:zJ a with
  |none=>rw[hk]at hf;simp at hf
  |some k=>
   rw[hk]at hf
   dsimp only at hf
   cases hb:du k z&&mL (i*z+z) cs.length with
   |false=>rw[hb]at hf;simp at hf
   |true=>
    rw[hb,cond_true]at hf
    simp only[Bool.and_eq_true]at hb
    have hkz:k=z:=dy hb.1
    have hle:i*z+z≤cs.length:=by simpa using hb.2
    obtain⟨c1,c2,c3⟩:=om h2 hk
    have mh:=hr.bE (o:=i*z) (vs:=cellsOf a) (ys:=y.cells.toList) (by omega) (by simp;omega) (fun q a' y' h1 h2=>c3 q a' y' h1 (by simpa using h2))
    obtain⟨c',g1,g2⟩:=vv h3 mh hf
    refine⟨c',?_,g2⟩
    simp only[Instr.fill]
    rw[if_neg (by simp only[Bool.or_eq_true,bne_iff_ne,decide_eq_true_eq,ne_eq,not_or,Decidable.not_not];exact⟨by omega,by rw[hr.1];omega⟩)]
    rw[←g1]
    congr 1
    rw[←Array.foldl_toList]
    simp
theorem Nz{l:List AV}{z:Nat}(hl:l.length=z): ∀(n q:Nat),q<n*z→(List.replicate n l).flatten[q]? =l[q % z]?
 |0,q,h=>by simp at h
 |n+1,q,h=>by
  rw[Nat.succ_mul]at h
  rw[List.replicate_succ,List.flatten_cons]
  by_cases hq:q<z
  ·rw[List.getElem?_append_left (by omega),Nat.mod_eq_of_lt hq]
  ·rw[List.getElem?_append_right (by omega),hl,Nz hl n (q - z) (by omega),←Nat.mod_eq_sub_mod (by omega)]
theorem Fp{z:Value}{l:List Value}(hz:z.cells.toList=l){k:Nat}(hl:l.length=k)(n:Nat):Row E (List.replicate n (l.map AV.v)).flatten ((Array.range (n*k)).map fun q=>z.cells[q % z.cells.size]!):=by
 have dC:z.cells.size=k:=by rw[←hl,←hz];simp
 refine⟨by rw[aE (z:=k) (fun x hx=>by rw[(List.mem_replicate.1 hx).2];simp[hl])];simp,fun q a y ha hy=>?_⟩
 have aS:q<n*k:=by
  have:=(List.getElem?_eq_some_iff.1 ha).1
  rwa [aE (z:=k) (fun x hx=>by rw[(List.mem_replicate.1 hx).2];simp[hl]),List.length_replicate]at this
 rw[Nz (z:=k) (by simp[hl]) n q aS,List.getElem?_map,←hz,Array.getElem?_toList]at ha
 have hk:0<k:=by rcases Nat.eq_zero_or_pos k with h|h;(·subst h;simp at aS);(·exact h)
 have hm:q % k<z.cells.size:=by rw[dC];exact Nat.mod_lt _ hk
 rw[Array.getElem?_eq_getElem hm]at ha
 simp at ha;subst ha
 simp only[Array.getElem?_map,dC]at hy
 rw[Array.getElem?_range]at hy
 rw[if_pos aS]at hy
 simp only[Option.map_some,Option.some.injEq]at hy
 rw[getElem!_pos z.cells (q % k) hm]at hy
 subst hy;exact .v _
theorem Zd{av:AV}{k:Nat}(h:zJ av=some k):(cellsOf av).length=k:=by
 cases av with
 |any=>simp[zJ]at h
 |gd vs=>simp[zJ]at h
 |ar n z xs=>simp[zJ]at h
 |agg cs=>simp only[zJ,Option.some.injEq]at h;exact h
 |v x=>
  simp only[zJ,Option.some.injEq]at h
  subst h
  cases x<;>simp[cellsOf,Value.cells]
 |_=>simp only[zJ,Option.some.injEq]at h;subst h;rfl
theorem AE{z:Nat}: ∀{ps:List (Nat×AV)} {cs cs':List AV},nP z cs ps=some cs'→cs'.length=cs.length
 |[],cs,cs',hh=>by simp only[nP,Option.some.injEq]at hh;rw[hh]
 |(j,b)::r,cs,cs',hh=>by
  simp only[nP]at hh
  cases hk:zJ b with
  |none=>rw[hk]at hh;simp at hh
  |some k=>
   rw[hk]at hh
   dsimp only at hh
   cases hb:du k z&&mL (j*z+z) cs.length with
   |false=>rw[hb]at hh;simp at hh
   |true=>
    rw[hb,cond_true]at hh
    simp only[Bool.and_eq_true]at hb
    have hkz:k=z:=dy hb.1
    have hle:j*z+z≤cs.length:=by simpa using hb.2
    rw[AE hh,ka (by rw[Zd hk,hkz];exact hle)]
theorem uu{t e:Nat}{i:TypeInfo}{zv:Value}(hu:P.underlying t=some (.slice e))(hi:P.info? e=some i)(hz:i.zero=some zv)(h1:1≤i.size){len:Nat}(hle:len*i.size≤16777216){vs:Array (Nat×Value)}{c':Array Value}
  (hf:Instr.fill (fun j=>some (j*i.size,i.size)) ((Array.range (len*i.size)).map fun q=>zv.cells[q % zv.cells.size]!) vs.toList=some c')(w:World):
  (Instr.buildSlice t len vs).run P w= .ok (.slice (some ⟨w.heap.size,0,none⟩) len len) (w.alloc (.cells c' e)):=by
 have h2: ∀w,(underlying t).run P w= .ok (.slice e) w:=eT hu
 have h3: ∀w,(Go.sizeOf e).run P w= .ok i.size w:=fun w=>kh hi w
 have h4: ∀w,(zeroValue e).run P w= .ok zv w:=fun w=>by simp[zeroValue,typeInfo,go_sem,hi,hz]
 unfold Instr.buildSlice
 by_cases h0:len=0
 ·subst h0
  have Z6:Array.range 0= #[]:=rfl
  simp only[Nat.zero_mul,Z6,List.map_toArray,List.map_nil]at hf
  simp[Sem.run_bind,h2,h3,Result.andThen,Z6,hf,gC]
 ·have h5: ¬(len*i.size > 2 ^ 24):=by omega
  have h6: ¬(len*i.size=0):=by
   intro hh;rcases Nat.mul_eq_zero.1 hh with hh|hh<;>omega
  simp only[Sem.run_bind,h2,h3,Result.andThen,if_neg h5,if_neg h6]
  simp[Sem.run_bind,h4,Result.andThen,hf,gC]
theorem qw(hL:bk P C.L)(h:bn E0 E w0 w s a){o:Oper}{t len:Nat}{parts:Array (Nat×Operand)}(he:o.op= .buildSlice t len parts){d:Nat}{K:bd}(hk:qx C p t len d parts.toList s K):
  ∃r s' E1 E2 w2,K r s'∧bn E0 E1 w0 w s' a∧(∀q,aZ s' q↔aZ s q)∧bn E0 E2 w0 w2 s' a∧(aZ s p→ ∃x,(execOp a.eval o).run P w= .ok (.value x) w2∧Cz E2 r x):=by
 unfold qx at hk
 generalize C.base+d=d at hk
 cases rH:elemOf C.L t with
 |none=>rw[rH]at hk;exact hk.elim
 |some et=>
  obtain⟨e,ti⟩:=et
  rw[rH]at hk
  dsimp only at hk
  obtain⟨hu,Kj,i,i1,i2,i3,zv,i4,i5⟩:=gL hL rH
  cases hsh:jw C.ρ (jR (parts.toList.map fun q=>bM s p q.2)) s with
  |none=>rw[hsh]at hk;exact hk.elim
  |some s1=>
   rw[hsh]at hk
   dsimp only at hk
   obtain⟨E1,g1,g2⟩:=er h hsh
   cases hf:nP ti.size ((List.replicate len (ti.zero.map AV.v)).flatten) (parts.toList.map fun q=>(q.1,rd (bM s1 p q.2)))with
   |none=>rw[hf]at hk;exact hk.elim
   |some cs=>
    rw[hf]at hk
    dsimp only at hk
    cases hb:ca cs&&(mL 1 ti.size&&mL (len*ti.size) 16777216)with
    |false=>rw[hb]at hk;exact hk.elim
    |true=>
     rw[hb,cond_true]at hk
     simp only[Bool.and_eq_true]at hb
     have b2:1≤ti.size:=by simpa using hb.2.1
     have b3:len*ti.size≤16777216:=by simpa using hb.2.2
     have g1':=g1.giveUp (bf (.l d))
     have BW:=(hL.ok e ti Kj).K0
     by_cases hp:aZ s p
     ·
      have MD:vS E1 (parts.toList.map fun q=>(q.1,rd (bM s1 p q.2))) (parts.toList.map fun q=>(q.1,a.eval q.2)):=by
       refine⟨by simp,fun q x y hx hy=>?_⟩
       simp only[List.getElem?_map]at hx hy
       cases hq:parts.toList[q]? with
       |none=>rw[hq]at hx;simp at hx
       |some zz=>rw[hq]at hx hy;simp at hx hy;subst hx;subst hy;exact⟨rfl,(g1.ev ((g2 p).2 hp) _).giveUp g1.wf _⟩
      obtain⟨c',k1,k2⟩:=vv MD (Fp i5 BW len) hf
      have hlen:cs.length=len*ti.size:=by
       rw[AE hf,aE (z:=ti.size) (fun x hx=>by rw[(List.mem_replicate.1 hx).2];simp[BW])]
       simp
      refine⟨_,_,E1,_,_,hk,g1',fun q=>(iv _).trans (g2 q),g1'.anN (.l d) C.ρ (len*ti.size) c' e,fun _=>⟨.slice (some ⟨w.heap.size,0,none⟩) len len,?_,?_⟩⟩
      ·have eP:=uu (P:=P) hu i1 i4 (by omega) (len:=len) (by rw[i2];exact b3) (vs:=parts.map fun q=>(q.1,a.eval q.2)) (c':=c') (by rw[i2,←k1];congr 1;simp) w
       have ME:(parts.map fun(i,x)=>(i,a.eval x))=parts.map fun q=>(q.1,a.eval q.2):=rfl
       simp only[execOp,he,ME]
       simp[eP]
      ·exact NP g1' b2 hlen hb.1 k2.2 (by rw[k2.1,hlen]) (Nat.le_refl _) (by
        have:len≤len*ti.size:=Nat.le_mul_of_pos_right _ b2
        unfold maxLen;omega) (fun hh=>hh)
     ·exact⟨_,_,E1,E1,w,hk,g1',fun q=>(iv _).trans (g2 q),g1',fun hh=>absurd hh hp⟩
theorem Jg{l:List Value}{z:Nat}(hl:l.length=z): ∀(n q:Nat),q<n*z→(List.replicate n l).flatten[q]? =l[q % z]?
 |0,q,h=>by simp at h
 |n+1,q,h=>by
  rw[Nat.succ_mul]at h
  rw[List.replicate_succ,List.flatten_cons]
  by_cases hq:q<z
  ·rw[List.getElem?_append_left (by omega),Nat.mod_eq_of_lt hq]
  ·rw[List.getElem?_append_right (by omega),hl,Jg hl n (q - z) (by omega),←Nat.mod_eq_sub_mod (by omega)]
theorem K3{z:Value}{l:List Value}(hz:z.cells.toList=l){k:Nat}(hl:l.length=k)(n:Nat):((Array.range (n*k)).map fun q=>z.cells[q % z.cells.size]!).toList=(List.replicate n l).flatten:=by
 have dC:z.cells.size=k:=by rw[←hl,←hz];simp
 have hlen:(List.replicate n l).flatten.length=n*k:=by rw[aE (z:=k) (fun x hx=>by rw[(List.mem_replicate.1 hx).2];exact hl)];simp
 apply List.ext_getElem?
 intro q
 by_cases aS:q<n*k
 ·have hk:0<k:=by rcases Nat.eq_zero_or_pos k with h|h;(·subst h;simp at aS);(·exact h)
  have hm:q % k<z.cells.size:=by rw[dC];exact Nat.mod_lt _ hk
  rw[Jg hl n q aS,Array.getElem?_toList,Array.getElem?_map,Array.getElem?_range,if_pos aS,Option.map_some,dC,getElem!_pos z.cells (q % k) hm,←hz,Array.getElem?_toList,Array.getElem?_eq_getElem hm]
 ·rw[List.getElem?_eq_none (l:=(List.replicate n l).flatten) (by omega),Array.getElem?_toList,Array.getElem?_map,Array.getElem?_range,if_neg aS];rfl
theorem run_makeSlice{t e:Nat}{i:TypeInfo}{zv:Value}(hu:P.underlying t=some (.slice e))(hi:P.info? e=some i)(hz:i.zero=some zv)(h1:1≤i.size){k k':IntKind}{n:Nat}(hn:n≤9223372036854775807)(hb:n*i.bytes≤140737488355328)(w:World):
  (Instr.makeSlice t (.int k n) (.int k' n)).run P w= .ok (.slice (some ⟨w.heap.size,0,none⟩) n n) (w.alloc (.cells ((Array.range (n*i.size)).map fun q=>zv.cells[q % zv.cells.size]!) e)):=by
 have h2: ∀w,(underlying t).run P w= .ok (.slice e) w:=eT hu
 have h3: ∀w,(Go.sizeOf e).run P w= .ok i.size w:=fun w=>kh hi w
 have h4: ∀w,(zeroValue e).run P w= .ok zv w:=fun w=>by simp[zeroValue,typeInfo,go_sem,hi,hz]
 have h5: ∀w,(typeInfo e).run P w= .ok i w:=fun w=>by simp[typeInfo,go_sem,hi]
 have hw:IntKind.i64.wrap (n:Int)=n:=IntWalk.i64_in _ (by omega)
 have e48:(2:Int) ^ 48=281474976710656:=by decide
 have eQ:(i.bytes:Int)*(n:Int)≤140737488355328:=by
  have:((n*i.bytes:Nat):Int)≤((140737488355328:Nat):Int):=Int.ofNat_le.2 hb
  rw[Int.natCast_mul]at this
  rw[Int.mul_comm];exact this
 have c1: ¬((i.bytes:Int)*(n:Int) > 2 ^ 48):=by
  rw[e48];omega
 have c2: ¬((n:Int)<0):=by omega
 have c3: ¬((n:Int) > (n:Int)):=by omega
 have zj: ∀w,(askRoom (n*i.bytes)).run P w= .ok () w:=fun w=>by
  unfold askRoom
  rw[if_neg (by unfold roomBytes;omega)]
  simp[go_sem]
 have key: ∀w,(do
   let n:=n*(←Go.sizeOf e)
   let zero←if n=0 then pure #[]else do pure (←zeroValue e).cells
   newRow e ((Array.range n).map (zero[· % zero.size]!)):Sem Addr).run P w= .ok ⟨w.heap.size,0,none⟩ (w.alloc (.cells ((Array.range (n*i.size)).map fun q=>zv.cells[q % zv.cells.size]!) e)):=by
  intro w
  by_cases h0:n*i.size=0
  ·have Z6:Array.range 0= #[]:=rfl
   simp only[Sem.run_bind,h3,Result.andThen,h0,if_true,Z6]
   rw[show(pure #[]:Sem (Array Value)).run P w= .ok #[] w from rfl]
   simp[gC]
  ·simp only[Sem.run_bind,h3,Result.andThen,if_neg h0,h4]
   rfl
 have ha: ∀(k:IntKind) w,(asInt (.int k (n:Int))).run P w= .ok (n:Int) w:=fun _ _=>rfl
 have hc:(decide ((n:Int)<0)||decide ((i.bytes:Int)*(n:Int) > 2 ^ 48)||decide ((n:Int)<0)||decide ((n:Int) > (n:Int)))=false:=by
  simp only[decide_eq_false c1,decide_eq_false c2,decide_eq_false c3,Bool.or_false]
 have ht:(n:Int).toNat=n:=Int.toNat_natCast n
 unfold Instr.makeSlice
 simp only[Sem.run_bind,h2,ha,h5,Result.andThen,hw,hc,ht]
 simp only[Bool.false_eq_true,if_false,Sem.run_bind,zj,Result.andThen,h3]
 by_cases h0:n*i.size=0
 ·have Z6:Array.range 0= #[]:=rfl
  simp only[h0,if_true,Z6]
  simp[gC]
 ·simp only[if_neg h0,Sem.run_bind,h4,Result.andThen]
  simp[gC]
theorem IZ(hL:bk P C.L)(hI:C.I=an)(h:bn E0 E w0 w s a){o:Oper}{t:Nat}{x y:Operand}(he:o.op= .makeSlice t x y){d:Nat}{n m:Int}(hn:intOf (bM s [] x)=some n)(hm:intOf (bM s [] y)=some m){K:bd}{Q:Exit→Act→World→Prop}
  (hk:Nm C t d n m s K):kU P o a w (fH E0 w0 o a K) Q:=by
 unfold Nm at hk
 generalize C.base+d=d at hk
 cases rH:elemOf C.L t with
 |none=>rw[rH]at hk;exact hk.elim
 |some et=>
  obtain⟨e,ti⟩:=et
  rw[rH]at hk
  obtain⟨hu,Kj,i,i1,i2,i3,zv,i4,i5⟩:=gL hL rH
  cases fF:look d s.b with
  |some _=>rw[fF]at hk;exact hk.elim
  |none=>
   rw[fF]at hk
   dsimp only at hk
   obtain⟨k1,k2,aiL,hk⟩:=hk
   rw[hI]at aiL
   obtain⟨k3,k4,k5⟩:0≤n∧n≤9223372036854775807∧n*ti.bytes≤140737488355328:=aiL
   subst k2
   rw[hI]at hk
   obtain⟨q1,e1⟩:=eN hn h trivial
   obtain⟨q2,e2⟩:=eN hm h trivial
   obtain⟨n',ID⟩:=Int.eq_ofNat_of_zero_le k3
   subst ID
   have hb:n'*i.bytes≤140737488355328:=by
    rw[i3]
    rw[←Int.natCast_mul]at k5
    exact Int.ofNat_le.1 k5
   have BW:=(hL.ok e ti Kj).K0
   have eP:=run_makeSlice (P:=P) hu i1 i4 (by omega) (k:=q1) (k':=q2) (n:=n') (by omega) hb w
   have zl: ¬E.live (.s d):=fun qJ=>by obtain⟨ob,ho⟩:=h.lv d qJ;rw[fF]at ho;cases ho
   have td:=Ev h (c:=(Array.range (n'*i.size)).map fun q=>zv.cells[q % zv.cells.size]!) (k:= .s d) zl (z:=ti.size) (n:=n') (l:=ti.zero) (by omega) BW (by unfold maxLen;omega) (by rw[i2];exact K3 i5 BW n') e
   refine cV (x:= .slice (some ⟨w.heap.size,0,none⟩) n' n') (w':=w.alloc _) ?_ ⟨_,_,_,hk,h.SZ fF td,?_⟩
   ·simp only[execOp,he,e1,e2]
    simp[eP]
   ·have hmk:(E.addKey (.s d) (.cells ((Array.range (n'*i.size)).map fun q=>zv.cells[q % zv.cells.size]!) e (0,0)) n').m (.s d)=w.heap.size:=by simp[Env.addKey,h.heap]
    have:=Cz.iq (E:=E.addKey (.s d) (.cells ((Array.range (n'*i.size)).map fun q=>zv.cells[q % zv.cells.size]!) e (0,0)) n') (.s d) n' (.inl rfl) (by simp[Env.addKey]) (by simp[Env.addKey]) (by simp[Env.addKey];unfold maxLen;omega)
    rw[hmk]at this
    simpa[Env.addKey]using this
theorem sI(v:Value):qV v=v.oneCell':=by cases v<;>rfl
theorem chunks_flatten{z:Nat}: ∀{xs:List (List AV)},(∀l∈xs,l.length=z)→chunks z xs.length xs.flatten=xs
 |[],_=>rfl
 |l::r,h=>by
  have hl:=h l (by simp)
  simp only[List.length_cons,chunks,List.flatten_cons]
  rw[List.take_append_of_le_length (by omega),List.take_of_length_le (by omega),List.drop_append_of_le_length (by omega),List.drop_of_length_le (by omega),List.nil_append,chunks_flatten (fun x hx=>h x (by simp[hx]))]
theorem xH: ∀{xs:List (List AV)},eb xs=true→o8 xs.flatten=true
 |[],_=>rfl
 |l::r,h=>by
  simp only[eb,Bool.and_eq_true]at h
  have ih:=xH h.2
  rw[List.flatten_cons]
  have: ∀{a b:List AV},o8 a=true→o8 b=true→o8 (a++b)=true:=by
   intro a b ha hb
   induction a with
   |nil=>exact hb
   |cons x r ih=>simp only[o8,Bool.and_eq_true,List.cons_append]at ha ⊢;exact⟨ha.1,ih ha.2⟩
  exact this h.1 ih
theorem Cz.cells{r:Nat}{xs:List (List AV)}{v:Value}(hE:w.heap=E.h)(h:Cz E (.sl r xs) v)(hp:0<xs.length){z:Nat}(hz: ∀l∈xs,l.length=z):
  ∃b o c,v= .slice (some ⟨b,o,none⟩) xs.length c∧ ∃ns:List Value,ns.length=xs.length*z∧(∀(j:Nat) (u:Value),ns[j]? =some u→w.cell? ((⟨b,o,none⟩:Addr).add j)=some u)∧
   (∀(q:Nat) (a:AV),xs.flatten[q]? =some a→cq a=true)∧ ∀(q:Nat) (a:AV) (y:Value),xs.flatten[q]? =some a→ns[q]? =some y→Cz E a y:=by
 cases h with
 |mZ=>simp at hp
 |sl _ _ z' b o c u hp hc hm dQ J9 hr hi hs hu hq=>
  have PC:z'=z:=by
   cases xs with
   |nil=>simp at hp
   |cons x r=>rw[←J9 x (by simp),hz x (by simp)]
  subst PC
  have fG:=aE hz
  refine⟨b,o,c,rfl,(List.range (xs.length*z')).map u,by simp,fun j v hj=>?_,hi,fun q a y ha hy=>?_⟩
  ·have aS:j<xs.length*z':=by have:=(List.getElem?_eq_some_iff.1 hj).1;simpa using this
   have:v=u j:=by simp[aS]at hj;exact hj.symm
   subst this
   rw[ef,jr,hE]
   exact hu j (xs.flatten[j]'(by omega)) (by simp)
  ·have aS:q<xs.length*z':=by have:=(List.getElem?_eq_some_iff.1 ha).1;omega
   have:y=u q:=by simp[aS]at hy;exact hy.symm
   subst this
   exact hq q a ha
theorem Ak{cs:List AV}{ns:List Value}(hl:ns.length=cs.length)(hq: ∀(q:Nat) (a:AV) (y:Value),cs[q]? =some a→ns[q]? =some y→Cz E a y)(h:o8 cs=true): ∀u∈ns,u.oneCell'=true:=by
 intro u hu
 have:=DD (E:=E) (c:=ns.toArray) ⟨by simpa using hl,fun q a y h1 h2=>hq q a y h1 (by simpa using h2)⟩ h u (by simpa using hu)
 rw[←sI];exact this
structure App(P:Program)(E:Env)(w:World)(t:Nat)(ty:Nat)(x y:Value)(tk tk':Tok)(r:Nat)(zs:List (List AV))(x':Value)(w':World)(E':Env):Prop where
 run:(Builtin.append_ #[t,t] ty #[x,y]).run P w= .ok x' w'
 heap:w'.heap=E'.h
 wf:Wf E'
 same:iC w w'
 ext:Ext (fun o=>o= .tok tk) E E'
 cz:Cz E' (.gs r tk' zs) x'
 own: ∀b,b<E.h.size→E.own b= .tok tk→E'.own b= .tok tk∨E'.own b= .tok tk'
 live: ∀k,E'.live k↔E.live k
 ng:(∀b,¬dz (E.own b))→ ∀b,¬dz (E'.own b)
def Env.grow(E:Env)(b:Nat)(tk':Tok)(n:Nat)(o:Obj):Env:=
 {E with h:=E.h.setIfInBounds b o,aM:=fun b' i=>if b'=b then i<n else E.aM b' i,own:=fun b'=>if b'=b then .tok tk' else E.own b'}
theorem BN{t ty e:Nat}{i:TypeInfo}(hu:P.underlying t=some (.slice e))(hi:P.info? e=some i)(A B:Option Addr)(n c m:Nat)(hc:n≤c)(w:World):
  (Builtin.append_ #[t,t] ty #[.slice A n c,.slice B 0 m]).run P w= .ok (.slice A n c) w:=by
 have h2: ∀w,(underlying t).run P w= .ok (.slice e) w:=eT hu
 have h3: ∀w,(Go.sizeOf e).run P w= .ok i.size w:=fun w=>kh hi w
 cases A<;>cases B<;>
  simp[Builtin.append_,Sem.run_bind,h2,h3,Result.andThen,Builtin.lenOf,hc,Builtin.firstCells,loadCells,loadCellsFrom,storeCells]
theorem OY{r:Nat}{tk tk':Tok}{xs:List (List AV)}{x y:Value}{t ty:Nat}(hw:Wf E)(hh:w.heap=E.h)(hx:Cz E (.gs r tk xs) x)(eP:(Builtin.append_ #[t,t] ty #[x,y]).run P w= .ok x w):App P E w t ty x y tk tk' r xs x w (E.db tk tk'):=
 ⟨eP,hh,Je hw _ _,iC.refl _,rN _ _,hx.db hw,fun b _ ho=> .inr (by simp only[Env.db];rw[ho];simp),fun _=>Iff.rfl,fun h=>Jf h _ _⟩
theorem pn(z:Array Value)(n:Nat):(Builtin.zeroCells z n).size=n*z.size:=by simp[Builtin.zeroCells]
theorem NO{e:Nat}{i:TypeInfo}{zv:Value}(h:bn E0 E w0 w s a)(BW:zv.cells.size=i.size)(h1:1≤i.size){r:Nat}{tk tk':Tok}{zs:List (List AV)}{x y:Value}{t ty:Nat}(PC: ∀l∈zs,l.length=i.size)
  {ns:List Value}(hl:ns.length=zs.length*i.size)(lG: ∀(q:Nat) (a:AV),zs.flatten[q]? =some a→cq a=true)(hq: ∀(q:Nat) (a:AV) (y:Value),zs.flatten[q]? =some a→ns[q]? =some y→Cz E a y){cap:Nat}(hc:zs.length≤cap)(hm:cap≤maxLen)(cU:0<zs.length)
  (eP:(Builtin.append_ #[t,t] ty #[x,y]).run P w= .ok (.slice (some ⟨w.heap.size,0,none⟩) zs.length cap) (w.drew.alloc (.cells (ns.toArray++Builtin.zeroCells zv.cells (cap - zs.length)) e))):
  ∃x' w' E',App P E w t ty x y tk tk' r zs x' w' E':=by
 have hd:=h.draw (w':=w.drew) rfl ⟨rfl,rfl,rfl⟩
 have hgs:=NP hd (t:=tk') (ρ:=r) (z:=i.size) (n:=zs.length) (cs:=zs.flatten) (c:=ns.toArray++Builtin.zeroCells zv.cells (cap - zs.length)) (e:=e) (cap:=cap) (by omega) (aE PC) (wo lG)
  (fun q b y' g1 g2=>hq q b y' g1 (by
   have aS:q<ns.length:=by rw[hl,←aE PC];exact(List.getElem?_eq_some_iff.1 g1).1
   rw[Array.getElem?_append_left (by simpa using aS)]at g2
   simpa using g2))
  (by simp only[Array.size_append,pn,BW];simp only[List.size_toArray,hl];rw[←Nat.add_mul];congr 1;omega) hc hm (fun hh=>by omega)
 rw[chunks_flatten PC]at hgs
 refine⟨_,_,_,eP,?_,Gq h.wf tk' r (zs.length*i.size) _ ⟨_,_,rfl⟩,⟨rfl,rfl,rfl⟩,(yf h.wf _ _ _ _).mono (fun _ hf=>hf.elim),hgs,fun b hb ho=> .inl ?_,fun _=>Iff.rfl,fun hg b=>(by
  have:=hg b
  simp only[Env.fa]
  split
  ·exact ji _
  ·exact this)⟩
 ·show w.heap.push _=_
  rw[h.heap];rfl
 ·simp only[Env.fa];rw[if_neg (by omega)];exact ho
theorem BC{t ty e:Nat}{i:TypeInfo}{zv:Value}(h:bn E0 E w0 w s a)(hu:P.underlying t=some (.slice e))(hi:P.info? e=some i)(hz:i.zero=some zv)(BW:zv.cells.size=i.size)(h1:1≤i.size)
  {r r2:Nat}{tk tk':Tok}{xs ys:List (List AV)}{x y:Value}(hx:Cz E (.gs r tk xs) x)(hy:Cz E (.sl r2 ys) y)(hxz: ∀l∈xs,l.length=i.size)(hyz: ∀l∈ys,l.length=i.size)(xT:o8 ys.flatten=true)
  (hb:(xs.length+ys.length)*i.bytes≤70368744177664)(hn:xs.length+ys.length≤70368744177664): ∃x' w' E',App P E w t ty x y tk tk' r (xs++ys) x' w' E':=by
 by_cases hy0:ys.length=0
 ·have:ys=[]:=List.eq_nil_of_length_eq_zero hy0
  subst this
  obtain⟨B,m,Qg⟩:=hy.len
  rw[List.append_nil]
  subst Qg
  have hxv: ∃A c,x= .slice A xs.length c∧xs.length≤c:=by
   cases hx with
   |sq=>exact⟨_,_,rfl,Nat.zero_le _⟩
   |gs=>exact⟨_,_,rfl,by assumption⟩
  obtain⟨A,c,rfl,hc⟩:=hxv
  exact⟨_,_,_,OY h.wf h.heap hx (BN hu hi A B xs.length c m hc w)⟩
 ·obtain⟨b2,o2,c2,rfl,ns,n1,n2,n3,n4⟩:=hy.cells h.heap (by omega) hyz
  have ajf:=Ak (E:=E) (by rw[n1,aE hyz]) n4 xT
  cases hx with
  |sq=>
   have eP:=run_append_nil (P:=P) w t ty e i zv hu hi hz ⟨b2,o2,none⟩ ys.length c2 ns n1 n2 (by omega) (by omega) (by simp at hb;omega)
   rw[List.nil_append]
   exact NO h BW h1 hyz n1 n3 n4 (grownCap_ge w ys.length 0 e) (grownCap_le_maxLen w ys.length 0 e (by unfold maxLen;omega)) (by omega) eP
  |gs _ _ _ z b c e' cells u hc hm h0 dQ J9 hr hbk dC ho fP lG huq wq=>
   have Gb:=aE hxz
   have Qi:=aE hyz
   have Xw: ∀l∈xs++ys,l.length=i.size:=fun l hl=>by
    rcases List.mem_append.1 hl with hl|hl
    ·exact hxz l hl
    ·exact hyz l hl
   have hlx:(xs++ys).length=xs.length+ys.length:=by simp
   have hold: ∀(j:Nat) (v:Value),((List.range (xs.length*i.size)).map u)[j]? =some v→w.cell? ((⟨b,0,none⟩:Addr).add j)=some v:=fun j v hj=>by
    have aS:j<xs.length*i.size:=by have:=(List.getElem?_eq_some_iff.1 hj).1;simpa using this
    have:v=u j:=by simp[aS]at hj;exact hj.symm
    subst this
    rw[ef,jr,h.heap]
    exact huq j (xs.flatten[j]'(by omega)) (by simp)
   have aeL: ∀(q:Nat) (a:AV),(xs++ys).flatten[q]? =some a→cq a=true:=fun q a ha=>by
    rw[List.flatten_append]at ha
    by_cases aS:q<xs.flatten.length
    ·rw[List.getElem?_append_left aS]at ha;exact lG q a ha
    ·rw[List.getElem?_append_right (by omega)]at ha;exact n3 _ a ha
   by_cases zj:xs.length+ys.length≤c
   ·
    have hxp:0<xs.length:=by
     rcases Nat.eq_zero_or_pos xs.length with hh|hh
     ·have:=h0 hh;omega
     ·exact hh
    have PC:z=i.size:=by
     cases xs with
     |nil=>simp at hxp
     |cons l r=>rw[←J9 l (by simp),hxz l (by simp)]
    subst PC
    have hmul:(xs.length+ys.length)*i.size≤c*i.size:=Nat.mul_le_mul_right _ zj
    rw[Nat.add_mul]at hmul
    obtain⟨w',g1,g2,g3⟩:=fW P b (xs.length*i.size) e' ns 0 w cells (by rw[h.heap];exact hbk) (by omega) (fun v hv=>by rw[sI];exact ajf v hv)
    obtain⟨f1,f2⟩:=pj (xs.length*i.size) ns 0 cells (by omega)
    generalize (ns.zipIdx.foldl (fun cs (x,j)=>cs.setIfInBounds (xs.length*i.size+j) x) cells)=F at g2 f1 f2
    have aS:b<E.h.size:=(Array.getElem?_eq_some_iff.1 hbk).1
    have eP:(Builtin.append_ #[t,t] ty #[.slice (some ⟨b,0,none⟩) xs.length c,.slice (some ⟨b2,o2,none⟩) ys.length c2]).run P w= .ok (.slice (some ⟨b,0,none⟩) (xs.length+ys.length) c) w':=by
     have h2: ∀w,(underlying t).run P w= .ok (.slice e) w:=eT hu
     have h3: ∀w,(Go.sizeOf e).run P w= .ok i.size w:=fun w=>kh hi w
     have hf:=run_firstCells_some (P:=P) w i.size ys.length ⟨b2,o2,none⟩ ys.length c2 ns n1 n2
     simp[Builtin.append_,Sem.run_bind,h2,h3,Result.andThen,Builtin.lenOf,zj,hf,ef,g1]
    have hEh:w'.heap=(E.grow b tk' ((xs.length+ys.length)*i.size) (.cells F e' (0,0))).h:=by rw[g2,h.heap];rfl
    have PJ:Ext (fun o=>o= .tok tk) E (E.grow b tk' ((xs.length+ys.length)*i.size) (.cells F e' (0,0))):=
     ⟨by simp[Env.grow],
      fun b' q hs=>by
      by_cases tf:b'=b
      ·subst tf
       have wq:=(fP q).1 hs
       refine⟨by simp only[Env.grow,if_true];rw[Nat.add_mul];omega,?_,rfl⟩
       simp only[Env.grow,aO]
       rw[Array.getElem?_setIfInBounds_self_of_lt aS,hbk]
       dsimp only
       rw[f2,if_neg (by omega)]
      ·refine⟨by simp only[Env.grow];rw[if_neg tf];exact hs,?_,rfl⟩
       simp only[Env.grow,aO]
       rw[Array.getElem?_setIfInBounds_ne (Ne.symm tf)],
      fun k hk=>⟨hk,rfl,rfl⟩,
      fun b' eQ cU=>by
      have tf:b'≠b:=fun hh=>by subst hh;exact cU ho
      exact⟨by simp only[Env.grow];rw[if_neg tf],by simp only[Env.grow];rw[Array.getElem?_setIfInBounds_ne (Ne.symm tf)],fun q=>by simp only[Env.grow];rw[if_neg tf],rfl⟩⟩
    have hwf:Wf (E.grow b tk' ((xs.length+ys.length)*i.size) (.cells F e' (0,0))):=
     ⟨fun b' q hs=>by
      simp only[Env.grow]at hs ⊢
      by_cases tf:b'=b
      ·subst tf;simpa using aS
      ·rw[if_neg tf]at hs;simpa using h.wf.aM b' q hs,
      fun b' hs=>by
      simp only[Env.grow]at hs ⊢
      by_cases tf:b'=b
      ·subst tf;simpa using aS
      ·rw[if_neg tf]at hs;simpa using h.wf.own b' hs,
      fun b' q hs hr=>by
      simp only[Env.grow]at hs hr ⊢
      by_cases tf:b'=b
      ·subst tf;exact⟨F,e',by rw[Array.getElem?_setIfInBounds_self_of_lt aS]⟩
      ·rw[if_neg tf]at hs
       obtain⟨c',e'',hc⟩:=h.wf.fz b' q hs hr
       exact⟨c',e'',by rw[Array.getElem?_setIfInBounds_ne (Ne.symm tf)];exact hc⟩⟩
    refine⟨_,w',_,eP,hEh,hwf,g3,PJ,?_,fun b' _ qI=>?_,fun _=>Iff.rfl,fun hg b'=>(by
     have:=hg b'
     simp only[Env.grow]
     split
     ·exact ji _
     ·exact this)⟩
    ·have:=Cz.gs (E:=E.grow b tk' ((xs.length+ys.length)*i.size) (.cells F e' (0,0))) r tk' (xs++ys) i.size b c e' F (fun q=>F[q]?.getD undef) (by rw[hlx];exact zj) hm (by rw[hlx];omega) (by omega) Xw hr
      (by simp[Env.grow,aS]) (by rw[f1];exact dC) (by simp[Env.grow]) (fun q=>by simp[Env.grow]) aeL
      (fun q a' ha=>by
       have hq:q<F.size:=by
        have:=(List.getElem?_eq_some_iff.1 ha).1
        rw[aE Xw,hlx,Nat.add_mul]at this
        rw[f1,dC];omega
       simp[aO,Env.grow,aS,hq])
      (fun q a' ha=>by
       have hq:q<(xs.length+ys.length)*i.size:=by
        have:=(List.getElem?_eq_some_iff.1 ha).1
        rwa [aE Xw,hlx]at this
       rw[Nat.add_mul]at hq
       have hfq:=f2 q
       have aaa: ∀y',Cz E a' y'→F[q]? =some y'→Cz (E.grow b tk' ((xs.length+ys.length)*i.size) (.cells F e' (0,0))) a' (F[q]?.getD undef):=fun y' g1 g2=>by
        rw[g2]
        exact(g1.ext PJ h.wf (bf tk) (fun t ht=>(kW _ _).2 (by cases ht;rfl))).2 (aeL q a' ha)
       rw[List.flatten_append]at ha
       by_cases MF:q<xs.flatten.length
       ·rw[List.getElem?_append_left MF]at ha
        rw[if_neg (by omega)]at hfq
        have h5:=huq q a' ha
        simp only[Nat.zero_add,aO,hbk]at h5
        exact aaa _ (wq q a' ha) (hfq.trans h5)
       ·rw[List.getElem?_append_right (by omega)]at ha
        rw[if_pos ⟨by omega,by omega⟩]at hfq
        have aeC:q - (xs.length*i.size+0)<ns.length:=by omega
        have h6:ns[q - (xs.length*i.size+0)]? =some ns[q - (xs.length*i.size+0)]:=by simp[aeC]
        exact aaa _ (n4 _ a' _ ha (by rw[Gb];exact h6)) (hfq.trans h6))
     rw[hlx]at this
     exact this
    ·by_cases tf:b'=b
     ·subst tf;exact .inr (by simp[Env.grow])
     ·exact .inl (by simp only[Env.grow];rw[if_neg tf];exact qI)
   ·have eP:=run_append_grow (P:=P) w t ty e i zv hu hi hz ⟨b,0,none⟩ xs.length c ((List.range (xs.length*i.size)).map u) (by simp) hold ⟨b2,o2,none⟩ ys.length c2 ns n1 n2 (by omega) (by omega)
     (growslice_fits (by omega) (by omega))
    have apr:((List.range (xs.length*i.size)).map u).toArray++ns.toArray=(((List.range (xs.length*i.size)).map u)++ns).toArray:=by simp
    rw[apr]at eP
    rw[←hlx]at eP
    refine NO h BW h1 Xw (ns:=((List.range (xs.length*i.size)).map u)++ns) (by rw[hlx,List.length_append,n1,Nat.add_mul];simp) aeL (fun q a' y' g1 g2=>?_) (by exact grownCap_ge w _ c e) (grownCap_le_maxLen w _ c e (by unfold maxLen;omega)) (by omega) eP
    rw[List.flatten_append]at g1
    by_cases aS:q<xs.flatten.length
    ·rw[List.getElem?_append_left aS]at g1
     rw[List.getElem?_append_left (by simp;omega)]at g2
     have:y'=u q:=by simp[show q<xs.length*i.size from by omega]at g2;exact g2.symm
     subst this
     exact wq q a' g1
    ·rw[List.getElem?_append_right (by omega)]at g1
     rw[List.getElem?_append_right (by simp;omega)]at g2
     exact n4 _ a' y' g1 (by simpa[Gb]using g2)
theorem Gm(hI:C.I=an){ti:TI}{n:Nat}{ys:List (List AV)}(h:Ow C ti n ys):(n+ys.length)*ti.bytes≤70368744177664∧n+ys.length≤70368744177664∧1≤ti.size∧o8 ys.flatten=true∧ ∀l∈ys,l.length=ti.size:=by
 obtain⟨h12,h3,h4,h5⟩:=h
 rw[hI]at h12
 obtain⟨h1,h2⟩:(n+ys.length)*ti.bytes≤70368744177664∧n+ys.length≤70368744177664:=h12
 exact⟨h1,h2,by simpa using h3,xH h4,h5⟩
theorem Q9(d:Nat)(k:Tok): ∀t,(fun o=>o=Own.tok k) (.tok t)→(fun q=>bf (.l d) q||bf k q) t=true:=fun t ht=>by
 cases ht
 simp[(kW k k).2 rfl]
theorem EP(hL:bk P C.L)(hI:C.I=an)(h:bn E0 E w0 w s a){o:Oper}{t t' d:Nat}{x y:Operand}{c:Call}(he:o.op= .call c)(hc:c.callee= .builtin .append)(c5:c.args= #[x,y])(Qh:c.argTypes= #[t,t'])(htt:t'=t){K:bd}{Q:Exit→Act→World→Prop}
  (hk:Cm C t d (bM s [] x) (bM s [] y) s K):kU P o a w (fH E0 w0 o a K) Q:=by
 subst htt
 unfold Cm at hk
 generalize C.base+d=d at hk
 have hx:=h.ev (p:=[]) trivial x
 have hy:=h.ev (p:=[]) trivial y
 have fin: ∀x' w',(Builtin.append_ #[t',t'] o.type #[a.eval x,a.eval y]).run P w= .ok x' w'→Out E0 w0 a K x' w'→kU P o a w (fH E0 w0 o a K) Q:=fun x' w' g1 g2=>by
  refine cV (x:=x') (w':=w') ?_ g2
  simp only[execOp,he,resolve,hc,invoke,builtin,c5,Qh]
  simp[Sem.run_bind,invoke,builtin,g1,Result.andThen]
 cases rH:elemOf C.L t' with
 |none=>rw[rH]at hk;exact hk.elim
 |some et=>
  obtain⟨e,ti⟩:=et
  rw[rH]at hk
  obtain⟨hu,Kj,i,i1,i2,i3,zv,i4,i5⟩:=gL hL rH
  have BW:zv.cells.size=i.size:=by rw[i2,←(hL.ok e ti Kj).K0,←i5];simp
  cases N4:wX (bM s [] y)with
  |none=>rw[N4]at hk;exact hk.elim
  |some ry=>
   obtain⟨r2,ys⟩:=ry
   rw[N4]at hk
   dsimp only at hk
   have ZY:=nJ N4 hy
   split at hk
   ·rename_i r k xs dO
    obtain⟨N1,k1,k2,hk⟩:=hk
    rw[hI]at k1 hk
    obtain⟨q1,q2,q3,q4,q5⟩:=Gm (C:=C) (ti:=ti) (n:=xs.length) (ys:=ys) hI k1
    rw[dO]at hx
    obtain⟨x',w',E',g⟩:=BC (P:=P) (t:=t') (ty:=o.type) (tk':= .l d) h hu i1 i4 BW (by omega) hx ZY (by rw[i2];exact k2) (by rw[i2];exact q5) q4 (by rw[i3];exact q1) q2
    refine fin x' w' g.run ⟨_,_,E',hk,?_,g.cz⟩
    refine h.xG g.ext (Q9 d k) (fun o ho=>by subst ho;left;first|rfl|(cases k<;>rfl)) g.wf g.heap g.same (fun b hb XK=>by have:=h.xc b hb;rw[XK]at this;first|(simp[Own.loc,Tok.loc]at this;done)|(cases k<;>simp[Own.loc,Tok.loc]at this)) _ s.g s.nx (fun d' ob hd=>?_) (fun d' hl=>?_) (fun j ob hj=> .inl ⟨hj,fun hf=>by cases hf⟩)
     (fun j=>(g.live _).trans (h.gl j)) h.gk (g.ng h.ng)
    ·rw[cA]at hd
     cases hh:look d' s.b with
     |none=>rw[hh]at hd;simp at hd
     |some z=>rw[hh]at hd;simp at hd;exact .inl ⟨z,rfl,hd.symm,(fun hf=>by cases hf),fun hf=>by first|(cases hf;done)|(cases hf;cases N1)⟩
    ·obtain⟨ob,ho⟩:=h.lv d' ((g.live _).1 hl)
     exact⟨_,by rw[cA,ho];rfl⟩
   ·rename_i dO
    obtain⟨k1,hk⟩:=hk
    obtain⟨q1,q2,q3,q4,q5⟩:=Gm (C:=C) (ti:=ti) (n:=0) (ys:=ys) hI k1
    rw[dO]at hx
    have ex:=bH hx
    have hgs:Cz E (.gs C.ρ (.l d) []) (a.eval x):=by rw[ex];exact .sq _ _
    obtain⟨x',w',E',g⟩:=BC (P:=P) (t:=t') (ty:=o.type) (tk':= .l d) h hu i1 i4 BW (by omega) hgs ZY (fun l hl=>by simp at hl) (by rw[i2];exact q5) q4 (by rw[i3];simpa using q1) (by simpa using q2)
    refine fin x' w' g.run ⟨_,_,E',hk,?_,by simpa using g.cz⟩
    have hT: ∀t,(fun o=>o=Own.tok (.l d)) (.tok t)→bf (.l d) t=true:=fun t ht=>(kW _ _).2 (by cases ht;rfl)
    refine h.xG g.ext hT (fun o ho=>by subst ho;left;first|rfl|(cases k<;>rfl)) g.wf g.heap g.same (fun b hb XK=>by have:=h.xc b hb;rw[XK]at this;first|(simp[Own.loc,Tok.loc]at this;done)|(cases k<;>simp[Own.loc,Tok.loc]at this)) _ s.g s.nx (fun d' ob hd=>?_) (fun d' hl=>?_) (fun j ob hj=> .inl ⟨hj,fun hf=>by cases hf⟩)
     (fun j=>(g.live _).trans (h.gl j)) h.gk (g.ng h.ng)
    ·rw[cA]at hd
     cases hh:look d' s.b with
     |none=>rw[hh]at hd;simp at hd
     |some z=>rw[hh]at hd;simp at hd;exact .inl ⟨z,rfl,hd.symm,(fun hf=>by cases hf),fun hf=>by first|(cases hf;done)|(cases hf;cases N1)⟩
    ·obtain⟨ob,ho⟩:=h.lv d' ((g.live _).1 hl)
     exact⟨_,by rw[cA,ho];rfl⟩
   ·exact hk.elim
theorem Row.of{cs:List AV}{c:Array Value}(h1:c.size=cs.length)(h2: ∀(q:Nat) (a:AV) (y:Value),cs[q]? =some a→c[q]? =some y→Cz E a y):Row E cs c:=⟨h1,h2⟩
theorem I5{a b:List AV}(h:b.length≤a.length):bE a 0 b=b++a.drop b.length:=by simp[bE]
theorem IQ(hL:bk P C.L)(hI:C.I=an)(h:bn E0 E w0 w s a){o:Oper}{t t':Nat}{x y:Operand}{c:Call}(he:o.op= .call c)(hc:c.callee= .builtin .copy)(c5:c.args= #[x,y])(Qh:c.argTypes= #[t,t']){K:bd}{Q:Exit→Act→World→Prop}
  (hk:QF C t (bM s [] x) (bM s [] y) s K):kU P o a w (fH E0 w0 o a K) Q:=by
 unfold QF at hk
 have hx:=h.ev (p:=[]) trivial x
 have hy:=h.ev (p:=[]) trivial y
 have fin: ∀x' w',(Builtin.copy_ #[t,t'] o.type #[a.eval x,a.eval y]).run P w= .ok x' w'→Out E0 w0 a K x' w'→kU P o a w (fH E0 w0 o a K) Q:=fun x' w' g1 g2=>by
  refine cV (x:=x') (w':=w') ?_ g2
  simp only[execOp,he,resolve,hc,invoke,builtin,c5,Qh]
  simp[Sem.run_bind,invoke,builtin,g1,Result.andThen]
 split at hk
 ·rename_i e ti d n r2 ys rH hxe N4
  obtain⟨hu,Kj,i,i1,i2,i3,zv,i4,i5⟩:=gL hL rH
  have ZY:=nJ N4 hy
  rw[hxe]at hx
  generalize a.eval x=xv at hx fin
  generalize a.eval y=yv at ZY fin
  split at hk
  ·rename_i z xs fF
   obtain⟨zs,j,⟨e1,e2,e3,e4,e5⟩,hK⟩:=hk
   rw[hI]at e4 e5
   obtain⟨hl,qe,dQ,hz,hm,cc,ce,hb,ho,hs,dC,lG,hq⟩:=h.bx d _ fF
   have fG:=aE hz
   cases hx with
   |iq _ _ hlv hn ML hmx=>
   rw[qe]at hn ML hmx fin
   dsimp only at hn
   have hj:j=((min ys.length n:Nat):Int):=by
    rw[←e4];simp only[an];split<;>omega
   generalize hmm:min ys.length n=m at hj
   have hmy:m≤ys.length:=by omega
   have ajj:m≤xs.length:=by omega
   have hzs:zs=ys.take m++xs.drop m:=by rw[←e5,hj];simp[an]
   obtain⟨B,cy,Qg⟩:=ZY.len
   have h2: ∀w,(underlying t).run P w= .ok (.slice e) w:=eT hu
   have h3: ∀w,(Go.sizeOf e).run P w= .ok i.size w:=fun w=>kh i1 w
   have hiz:i.size=z:=by rw[i2,e1]
   have N3: ∃ns:List Value,ns.length=m*z∧(Builtin.firstCells i.size m yv).run P w= .ok ns.toArray w∧(∀(q:Nat) (a:AV),(ys.take m).flatten[q]? =some a→cq a=true)∧
     (∀(q:Nat) (a:AV) (y:Value),(ys.take m).flatten[q]? =some a→ns[q]? =some y→Cz E a y)∧(∀v∈ns,qV v=true):=by
    by_cases XD:m=0
    ·refine⟨[],by rw[XD];simp,?_,fun q a ha=>by rw[XD]at ha;simp at ha,fun q a y ha=>by rw[XD]at ha;simp at ha,fun v hv=>by cases hv⟩
     rw[Qg,XD]
     cases B<;>simp[Builtin.firstCells,loadCells,loadCellsFrom,go_sem]
    ·have hp:0<ys.length:=by omega
     obtain⟨b2,o2,c2,aou,ns,n1,n2,n3,n4⟩:=ZY.cells h.heap hp (z:=z) (fun l hl=>by rw[e3 l hl,e1])
     have xT:=Ak (E:=E) (cs:=ys.flatten) (by rw[n1,aE (z:=z) (fun l hl=>by rw[e3 l hl,e1])]) n4 (xH e2)
     have hmz:m*z≤ys.length*z:=Nat.mul_le_mul_right _ hmy
     have htf: ∀(q:Nat) (a:AV),(ys.take m).flatten[q]? =some a→ys.flatten[q]? =some a:=fun q a ha=>by
      have:ys.flatten=(ys.take m).flatten++(ys.drop m).flatten:=by rw[←List.flatten_append,List.take_append_drop]
      rw[this,List.getElem?_append_left (List.getElem?_eq_some_iff.1 ha).1];exact ha
     refine⟨ns.take (m*z),by simp;omega,?_,fun q a ha=>n3 q a (htf q a ha),fun q a y ha hy=>n4 q a y (htf q a ha) ?_,fun v hv=>by rw[sI];exact xT v (List.mem_of_mem_take hv)⟩
     ·rw[aou,hiz]
      simp only[Builtin.firstCells,loadCells]
      have:=run_loadCells P w b2 o2 (m*z) 0 #[] (ns.take (m*z)) (by simp;omega) (fun q y hy=>by
       rw[List.getElem?_take]at hy
       split at hy
       ·have:=n2 q y hy;rw[ef,jr]at this;simpa using this
       ·cases hy)
      rw[this];simp
     ·rw[List.getElem?_take]at hy
      split at hy
      ·exact hy
      ·cases hy
   obtain⟨ns,n1,n2,n3,n4,n5⟩:=N3
   have aS:E.m (.s d)<E.h.size:=(Array.getElem?_eq_some_iff.1 hb).1
   have Bl:m*z≤xs.length*z:=Nat.mul_le_mul_right _ ajj
   obtain⟨w',g1,g2,g3⟩:=fW P (E.m (.s d)) 0 ce ns 0 w cc (by rw[h.heap];exact hb) (by omega) n5
   have hyt: ∀l∈ys.take m,l.length=z:=fun l hl=>by rw[e3 l (List.mem_of_mem_take hl),e1]
   have KR:(ys.take m).flatten.length=m*z:=by rw[aE hyt,List.length_take,Nat.min_eq_left hmy]
   have ZX:zs.length=xs.length:=by rw[hzs];simp;omega
   refine fin (.int .i64 j) w' ?_ ⟨_,_,_,hK,h.pq fF (zX h.wf hl (xs:=xs) (xs':=zs) (vs:=(ys.take m).flatten) (off:=0) (ys:=ns) (by rw[ZX];exact qe) dQ (by rw[ZX];exact hm) ?_ hb ho hs ⟨by rw[dC,fG],hq⟩ lG (wo n3) (by rw[fG,KR];omega) ?_ (by rw[n1,KR]) n4) g2 g3 ho hs,.v _⟩
   ·rw[Qg]
    unfold Builtin.copy_
    simp[Sem.run_bind,h2,h3,Result.andThen,Builtin.lenOf]
    rw[show ys.length.min n=m from hmm,←Qg,n2]
    simp[Sem.run_bind,Result.andThen,g1]
    rw[hj];rfl
   ·intro l hl
    rw[hzs]at hl
    rcases List.mem_append.1 hl with hl|hl
    ·exact hyt l hl
    ·exact hz l (List.mem_of_mem_drop hl)
   ·rw[I5 (by rw[fG,KR];omega),hzs,List.flatten_append,KR]
    congr 1
    have:xs.flatten=(xs.take m).flatten++(xs.drop m).flatten:=by rw[←List.flatten_append,List.take_append_drop]
    have aS:(xs.take m).flatten.length=m*z:=by rw[aE (fun l hl=>hz l (List.mem_of_mem_take hl)),List.length_take,Nat.min_eq_left ajj]
    rw[this,←aS];simp
  ·exact hk.elim
 ·exact hk.elim
def bY(w w':World):Prop:= ∀b,b<w.heap.size→w'.heap[b]? =w.heap[b]?
theorem bY.refl(w:World):bY w w:=fun _ _=>rfl
theorem bY.get{b:Nat}{x:Obj}(h:bY w w')(hb:w.heap[b]? =some x):w'.heap[b]? =some x:=by
 rw[h b (Array.getElem?_eq_some_iff.1 hb).1];exact hb
theorem bY.trans{w1 w2 w3:World}(h:bY w1 w2)(k:bY w2 w3):bY w1 w3:=fun b hb=>by
 have h1:w1.heap[b]? =some w1.heap[b]:=Array.getElem?_eq_getElem hb
 rw[h1,k.get (h.get h1)]
structure vT(E:Env)(w:World)(g:Nat→Option Ob)(nx:Nat):Prop where
 heap:w.heap=E.h
 wf:Wf E
 nl: ∀d,¬E.live (.s d)
 gl: ∀i,E.live (.o i)↔i<nx
 own: ∀b,(E.own b).loc=false
 gk:GOk g
 gx: ∀i ob,g i=some ob→cf E (.o i) ob
 ng: ∀b,¬dz (E.own b)
def j5(P:Program)(f:Nat)(args:List AV)(g:Nat→Option Ob)(nx:Nat)(r:AV)(g':Nat→Option Ob)(gS:Nat):Prop:=
 ca args=true→ ∀(E:Env) (w:World) (vs:List Value),vT E w g nx→vs.length=args.length→(∀(q:Nat) (a:AV) (y:Value),args[q]? =some a→vs[q]? =some y→Cz E a y)→
  Calls P f vs.toArray w fun e w'=> ∃x E',e= .returned x∧vT E' w' g' gS∧Ext dz E E'∧iC w w'∧Cz E' r x∧cq r=true∧bY w w'
structure Tr(E E':Env):Prop where
 h:E'.h=E.h
 aM: ∀b o,E'.aM b o↔E.aM b o
 dH: ∀b,E'.dH b=E.dH b
 live: ∀i,E.live (.o i)→E'.live (.o i)∧E'.m (.o i)=E.m (.o i)∧E'.len (.o i)=E.len (.o i)
 tok: ∀b t,t.loc=false→E.own b= .tok t→E'.own b= .tok t
 key: ∀b i,E.own b= .key (.o i)→E'.own b= .key (.o i)
theorem Tr.cq(k:Tr E E'){av:AV}{x:Value}(h:Cz E av x):cq av=true→Cz E' av x:=by
 induction h with
 |any x=>exact fun _=> .any _
 |v x=>exact fun _=> .v _
 |mZ r A c=>exact fun _=> .mZ _ _ _
 |sl r xs z b o c u hp hc hm dQ hz hr hi fP hu hq ih=>
  exact fun _=> .sl r xs z b o c u hp hc hm dQ hz ((k.dH b).trans hr) hi (fun q a cZ=>(k.aM _ _).2 (fP q a cZ)) (fun q a cZ=>by rw[k.h];exact hu q a cZ) (fun q a cZ=>ih q a cZ (hi q a cZ))
 |sq r t=>exact fun _=> .sq _ _
 |gs r t xs=>intro hi;simp[Ab.cq]at hi
 |aP r cs off b o u hr hi fP hu hq ih=>
  exact fun _=> .aP r cs off b o u (fun q a cZ=>(k.dH b).trans (hr q a cZ)) hi (fun q a cZ=>(k.aM _ _).2 (fP q a cZ)) (fun q a cZ=>by rw[k.h];exact hu q a cZ) (fun q a cZ=>ih q a cZ (hi q a cZ))
 |ptr q off hl=>
  intro hi
  cases q with
  |s e=>simp[Ab.cq,Key.loc]at hi
  |o i=>obtain⟨h1,h2,_⟩:=k.live i hl;rw[←h2];exact .ptr _ _ h1
 |iq q n hl hn hc hm=>
  intro hi
  cases q with
  |s e=>simp[Ab.cq,Key.loc]at hi
  |o i=>obtain⟨h1,h2,h3⟩:=k.live i hl;rw[←h2,←h3];exact .iq _ _ h1 (by rw[h3];exact hn) (by rw[h3];exact hc) (by rw[h3];exact hm)
 |cQ q i off z hl=>
  intro hi
  cases q with
  |s e=>simp[Ab.cq,Key.loc]at hi
  |o i=>obtain⟨h1,h2,_⟩:=k.live i hl;rw[←h2];exact .cQ _ _ _ _ h1
 |mp q hl=>
  intro hi
  cases q with
  |s e=>simp[Ab.cq,Key.loc]at hi
  |o i=>obtain⟨h1,h2,_⟩:=k.live i hl;rw[←h2];exact .mp _ h1
 |po q hl=>
  intro hi
  cases q with
  |s e=>simp[Ab.cq,Key.loc]at hi
  |o i=>obtain⟨h1,h2,_⟩:=k.live i hl;rw[←h2];exact .po _ h1
 |ar n z xs ys hn hz hl hi hq ih=>exact fun _=> .ar n z xs ys hn hz hl hi fun q a y ha hy=>ih q a y ha hy (hi q a ha)
 |bm f cs ys hl hi hq ih=>exact fun _=> .bm f cs ys hl hi fun q a y ha hy=>ih q a y ha hy (hi q a ha)
 |mN r z xs x hz h ih=>exact fun _=> .mN r z xs x hz (ih rfl)
 |fn f cap ys hl hq ih=>intro hi;exact .fn f cap ys hl fun q a y ha hy=>ih q a y ha hy (bg (by simpa[Ab.cq]using hi) q a ha)
 |agg cs ys hl hq ih=>intro hi;exact .agg cs ys hl fun q a y ha hy=>ih q a y ha hy (bg (by simpa[Ab.cq]using hi) q a ha)
 |gd cs ys hl hq ih=>intro hi;exact .gd cs ys hl fun q a y ha hy=>ih q a y ha hy (bg (by simpa[Ab.cq]using hi) q a ha)
theorem Tr.gs(k:Tr E E'){r:Nat}{t:Tok}{xs:List (List AV)}{x:Value}(ht:t.loc=false)(h:Cz E (.gs r t xs) x):Cz E' (.gs r t xs) x:=by
 cases h with
 |sq=>exact .sq _ _
 |gs _ _ _ z b c e cells u hc hm h0 dQ hz hr hb dC ho fP hi hu hq=>
  exact .gs r t xs z b c e cells u hc hm h0 dQ hz ((k.dH b).trans hr) (by rw[k.h];exact hb) dC (k.tok b t ht ho) (fun o=>(k.aM b o).trans (fP o)) hi (fun q a cZ=>by rw[k.h];exact hu q a cZ) (fun q a cZ=>k.cq (hq q a cZ) (hi q a cZ))
theorem Tr.ob(k:Tr E E'){i:Nat}{ob:Ob}(hg:match ob with
   | .box cs=> ∀(q:Nat) (a:AV),cs[q]? =some a→Ab.cq a=true
   | .arr _ _=>True
   | .ow .. =>False
   | .lp .. =>False)(h:cf E (.o i) ob):cf E' (.o i) ob:=by
 cases ob with
 |box cs=>
  obtain⟨hl,c,e,hb,ho,hs,dC,hq⟩:=h
  obtain⟨l1,l2,l3⟩:=k.live i hl
  refine⟨l1,c,e,by rw[l2,k.h];exact hb,by rw[l2];exact k.key _ i ho,fun o hh=>hs o ((k.aM _ _).1 (by rw[l2]at hh;exact hh)),dC,fun q a x ha hx=>?_⟩
  exact k.cq (hq q a x ha hx) (hg q a ha)
 |arr z xs=>
  obtain⟨hl,qe,dQ,hz,hm,c,e,hb,ho,hs,dC,hi,hq⟩:=h
  obtain⟨l1,l2,l3⟩:=k.live i hl
  exact⟨l1,l3.trans qe,dQ,hz,hm,c,e,by rw[l2,k.h];exact hb,by rw[l2];exact k.key _ i ho,fun o hh=>hs o ((k.aM _ _).1 (by rw[l2]at hh;exact hh)),dC,hi,fun q a x ha hx=>k.cq (hq q a x ha hx) (hi q a ha)⟩
 |ow=>exact hg.elim
 |lp=>exact hg.elim
def Env.mask(E:Env):Env:=
 {E with live:=fun k=>k.loc=false∧E.live k,own:=fun b=>if(E.own b).loc then .jF else E.own b}
theorem zb(E:Env):Tr E E.mask:=
 ⟨rfl,fun _ _=>Iff.rfl,fun _=>rfl,fun i h=>⟨⟨rfl,h⟩,rfl,rfl⟩,
  fun b t ht ho=>by simp only[Env.mask];rw[ho];simp[Own.loc,ht],fun b i ho=>by simp only[Env.mask];rw[ho];simp[Own.loc,Key.loc]⟩
theorem bn.mask(h:bn E0 E w0 w s a):vT E.mask w s.g s.nx where
 heap:=h.heap
 wf:=⟨h.wf.aM,fun b hb=>h.wf.own b (fun e=>hb (by simp only[Env.mask];rw[e];simp[Own.loc])),h.wf.fz⟩
 nl:=fun d hd=>by have:=hd.1;simp[Key.loc]at this
 gl:=fun i=>⟨fun hh=>(h.gl i).1 hh.2,fun hh=>⟨rfl,(h.gl i).2 hh⟩⟩
 own:=fun b=>by
  simp only[Env.mask]
  split
  ·rfl
  ·rename_i hh;simpa using hh
 gk:=h.gk
 gx:=fun i ob hi=>(zb E).ob (h.gk i ob hi) (h.gx i ob hi)
 ng:=fun b=>by
  have:=h.ng b
  simp only[Env.mask]
  split
  ·simp[dz,Own.dz]
  ·exact this
def Env.back(E E':Env):Env:=
 {E' with
  m:=fun k=>if k.loc then E.m k else E'.m k
  len:=fun k=>if k.loc then E.len k else E'.len k
  live:=fun k=>if k.loc then E.live k else E'.live k
  own:=fun b=>if b<E.h.size∧(E.own b).loc=true then E.own b else E'.own b}
theorem Cy{g':Nat→Option Ob}{gS:Nat}(hE:Ext dz E.mask E')(hG:vT E' w' g' gS):Tr E' (E.back E'):=by
 have key: ∀b,b<E.h.size→(E.own b).loc=true→E'.own b= .jF:=fun b hb ho=>by
  have:=(hE.bj b hb (by simp only[Env.mask];rw[if_pos ho];simp[dz,Own.dz])).1
  rw[this];simp only[Env.mask];rw[if_pos ho]
 refine⟨rfl,fun _ _=>Iff.rfl,fun _=>rfl,fun i hi=>⟨by simpa[Env.back,Key.loc]using hi,by simp[Env.back,Key.loc],by simp[Env.back,Key.loc]⟩,fun b t ht ho=>?_,fun b i ho=>?_⟩
 ·simp only[Env.back]
  by_cases hh:b<E.h.size∧(E.own b).loc=true
  ·rw[key b hh.1 hh.2]at ho;cases ho
  ·rw[if_neg hh];exact ho
 ·simp only[Env.back]
  by_cases hh:b<E.h.size∧(E.own b).loc=true
  ·rw[key b hh.1 hh.2]at ho;cases ho
  ·rw[if_neg hh];exact ho
theorem bn.call(h:bn E0 E w0 w s a){g':Nat→Option Ob}{gS:Nat}(hE:Ext dz E.mask E')(hG:vT E' w' g' gS)(hs:iC w w'):
  bn E0 (E.back E') w0 w' {s with t:=fV lE s.t,b:=eY lE s.b,g:=g',nx:=gS,up:=lO lE s.up} a:=by
 have KS:=Cy hE hG
 have PJ:Ext dz E (E.back E'):=by
  refine⟨hE.size,fun b o hh=>hE.aM b o hh,fun k hk=>?_,fun b hb hn=>?_⟩
  ·cases k with
   |s d=>exact⟨by simpa[Env.back,Key.loc]using hk,by simp[Env.back,Key.loc],by simp[Env.back,Key.loc]⟩
   |o i=>
    obtain⟨k1,k2,k3⟩:=hE.live (.o i) ⟨rfl,hk⟩
    exact⟨by simpa[Env.back,Key.loc]using k1,by simp only[Env.back,Key.loc];exact k2,by simp only[Env.back,Key.loc];exact k3⟩
  ·have hm: ¬dz (E.mask.own b):=by
    simp only[Env.mask]
    split
    ·simp[dz,Own.dz]
    ·exact hn
   obtain⟨k1,k2,k3,k4⟩:=hE.bj b hb hm
   refine⟨?_,k2,k3,k4⟩
   simp only[Env.back]
   by_cases hh:(E.own b).loc=true
   ·rw[if_pos ⟨hb,hh⟩]
   ·rw[if_neg (fun h2=>hh h2.2),k1];simp only[Env.mask];rw[if_neg hh]
 refine h.xG (T:=lE) PJ (fun t ht=>absurd ht (ji t)) (fun o ho=> .inr ho) ⟨hG.wf.aM,fun b hb=>?_,hG.wf.fz⟩ hG.heap hs (fun b hb hg=>?_) _ g' gS (fun d ob hd=>?_) (fun d hl=>?_) (fun i ob hi=> .inr (KS.ob (hG.gk i ob hi) (hG.gx i ob hi))) (fun i=>?_) hG.gk (fun b=>by
  have h1:=h.ng b
  have h2:=hG.ng b
  simp only[Env.back]
  split
  ·exact h1
  ·exact h2)
 ·simp only[Env.back]at hb
  by_cases hh:b<E.h.size∧(E.own b).loc=true
  ·exact Nat.lt_of_lt_of_le hh.1 hE.size
  ·rw[if_neg hh]at hb;exact hG.wf.own b hb
 ·have zl: ¬(E.own b).loc=true:=fun hh=>by have:=h.xc b hb;rw[this]at hh;cases hh
  simp only[Env.back];rw[if_neg (fun h2=>zl h2.2)];exact hG.own b
 ·rw[cA]at hd
  cases hh:look d s.b with
  |none=>rw[hh]at hd;simp at hd
  |some z=>rw[hh]at hd;simp at hd;exact .inl ⟨z,rfl,hd.symm,(fun hf=>by simp[dz,Own.dz,Key.loc]at hf),ji _⟩
 ·have qJ:E.live (.s d):=by simpa[Env.back,Key.loc]using hl
  obtain⟨ob,ho⟩:=h.lv d qJ
  exact⟨_,by rw[cA,ho];rfl⟩
 ·rw[←hG.gl i];simp[Env.back,Key.loc]
theorem Hg{f:Nat}{fn:Func}{c:Code}(hf:P.funcs[f]? =some fn)(hb:fn.body=some c)(hn:fn.name≠ "runtime.NumGoroutine")(args:Array Value)(w:World):(callFunc f args).run P w= .ok (.enter f args) w:=by
 unfold callFunc
 simp[Sem.run_bind,program,Sem.run,Result.andThen,hf,hb,hn]
def nw(P:Program)(f:Nat):Prop:= ∀args w,(callFunc f args).run P w= .ok (.enter f args) w
def P3(P:Program)(yl:YH):Prop:=
 ∀{d:Nat} {args:List AV} {s:St} {K:bd} {E0 E:Env} {w0 w:World} {a:Act} {vs:List Value},yl d args s K→bn E0 E w0 w s a→vs.length=args.length→(∀(q:Nat) (b:AV) (y:Value),args[q]? =some b→vs[q]? =some y→Cz E b y)→
  YieldAt Fence.wide 0 P (E.m (.s d)) vs.toArray w fun e w'=> ∃x,e= .returned x∧ ∃r s' E',K r s'∧bn E0 E' w0 w' s' a∧Cz E' r x
def BF(P:Program)(C:dK):Prop:=
 ∀yl:YH,P3 P yl→ ∀{k:Nat} {args:List AV} {s:St} {K:bd} {E0 E:Env} {w0 w:World} {a:Act} {vs:List Value},C.inl yl k args s K→bn E0 E w0 w s a→vs.length=args.length→(∀(q:Nat) (b:AV) (y:Value),args[q]? =some b→vs[q]? =some y→Cz E b y)→
  nw P k∧Calls P k vs.toArray w fun e w'=> ∃x,e= .returned x∧ ∃r s' E',K r s'∧bn E0 E' w0 w' s' a∧Cz E' r x
def AP(P:Program)(C:dK):Prop:= ∀ρ f args g nx r g' gS,C.call ρ f args g nx r g' gS→nw P f∧j5 P f args g nx r g' gS
 mutual
def rj:AV→Nat
  | .sl r xs=>max r (pS xs)
  | .gs r _ xs=>max r (pS xs)
  | .aP r cs _=>max r (nL cs)
  | .ar _ _ xs=>pS xs
  | .fn _ cs=>nL cs
  | .bm _ cs=>nL cs
  | .mN r _ xs=>max r (pS xs)
  | .agg cs=>nL cs
  | .gd cs=>nL cs
  |_=>0
def nL:List AV→Nat
  |[]=>0
  |a::r=>max (rj a) (nL r)
def pS:List (List AV)→Nat
  |[]=>0
  |l::r=>max (nL l) (pS r)
end
theorem lq: ∀{cs:List AV} {q:Nat} {a:AV},cs[q]? =some a→rj a≤nL cs
 |[],q,a,h=>by simp at h
 |x::r,q,a,h=>by
  simp only[nL]
  cases q with
  |zero=>simp at h;subst h;omega
  |succ q=>have:=lq (cs:=r) (q:=q) (a:=a) (by simpa using h);omega
theorem pR: ∀{xs:List (List AV)} {q:Nat} {a:AV},xs.flatten[q]? =some a→rj a≤pS xs
 |[],q,a,h=>by simp at h
 |l::r,q,a,h=>by
  simp only[pS]
  rw[List.flatten_cons]at h
  by_cases aS:q<l.length
  ·rw[List.getElem?_append_left aS]at h;have:=lq h;omega
  ·rw[List.getElem?_append_right (by omega)]at h;have:=pR h;omega
theorem F0: ∀l m:List AV,nL (l++m)=max (nL l) (nL m)
 |[],m=>by simp[nL]
 |a::r,m=>by simp only[List.cons_append,nL,F0 r m];omega
theorem DM: ∀xs:List (List AV),nL xs.flatten≤pS xs
 |[]=>by simp[nL,pS]
 |l::r=>by simp only[List.flatten_cons,F0,pS];have:=DM r;omega
def JM:Ob→Nat
 | .box cs=>nL cs
 | .arr _ xs=>pS xs
 | .ow .. =>0
 | .lp .. =>0
structure TrG(ρ:Nat)(E E':Env):Prop where
 h:E'.h=E.h
 st: ∀b o,E.aM b o→E.dH b<ρ→E'.aM b o∧E'.dH b=E.dH b
 live: ∀i,E.live (.o i)→E'.live (.o i)∧E'.m (.o i)=E.m (.o i)∧E'.len (.o i)=E.len (.o i)
 tok: ∀b t,t.loc=false→E.own b= .tok t→E.dH b<ρ→E'.own b= .tok t∧E'.dH b=E.dH b∧ ∀o,E'.aM b o→E.aM b o
 key: ∀b i,E.own b= .key (.o i)→E'.own b= .key (.o i)∧ ∀o,E'.aM b o→E.aM b o
theorem TrG.cq{ρ:Nat}(k:TrG ρ E E'){av:AV}{x:Value}(h:Cz E av x):cq av=true→rj av<ρ→Cz E' av x:=by
 induction h with
 |any x=>exact fun _ _=> .any _
 |v x=>exact fun _ _=> .v _
 |mZ r A c=>exact fun _ _=> .mZ _ _ _
 |sl r xs z b o c u hp hc hm dQ hz hr hi fP hu hq ih=>
  intro _ DU
  simp only[rj]at DU
  have hf:=aE hz
  obtain⟨a0,TS⟩:=pP (l:=xs.flatten) (by rw[hf];exact Nat.mul_pos hp dQ)
  have hrg:E.dH b<ρ:=by rw[hr];omega
  exact .sl r xs z b o c u hp hc hm dQ hz ((k.st _ _ (fP 0 a0 TS) hrg).2.trans hr) hi (fun q a cZ=>(k.st _ _ (fP q a cZ) hrg).1) (fun q a cZ=>by rw[k.h];exact hu q a cZ) (fun q a cZ=>ih q a cZ (hi q a cZ) (by have:=pR cZ;omega))
 |sq r t=>exact fun _ _=> .sq _ _
 |gs r t xs=>intro hi;simp[Ab.cq]at hi
 |aP r cs off b o u hr hi fP hu hq ih=>
  intro _ DU
  simp only[rj]at DU
  exact .aP r cs off b o u (fun q a cZ=>(k.st _ _ (fP q a cZ) (by rw[hr q a cZ];omega)).2.trans (hr q a cZ)) hi (fun q a cZ=>(k.st _ _ (fP q a cZ) (by rw[hr q a cZ];omega)).1) (fun q a cZ=>by rw[k.h];exact hu q a cZ) (fun q a cZ=>ih q a cZ (hi q a cZ) (by have:=lq cZ;omega))
 |ptr q off hl=>
  intro hi
  cases q with
  |s e=>simp[Ab.cq,Key.loc]at hi
  |o i=>obtain⟨h1,h2,_⟩:=k.live i hl;rw[←h2];exact fun _=> .ptr _ _ h1
 |iq q n hl hn hc hm=>
  intro hi
  cases q with
  |s e=>simp[Ab.cq,Key.loc]at hi
  |o i=>obtain⟨h1,h2,h3⟩:=k.live i hl;rw[←h2,←h3];exact fun _=> .iq _ _ h1 (by rw[h3];exact hn) (by rw[h3];exact hc) (by rw[h3];exact hm)
 |cQ q i off z hl=>
  intro hi
  cases q with
  |s e=>simp[Ab.cq,Key.loc]at hi
  |o i=>obtain⟨h1,h2,_⟩:=k.live i hl;rw[←h2];exact fun _=> .cQ _ _ _ _ h1
 |mp q hl=>
  intro hi
  cases q with
  |s e=>simp[Ab.cq,Key.loc]at hi
  |o i=>obtain⟨h1,h2,_⟩:=k.live i hl;rw[←h2];exact fun _=> .mp _ h1
 |po q hl=>
  intro hi
  cases q with
  |s e=>simp[Ab.cq,Key.loc]at hi
  |o i=>obtain⟨h1,h2,_⟩:=k.live i hl;rw[←h2];exact fun _=> .po _ h1
 |ar n z xs ys hn hz hl hi hq ih=>intro _ DU;simp only[rj]at DU;exact .ar n z xs ys hn hz hl hi fun q a y ha hy=>ih q a y ha hy (hi q a ha) (by have:=pR ha;omega)
 |bm f cs ys hl hi hq ih=>intro _ DU;simp only[rj]at DU;exact .bm f cs ys hl hi fun q a y ha hy=>ih q a y ha hy (hi q a ha) (by have:=lq ha;omega)
 |mN r z xs x hz h ih=>
  intro _ DU
  simp only[rj]at DU
  exact .mN r z xs x hz (ih rfl (by simp only[rj];have:=DM xs;omega))
 |fn f cap ys hl hq ih=>intro hi DU;simp only[rj]at DU;exact .fn f cap ys hl fun q a y ha hy=>ih q a y ha hy (bg (by simpa[Ab.cq]using hi) q a ha) (by have:=lq ha;omega)
 |agg cs ys hl hq ih=>intro hi DU;simp only[rj]at DU;exact .agg cs ys hl fun q a y ha hy=>ih q a y ha hy (bg (by simpa[Ab.cq]using hi) q a ha) (by have:=lq ha;omega)
 |gd cs ys hl hq ih=>intro hi DU;simp only[rj]at DU;exact .gd cs ys hl fun q a y ha hy=>ih q a y ha hy (bg (by simpa[Ab.cq]using hi) q a ha) (by have:=lq ha;omega)
theorem TrG.gs{ρ:Nat}(k:TrG ρ E E'){r:Nat}{t:Tok}{xs:List (List AV)}{x:Value}(ht:t.loc=false)(h:Cz E (.gs r t xs) x)(DU:rj (.gs r t xs)<ρ):Cz E' (.gs r t xs) x:=by
 simp only[rj]at DU
 cases h with
 |sq=>exact .sq _ _
 |gs _ _ _ z b c e cells u hc hm h0 dQ hz hr hb dC ho fP hi hu hq=>
  have hrg:E.dH b<ρ:=by rw[hr];omega
  obtain⟨k1,k2,k3⟩:=k.tok b t ht ho hrg
  exact .gs r t xs z b c e cells u hc hm h0 dQ hz (k2.trans hr) (by rw[k.h];exact hb) dC k1 (fun o=>⟨fun hh=>(fP o).1 (k3 o hh),fun hh=>(k.st b o ((fP o).2 hh) hrg).1⟩) hi (fun q a cZ=>by rw[k.h];exact hu q a cZ) (fun q a cZ=>k.cq (hq q a cZ) (hi q a cZ) (by have:=pR cZ;omega))
theorem TrG.ob{ρ:Nat}(k:TrG ρ E E'){i:Nat}{ob:Ob}(hg:match ob with
   | .box cs=> ∀(q:Nat) (a:AV),cs[q]? =some a→Ab.cq a=true
   | .arr _ _=>True
   | .ow .. =>False
   | .lp .. =>False)(h:cf E (.o i) ob)(DU:JM ob<ρ):cf E' (.o i) ob:=by
 cases ob with
 |box cs=>
  obtain⟨hl,c,e,hb,ho,hs,dC,hq⟩:=h
  obtain⟨l1,l2,l3⟩:=k.live i hl
  obtain⟨k1,k2⟩:=k.key _ i ho
  simp only[JM]at DU
  refine⟨l1,c,e,by rw[l2,k.h];exact hb,by rw[l2];exact k1,fun o hh=>hs o (k2 o (by rw[l2]at hh;exact hh)),dC,fun q a x ha hx=>?_⟩
  have:=lq ha
  exact k.cq (hq q a x ha hx) (hg q a ha) (by omega)
 |arr z xs=>
  obtain⟨hl,qe,dQ,hz,hm,c,e,hb,ho,hs,dC,hi,hq⟩:=h
  obtain⟨l1,l2,l3⟩:=k.live i hl
  obtain⟨k1,k2⟩:=k.key _ i ho
  simp only[JM]at DU
  exact⟨l1,l3.trans qe,dQ,hz,hm,c,e,by rw[l2,k.h];exact hb,by rw[l2];exact k1,fun o hh=>hs o (k2 o (by rw[l2]at hh;exact hh)),dC,hi,fun q a x ha hx=>k.cq (hq q a x ha hx) (hi q a ha) (by have:=pR ha;omega)⟩
 |ow=>exact hg.elim
 |lp=>exact hg.elim
def fv(E:Env)(s:St)(b:Nat):Prop:= ∃d ob,look d s.b=some ob∧b=E.m (.s d)∧ ∃c e,E.h[b]? =some (.cells c e (0,0))
open Classical in
noncomputable def Env.lD(E:Env)(B:Nat→Prop)(ρ:Nat):Env:=
 {E.mask with aM:=fun b o=>E.aM b o∨(B b∧b<E.h.size),dH:=fun b=>if B b then ρ else E.dH b}
open Classical in
noncomputable def Env.mX(E E':Env)(B:Nat→Prop):Env:=
 {E.back E' with aM:=fun b o=>E'.aM b o∧ ¬B b,dH:=fun b=>if B b then E.dH b else E'.dH b}
theorem kB(h:bn E0 E w0 w s a){b:Nat}(hb:fv E s b):b<E.h.size∧(∃d,E.own b= .key (.s d))∧ ∀o,¬E.aM b o:=by
 obtain⟨d,ob,hd,rfl,_⟩:=hb
 have h1:=h.bx d ob hd
 cases ob with
 |box cs=>obtain⟨hl,c,e,eQ,ho,hs,_⟩:=h1;exact⟨(Array.getElem?_eq_some_iff.1 eQ).1,⟨d,ho⟩,hs⟩
 |arr z xs=>obtain⟨hl,_,_,_,_,c,e,eQ,ho,hs,_⟩:=h1;exact⟨(Array.getElem?_eq_some_iff.1 eQ).1,⟨d,ho⟩,hs⟩
 |ow=>obtain⟨hl,ho,hs,_⟩:=h1;exact⟨h.wf.own _ (by rw[ho];simp),⟨d,ho⟩,hs⟩
 |lp=>obtain⟨hl,ho,hs,rec,eQ,_⟩:=h1;exact⟨(Array.getElem?_eq_some_iff.1 eQ).1,⟨d,ho⟩,hs⟩
theorem zd(h:bn E0 E w0 w s a)(ρ ρ':Nat):TrG ρ' E (E.lD (fv E s) ρ) where
 h:=rfl
 st:=fun b o hs _=>⟨.inl hs,by
  simp only[Env.lD]
  rw[if_neg fun hB=>(kB h hB).2.2 o hs]⟩
 live:=fun i hi=>⟨⟨rfl,hi⟩,rfl,rfl⟩
 tok:=fun b t ht ho _=>by
  have Ve: ¬fv E s b:=fun hB=>by obtain⟨d,hd⟩:=(kB h hB).2.1;rw[hd]at ho;cases ho
  refine⟨by simp only[Env.lD,Env.mask];rw[ho];simp[Own.loc,ht],by simp only[Env.lD];rw[if_neg Ve],fun o hh=>?_⟩
  rcases hh with hh|hh
  ·exact hh
  ·exact absurd hh.1 Ve
 key:=fun b i ho=>by
  have Ve: ¬fv E s b:=fun hB=>by obtain⟨d,hd⟩:=(kB h hB).2.1;rw[hd]at ho;cases ho
  refine⟨by simp only[Env.lD,Env.mask];rw[ho];simp[Own.loc,Key.loc],fun o hh=>?_⟩
  rcases hh with hh|hh
  ·exact hh
  ·exact absurd hh.1 Ve
theorem bn.lD(h:bn E0 E w0 w s a)(ρ:Nat):vT (E.lD (fv E s) ρ) w s.g s.nx where
 heap:=h.heap
 wf:=⟨fun b o hs=>hs.elim (h.wf.aM b o) fun hs=>hs.2,h.mask.wf.own,fun b o hs hr=>by
  rcases hs with hs|hs
  ·have Ve: ¬fv E s b:=fun hB=>(kB h hB).2.2 o hs
   simp only[Env.lD]at hr
   rw[if_neg Ve]at hr
   exact h.wf.fz b o hs hr
  ·obtain⟨⟨d,ob,_,_,hc⟩,_⟩:=hs
   exact hc⟩
 nl:=h.mask.nl
 gl:=h.mask.gl
 own:=h.mask.own
 gk:=h.gk
 ng:=h.mask.ng
 gx:=fun i ob hi=>(zd h ρ (JM ob+1)).ob (h.gk i ob hi) (h.gx i ob hi) (Nat.lt_succ_self _)
theorem Nt(h:bn E0 E w0 w s a){ρ:Nat}{g':Nat→Option Ob}{gS:Nat}(hE:Ext dz (E.lD (fv E s) ρ) E')(hG:vT E' w' g' gS):TrG ρ E' (E.mX E' (fv E s)):=by
 have key: ∀b,b<E.h.size→(E.own b).loc=true→E'.own b= .jF∧E'.dH b=(E.lD (fv E s) ρ).dH b:=fun b hb ho=>by
  have hm:(E.lD (fv E s) ρ).own b= .jF:=by simp only[Env.lD,Env.mask];rw[if_pos ho]
  have:=hE.bj b hb (by rw[hm];simp[dz,Own.dz])
  exact⟨this.1.trans hm,this.2.2.2⟩
 have oS: ∀b,fv E s b→E'.own b= .jF∧E'.dH b=ρ:=fun b hB=>by
  obtain⟨h1,⟨d,h2⟩,_⟩:=kB h hB
  obtain⟨h3,h4⟩:=key b h1 (by rw[h2];rfl)
  exact⟨h3,h4.trans (by simp only[Env.lD];rw[if_pos hB])⟩
 have PG: ∀b,E'.dH b<ρ→ ¬fv E s b:=fun b hr hB=>by rw[(oS b hB).2]at hr;omega
 refine⟨rfl,fun b o hs hr=>⟨⟨hs,PG b hr⟩,by simp only[Env.mX];rw[if_neg (PG b hr)]⟩,fun i hi=>⟨by simpa[Env.mX,Env.back,Key.loc]using hi,by simp[Env.mX,Env.back,Key.loc],by simp[Env.mX,Env.back,Key.loc]⟩,fun b t ht ho hr=>⟨?_,by simp only[Env.mX];rw[if_neg (PG b hr)],fun o hh=>hh.1⟩,fun b i ho=>⟨?_,fun o hh=>hh.1⟩⟩
 ·simp only[Env.mX,Env.back]
  by_cases hh:b<E.h.size∧(E.own b).loc=true
  ·rw[(key b hh.1 hh.2).1]at ho;cases ho
  ·rw[if_neg hh];exact ho
 ·simp only[Env.mX,Env.back]
  by_cases hh:b<E.h.size∧(E.own b).loc=true
  ·rw[(key b hh.1 hh.2).1]at ho;cases ho
  ·rw[if_neg hh];exact ho
theorem bn.mX(h:bn E0 E w0 w s a){ρ:Nat}{g':Nat→Option Ob}{gS:Nat}(hE:Ext dz (E.lD (fv E s) ρ) E')(hG:vT E' w' g' gS)(hs:iC w w')(hρ: ∀i ob,g' i=some ob→JM ob<ρ):
  bn E0 (E.mX E' (fv E s)) w0 w' {s with t:=fV lE s.t,b:=eY lE s.b,g:=g',nx:=gS,up:=lO lE s.up} a:=by
 have KS:=Nt h hE hG
 have PJ:Ext dz E (E.mX E' (fv E s)):=by
  refine⟨hE.size,fun b o hh=>?_,fun k hk=>?_,fun b hb hn=>?_⟩
  ·have Ve: ¬fv E s b:=fun hB=>(kB h hB).2.2 o hh
   obtain⟨k1,k2,k3⟩:=hE.aM b o (.inl hh)
   refine⟨⟨k1,Ve⟩,k2,?_⟩
   simp only[Env.mX];rw[if_neg Ve]
   exact k3.trans (by simp only[Env.lD];rw[if_neg Ve])
  ·cases k with
   |s d=>exact⟨by simpa[Env.mX,Env.back,Key.loc]using hk,by simp[Env.mX,Env.back,Key.loc],by simp[Env.mX,Env.back,Key.loc]⟩
   |o i=>
    obtain⟨k1,k2,k3⟩:=hE.live (.o i) ⟨rfl,hk⟩
    exact⟨by simpa[Env.mX,Env.back,Key.loc]using k1,by simp only[Env.mX,Env.back,Key.loc];exact k2,by simp only[Env.mX,Env.back,Key.loc];exact k3⟩
  ·have hm: ¬dz ((E.lD (fv E s) ρ).own b):=by
    simp only[Env.lD,Env.mask]
    split
    ·simp[dz,Own.dz]
    ·exact hn
   obtain⟨k1,k2,k3,k4⟩:=hE.bj b hb hm
   refine⟨?_,k2,fun o=>?_,?_⟩
   ·simp only[Env.mX,Env.back]
    by_cases hh:(E.own b).loc=true
    ·rw[if_pos ⟨hb,hh⟩]
    ·rw[if_neg (fun h2=>hh h2.2),k1];simp only[Env.lD,Env.mask];rw[if_neg hh]
   ·by_cases hB:fv E s b
    ·exact⟨fun hh=>absurd hB hh.2,fun hh=>absurd hh ((kB h hB).2.2 o)⟩
    ·refine⟨fun hh=>?_,fun hh=>⟨(k3 o).2 (.inl hh),hB⟩⟩
     rcases(k3 o).1 hh.1 with h2|h2
     ·exact h2
     ·exact absurd h2.1 hB
   ·simp only[Env.mX]
    by_cases hB:fv E s b
    ·rw[if_pos hB]
    ·rw[if_neg hB];exact k4.trans (by simp only[Env.lD];rw[if_neg hB])
 refine h.xG (T:=lE) PJ (fun t ht=>absurd ht (ji t)) (fun o ho=> .inr ho) ⟨fun b o hh=>hG.wf.aM b o hh.1,fun b hb=>?_,fun b o hh hr=>hG.wf.fz b o hh.1 (by simp only[Env.mX]at hr;rwa [if_neg hh.2]at hr)⟩ hG.heap hs (fun b hb hg=>?_) _ g' gS (fun d ob hd=>?_) (fun d hl=>?_) (fun i ob hi=> .inr (KS.ob (hG.gk i ob hi) (hG.gx i ob hi) (hρ i ob hi))) (fun i=>?_) hG.gk (fun b=>by
  have h1:=h.ng b
  have h2:=hG.ng b
  simp only[Env.mX,Env.back]
  split
  ·exact h1
  ·exact h2)
 ·simp only[Env.mX,Env.back]at hb
  by_cases hh:b<E.h.size∧(E.own b).loc=true
  ·exact Nat.lt_of_lt_of_le hh.1 hE.size
  ·rw[if_neg hh]at hb;exact hG.wf.own b hb
 ·have zl: ¬(E.own b).loc=true:=fun hh=>by have:=h.xc b hb;rw[this]at hh;cases hh
  simp only[Env.mX,Env.back];rw[if_neg (fun h2=>zl h2.2)];exact hG.own b
 ·rw[cA]at hd
  cases hh:look d s.b with
  |none=>rw[hh]at hd;simp at hd
  |some z=>rw[hh]at hd;simp at hd;exact .inl ⟨z,rfl,hd.symm,(fun hf=>by simp[dz,Own.dz,Key.loc]at hf),ji _⟩
 ·have qJ:E.live (.s d):=by simpa[Env.mX,Env.back,Key.loc]using hl
  obtain⟨ob,ho⟩:=h.lv d qJ
  exact⟨_,by rw[cA,ho];rfl⟩
 ·rw[←hG.gl i];simp[Env.mX,Env.back,Key.loc]
theorem Oq{g':Nat→Option Ob}: ∀n:Nat,∃N,∀i ob,i<n→g' i=some ob→JM ob<N
 |0=>⟨0,fun i ob hi=>by omega⟩
 |n+1=>by
  obtain⟨N,hN⟩:=Oq (g':=g') n
  cases hg:g' n with
  |none=>exact⟨N,fun i ob hi Kf=>by
    by_cases h:i=n
    ·subst h;rw[hg]at Kf;cases Kf
    ·exact hN i ob (by omega) Kf⟩
  |some o=>exact⟨N+JM o+1,fun i ob hi Kf=>by
    by_cases h:i=n
    ·subst h;rw[hg]at Kf;cases Kf;omega
    ·have:=hN i ob (by omega) Kf;omega⟩
theorem G8(h:bn E0 E w0 w s a)(ρ:Nat){av:AV}{x:Value}(hx:Cz E av x)(hi:Ab.cq (snap ρ s.b av)=true):Cz (E.lD (fv E s) ρ) (snap ρ s.b av) x:=by
 have plain: ∀{av:AV},Ab.cq av=true→Cz E av x→Cz (E.lD (fv E s) ρ) av x:=fun{av} hi hx=>(zd h ρ (rj av+1)).cq hx hi (Nat.lt_succ_self _)
 unfold snap at hi ⊢
 split at hi
 ·rename_i d n
  cases hl:look d s.b with
  |none=>rw[hl]at hi;simp[Ab.cq,Key.loc]at hi
  |some ob=>cases ob with
   |box cs=>rw[hl]at hi;simp[Ab.cq,Key.loc]at hi
   |ow=>rw[hl]at hi;simp[Ab.cq,Key.loc]at hi
   |lp=>rw[hl]at hi;simp[Ab.cq,Key.loc]at hi
   |arr z xs=>
    obtain⟨_,qe,dQ,hz,hm,c,e,eQ,ho,hs,dC,lG,hq⟩:=h.bx d _ hl
    cases hx
    rename_i hlv KU hn2 hn3
    rw[qe]at KU hn2 hn3
    dsimp only at KU hn2 hn3
    rw[qe]
    dsimp only
    have oS:fv E s (E.m (.s d)):=⟨d,_,hl,rfl,c,e,eQ⟩
    have hbs:=(kB h oS).1
    have zl:(xs.take n).length=n:=by rw[List.length_take];omega
    by_cases hn0:n=0
    ·subst hn0;exact .mZ _ _ _
    ·have N6: ∀(q:Nat) (b:AV),(xs.take n).flatten[q]? =some b→xs.flatten[q]? =some b:=fun q b qd=>by
      have:=List.take_append_drop n xs
      rw[←this,List.flatten_append,List.getElem?_append_left (List.getElem?_eq_some_iff.1 qd).1]
      exact qd
     have sm: ∀(q:Nat) (b:AV),xs.flatten[q]? =some b→ ∃y,c[q]? =some y∧Cz E b y:=fun q b qd=>by
      have aS:q<c.size:=by rw[dC,←aE hz];exact(List.getElem?_eq_some_iff.1 qd).1
      exact⟨c[q],by simp[aS],hq q b _ qd (by simp[aS])⟩
     have:=Cz.sl (E:=E.lD (fv E s) ρ) ρ (xs.take n) z (E.m (.s d)) 0 xs.length (fun q=>c.getD q undef) (by rw[zl];omega) (by rw[zl];omega) hm dQ (fun l qJ=>hz l (List.mem_of_mem_take qJ)) (by simp only[Env.lD];rw[if_pos oS])
      (fun q b qd=>lG q b (N6 q b qd)) (fun q b qd=> .inr ⟨oS,hbs⟩) (fun q b qd=>by
       obtain⟨y,h1,h2⟩:=sm q b (N6 q b qd)
       show aO E.h _ _=_
       simp only[aO,eQ,Nat.zero_add]
       simp[Array.getD_eq_getD_getElem?,h1])
      (fun q b qd=>by
       obtain⟨y,h1,h2⟩:=sm q b (N6 q b qd)
       have e:c.getD q undef=y:=by simp[Array.getD_eq_getD_getElem?,h1]
       rw[e]
       exact(zd h ρ (rj b+1)).cq h2 (lG q b (N6 q b qd)) (Nat.lt_succ_self _))
     rw[zl]at this
     exact this
 ·rename_i d off
  cases hl:look d s.b with
  |none=>rw[hl]at hi;simp[Ab.cq,Key.loc]at hi
  |some ob=>cases ob with
   |arr z xs=>
    rw[hl]at hi
    dsimp only at hi ⊢
    cases hof:du off 0 with
    |false=>rw[hof]at hi;simp[Ab.cq,Key.loc]at hi
    |true=>
    rw[cond_true]
    have:=dy hof
    subst this
    obtain⟨_,qe,dQ,hz,hm,c,e,eQ,ho,hs,dC,lG,hq⟩:=h.bx d _ hl
    cases hx
    rename_i DV
    have oS:fv E s (E.m (.s d)):=⟨d,_,hl,rfl,c,e,eQ⟩
    have hbs:=(kB h oS).1
    have sm: ∀(q:Nat) (b:AV),xs.flatten[q]? =some b→ ∃y,c[q]? =some y∧Cz E b y:=fun q b qd=>by
     have aS:q<c.size:=by rw[dC,←aE hz];exact(List.getElem?_eq_some_iff.1 qd).1
     exact⟨c[q],by simp[aS],hq q b _ qd (by simp[aS])⟩
    refine .mN ρ z xs _ hz (Cz.aP (E:=E.lD (fv E s) ρ) ρ xs.flatten 0 (E.m (.s d)) 0 (fun q=>c.getD q undef) (fun q b qd=>by simp only[Env.lD];rw[if_pos oS]) (fun q b qd=>lG q b qd) (fun q b qd=> .inr ⟨oS,hbs⟩) (fun q b qd=>?_) (fun q b qd=>?_))
    ·obtain⟨y,h1,h2⟩:=sm q b qd
     show aO E.h _ _=_
     simp only[aO,eQ,Nat.zero_add]
     simp[Array.getD_eq_getD_getElem?,h1]
    ·obtain⟨y,h1,h2⟩:=sm q b qd
     have e:c.getD q undef=y:=by simp[Array.getD_eq_getD_getElem?,h1]
     rw[e]
     exact(zd h ρ (rj b+1)).cq h2 (lG q b qd) (Nat.lt_succ_self _)
   |ow=>rw[hl]at hi;simp[Ab.cq,Key.loc]at hi
   |lp=>rw[hl]at hi;simp[Ab.cq,Key.loc]at hi
   |box cs=>
    rw[hl]at hi
    dsimp only at hi ⊢
    cases hic:ca (kQ (fun _=>true) cs)with
    |false=>rw[hic]at hi;simp[Ab.cq,Key.loc]at hi
    |true=>
     rw[cond_true]
     obtain⟨_,c,e,eQ,ho,hs,dC,hq⟩:=h.bx d _ hl
     cases hx
     rename_i DV
     have oS:fv E s (E.m (.s d)):=⟨d,_,hl,rfl,c,e,eQ⟩
     have hbs:=(kB h oS).1
     have sm: ∀(q:Nat) (b:AV),(kQ (fun _=>true) cs)[q]? =some b→ ∃y,c[q]? =some y∧Cz E b y:=fun q b qd=>by
      have aS:q<c.size:=by rw[dC,←dv (fun _=>true) cs];exact(List.getElem?_eq_some_iff.1 qd).1
      rw[pC]at qd
      cases hcq:cs[q]? with
      |none=>rw[hcq]at qd;cases qd
      |some b0=>rw[hcq]at qd;cases qd;exact⟨c[q],by simp[aS],(hq q b0 _ hcq (by simp[aS])).giveUp h.wf _⟩
     have:=Cz.aP (E:=E.lD (fv E s) ρ) ρ (kQ (fun _=>true) cs) off (E.m (.s d)) 0 (fun q=>c.getD q undef) (fun q b _=>by simp only[Env.lD];rw[if_pos oS])
      (fun q b qd=>bg hic q b qd) (fun q b qd=> .inr ⟨oS,hbs⟩) (fun q b qd=>by
       obtain⟨y,h1,h2⟩:=sm q b qd
       show aO E.h _ _=_
       simp only[aO,eQ,Nat.zero_add]
       simp[Array.getD_eq_getD_getElem?,h1])
      (fun q b qd=>by
       obtain⟨y,h1,h2⟩:=sm q b qd
       have e:c.getD q undef=y:=by simp[Array.getD_eq_getD_getElem?,h1]
       rw[e]
       exact(zd h ρ (rj b+1)).cq h2 (bg hic q b qd) (Nat.lt_succ_self _))
     rw[Nat.zero_add]at this
     exact this
 ·exact plain hi hx
theorem Q5(h:bn E0 E w0 w s a)(ρ:Nat){av:AV}{x:Value}(hx:Cz E av x)(hi:Ab.cq (yy ρ s.b av)=true):Cz (E.lD (fv E s) ρ) (yy ρ s.b av) x:=by
 unfold yy at hi ⊢
 split at hi
 ·rename_i f cs
  cases hx with
  |fn _ _ ys hl hq=>
   refine .fn f _ ys (by simp[hl]) fun q b y hb hy=>?_
   have hbi:=bg (by simpa[cq]using hi) q b hb
   rw[List.getElem?_map]at hb
   cases hc:cs[q]? with
   |none=>rw[hc]at hb;cases hb
   |some b0=>rw[hc]at hb;cases hb;exact G8 h ρ (hq q b0 y hc hy) hbi
 ·rename_i cs
  cases hx with
  |agg _ ys hl hq=>
   refine .agg _ ys (by simp[hl]) fun q b y hb hy=>?_
   have hbi:=bg (by simpa[cq]using hi) q b hb
   rw[List.getElem?_map]at hb
   cases hc:cs[q]? with
   |none=>rw[hc]at hb;cases hb
   |some b0=>rw[hc]at hb;cases hb;exact G8 h ρ (hq q b0 y hc hy) hbi
 ·exact G8 h ρ hx hi
def lA(cl:Nat→Bool):Op→Bool
 | .call c=>match c.callee with
  | .value (.func k)=>cl k
  |_=>false
 |_=>false
theorem v3(iK: ∀k,C.cl k=true→C.sj k=false)(hC:AP P C)(apz:BF P C)(hYl:P3 P C.yl)(h:bn E0 E w0 w s a)(hp:aZ s p){o:Oper}{c:Call}{f:Operand}(he:o.op= .call c)(hc:c.callee= .value f){K:bd}{Q:Exit→Act→World→Prop}
  (hk:Zv C p (bM s p f) (c.args.toList.map fun x=>rd (bM s p x)) s K):kU P o a w (fun a' w'=>fH E0 w0 o a K a' w'∧(lA C.cl o.op=true→bY w w')) Q:=by
 unfold Zv at hk
 have XI:=h.ev hp f
 have CA: ∀{cap:List AV} {ys:List Value},ys.length=cap.length→(∀(q:Nat) (a:AV) (y:Value),cap[q]? =some a→ys[q]? =some y→Cz E a y)→
   ((c.args.toList.map a.eval)++ys).length=((c.args.toList.map fun x=>rd (bM s p x))++cap).length∧ ∀(q:Nat) (b:AV) (y:Value),((c.args.toList.map fun x=>rd (bM s p x))++cap)[q]? =some b→((c.args.toList.map a.eval)++ys)[q]? =some y→Cz E b y:=by
  intro cap ys hl hq
  refine⟨by simp[hl],fun q b y h1 h2=>?_⟩
  by_cases aS:q<(c.args.toList.map a.eval).length
  ·rw[List.getElem?_append_left aS]at h2
   rw[List.getElem?_append_left (by simpa using aS)]at h1
   exact Cn h hp _ c.args.toList q b y h1 h2
  ·rw[List.getElem?_append_right (by omega)]at h2
   rw[List.getElem?_append_right (by simp at aS ⊢;omega)]at h1
   simp only[List.length_map]at h1 h2
   exact hq _ b y h1 h2
 have UE: ∀{cap:List AV} {ys:List Value},ys.length=cap.length→(∀(q:Nat) (a:AV) (y:Value),cap[q]? =some a→ys[q]? =some y→Cz E a y)→ca ((c.args.toList.map fun x=>rd (bM s p x))++cap)=true→
   ((c.args.toList.map a.eval)++ys).length=((c.args.toList.map fun x=>rd (bM s p x))++cap).length∧ ∀(q:Nat) (b:AV) (y:Value),((c.args.toList.map fun x=>rd (bM s p x))++cap)[q]? =some b→((c.args.toList.map a.eval)++ys)[q]? =some y→Cz E.mask b y:=by
  intro cap ys hl hq hi
  obtain⟨h1,h2⟩:=CA hl hq
  exact⟨h1,fun q b y h3 h4=>(zb E).cq (h2 q b y h3 h4) (bg hi q b h3)⟩
 split at hk
 ·rename_i k cap dO
  rw[dO]at XI
  cases hfe:a.eval f<;>rw[hfe]at XI<;>cases XI
  rename_i ys hl hq
  have hwp: ∀{R:Ending→World→Prop},nw P k→Calls P k ((c.args.toList.map a.eval)++ys).toArray w R→(∀e w',R e w'→ ∃x,e= .returned x∧fH E0 w0 o a K (a.put o.dst x) w'∧(lA C.cl o.op=true→bY w w'))→kU P o a w (fun a' w'=>fH E0 w0 o a K a' w'∧(lA C.cl o.op=true→bY w w')) Q:=by
   intro R xV Au hR
   unfold kU
   have eP:(execOp a.eval o).run P w= .ok (.enter k ((c.args.toList.map a.eval)++ys).toArray) w:=by
    have e1:((c.args.toList.map a.eval)++ys).toArray=c.args.map a.eval++ys.toArray:=Array.toList_inj.1 (by simp)
    rw[e1]
    simp only[execOp,he,resolve,hc,hfe]
    simp[Deferred.ofValue,Sem.run_bind,invoke,Result.andThen,xV _ w]
   rw[eP]
   exact Au.mono fun e w' hr=>hR e w' hr
  have aaf: ∀{r:AV} {g':Nat→Option Ob} {gS:Nat},ys.length=cap.length→(∀(q:Nat) (a:AV) (y:Value),cap[q]? =some a→ys[q]? =some y→Cz E a y)→(∀ρ,ca (((c.args.toList.map fun x=>rd (bM s p x))++cap).map (yy ρ s.b))=true)→
    (∀ρ,C.call C.ρ k (((c.args.toList.map fun x=>rd (bM s p x))++cap).map (yy ρ s.b)) s.g s.nx r g' gS)→K r {s with t:=fV lE s.t,b:=eY lE s.b,up:=lO lE s.up,g:=g',nx:=gS}→
    kU P o a w (fun a' w'=>fH E0 w0 o a K a' w'∧(lA C.cl o.op=true→bY w w')) Q:=by
   intro r g' gS hl hq Kd bX hk
   obtain⟨N,hN⟩:=Oq (g':=g') gS
   obtain⟨ρ,hρ1,hρ2⟩: ∃ρ,N≤ρ∧rj r<ρ:=⟨N+rj r+1,by omega,by omega⟩
   obtain⟨xV,MJ⟩:=hC _ _ _ _ _ _ _ _ (bX ρ)
   refine hwp xV (MJ (Kd ρ) (E.lD (fv E s) ρ) w _ (h.lD ρ) (by simp[hl]) fun q b y h1 h2=>?_) fun e w' hr=>?_
   ·rw[List.getElem?_map]at h1
    cases h3:((c.args.toList.map fun x=>rd (bM s p x))++cap)[q]? with
    |none=>rw[h3]at h1;cases h1
    |some b0=>
     rw[h3]at h1
     have hbi:=bg (Kd ρ) q b (by rw[List.getElem?_map,h3];exact h1)
     cases h1
     exact Q5 h ρ ((CA hl hq).2 q b0 y h3 h2) hbi
   ·obtain⟨x,E',rfl,hG,hE,hs,MK,Vb,Ki⟩:=hr
    have hgl: ∀i ob,g' i=some ob→JM ob<ρ:=fun i ob hi=>by
     have DV:E'.live (.o i):=by
      have:=hG.gx i ob hi
      cases ob with
      |box cs=>exact this.1
      |arr z xs=>exact this.1
      |ow=>exact this.1
      |lp=>exact this.1
     have:=hN i ob ((hG.gl i).1 DV) hi
     omega
    exact⟨x,rfl,⟨x,rfl,r,_,_,hk,h.mX hE hG hs hgl,(Nt h hE hG).cq MK Vb hρ2⟩,fun _=>Ki⟩
  split at hk
  ·cases ui:C.sj k with
   |true=>
    rw[ui,cond_true]at hk
    obtain⟨KZ,haq⟩:=CA hl hq
    obtain⟨xV,Au⟩:=apz C.yl hYl hk h KZ haq
    refine hwp xV Au fun e w' hr=>?_
    obtain⟨x,rfl,r,s',E',jS,Z4,XM⟩:=hr
    refine⟨x,rfl,⟨x,rfl,r,s',E',jS,Z4,XM⟩,fun KW=>?_⟩
    exfalso
    unfold lA at KW
    rw[he]at KW
    dsimp only at KW
    rw[hc]at KW
    split at KW
    ·rename_i k' jS
     cases jS
     have:k'=k:=by simp only[bM]at dO;injection dO with e1 _;injection e1
     subst this
     rw[iK _ KW]at ui;cases ui
    ·cases KW
   |false=>
   rw[ui,cond_false]at hk
   cases hi:ca ((c.args.toList.map fun x=>rd (bM s [] x))++cap)with
   |false=>
    rw[hi,cond_false]at hk
    obtain⟨Kd,r,g',gS,bX,hk⟩:=hk
    exact aaf hl hq Kd bX hk
   |true=>
   rw[hi,cond_true]at hk
   obtain⟨r,g',gS,bX,hk⟩:=hk
   obtain⟨xV,MJ⟩:=hC _ _ _ _ _ _ _ _ bX
   obtain⟨KZ,haq⟩:=UE hl hq hi
   refine hwp xV (MJ hi E.mask w _ h.mask KZ haq) fun e w' hr=>?_
   obtain⟨x,E',rfl,hG,hE,hs,MK,Vb,Ki⟩:=hr
   exact⟨x,rfl,⟨x,rfl,r,_,_,hk,h.call hE hG hs,(Cy hE hG).cq MK Vb⟩,fun _=>Ki⟩
  ·cases hi:ca ((c.args.toList.map fun x=>rd (bM s p x))++cap)with
   |false=>
    rw[hi,cond_false]at hk
    obtain⟨Kd,r,bX,hk⟩:=hk
    exact aaf hl hq Kd (bX hp) hk
   |true=>
   rw[hi,cond_true]at hk
   obtain⟨r,bX,hk⟩:=hk
   obtain⟨xV,MJ⟩:=hC _ _ _ _ _ _ _ _ (bX hp)
   obtain⟨KZ,haq⟩:=UE hl hq hi
   refine hwp xV (MJ hi E.mask w _ h.mask KZ haq) fun e w' hr=>?_
   obtain⟨x,E',rfl,hG,hE,hs,MK,Vb,Ki⟩:=hr
   exact⟨x,rfl,⟨x,rfl,r,_,_,hk,h.call hE hG hs,(Cy hE hG).cq MK Vb⟩,fun _=>Ki⟩
 ·rename_i d dO
  rw[dO]at XI
  cases hfe:a.eval f<;>rw[hfe]at XI<;>cases XI
  rename_i DV
  split at hk
  ·obtain⟨KZ,haq⟩:=CA (cap:=[]) (ys:=[]) rfl (fun q a y hq _=>by simp at hq)
   simp only[List.append_nil]at KZ haq
   obtain⟨fn,tmps,nq,body,hy,hR⟩:=hYl hk h KZ haq
   unfold kU
   have eP:(execOp a.eval o).run P w= .ok (.round (E.m (.s d)) fn tmps nq body) w:=by
    have e1:(c.args.toList.map a.eval).toArray=c.args.map a.eval:=Array.toList_inj.1 (by simp)
    rw[e1]at hy
    simp only[execOp,he,resolve,hc,hfe]
    simp[Deferred.ofValue,Sem.run_bind,invoke,Result.andThen,hy]
   rw[eP]
   refine hR.mono fun e w' hr=>?_
   obtain⟨x,rfl,r,s',E',jS,Z4,XM⟩:=hr
   refine⟨x,rfl,⟨x,rfl,r,s',E',jS,Z4,XM⟩,fun KW=>?_⟩
   exfalso
   unfold lA at KW
   rw[he]at KW
   dsimp only at KW
   rw[hc]at KW
   split at KW
   ·rename_i k' jS
    cases jS
    simp[bM]at dO
   ·cases KW
  ·exact hk.elim
 ·rename_i k cs dO
  rw[dO]at XI
  cases hfe:a.eval f<;>rw[hfe]at XI<;>cases XI
  rename_i ys hl lG hq
  split at hk
  ·cases hi:ca (cs++(c.args.toList.map fun x=>rd (bM s [] x)))with
   |false=>rw[hi]at hk;exact hk.elim
   |true=>
   rw[hi,cond_true]at hk
   obtain⟨r,g',gS,bX,hk⟩:=hk
   obtain⟨xV,MJ⟩:=hC _ _ _ _ _ _ _ _ bX
   have eP:(execOp a.eval o).run P w= .ok (.enter k (ys++(c.args.toList.map a.eval)).toArray) w:=by
    have e1:(ys++(c.args.toList.map a.eval)).toArray=ys.toArray++c.args.map a.eval:=Array.toList_inj.1 (by simp)
    rw[e1]
    simp only[execOp,he,resolve,hc,hfe]
    simp[Deferred.ofValue,Sem.run_bind,invoke,Result.andThen,xV _ w]
   unfold kU
   rw[eP]
   refine Calls.mono (MJ hi E.mask w _ h.mask (by simp[hl]) fun q b y h1 h2=>?_) fun e w' hr=>?_
   ·have hbi:=bg hi q b h1
    refine(zb E).cq ?_ hbi
    by_cases aS:q<ys.length
    ·rw[List.getElem?_append_left aS]at h2
     rw[List.getElem?_append_left (by omega)]at h1
     exact hq q b y h1 h2
    ·rw[List.getElem?_append_right (by omega)]at h2
     rw[List.getElem?_append_right (by omega),←hl]at h1
     exact Cn h hp _ c.args.toList (q - ys.length) b y h1 h2
   ·obtain⟨x,E',rfl,hG,hE,hs,MK,Vb,Ki⟩:=hr
    exact⟨x,rfl,⟨x,rfl,r,_,_,hk,h.call hE hG hs,(Cy hE hG).cq MK Vb⟩,fun _=>Ki⟩
  ·exact hk.elim
 ·exact hk.elim
end Ab
