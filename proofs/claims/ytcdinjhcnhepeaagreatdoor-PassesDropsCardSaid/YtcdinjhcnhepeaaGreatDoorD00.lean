/- PassesDrops holds of every core (no condition): a part of the proof: an abstract interpreter of the code that is proved sound, models of the functions, and laws of these models. -/
import Derived.WalkKit
import Derived.RangeFuncSeq
import Derived.RangeFuncLeaves
set_option linter.unusedVariables false
set_option linter.unusedSimpArgs false
namespace Ab
open Go
def cS(a b:Nat):Bool:=decide (a=b)
def lL(a b:Nat):Bool:=decide (a≤b)
def r6(a b:Nat):Bool:=decide (a<b)
 @[simp] theorem eqN_eq (a b:Nat):(cS a b=true)=(a=b):=by simp[cS]
 @[simp] theorem ye (a b:Nat):(lL a b=true)=(a≤b):=by simp[lL]
 @[simp] theorem ltN_eq (a b:Nat):(r6 a b=true)=(a<b):=by simp[r6]
 @[simp] theorem UI (a:Nat):cS a a=true:=by simp
theorem dg{a b:Nat}(h:cS a b=true):a=b:=by simpa using h
theorem Kq{a b:Nat}(h:lL a b=true):a≤b:=by simpa using h
inductive Key where
 |s (d:Nat)
 |o (id:Nat)
 deriving DecidableEq
inductive Tok where
 |l (d:Nat)
 |c (id off:Nat)
 |n (d:Nat)
 deriving DecidableEq
inductive AV where
 |any
 |v (x:Value)
 |sl (r:Nat) (xs:List (List AV))
 |gs (r:Nat) (t:Tok) (xs:List (List AV))
 |aO (r:Nat) (cs:List AV) (off:Nat)
 |ptr (k:Key) (off:Nat)
 |ia (k:Key) (n:Nat)
 |cG (k:Key) (i off z:Nat)
 |mp (k:Key)
 |pV (k:Key)
 |ar (n z:Nat) (xs:List (List AV))
 |fn (f:Fn) (cap:List AV)
 |bm (f:Fn) (cs:List AV)
 |nc (r z:Nat) (xs:List (List AV))
 |agg (cs:List AV)
 |fT (vs:List AV)
 deriving Inhabited
inductive Own where
 |Tu
 |jF
 |key (k:Key)
 |tok (t:Tok)
structure Env where
 h:Array Obj
 aN:Nat→Nat→Prop
 dx:Nat→Nat
 m:Key→Nat
 live:Key→Prop
 len:Key→Nat×Nat
 own:Nat→Own
 up:List Act:=[]
def aR(h:Array Obj)(b o:Nat):Option Value:=
 match h[b]? with
 |some (.cells c _ _)=>c[o]?
 |_=>none
theorem jr(w:World)(b o:Nat):w.cell? ⟨b,o,none⟩=aR w.heap b o:=by
 unfold World.cell? aR
 cases w.heap[b]? with
 |none=>rfl
 |some x=>cases x<;>rfl
def Key.loc:Key→Bool
 | .s _=>true
 | .o _=>false
def Tok.loc:Tok→Bool
 | .l _=>true
 | .c _ _=>true
 | .n _=>true
def Own.loc:Own→Bool
 | .key k=>k.loc
 | .tok t=>t.loc
 |_=>false
def Own.di:Own→Bool
 | .key k=> !k.loc
 | .tok t=> !t.loc
 |_=>false
 mutual
def cm:AV→Bool
  | .gs .. =>false
  | .ptr k _=> !k.loc
  | .ia k _=> !k.loc
  | .mp k=> !k.loc
  | .cG k _ _ _=> !k.loc
  | .pV k=> !k.loc
  | .fn _ cs=>bZ cs
  | .agg cs=>bZ cs
  | .fT cs=>bZ cs
  |_=>true
def bZ:List AV→Bool
  |[]=>true
  |a::r=>cm a&&bZ r
end
theorem bj{cs:List AV}(h:bZ cs=true): ∀(q:Nat) (a:AV),cs[q]? =some a→cm a=true:=by
 induction cs with
 |nil=>intro q a hq;simp at hq
 |cons x r ih=>
  simp only[bZ,Bool.and_eq_true]at h
  intro q a hq
  cases q with
  |zero=>simp at hq;subst hq;exact h.1
  |succ q=>exact ih h.2 q a (by simpa using hq)
theorem wW{cs:List AV}(h: ∀(q:Nat) (a:AV),cs[q]? =some a→cm a=true):bZ cs=true:=by
 induction cs with
 |nil=>rfl
 |cons x r ih=>simp only[bZ,Bool.and_eq_true];exact⟨h 0 x (by simp),ih fun q a hq=>h (q+1) a (by simpa using hq)⟩
inductive Cz(E:Env):AV→Value→Prop where
 |any (x:Value):Cz E .any x
 |v (x:Value):Cz E (.v x) x
 |nA (r:Nat) (A:Option Addr) (c:Nat):Cz E (.sl r []) (.slice A 0 c)
 |sl (r:Nat) (xs:List (List AV)) (z b o c:Nat) (u:Nat→Value) (hp:0<xs.length) (hc:xs.length≤c) (hm:c≤maxLen) (dV:0<z) (hz: ∀l∈xs,l.length=z) (hr:E.dx b=r)
   (hi: ∀(q:Nat) (a:AV),xs.flatten[q]? =some a→cm a=true) (hs: ∀(q:Nat) (a:AV),xs.flatten[q]? =some a→E.aN b (o+q)) (hu: ∀(q:Nat) (a:AV),xs.flatten[q]? =some a→aR E.h b (o+q)=some (u q))
   (hq: ∀(q:Nat) (a:AV),xs.flatten[q]? =some a→Cz E a (u q)):Cz E (.sl r xs) (.slice (some ⟨b,o,none⟩) xs.length c)
 |sX (r:Nat) (t:Tok):Cz E (.gs r t []) (.slice none 0 0)
 |gs (r:Nat) (t:Tok) (xs:List (List AV)) (z b c e:Nat) (cells:Array Value) (u:Nat→Value) (hc:xs.length≤c) (hm:c≤maxLen) (h0:xs.length=0→c=0) (dV:0<z) (hz: ∀l∈xs,l.length=z) (hr:E.dx b=r)
   (hb:E.h[b]? =some (.cells cells e (0,0))) (du:cells.size=c*z) (ho:E.own b= .tok t) (fY: ∀o,E.aN b o↔o<xs.length*z)
   (hi: ∀(q:Nat) (a:AV),xs.flatten[q]? =some a→cm a=true) (hu: ∀(q:Nat) (a:AV),xs.flatten[q]? =some a→aR E.h b (0+q)=some (u q))
   (hq: ∀(q:Nat) (a:AV),xs.flatten[q]? =some a→Cz E a (u q)):Cz E (.gs r t xs) (.slice (some ⟨b,0,none⟩) xs.length c)
 |aO (r:Nat) (cs:List AV) (off b o:Nat) (u:Nat→Value) (hr: ∀(q:Nat) (a:AV),cs[q]? =some a→E.dx b=r)
   (hi: ∀(q:Nat) (a:AV),cs[q]? =some a→cm a=true) (hs: ∀(q:Nat) (a:AV),cs[q]? =some a→E.aN b (o+q)) (hu: ∀(q:Nat) (a:AV),cs[q]? =some a→aR E.h b (o+q)=some (u q))
   (hq: ∀(q:Nat) (a:AV),cs[q]? =some a→Cz E a (u q)):Cz E (.aO r cs off) (.pointer (some ⟨b,o+off,none⟩))
 |ptr (k:Key) (off:Nat) (hl:E.live k):Cz E (.ptr k off) (.pointer (some ⟨E.m k,off,none⟩))
 |ia (k:Key) (n:Nat) (hl:E.live k) (hn:n≤(E.len k).1) (hc:(E.len k).1≤(E.len k).2) (hm:(E.len k).2≤maxLen):Cz E (.ia k n) (.slice (some ⟨E.m k,0,none⟩) n (E.len k).2)
 |cG (k:Key) (i off z:Nat) (hl:E.live k):Cz E (.cG k i off z) (.pointer (some ⟨E.m k,i*z+off,none⟩))
 |mp (k:Key) (hl:E.live k):Cz E (.mp k) (.map (some (E.m k)))
 |pV (k:Key) (hl:E.live k):Cz E (.pV k) (.func (.yield (E.m k)) #[] #[])
 |ar (n z:Nat) (xs:List (List AV)) (ys:List Value) (hn:xs.length=n) (hz: ∀l∈xs,l.length=z) (hl:ys.length=n*z) (hi: ∀(q:Nat) (a:AV),xs.flatten[q]? =some a→cm a=true)
   (hq: ∀(q:Nat) (a:AV) (y:Value),xs.flatten[q]? =some a→ys[q]? =some y→Cz E a y):Cz E (.ar n z xs) (.agg ys.toArray)
 |fn (f:Fn) (cap:List AV) (ys:List Value) (hl:ys.length=cap.length) (hq: ∀(q:Nat) (a:AV) (y:Value),cap[q]? =some a→ys[q]? =some y→Cz E a y):Cz E (.fn f cap) (.func f #[] ys.toArray)
 |bm (f:Fn) (cs:List AV) (ys:List Value) (hl:ys.length=cs.length) (hi: ∀(q:Nat) (a:AV),cs[q]? =some a→cm a=true) (hq: ∀(q:Nat) (a:AV) (y:Value),cs[q]? =some a→ys[q]? =some y→Cz E a y):Cz E (.bm f cs) (.func f ys.toArray #[])
 |nc (r z:Nat) (xs:List (List AV)) (x:Value) (hz: ∀l∈xs,l.length=z) (h:Cz E (.aO r xs.flatten 0) x):Cz E (.nc r z xs) x
 |agg (cs:List AV) (ys:List Value) (hl:ys.length=cs.length) (hq: ∀(q:Nat) (a:AV) (y:Value),cs[q]? =some a→ys[q]? =some y→Cz E a y):Cz E (.agg cs) (.agg ys.toArray)
 |fT (cs:List AV) (ys:List Value) (hl:ys.length=cs.length) (hq: ∀(q:Nat) (a:AV) (y:Value),cs[q]? =some a→ys[q]? =some y→Cz E a y):Cz E (.fT cs) (.tuple ys.toArray)
structure Ext(C:Own→Prop)(E E':Env):Prop where
 size:E.h.size≤E'.h.size
 aN: ∀b o,E.aN b o→E'.aN b o∧aR E'.h b o=aR E.h b o∧E'.dx b=E.dx b
 live: ∀k,E.live k→E'.live k∧E'.m k=E.m k∧E'.len k=E.len k
 bp: ∀b,b<E.h.size→ ¬C (E.own b)→E'.own b=E.own b∧E'.h[b]? =E.h[b]? ∧(∀o,E'.aN b o↔E.aN b o)∧E'.dx b=E.dx b
theorem Ext.refl(C:Own→Prop)(E:Env):Ext C E E:=
 ⟨Nat.le_refl _,fun _ _ h=>⟨h,rfl,rfl⟩,fun _ h=>⟨h,rfl,rfl⟩,fun _ _ _=>⟨rfl,rfl,fun _=>Iff.rfl,rfl⟩⟩
theorem Ext.mono{C C':Own→Prop}{E E':Env}(h:Ext C E E')(hC: ∀o,C o→C' o):Ext C' E E':=
 ⟨h.size,h.aN,h.live,fun b hb hn=>h.bp b hb fun hc=>hn (hC _ hc)⟩
 mutual
def qd(T:Tok→Bool):AV→AV
  | .gs r t xs=>if T t then .sl r xs else .gs r t xs
  | .fn f cs=> .fn f (jX T cs)
  | .agg cs=> .agg (jX T cs)
  | .fT cs=> .fT (jX T cs)
  |a=>a
def jX(T:Tok→Bool):List AV→List AV
  |[]=>[]
  |a::r=>qd T a::jX T r
end
theorem qc(T:Tok→Bool)(cs:List AV)(q:Nat):(jX T cs)[q]? =(cs[q]?).map (qd T):=by
 induction cs generalizing q with
 |nil=>simp[jX]
 |cons a r ih=>cases q<;>simp[jX,ih]
theorem da(T:Tok→Bool)(cs:List AV):(jX T cs).length=cs.length:=by
 induction cs with
 |nil=>rfl
 |cons a r ih=>simp[jX,ih]
theorem aD{α:Type}{z:Nat}: ∀{xs:List (List α)},(∀l∈xs,l.length=z)→xs.flatten.length=xs.length*z
 |[],_=>by simp
 |l::r,h=>by
  have:=aD (xs:=r) (fun l' tz=>h l' (by simp[tz]))
  simp only[List.flatten_cons,List.length_append,List.length_cons,h l (by simp),this,Nat.succ_mul]
  omega
structure Wf(E:Env):Prop where
 aN: ∀b o,E.aN b o→b<E.h.size
 own: ∀b,E.own b≠ .Tu→b<E.h.size
 fz: ∀b o,E.aN b o→1000000≤E.dx b→ ∃c e,E.h[b]? =some (.cells c e (0,0))
theorem qq{α:Type}{l:List α}(h:0<l.length): ∃a,l[0]? =some a:=⟨l[0],by simp⟩
theorem Cz.ext{C:Own→Prop}{E E':Env}(hE:Ext C E E')(hw:Wf E)(T:Tok→Bool)(hT: ∀t,C (.tok t)→T t=true){a:AV}{x:Value}(h:Cz E a x):
  Cz E' (qd T a) x∧(cm a=true→Cz E' a x):=by
 induction h with
 |any x=>exact⟨.any _,fun _=> .any _⟩
 |v x=>exact⟨.v _,fun _=> .v _⟩
 |nA r A c=>exact⟨.nA _ _ _,fun _=> .nA _ _ _⟩
 |sl r xs z b o c u hp hc hm dV hz hr hi hs hu hq ih=>
  have hf:=aD hz
  obtain⟨a0,Yb⟩:=qq (l:=xs.flatten) (by rw[hf];exact Nat.mul_pos hp dV)
  have:Cz E' (.sl r xs) (.slice (some ⟨b,o,none⟩) xs.length c):=
   .sl r xs z b o c u hp hc hm dV hz ((hE.aN _ _ (hs 0 a0 Yb)).2.2.trans hr) hi (fun q a dh=>(hE.aN _ _ (hs q a dh)).1) (fun q a dh=>(hE.aN _ _ (hs q a dh)).2.1.trans (hu q a dh))
    (fun q a dh=>(ih q a dh).2 (hi q a dh))
  exact⟨this,fun _=>this⟩
 |sX r t=>exact⟨by simp only[qd];split;exact .nA _ _ _;exact .sX _ _,fun hi=>by simp[cm]at hi⟩
 |gs r t xs z b c e cells u hc hm h0 dV hz hr hb du ho fY hi hu hq ih=>
  refine⟨?_,fun hi=>by simp[cm]at hi⟩
  simp only[qd]
  have hf:=aD hz
  have hs: ∀(q:Nat) (a:AV),xs.flatten[q]? =some a→E.aN b (0+q):=fun q a dh=>(fY _).2 (by have:=(List.getElem?_eq_some_iff.1 dh).1;omega)
  by_cases ht:T t=true
  ·rw[if_pos ht]
   by_cases hp:0<xs.length
   ·obtain⟨a0,Yb⟩:=qq (l:=xs.flatten) (by rw[hf];exact Nat.mul_pos hp dV)
    exact .sl r xs z b 0 c u hp hc hm dV hz ((hE.aN _ _ (hs 0 a0 Yb)).2.2.trans hr) hi (fun q a dh=>(hE.aN _ _ (hs q a dh)).1) (fun q a dh=>(hE.aN _ _ (hs q a dh)).2.1.trans (hu q a dh))
     (fun q a dh=>(ih q a dh).2 (hi q a dh))
   ·have h0:xs=[]:=List.eq_nil_of_length_eq_zero (by omega)
    subst h0
    exact .nA _ _ _
  ·rw[if_neg ht]
   obtain⟨k1,k2,k3,k4⟩:=hE.bp b (hw.own b (by rw[ho];simp)) (by rw[ho];exact fun hc=>ht (hT _ hc))
   exact .gs r t xs z b c e cells u hc hm h0 dV hz (k4.trans hr) (k2.trans hb) du (k1.trans ho) (fun o=>(k3 o).trans (fY o)) hi (fun q a dh=>(hE.aN _ _ (hs q a dh)).2.1.trans (hu q a dh))
    (fun q a dh=>(ih q a dh).2 (hi q a dh))
 |aO r cs off b o u hr hi hs hu hq ih=>
  have:Cz E' (.aO r cs off) (.pointer (some ⟨b,o+off,none⟩)):=
   .aO r cs off b o u (fun q a dh=>(hE.aN _ _ (hs q a dh)).2.2.trans (hr q a dh)) hi (fun q a dh=>(hE.aN _ _ (hs q a dh)).1) (fun q a dh=>(hE.aN _ _ (hs q a dh)).2.1.trans (hu q a dh))
    (fun q a dh=>(ih q a dh).2 (hi q a dh))
  exact⟨this,fun _=>this⟩
 |ptr k off hl=>
  have:Cz E' (.ptr k off) (.pointer (some ⟨E.m k,off,none⟩)):=by rw[←(hE.live k hl).2.1];exact .ptr k off (hE.live k hl).1
  exact⟨this,fun _=>this⟩
 |ia k n hl hn hc hm=>
  have:Cz E' (.ia k n) (.slice (some ⟨E.m k,0,none⟩) n (E.len k).2):=by rw[←(hE.live k hl).2.1,←(hE.live k hl).2.2];exact .ia k n (hE.live k hl).1 (by rw[(hE.live k hl).2.2];exact hn) (by rw[(hE.live k hl).2.2];exact hc) (by rw[(hE.live k hl).2.2];exact hm)
  exact⟨this,fun _=>this⟩
 |cG k i off z hl=>
  have:Cz E' (.cG k i off z) (.pointer (some ⟨E.m k,i*z+off,none⟩)):=by rw[←(hE.live k hl).2.1];exact .cG k i off z (hE.live k hl).1
  exact⟨this,fun _=>this⟩
 |mp k hl=>
  have:Cz E' (.mp k) (.map (some (E.m k))):=by rw[←(hE.live k hl).2.1];exact .mp k (hE.live k hl).1
  exact⟨this,fun _=>this⟩
 |pV k hl=>
  have:Cz E' (.pV k) (.func (.yield (E.m k)) #[] #[]):=by rw[←(hE.live k hl).2.1];exact .pV k (hE.live k hl).1
  exact⟨this,fun _=>this⟩
 |ar n z xs ys hn hz hl hi hq ih=>
  have:Cz E' (.ar n z xs) (.agg ys.toArray):= .ar n z xs ys hn hz hl hi fun q a y ha hy=>(ih q a y ha hy).2 (hi q a ha)
  exact⟨this,fun _=>this⟩
 |bm f cs ys hl hi hq ih=>
  have:=Cz.bm (E:=E') f cs ys hl hi (fun q a y ha hy=>(ih q a y ha hy).2 (hi q a ha))
  exact⟨this,fun _=>this⟩
 |nc r z xs x hz h ih=>exact⟨.nc r z xs x hz (ih.2 rfl),fun _=> .nc r z xs x hz (ih.2 rfl)⟩
 |fn f cap ys hl hq ih=>
  refine⟨?_,fun hi=> .fn f cap ys hl fun q a y ha hy=>(ih q a y ha hy).2 (bj (by simpa[cm]using hi) q a ha)⟩
  simp only[qd]
  exact .fn f _ ys (by rw[da];exact hl) fun q a y ha hy=>by
   rw[qc]at ha
   cases h:cap[q]? with
   |none=>simp[h]at ha
   |some a'=>simp[h]at ha;subst ha;exact(ih q a' y h hy).1
 |agg cs ys hl hq ih=>
  refine⟨?_,fun hi=> .agg cs ys hl fun q a y ha hy=>(ih q a y ha hy).2 (bj (by simpa[cm]using hi) q a ha)⟩
  simp only[qd]
  exact .agg _ ys (by rw[da];exact hl) fun q a y ha hy=>by
   rw[qc]at ha
   cases h:cs[q]? with
   |none=>simp[h]at ha
   |some a'=>simp[h]at ha;subst ha;exact(ih q a' y h hy).1
 |fT cs ys hl hq ih=>
  refine⟨?_,fun hi=> .fT cs ys hl fun q a y ha hy=>(ih q a y ha hy).2 (bj (by simpa[cm]using hi) q a ha)⟩
  simp only[qd]
  exact .fT _ ys (by rw[da];exact hl) fun q a y ha hy=>by
   rw[qc]at ha
   cases h:cs[q]? with
   |none=>simp[h]at ha
   |some a'=>simp[h]at ha;subst ha;exact(ih q a' y h hy).1
theorem Cz.read{E:Env}{r:Nat}{t:Tok}{xs:List (List AV)}{x:Value}(h:Cz E (.gs r t xs) x):Cz E (.sl r xs) x:=by
 cases h with
 |sX=>exact .nA _ _ _
 |gs _ _ _ z b c e cells u hc hm h0 dV hz hr hb du ho fY hi hu hq=>
  by_cases hp:0<xs.length
  ·have hf:=aD hz
   exact .sl r xs z b 0 c u hp hc hm dV hz hr hi (fun q a dh=>(fY _).2 (by have:=(List.getElem?_eq_some_iff.1 dh).1;omega)) hu hq
  ·have h0:xs=[]:=List.eq_nil_of_length_eq_zero (by omega)
   subst h0
   exact .nA _ _ _
end Ab
namespace Ab
open Go
def look{α:Type}(d:Nat):List (Nat×α)→Option α
 |[]=>none
 |(k,x)::r=>bif cS k d then some x else look d r
def cR{α:Type}(d:Nat)(x:α):List (Nat×α)→List (Nat×α)
 |[]=>[(d,x)]
 |(k,y)::r=>bif cS k d then(d,x)::r else bif r6 d k then(d,x)::(k,y)::r else(k,y)::cR d x r
def del{α:Type}(d:Nat):List (Nat×α)→List (Nat×α)
 |[]=>[]
 |(k,y)::r=>bif cS k d then del d r else(k,y)::del d r
inductive TK where
 |sc|str|int (k:IntKind)|bool
 |slice (e:Nat)
 |cU (fs:List (Nat×Nat))
 |arr (n e:Nat)
 |map (k e:Nat)
structure TI where
 k:TK
 size:Nat
 bytes:Nat
 zero:List Value
 ft:List Nat
abbrev nO:=Nat→Option TI
def TI.agg(i:TI):Bool:=match i.k with| .cU _=>true| .arr _ _=>true|_=>false
structure Pr where
 wrap:IntKind→Int→Int
 add:Int→Int→Int
 sub:Int→Int→Int
 mul:Int→Int→Int
 aJ:Int→Int→Bool
 aV:Int→Int→Bool
 pK:Int→Int→Bool
 seq:ByteArray→ByteArray→Bool
 cat:ByteArray→ByteArray→ByteArray
 beq:Bool→Bool→Bool
 not:Bool→Bool
 pick:Bool→Bool→Bool→Bool
 Qf:Int→Int→Int
 imax:Int→Int→Int
 eR:List (List AV)→Nat
 Lb:ByteArray→Nat
 app:List (List AV)→List (List AV)→List (List AV)
 EB:List (List AV)→Int→Int→List (List AV)
 II:ByteArray→Int→Int→ByteArray
 flat:List (List AV)→List AV
 chunk:Nat→Nat→List AV→List (List AV)
 rep:Nat→List AV→List (List AV)
 set:List (List AV)→Nat→List AV→List (List AV)
 room:Nat→Nat→Nat→Prop
 within:Int→Int→Prop
 nat:Int→Nat
 D0:Int→Nat→Prop
 nq:Int→Int→Int→Prop
 nr:Nat→List (List AV)→Prop
 mutual
def rY(r:Nat):AV→Prop
  | .sl q xs=>q≠r∧nh r xs
  | .gs q _ xs=>q≠r∧nh r xs
  | .aO q cs _=>q≠r∧AF r cs
  | .nc q _ xs=>q≠r∧nh r xs
  | .ar _ _ xs=>nh r xs
  | .fn _ cs=>AF r cs
  | .bm _ cs=>AF r cs
  | .agg cs=>AF r cs
  | .fT cs=>AF r cs
  |_=>True
def AF(r:Nat):List AV→Prop
  |[]=>True
  |a::l=>rY r a∧AF r l
def nh(r:Nat):List (List AV)→Prop
  |[]=>True
  |a::l=>AF r a∧nh r l
end
def chunks(z:Nat):Nat→List AV→List (List AV)
 |0,_=>[]
 |n+1,l=>l.take z::chunks z n (l.drop z)
def al:Pr where
 wrap:=IntKind.wrap
 add:=(· + ·)
 sub:=(· - ·)
 mul:=(· * ·)
 aJ:=fun a b=>decide (a=b)
 aV:=fun a b=>decide (a<b)
 pK:=fun a b=>decide (a≤b)
 seq:=fun a b=>decide (a=b)
 cat:=(· ++ ·)
 beq:=fun a b=>a==b
 not:=fun a=> !a
 pick:=fun c a b=>bif c then a else b
 Qf:=fun a b=>if a≤b then a else b
 imax:=fun a b=>if a≤b then b else a
 eR:=List.length
 Lb:=ByteArray.size
 app:=(· ++ ·)
 EB:=fun xs l h=>(xs.take h.toNat).drop l.toNat
 II:=fun b l h=>b.extract l.toNat h.toNat
 flat:=List.flatten
 chunk:=chunks
 rep:=List.replicate
 set:=List.set
 room:=fun n m b=>(n+m)*b≤70368744177664∧n+m≤70368744177664
 within:=fun n m=>0≤n∧n<m
 nat:=Int.toNat
 D0:=fun n b=>0≤n∧n≤9223372036854775807∧n*b≤140737488355328
 nq:=fun l h n=>0≤l∧l≤h∧h≤n
 nr:=nh
inductive Ex where
 |normal
 |exit (id:Nat)
 |ret
inductive LS where
 |Xb
 |busy
 |dn (e:Ex)
 |exh
inductive VK where
 |int (k:IntKind)
 |str
 |bool
inductive OwK where
 |sl (z:Nat)
 |mp (ks:List VK) (st:Option (Nat×Int))
def OwK.z:OwK→Nat
 | .sl z=>z
 | .mp ks _=>ks.length+1
inductive Ob where
 |box (cs:List AV)
 |arr (z:Nat) (xs:List (List AV))
 |ow (p:OwK) (sN:Option (Nat×Nat)) (xs:List (List AV))
 |lp (n:Nat×Nat) (t:List (Nat×AV)) (ps:List Nat) (nI body:Unit→Code) (st:LS)
structure Fr where
 n:Nat
 t:List (Nat×AV)
abbrev Path:=List (Nat×Bool)
structure St where
 n:Nat
 t:List (Nat×AV)
 b:List (Nat×Ob)
 c:List (Nat×Path)
 g:Nat→Option Ob
 nx:Nat
 up:List Fr:=[]
 fl:Bool:=false
def tP:Path→Path→Bool
 |[],_=>true
 |(d,w)::r,(e,v)::q=>cS d e&&(w==v)&&tP r q
 |_::_,[]=>false
def isB(w:Bool):Option AV→Prop
 |some (.v (.bool g))=>g=w
 |_=>False
def aY(s:St):Path→Prop
 |[]=>True
 |(d,w)::r=>isB w (look d s.t)∧aY s r
def under(s:St)(p:Path)(X:Prop):Prop:=
 match p with
 |[]=>X
 |_=>aY s p→X
def DD(s:St)(p:Path)(d:Nat):AV:=
 match look d s.t with
 |none=> .any
 |some a=>match look d s.c with
  |none=>a
  |some q=>bif tP q p then a else .any
def bL(s:St)(p:Path):Operand→AV
 | .tmp d=>DD s p d
 | .const x=> .v x
 | .func f=> .fn (.func f) []
 | .global _=> .any
def St.put(s:St)(p:Path)(dst:Option Nat)(a:AV):St:=
 match dst with
 |none=>s
 |some d=>{s with t:=cR d a s.t,c:=match p with|[]=>del d s.c|_=>cR d p s.c}
def Ir(d:Nat):Path→Bool
 |[]=>false
 |(e,_)::r=>cS e d||Ir d r
def Qe(d:Nat):List (Nat×Path)→Bool
 |[]=>false
 |(_,q)::r=>Ir d q||Qe d r
def wm(s:St):Option Nat→Bool
 |none=>true
 |some d=>r6 d s.n&& !Qe d s.c
def isBool:Option AV→Bool
 |some (.v (.bool _))=>true
 |_=>false
def cellsOf:AV→List AV
 | .agg cs=>cs
 | .v (.agg cs)=>cs.toList.map .v
 |x=>[x]
def cut(l:List AV)(o n:Nat):List AV:=(l.drop o).take n
def bD(l:List AV)(o:Nat)(cs:List AV):List AV:=l.take o++cs++l.drop (o+cs.length)
def part(i:TI)(cs:List AV)(o:Nat):Option AV:=
 bif lL (o+i.size) cs.length then
  (bif i.agg then some (.agg (cut cs o i.size))else match cs[o]? with|some a=>some a|none=>none)
 else none
def rd(a:AV):AV:=qd (fun _=>true) a
def dJ:Value:= .slice none 0 0
def fG(T:Tok→Bool):List (Nat×AV)→List (Nat×AV)
 |[]=>[]
 |(d,a)::r=>(d,qd T a)::fG T r
def xu(T:Tok→Bool):Ob→Ob
 | .box cs=> .box (jX T cs)
 | .arr z xs=> .arr z xs
 | .ow p l xs=> .ow p l xs
 | .lp n t ps nI body st=> .lp n (fG T t) ps nI body st
def mg(T:Tok→Bool):List Fr→List Fr
 |[]=>[]
 |f::r=>{n:=f.n,t:=fG T f.t}::mg T r
def eN(T:Tok→Bool):List (Nat×Ob)→List (Nat×Ob)
 |[]=>[]
 |(d,a)::r=>(d,xu T a)::eN T r
def P2:Tok→Bool
 | .n _=>false
 |_=>true
def bh:Tok→Tok→Bool
 | .l d,.l e=>cS d e
 | .c i o,.c j q=>cS i j&&cS o q
 | .n d,.n e=>cS d e
 |_,_=>false
def bin(I:Pr):BinOp→Value→Value→Option Value
 | .add,.int k a,.int k' b=>bif k==k' then some (.int k (I.wrap k (I.add a b)))else none
 | .sub,.int k a,.int k' b=>bif k==k' then some (.int k (I.wrap k (I.sub a b)))else none
 | .mul,.int k a,.int k' b=>bif k==k' then some (.int k (I.wrap k (I.mul a b)))else none
 | .eql,.int k a,.int k' b=>bif k==k' then some (.bool (I.aJ a b))else none
 | .neq,.int k a,.int k' b=>bif k==k' then some (.bool (I.not (I.aJ a b)))else none
 | .lss,.int k a,.int k' b=>bif k==k' then some (.bool (I.aV a b))else none
 | .gtr,.int k a,.int k' b=>bif k==k' then some (.bool (I.aV b a))else none
 | .leq,.int k a,.int k' b=>bif k==k' then some (.bool (I.pK a b))else none
 | .geq,.int k a,.int k' b=>bif k==k' then some (.bool (I.pK b a))else none
 | .eql,.string a,.string b=>some (.bool (I.seq a b))
 | .neq,.string a,.string b=>some (.bool (I.not (I.seq a b)))
 |_,_,_=>none
def zV:AV→Option Nat
 | .any=>none
 | .ar .. =>none
 | .v x=>some x.cells.size
 | .agg cs=>some cs.length
 | .fT _=>none
 |_=>some 1
def rR:Value→Bool
 | .agg _=>false
 | .tuple _=>false
 |_=>true
def Tq:AV→Bool
 | .any=>false
 | .ar .. =>false
 | .v x=>rR x
 | .agg _=>false
 | .fT _=>false
 |_=>true
def lf:List AV→Bool
 |[]=>true
 |a::r=>Tq a&&lf r
def dU:List (List AV)→Bool
 |[]=>true
 |l::r=>lf l&&dU r
def GH(fs:List (Nat×Nat)):List AV→List (Nat×AV)→Option (List AV)
 |cells,[]=>some cells
 |cells,(i,a)::r=>match fs[i]? with
  |none=>none
  |some (o,z)=>match zV a with
   |none=>none
   |some k=>bif cS k z&&lL (o+z) cells.length then GH fs (bD cells o (cellsOf a)) r else none
def om(z:Nat):List AV→List (Nat×AV)→Option (List AV)
 |cells,[]=>some cells
 |cells,(i,a)::r=>match zV a with
   |none=>none
   |some k=>bif cS k z&&lL (i*z+z) cells.length then om z (bD cells (i*z) (cellsOf a)) r else none
def fS(L:nO)(t f:Nat):Option Nat:=
 match L t with
 |some {k:= .cU fs,..}=>match fs[f]? with
  |some (o,z)=>bif cS z 0 then none else some o
  |none=>none
 |_=>none
def aiv:AV→Option AV
 | .ptr k off=>some (.ptr k off)
 | .aO r cs off=>some (.aO r cs off)
 | .cG k i off z=>some (.cG k i off z)
 | .nc r z xs=>some (.nc r z xs)
 |_=>none
def Tn(o:Nat):AV→Option AV
 | .ptr k off=>some (.ptr k (off+o))
 | .aO r cs off=>some (.aO r cs (off+o))
 | .cG k i off z=>some (.cG k i (off+o) z)
 |_=>none
def Tm(s:St)(ti:TI):AV→Option AV
 | .ptr (.s d) off=>match look d s.b with
  |some (.box cs)=>part ti cs off
  |_=>none
 | .aO _ cs off=>part ti cs off
 |_=>none
def aix(I:Pr)(op:BinOp):AV→AV→Option AV
 | .v a,.v b=>match bin I op a b with|some v=>some (.v v)|none=>none
 |_,_=>none
def pUn(I:Pr):UnOp→AV→Option AV
 | .not,.v (.bool b)=>some (.v (.bool (I.not b)))
 |_,_=>none
def J5(i:Nat):AV→Option AV
 | .fT vs=>vs[i]?
 |_=>none
def MT(L:nO)(t:Nat)(ps:List (Nat×AV)):Option AV:=
 match L t with
 |some {k:= .cU fs,zero,..}=>match GH fs (zero.map .v) ps with
  |some cs=>some (.agg cs)
  |none=>none
 |some {k:= .arr _ e,zero,..}=>match L e with
  |some ti=>match om ti.size (zero.map .v) ps with
   |some cs=>some (.agg cs)
   |none=>none
  |none=>none
 |_=>none
def aiw(I:Pr):TK→AV→Option AV
 | .slice _,.sl _ xs=>some (.v (.int .i64 (I.eR xs)))
 | .slice _,.gs _ _ xs=>some (.v (.int .i64 (I.eR xs)))
 | .slice _,.ia _ n=>some (.v (.int .i64 n))
 | .str,.v (.string b)=>some (.v (.int .i64 (I.Lb b)))
 | .slice _,.v (.slice _ n _)=>some (.v (.int .i64 n))
 | .arr n _,_=>some (.v (.int .i64 n))
 |_,_=>none
def Tl(L:nO)(t f:Nat)(x:AV):Option AV:=
 match L t with
 |some {k:= .cU fs,ft,..}=>(match fs[f]?,ft[f]? with
  |some (o,_),some t'=>(match L t',x with
   |some tj,.agg cs=>part tj cs o
   |_,_=>none)
  |_,_=>none)
 |_=>none
def J6(I:Pr)(L:nO)(b:Builtin)(ts:List Nat)(args:List AV):Option AV:=
 match b,ts,args with
 | .len,[t],[x]=>match L t with
  |some ti=>aiw I ti.k x
  |none=>none
 |_,_,_=>none
def rV(I:Pr)(L:nO)(s:St)(p:Path):Op→Option AV
 | .move x=>some (bL s p x)
 | .assign x=>some (bL s p x)
 | .nilCheck x=>aiv (bL s p x)
 | .fieldAddr t x f=>match fS L t f with
  |none=>none
  |some o=>Tn o (bL s p x)
 | .load t x=>match L t with
  |none=>none
  |some ti=>Tm s ti (bL s p x)
 | .binOp op _ x y _=>aix I op (bL s p x) (bL s p y)
 | .unOp op _ x=>pUn I op (bL s p x)
 | .extract x i=>J5 i (bL s p x)
 | .build t parts=>MT L t (parts.toList.map fun q=>(q.1,bL s p q.2))
 | .field t x f=>Tl L t f (bL s p x)
 | .call c=>match c.callee with
  | .builtin b=>J6 I L b c.argTypes.toList (c.args.toList.map (bL s p))
  |_=>none
 |_=>none
 mutual
def sb(d:Nat)(F:Nat→AV)(A:Nat→AV):AV→AV
  | .ptr (.s e) off=>bif cS e d then F off else .ptr (.s e) off
  | .ia (.s e) n=>bif cS e d then A n else .ia (.s e) n
  | .cG (.s e) i off z=>bif cS e d then .any else .cG (.s e) i off z
  | .pV (.s e)=>bif cS e d then .any else .pV (.s e)
  | .mp (.s e)=>bif cS e d then .any else .mp (.s e)
  | .fn f cs=> .fn f (PI d F A cs)
  | .agg cs=> .agg (PI d F A cs)
  | .fT cs=> .fT (PI d F A cs)
  |a=>a
def PI(d:Nat)(F:Nat→AV)(A:Nat→AV):List AV→List AV
  |[]=>[]
  |a::r=>sb d F A a::PI d F A r
end
def L8(d:Nat)(F:Nat→AV)(A:Nat→AV):List (Nat×AV)→List (Nat×AV)
 |[]=>[]
 |(k,a)::r=>(k,sb d F A a)::L8 d F A r
def HA(d:Nat)(F:Nat→AV)(A:Nat→AV):List (Nat×Ob)→List (Nat×Ob)
 |[]=>[]
 |(k,.box cs)::r=>(k,.box (PI d F A cs))::HA d F A r
 |(k,.arr z xs)::r=>(k,.arr z xs)::HA d F A r
 |(k,.ow p l xs)::r=>(k,.ow p l xs)::HA d F A r
 |(k,.lp n t ps nI body st)::r=>(k,.lp n (L8 d F A t) ps nI body st)::HA d F A r
def Z0(d:Nat)(F:Nat→AV)(A:Nat→AV):List Fr→List Fr
 |[]=>[]
 |f::r=>{n:=f.n,t:=L8 d F A f.t}::Z0 d F A r
def shut(ρ d:Nat)(s:St):Option St:=
 match look d s.b with
 |some (.box cs)=>
  let cs':=jX (fun _=>true) cs
  bif bZ cs' then
   let F:=fun off=>AV.aO ρ cs' off
   let A:=fun _=>AV.any
   some {s with t:=L8 d F A s.t,b:=HA d F A (del d s.b),up:=Z0 d F A s.up}
  else none
 |some (.arr z xs)=>
   let F:=fun _=>AV.any
   let A:=fun n=>AV.sl ρ (xs.take n)
   some {s with t:=L8 d F A s.t,b:=HA d F A (del d s.b),up:=Z0 d F A s.up}
 |some (.ow (.sl _) _ xs)=>
   let F:=fun _=>AV.any
   let A:=fun n=>AV.sl ρ (xs.take n)
   some {s with t:=L8 d F A s.t,b:=HA d F A (del d s.b),up:=Z0 d F A s.up}
 |some (.ow (.mp ..) ..)=>none
 |some (.lp ..)=>none
 |none=>none
 mutual
def zl:AV→List Nat
  | .ptr (.s d) _=>[d]
  | .ia (.s d) _=>[d]
  | .cG (.s d) _ _ _=>[d]
  | .pV (.s d)=>[d]
  | .mp (.s d)=>[d]
  | .fn _ cs=>jT cs
  | .agg cs=>jT cs
  | .fT cs=>jT cs
  |_=>[]
def jT:List AV→List Nat
  |[]=>[]
  |a::r=>zl a++jT r
end
def jw(ρ:Nat):List Nat→St→Option St
 |[],s=>some s
 |d::r,s=>match look d s.b with
  |none=>jw ρ r s
  |some _=>match shut ρ d s with
   |some s'=>jw ρ r s'
   |none=>none
def Le:List (Nat×Ob)→List Nat
 |[]=>[]
 |(d,.arr _ _)::r=>d::Le r
 |_::r=>Le r
abbrev bf:=AV→St→Prop
abbrev YH:=Nat→List AV→St→bf→Prop
abbrev oO:=(ρ:Nat)→(f:Nat)→(args:List AV)→(g:Nat→Option Ob)→(nx:Nat)→(r:AV)→(g':Nat→Option Ob)→(gG:Nat)→Prop
def updG(g:Nat→Option Ob)(i:Nat)(o:Ob):Nat→Option Ob:=fun j=>if j=i then some o else g j
inductive Tree where
 |done
 |one (i:Nat) (t:Tree)
 |fork (i:Nat) (t:Tree) (more:Tree)
 |nil
structure dj where
 I:Pr
 L:nO
 ρ:Nat
 sh:List Nat
 tree:Nat→Tree
 call:oO
 base:Nat:=0
 op:List Nat:=[]
 sR:Nat→Bool:=fun _=>false
 inl:YH→Nat→List AV→St→bf→Prop:=fun _ _ _ _ _=>False
 AQ:YH→Nat→List AV→St→bf→Prop:=fun _ _ _ _ _=>False
 yl:YH:=fun _ _ _ _=>False
 dead:Nat→List Nat:=fun _=>[]
 cl:Nat→Bool:=fun _=>false
 keys:Nat→Option (List VK):=fun _=>none
 eqs:Nat→Option (List VK):=fun _=>none
def Nd(d:Nat):List Nat→Bool
 |[]=>false
 |k::r=>cS k d||Nd d r
def xy:AV→Option (Nat×List (List AV))
 | .sl r xs=>some (r,xs)
 | .gs r _ xs=>some (r,xs)
 | .v (.slice none 0 0)=>some (0,[])
 |_=>none
def elemOf(L:nO)(t:Nat):Option (Nat×TI):=
 match L t with
 |some {k:= .slice e,..}=>match L e with
  |some ti=>some (e,ti)
  |none=>none
 |_=>none
def Z7(I:Pr)(c:AV)(a b:AV):Option AV:=
 match c,a,b with
 | .v (.bool g),.v (.bool x),.v (.bool y)=>some (.v (.bool (I.pick g x y)))
 |_,_,_=>none
def RH:Operand→Option Nat
 | .tmp d=>some d
 |_=>none
def Ic(C:dj)(s:St)(d:Nat)(cs:List AV)(K:AV→St→Prop):Prop:=
 bif Nd d C.sh then
  False
 else
  match look (C.base+d) s.b with
  |none=>K (.ptr (.s (C.base+d)) 0) {s with b:=cR (C.base+d) (.box cs) s.b}
  |some _=>False
def Rn(C:dj)(p:Path)(c a b:Operand)(s:St)(K:bf):Prop:=
 match RH c with
 |none=>False
 |some d=>match Z7 C.I (bL s p c) (bL s (p++[(d,true)]) a) (bL s (p++[(d,false)]) b)with
  |some x=>K x s
  |none=>False
def abp(C:dj)(d:Nat)(a:AV)(s:St)(K:bf):Prop:=
 match zV a with
 |some _=>Ic C s d (cellsOf a) K
 |none=>False
def LR(C:dj)(d e:Nat)(s:St)(K:bf):Prop:=
 match C.L e with
 |some ti=>match ti.k with
  | .arr n e'=>match C.L e',look (C.base+d) s.b with
   |some LX,none=>bif cS (n*LX.size) ti.size&&(lL 1 LX.size&&lL n 1048576)then∃zs,(ti.zero=(List.replicate n LX.zero).flatten∧C.I.rep n (LX.zero.map .v)=zs)∧K (.ptr (.s (C.base+d)) 0) {s with b:=cR (C.base+d) (.arr LX.size zs) s.b}else False
   |_,_=>False
  |_=>Ic C s d (ti.zero.map .v) K
 |none=>False
def pC(I:Pr)(ti:TI)(d off:Nat)(a:AV)(s:St)(K:bf):Prop:=
 match look d s.b with
 |some (.box cs)=>bif lL (off+ti.size) cs.length then(match a with
  | .gs r t xs=>P2 t=true∧K .any {s with t:=fG (bh t) s.t,up:=mg (bh t) s.up,b:=cR d (.box (bD (jX (bh t) cs) off [.gs r (.c d off) xs])) (eN (bh t) s.b)}
  |a=>K .any {s with b:=cR d (.box (bD cs off (cellsOf a))) s.b})else False
 |some (.arr z xs)=>match ti.k with
  | .arr n _=>off=0∧I.eR xs=n∧n*z=ti.size∧bZ (cellsOf (rd a))=true∧K .any {s with b:=cR d (.arr z (I.chunk z n (cellsOf (rd a)))) s.b}
  |_=>False
 |_=>False
def yI(I:Pr)(ti:TI)(d i off z:Nat)(a:AV)(s:St)(K:bf):Prop:=
 match look d s.b with
 |some (.arr z' xs)=> ∃cs,z=z'∧xs[i]? =some cs∧off+ti.size≤z∧bZ (cellsOf (rd a))=true∧K .any {s with b:=cR d (.arr z (I.set xs i (bD cs off (cellsOf (rd a))))) s.b}
 |_=>False
def Hj(C:dj)(t:Nat)(x a:AV)(s:St)(K:bf):Prop:=
 match C.L t,zV a with
 |some ti,some k=>k=ti.size∧lf (cellsOf a)=true∧
   (match x with
   | .ptr (.s d) off=>pC C.I ti d off a s K
   | .cG (.s d) i off z=>yI C.I ti d i off z a s K
   |_=>False)
 |_,_=>False
def NZ(C:dj)(p:Path)(t:Nat)(x:AV)(s:St)(K:bf):Prop:=
 match C.L t with
 |none=>False
 |some ti=>match x with
  | .nc _ z xs=>match ti.k with
   | .arr n _=>(C.I.eR xs=n∧n*z=ti.size)∧K (.ar n z xs) s
   |_=>False
  | .ptr (.o i) off=> ∃cs a,under s p (s.g i=some (.box cs))∧part ti cs off=some a∧K a s
  | .ptr (.s d) off=>match look d s.b with
   |some (.arr z xs)=>match ti.k with
    | .arr n _=>(off=0∧under s p (C.I.eR xs=n)∧n*z=ti.size)∧K (.ar n z xs) s
    |_=>False
   |_=>False
  | .cG (.s d) i off z=>match look d s.b with
   |some (.arr z' xs)=> ∃cs a,z=z'∧under s p (xs[i]? =some cs)∧part ti cs off=some a∧K a s
   |some (.ow (.sl z') _ xs)=> ∃cs a,z=z'∧under s p (xs[i]? =some cs)∧part ti cs off=some a∧K a s
   |_=>False
  |_=>False
def Ro(C:dj)(p:Path)(t:Nat)(n:Int)(x:AV)(s:St)(K:bf):Prop:=
 match x with
 | .ia k m=>match elemOf C.L t with
  |some (_,ti)=>under s p (C.I.within n m)∧K (.cG k (C.I.nat n) 0 ti.size) s
  |none=>False
 | .ptr (.s d) off=>match C.L t,look d s.b with
  |some ti,some (.arr z xs)=>match ti.k with
   | .arr m e=>match C.L e with
    |some tj=>off=0∧z=tj.size∧under s p (C.I.within n m)∧K (.cG (.s d) (C.I.nat n) 0 z) s
    |none=>False
   |_=>False
  |_,_=>False
 |a=>match xy a,elemOf C.L t with
  |some (r,xs),some (_,ti)=> ∃cs,under s p (0≤n∧xs[n.toNat]? =some cs∧cs.length=ti.size)∧K (.aO r cs 0) s
  |_,_=>False
def intOf:AV→Option Int
 | .v (.int _ n)=>some n
 |_=>none
def isStr(L:nO)(t:Nat):Bool:=match L t with|some ti=>(match ti.k with| .str=>true|_=>false)|none=>false
def Hm(C:dj)(p:Path)(t:Nat)(n:Int)(x:AV)(s:St)(K:bf):Prop:=
 match x with
 | .v (.string b)=>bif isStr C.L t then∃c:UInt8,under s p (0≤n∧b[n.toNat]? =some c)∧K (.v (.int .u8 c.toNat)) s else False
 | .agg cs=>match C.L t with
  |some ti=>match ti.k with
   | .arr m e=>match C.L e with
    |some tj=>bif cS tj.size 1&& !tj.agg then∃a,under s p (0≤n∧n<m∧cs[n.toNat]? =some a)∧K a s else False
    |none=>False
   |_=>False
  |none=>False
 |_=>False
def rm(C:dj)(p:Path)(t len d:Nat)(parts:List (Nat×Operand))(s:St)(K:bf):Prop:=
 match elemOf C.L t with
 |some (_,ti)=>match jw C.ρ (jT (parts.map fun q=>bL s p q.2)) s with
  |some s1=>match om ti.size ((List.replicate len (ti.zero.map AV.v)).flatten) (parts.map fun q=>(q.1,rd (bL s1 p q.2)))with
   |some cs=>bif bZ cs&&(lL 1 ti.size&&lL (len*ti.size) 16777216)then K (.gs C.ρ (.l (C.base+d)) (chunks ti.size len cs)) {s1 with t:=fG (bh (.l (C.base+d))) s1.t,b:=eN (bh (.l (C.base+d))) s1.b,up:=mg (bh (.l (C.base+d))) s1.up}else False
   |none=>False
  |none=>False
 |none=>False
def closed(base:Nat)(op:List Nat):List Nat→List Nat
 |[]=>[]
 |d::r=>bif lL base d&& !Nd (d - base) op then d::closed base op r else closed base op r
def Rp(C:dj)(p:Path)(f:Fn)(cap:List Operand)(s:St)(K:bf):Prop:=
 match jw C.ρ (closed C.base C.op (jT (cap.map (bL s p)))) s with
 |some s1=>K (.fn f (cap.map fun x=>rd (bL s1 p x))) s1
 |none=>False
def NY(C:dj)(t d:Nat)(n m:Int)(s:St)(K:bf):Prop:=
 match elemOf C.L t,look (C.base+d) s.b with
 |some (_,ti),none=>1≤ti.size∧n=m∧C.I.D0 n ti.bytes∧K (.ia (.s (C.base+d)) n.toNat) {s with b:=cR (C.base+d) (.arr ti.size (C.I.rep n.toNat (ti.zero.map .v))) s.b}
 |_,_=>False
def ld(s:St)(p:Path)(aqc:Int):Option Operand→Option Int
 |none=>some aqc
 |some y=>intOf (bL s p y)
def Al(C:dj)(p:Path)(t:Nat)(lo hi:Option Operand)(x:AV)(s:St)(K:bf):Prop:=
 match x with
 | .v (.string b)=>bif isStr C.L t then
   (match ld s p 0 lo,ld s p (C.I.Lb b) hi with
   |some l,some h=>under s p (C.I.nq l h (C.I.Lb b))∧K (.v (.string (C.I.II b l h))) s
   |_,_=>False)
  else False
 | .ia k m=>match elemOf C.L t,lo,ld s p m hi with
  |some _,none,some h=>under s p (C.I.nq 0 h m)∧K (.ia k h.toNat) s
  |_,_,_=>False
 | .ptr (.s d) off=>match C.L t,look d s.b with
  |some ti,some (.arr z xs)=>match ti.k with
   | .arr m e=>match C.L e,lo,ld s p m hi with
    |some _,none,some h=>off=0∧C.I.eR xs=m∧m≤1048576∧under s p (C.I.nq 0 h m)∧K (.ia (.s d) h.toNat) s
    |_,_,_=>False
   |_=>False
  |_,_=>False
 |a=>match xy a,elemOf C.L t with
  |some (r,xs),some (_,ti)=>match ld s p 0 lo,ld s p (C.I.eR xs) hi with
   |some l,some h=>under s p (C.I.nq l h (C.I.eR xs)∧ ∀cs∈xs,cs.length=ti.size)∧K (.sl r (C.I.EB xs l h)) s
   |_,_=>False
  |_,_=>False
def lT(_:Tok):Bool:=false
def snap(ρ:Nat)(b:List (Nat×Ob)):AV→AV
 | .ia (.s d) n=>match look d b with
  |some (.arr _ xs)=> .sl ρ (xs.take n)
  |_=> .ia (.s d) n
 | .ptr (.s d) off=>match look d b with
  |some (.box cs)=>bif bZ (jX (fun _=>true) cs)then .aO ρ (jX (fun _=>true) cs) off else .ptr (.s d) off
  |some (.arr z xs)=>bif cS off 0 then .nc ρ z xs else .ptr (.s d) off
  |_=> .ptr (.s d) off
 |a=>a
def yL(ρ:Nat)(b:List (Nat×Ob)):AV→AV
 | .fn f cs=> .fn f (cs.map (snap ρ b))
 | .agg cs=> .agg (cs.map (snap ρ b))
 |a=>snap ρ b a
def ZX(C:dj)(p:Path)(f:AV)(args:List AV)(s:St)(K:bf):Prop:=
 match f with
 | .fn (.func k) cap=>match p with
  |[]=>bif C.sR k then C.inl C.yl k (args++cap) s K
   else bif bZ (args++cap)then∃r g' gG,C.call C.ρ k (args++cap) s.g s.nx r g' gG∧K r {s with t:=fG lT s.t,b:=eN lT s.b,up:=mg lT s.up,g:=g',nx:=gG}
   else(∀ρ,bZ ((args++cap).map (yL ρ s.b))=true)∧ ∃r g' gG,(∀ρ,C.call C.ρ k ((args++cap).map (yL ρ s.b)) s.g s.nx r g' gG)∧K r {s with t:=fG lT s.t,b:=eN lT s.b,up:=mg lT s.up,g:=g',nx:=gG}
  |_=>bif bZ (args++cap)then∃r,(aY s p→C.call C.ρ k (args++cap) s.g s.nx r s.g s.nx)∧K r {s with t:=fG lT s.t,b:=eN lT s.b,up:=mg lT s.up}
   else(∀ρ,bZ ((args++cap).map (yL ρ s.b))=true)∧ ∃r,(aY s p→ ∀ρ,C.call C.ρ k ((args++cap).map (yL ρ s.b)) s.g s.nx r s.g s.nx)∧K r {s with t:=fG lT s.t,b:=eN lT s.b,up:=mg lT s.up}
 | .pV (.s d)=>match p with
  |[]=>C.yl d args s K
  |_=>False
 | .bm (.func k) cs=>match p with
  |[]=>bif bZ (cs++args)then∃r g' gG,C.call C.ρ k (cs++args) s.g s.nx r g' gG∧K r {s with t:=fG lT s.t,b:=eN lT s.b,up:=mg lT s.up,g:=g',nx:=gG}else False
  |_=>False
 |_=>False
def Pc(C:dj)(ti:TI)(n:Nat)(ys:List (List AV)):Prop:=C.I.room n (C.I.eR ys) ti.bytes∧lL 1 ti.size=true∧dU ys=true∧ ∀l∈ys,l.length=ti.size
def yJ(C:dj)(t d:Nat)(x y:AV)(s:St)(K:bf):Prop:=
 match elemOf C.L t,xy y with
 |some (_,ti),some (_,ys)=>match x with
  | .gs r k xs=>P2 k=true∧Pc C ti (C.I.eR xs) ys∧(∀l∈xs,l.length=ti.size)∧
    K (.gs r (.l (C.base+d)) (C.I.app xs ys)) {s with t:=fG (fun q=>bh (.l (C.base+d)) q||bh k q) s.t,b:=eN (fun q=>bh (.l (C.base+d)) q||bh k q) s.b,up:=mg (fun q=>bh (.l (C.base+d)) q||bh k q) s.up}
  | .v (.slice none 0 0)=>Pc C ti 0 ys∧K (.gs C.ρ (.l (C.base+d)) ys) {s with t:=fG (bh (.l (C.base+d))) s.t,b:=eN (bh (.l (C.base+d))) s.b,up:=mg (bh (.l (C.base+d))) s.up}
  |_=>False
 |_,_=>False
def wBuiltin(C:dj)(p:Path)(b:Builtin)(dst:Option Nat)(ts:List Nat)(args:List AV)(s:St)(K:bf):Prop:=
 match b,p,dst,ts,args with
 | .append,[],some d,[t,t'],[x,y]=>bif cS t t' then yJ C t d x y s K else False
 |_,_,_,_,_=>False
def xIdx(C:dj)(p:Path)(t:Nat)(n:Int)(x:AV)(s:St)(K:bf):Prop:=
 match x with
 | .ia k m=>match elemOf C.L t with
  |some (_,ti)=> ∃j,under s p (C.I.within n m∧C.I.nat n=j)∧K (.cG k j 0 ti.size) s
  |none=>False
 | .ptr (.s d) off=>match C.L t,look d s.b with
  |some ti,some (.arr z xs)=>match ti.k with
   | .arr m e=>match C.L e with
    |some tj=> ∃j,(off=0∧z=tj.size∧under s p (C.I.within n m∧C.I.nat n=j))∧K (.cG (.s d) j 0 z) s
    |none=>False
   |_=>False
  |_,_=>False
 | .nc r z xs=>match C.L t with
  |some ti=>match ti.k with
   | .arr m e=>match C.L e with
    |some tj=> ∃cs,(C.I.eR xs=m∧z=tj.size∧under s p (0≤n∧xs[n.toNat]? =some cs))∧K (.aO r cs 0) s
    |none=>False
   |_=>False
  |none=>False
 |a=>Ro C p t n a s K
def ahR(I:Pr)(ti:TI)(xs:List (List AV))(i off z z':Nat)(cs1:List AV)(zs:List (List AV)):Prop:=
 ∃cs,z=z'∧xs[i]? =some cs∧off+ti.size≤z∧bZ cs1=true∧I.set xs i (bD cs off cs1)=zs
def G0(I:Pr)(ti:TI)(d off:Nat)(a:AV)(s:St)(K:bf):Prop:=
 match look d s.b with
 |some (.arr z xs)=>match ti.k with
  | .arr n _=> ∃zs,(off=0∧I.eR xs=n∧n*z=ti.size∧bZ (cellsOf (rd a))=true∧I.chunk z n (cellsOf (rd a))=zs)∧K .any {s with b:=cR d (.arr z zs) s.b}
  |_=>False
 |_=>pC I ti d off a s K
def G3(I:Pr)(ti:TI)(d i off z:Nat)(a:AV)(s:St)(K:bf):Prop:=
 match look d s.b with
 |some (.arr z' xs)=> ∃zs,ahR I ti xs i off z z' (cellsOf (rd a)) zs∧K .any {s with b:=cR d (.arr z zs) s.b}
 |_=>False
def G4(C:dj)(t:Nat)(x a:AV)(s:St)(K:bf):Prop:=
 match C.L t,zV a with
 |some ti,some k=>k=ti.size∧lf (cellsOf a)=true∧
   (match x with
   | .ptr (.s d) off=>G0 C.I ti d off a s K
   | .cG (.s d) i off z=>G3 C.I ti d i off z a s K
   |_=>False)
 |_,_=>False
def Dc(C:dj)(t:Nat)(x:AV)(n z:Nat)(ys:List (List AV))(s:St)(K:bf):Prop:=
 match C.L t,x with
 |some ti,.ptr (.s d) off=>match ti.k,look d s.b with
  | .arr m _,some (.arr z' xs)=>(off=0∧z'=z∧n=m∧C.I.eR xs=m∧m*z=ti.size∧dU ys=true)∧K .any {s with b:=cR d (.arr z ys) s.b}
  |_,_=>False
 |_,_=>False
def aeJ:Option Ob→Bool
 |some (.ow ..)=>true
 |_=>false
def G5(C:dj)(t:Nat)(x a:AV)(s:St)(K:bf):Prop:=
 match a with
 | .ar n z ys=>Dc C t x n z ys s K
 |a=>G4 C t x a s K
def abd(C:dj)(d:Nat)(a:AV)(s:St)(K:bf):Prop:=
 match a with
 | .ar n z xs=>match look (C.base+d) s.b with
  |none=>(1≤z∧n≤1048576)∧K (.ptr (.s (C.base+d)) 0) {s with b:=cR (C.base+d) (.arr z xs) s.b}
  |some _=>False
 |a=>abp C d a s K
def NX:AV→AV→Prop
 |_,.any=>True
 | .v (.slice none 0 0),.gs _ _ xs=>xs=[]
 | .v (.slice none 0 0),.sl _ xs=>xs=[]
 | .gs r _ xs,.sl r' xs'=>r=r'∧xs=xs'
 |a,b=>a=b
def ZV:List AV→List AV→Prop
 |[],[]=>True
 |a::r,b::q=>NX a b∧ZV r q
 |_,_=>False
def wkL:List (List AV)→List (List AV)→Prop
 |[],[]=>True
 |a::r,b::q=>(ZV a b∧bZ b=true)∧wkL r q
 |_,_=>False
def NB(xs zs:List (List AV)):Prop:= ∃ws,wkL xs ws∧ws=zs
def ve(C:dj)(p:Path)(t len d:Nat)(parts:List (Nat×Operand))(s:St)(K:bf):Prop:=
 match elemOf C.L t with
 |some (_,ti)=>match jw C.ρ (jT (parts.map fun q=>bL s p q.2)) s with
  |some s1=>match om ti.size ((List.replicate len (ti.zero.map AV.v)).flatten) (parts.map fun q=>(q.1,rd (bL s1 p q.2)))with
   |some cs=>bif bZ cs&&(lL 1 ti.size&&lL (len*ti.size) 16777216)then∃zs,NB (chunks ti.size len cs) zs∧K (.gs C.ρ (.l (C.base+d)) zs) {s1 with t:=fG (bh (.l (C.base+d))) s1.t,b:=eN (bh (.l (C.base+d))) s1.b,up:=mg (bh (.l (C.base+d))) s1.up}else False
   |none=>False
  |none=>False
 |none=>False
def Ha(C:dj)(t len d:Nat)(parts:List (Nat×Operand))(s:St)(K:bf):Prop:=
 match elemOf C.L t,look (C.base+d) s.b with
 |some (_,ti),none=>match om ti.size ((List.replicate len (ti.zero.map AV.v)).flatten) (parts.map fun q=>(q.1,rd (bL s [] q.2)))with
   |some cs=>bif bZ cs&&(lL 1 ti.size&&lL (len*ti.size) 16777216)then∃zs,NB (chunks ti.size len cs) zs∧K (.ia (.s (C.base+d)) len) {s with b:=cR (C.base+d) (.arr ti.size zs) s.b}else False
   |none=>False
 |_,_=>False
def aiP(C:dj)(ti:TI)(n m:Int)(xs:List (List AV))(j:Nat):Prop:=1≤ti.size∧n=m∧C.I.D0 n ti.bytes∧C.I.rep n.toNat (ti.zero.map .v)=xs∧n.toNat=j
def Rd(C:dj)(t d:Nat)(n m:Int)(s:St)(K:bf):Prop:=
 match elemOf C.L t,look (C.base+d) s.b with
 |some (_,ti),none=> ∃xs j,aiP C ti n m xs j∧K (.ia (.s (C.base+d)) j) {s with b:=cR (C.base+d) (.arr ti.size xs) s.b}
 |_,_=>False
def LH(C:dj)(p:Path)(t:Nat)(lo hi:Option Operand)(x:AV)(s:St)(K:bf):Prop:=
 match x with
 | .v (.string b)=>bif isStr C.L t then
   (match ld s p 0 lo,ld s p (C.I.Lb b) hi with
   |some l,some h=> ∃b',under s p (C.I.nq l h (C.I.Lb b)∧C.I.II b l h=b')∧K (.v (.string b')) s
   |_,_=>False)
  else False
 | .ia k m=>match elemOf C.L t,lo,ld s p m hi with
  |some _,none,some h=> ∃j,under s p (C.I.nq 0 h m∧h.toNat=j)∧K (.ia k j) s
  |_,_,_=>False
 | .ptr (.s d) off=>match C.L t,look d s.b with
  |some ti,some (.arr z xs)=>match ti.k with
   | .arr m e=>match C.L e,lo,ld s p m hi with
    |some _,none,some h=> ∃j,(off=0∧C.I.eR xs=m∧m≤1048576∧under s p (C.I.nq 0 h m∧h.toNat=j))∧K (.ia (.s d) j) s
    |_,_,_=>False
   |_=>False
  |_,_=>False
 |a=>match xy a,elemOf C.L t with
  |some (r,xs),some (_,ti)=>match ld s p 0 lo,ld s p (C.I.eR xs) hi with
   |some l,some h=> ∃zs,under s p ((C.I.nq l h (C.I.eR xs)∧ ∀cs∈xs,cs.length=ti.size)∧C.I.EB xs l h=zs)∧K (.sl r zs) s
   |_,_=>False
  |_,_=>False
def IS(C:dj)(ti:TI)(xs ys zs:List (List AV)):Prop:=Pc C ti (C.I.eR xs) ys∧(∀l∈xs,l.length=ti.size)∧C.I.app xs ys=zs
def Hb(C:dj)(t d:Nat)(x y:AV)(s:St)(K:bf):Prop:=
 match elemOf C.L t,xy y with
 |some (_,ti),some (_,ys)=>match x with
  | .gs r k xs=>P2 k=true∧ ∃zs,IS C ti xs ys zs∧
    K (.gs r (.l (C.base+d)) zs) {s with t:=fG (fun q=>bh (.l (C.base+d)) q||bh k q) s.t,b:=eN (fun q=>bh (.l (C.base+d)) q||bh k q) s.b,up:=mg (fun q=>bh (.l (C.base+d)) q||bh k q) s.up}
  | .v (.slice none 0 0)=> ∃zs,IS C ti [] ys zs∧K (.gs C.ρ (.l (C.base+d)) zs) {s with t:=fG (bh (.l (C.base+d))) s.t,b:=eN (bh (.l (C.base+d))) s.b,up:=mg (bh (.l (C.base+d))) s.up}
  |_=>False
 |_,_=>False
def dL(ρ:Nat):AV→AV
 | .v (.slice none 0 0)=> .sl ρ []
 |a=>a
def bY(ρ:Nat):List AV→List AV
 |[]=>[]
 |a::r=>dL ρ a::bY ρ r
def isV:AV→Bool
 | .v _=>true
 |_=>false
def QB:List AV→Bool
 |[]=>true
 |a::r=>isV a&&QB r
def kh:Nat→AV:=fun _=> .any
def goO(r n:Nat)(b:Nat)(xs:List (List AV))(row:List AV)(C:dj)(zs:List (List AV))(n':Nat):Prop:=
 C.I.room n 1 b∧C.I.eR xs=n∧C.I.app xs [row]=zs∧C.I.eR zs=n'
def Rg(C:dj)(t d:Nat)(x y:AV)(s:St)(K:bf):Prop:=
 match elemOf C.L t,xy y with
 |some (_,ti),some (r,[cs])=>bif QB cs&&(cS cs.length ti.size&&(lL 1 ti.size&&lf cs))then
   (match x with
   | .v (.slice none 0 0)=>(match look (C.base+d) s.b with
    |none=>C.I.room 0 1 ti.bytes∧ ∃zs n',([bY r cs]=zs∧C.I.eR zs=n')∧K (.ia (.s (C.base+d)) n') {s with b:=cR (C.base+d) (.ow (.sl ti.size) none zs) s.b}
    |some _=>False)
   | .ia (.s k) n=>bif cS k (C.base+d)then
    (match look k s.b with
    |some (.ow (.sl z) none xs)=>z=ti.size∧ ∃zs n',goO r n ti.bytes xs (bY r cs) C zs n'∧
      K (.ia (.s k) n') {s with t:=L8 k kh kh s.t,b:=cR k (.ow (.sl z) none zs) (HA k kh kh (del k s.b)),up:=Z0 k kh kh s.up}
    |_=>False)else False
   |_=>False)else False
 |_,_=>False
def Re(C:dj)(t d:Nat)(x:AV)(s:St)(K:bf):Prop:=
 match C.L t,x with
 |some ti,.cG (.s k) i off z=>match ti.k,look k s.b with
  | .slice _,some (.ow (.sl z') none xs)=> ∃cs r ys,(z=z'∧xs[i]? =some cs∧cs[off]? =some (.sl r ys)∧ti.size=1)∧
    K (.gs r (.l (C.base+d)) ys) {s with t:=fG (bh (.n k)) s.t,b:=cR k (.ow (.sl z') (some (i,off)) xs) (eN (bh (.n k)) s.b),up:=mg (bh (.n k)) s.up}
  |_,_=>False
 |_,_=>False
def akZ(C:dj)(xs:List (List AV))(i j off Xu r:Nat)(ys zs:List (List AV)):Prop:=
 i=j∧off=Xu∧ ∃cs,xs[i]? =some cs∧off<cs.length∧C.I.set xs i (bD cs off [.sl r ys])=zs
def NU(C:dj)(d i off z r:Nat)(t:Tok)(ys:List (List AV))(s:St)(K:bf):Prop:=
 match look d s.b with
 |some (.ow (.sl z') (some (j,Xu)) xs)=>P2 t=true∧z=z'∧ ∃zs,akZ C xs i j off Xu r ys zs∧
   K .any {s with t:=fG (bh t) s.t,b:=cR d (.ow (.sl z') none zs) (eN (bh t) s.b),up:=mg (bh t) s.up}
 |_=>False
def np:List VK→List AV→Bool
 |[],[]=>true
 | .int k::r,.v (.int k' _)::q=>(k==k')&&np r q
 | .str::r,.v (.string _)::q=>np r q
 | .bool::r,.v (.bool _)::q=>np r q
 |_,_=>false
def Kw:AV→Bool
 | .v x=>rR x
 | .agg cs=>lL 2 cs.length
 |_=>false
def BR(ks:List VK)(k:AV):Bool:=Kw k&&np ks (cellsOf k)
def xG(xs:List (List AV))(kc:List AV):Option Nat→Prop
 |some i=> ∃row,xs[i]? =some row∧row.take kc.length=kc∧ ∀j PJ,j<i→xs[j]? =some PJ→PJ.take kc.length≠kc
 |none=> ∀row∈xs,row.take kc.length≠kc
def AN(C:dj)(t:Nat):Option (List VK×Nat×Nat×TI):=
 match C.L t with
 |some {k:= .map k e,..}=>match C.keys k,C.L e with
  |some ks,some ti=>some (ks,k,e,ti)
  |_,_=>none
 |_=>none
def aiS(xs:List (List AV))(kc:List AV)(z a:AV):Prop:=
 (∃i row a0,xG xs kc (some i)∧xs[i]? =some row∧row[kc.length]? =some a0∧NX a0 a)∨(xG xs kc none∧NX z a)
def G6(C:dj)(p:Path)(t:Nat)(m k:AV)(s:St)(K:bf):Prop:=
 match AN C t,m with
 |some (ks,_,_,ti),.mp (.s d)=>match look d s.b,ti.zero with
  |some (.ow (.mp QU none) none xs),[z]=>bif BR ks k&&(!ti.agg&&rR z)then
    ∃a,(ks=QU∧ti.size=1∧cm a=true∧under s p (aiS xs (cellsOf k) (.v z) a))∧K a s else False
  |_,_=>False
 |_,_=>False
def De(C:dj)(t d:Nat)(s:St)(K:bf):Prop:=
 match AN C t,look (C.base+d) s.b with
 |some (ks,_,_,_),none=> ∃zs,([]:List (List AV))=zs∧K (.mp (.s (C.base+d))) {s with b:=cR (C.base+d) (.ow (.mp ks none) none zs) s.b}
 |_,_=>False
def G7(C:dj)(t:Nat)(m k v:AV)(s:St)(K:bf):Prop:=
 match AN C t,m with
 |some (ks,_,_,ti),.mp (.s d)=>match look d s.b with
  |some (.ow (.mp QU none) none xs)=>bif BR ks k&&(isV v&&Tq v)then
    ∃zs,(ks=QU∧xG xs (cellsOf k) none∧C.I.app xs [cellsOf k++[v]]=zs)∧K .any {s with b:=cR d (.ow (.mp QU none) none zs) s.b}else False
  |_=>False
 |_,_=>False
def ako(C:dj)(r0:Nat)(xs:List (List AV))(kc:List AV)(zs:List (List AV))(i r:Nat)(ys:List (List AV)):Prop:=
 (xG xs kc (some i)∧xs=zs∧ ∃row,xs[i]? =some row∧row[kc.length]? =some (.sl r ys))∨(xG xs kc none∧C.I.app xs [kc++[.sl r0 []]]=zs∧C.I.eR xs=i∧r=r0∧ys=[])
def LJ(C:dj)(t d:Nat)(m k:AV)(s:St)(K:bf):Prop:=
 match AN C t,m with
 |some (ks,_,_,ti),.mp (.s q)=>match ti.k,look q s.b with
  | .slice _,some (.ow (.mp QU none) none xs)=>bif BR ks k then
    ∃zs i r ys,(ks=QU∧ti.size=1∧ti.zero=[dJ]∧ako C C.ρ xs (cellsOf k) zs i r ys)∧ ∀z:Int,
     K (.fT [.gs r (.l (C.base+d)) ys,.v (.int .i64 z)]) {s with t:=fG (bh (.n q)) s.t,b:=cR q (.ow (.mp QU (some (i,z))) (some (i,QU.length)) zs) (eN (bh (.n q)) s.b),up:=mg (bh (.n q)) s.up}else False
  |_,_=>False
 |_,_=>False
def akq(C:dj)(kz:Nat)(xs:List (List AV))(i j:Nat)(z z':Int)(r:Nat)(ys zs:List (List AV)):Prop:=
 i=j∧z=z'∧ ∃cs,xs[i]? =some cs∧C.I.set xs i (bD cs kz [.sl r ys])=zs
def xL(C:dj)(m st v:AV)(s:St)(K:bf):Prop:=
 match m,st,v with
 | .mp (.s q),.v (.int .i64 z),.gs r t ys=>match look q s.b with
  |some (.ow (.mp ks (some (i,z'))) (some (j,off)) xs)=>P2 t=true∧off=ks.length∧ ∃zs,akq C ks.length xs i j z z' r ys zs∧
    K .any {s with t:=fG (bh t) s.t,b:=cR q (.ow (.mp ks none) none zs) (eN (bh t) s.b),up:=mg (bh t) s.up}
  |_=>False
 |_,_,_=>False
def Bk:AV→Option (List AV)
 | .agg cs=>some cs
 | .ar _ _ xs=>some xs.flatten
 |_=>none
def aft(x y:AV)(b:Bool):Prop:= ∃xs ys,Bk x=some xs∧Bk y=some ys∧(b=true↔xs=ys)
def rH(C:dj)(t:Nat)(x:AV):Prop:=
 match C.eqs t,x with
 |some ks,.agg cs=>np ks cs=true
 |some ks,.ar _ _ xs=>np ks xs.flatten=true
 |_,_=>False
def xEq(C:dj)(p:Path)(neg:Bool)(t:Nat)(x y:AV)(s:St)(K:bf):Prop:=
 ∃b:Bool,under s p (rH C t x∧rH C t y∧aft x y b)∧K (.v (.bool (bif neg then C.I.not b else b))) s
def wV(L:nO)(t:Nat):Bool:=match L t with
 |some ti=>(match ti.k with| .bool=>true|_=>false)
 |none=>false
def sQ(L:nO)(t:Nat):Bool:=match L t with
 |some ti=>(match ti.k with| .slice _=>true|_=>false)
 |none=>false
def Pn(C:dj)(p:Path)(neg:Bool)(t:Nat)(x y:AV)(s:St)(K:bf):Prop:=
 match x,y with
 | .v (.bool a),.v (.bool b)=>bif wV C.L t then K (.v (.bool (bif neg then C.I.not (C.I.beq a b)else C.I.beq a b))) s else False
 | .sl _ xs,.v (.slice none 0 0)=>bif sQ C.L t then∀b:Bool,under s p (b=true→C.I.eR xs=0)→K (.v (.bool (bif neg then C.I.not b else b))) s else False
 |x,y=>xEq C p neg t x y s K
def GZ(C:dj)(t:Nat)(x a:AV)(s:St)(K:bf):Prop:=
 match x,a with
 | .cG (.s d) i off z,.gs r tk ys=>bif aeJ (look d s.b)then(match C.L t with
   |some ti=>ti.size=1∧NU C d i off z r tk ys s K
   |none=>False)else G5 C t x a s K
 |_,_=>G5 C t x a s K
def aky(I:Pr)(ti:TI)(z n:Nat)(xs ys zs:List (List AV))(j:Int):Prop:=
 z=ti.size∧dU ys=true∧(∀l∈ys,l.length=ti.size)∧I.Qf (I.eR ys) n=j∧I.app (I.EB ys 0 j) (I.EB xs j (I.eR xs))=zs
def Rf(C:dj)(t:Nat)(x y:AV)(s:St)(K:bf):Prop:=
 match elemOf C.L t,x,xy y with
 |some (_,ti),.ia (.s d) n,some (_,ys)=>match look d s.b with
  |some (.arr z xs)=> ∃zs j,aky C.I ti z n xs ys zs j∧K (.v (.int .i64 j)) {s with b:=cR d (.arr z zs) s.b}
  |_=>False
 |_,_,_=>False
def zD(C:dj)(k:Nat):Option Nat→Bool
 |some d=>Nd (d+k) C.op
 |none=>false
def noI(C:dj)(d:Option Nat):dj:=bif zD C 4000 d then{C with sR:=fun _=>false}else C
def yH(C:dj)(p:Path)(b:Builtin)(dst:Option Nat)(ts:List Nat)(args:List AV)(s:St)(K:bf):Prop:=
 match b,p,dst,ts,args with
 | .append,[],some d,[t,t'],[x,y]=>bif cS t t' then(bif zD C 1000 (some d)then Rg C t d x y s K else Hb C t d x y s K)else False
 | .copy,[],_,[t,_],[x,y]=>Rf C t x y s K
 | .len,_,_,_,_=>match J6 C.I C.L .len ts args with
  |some (.v (.int k m))=> ∃z,m=z∧K (.v (.int k z)) s
  |_=>False
 |_,_,_,_,_=>False
def G8(C:dj)(p:Path)(t:Nat)(n:Int)(x:AV)(s:St)(K:bf):Prop:=
 match x with
 | .v (.string b)=>bif isStr C.L t then∃z:Int,under s p (0≤n∧ ∃c:UInt8,b[n.toNat]? =some c∧(c.toNat:Int)=z)∧K (.v (.int .u8 z)) s else False
 | .ar m z xs=>match C.L t with
  |some ti=>match ti.k with
   | .arr m' e=>match C.L e with
    |some tj=>bif cS tj.size 1&&(!tj.agg&&(cS m m'&&cS z 1))then∃a,under s p (0≤n∧xs[n.toNat]? =some [a])∧K a s else False
    |none=>False
   |_=>False
  |none=>False
 |a=>Hm C p t n a s K
def isLen:Op→Bool
 | .call {callee:= .builtin .len,..}=>true
 |_=>false
def BB(I:Pr)(L:nO)(s:St)(p:Path)(o:Op):Option AV:=bif isLen o then none else rV I L s p o
def Vs(C:dj)(p:Path)(o:Oper)(s:St)(K:bf):Prop:=
 match o.op with
 | .makeMap t none=>match o.dst,p with
  |some d,[]=>De C t d s K
  |_,_=>False
 | .insert t m k v=>match p with
  |[]=>G7 C t (bL s p m) (bL s p k) (bL s p v) s K
  |_=>False
 | .lookup t m k false=>G6 C p t (bL s p m) (bL s p k) s K
 | .mapEntry t m k=>match o.dst,p with
  |some d,[]=>LJ C t d (bL s p m) (bL s p k) s K
  |_,_=>False
 | .entryStore _ m st v=>match p with
  |[]=>xL C (bL s p m) (bL s p st) (bL s p v) s K
  |_=>False
 | .binOp .eql t x y _=>Pn C p false t (bL s p x) (bL s p y) s K
 | .binOp .neq t x y _=>Pn C p true t (bL s p x) (bL s p y) s K
 | .pick c a b=>Rn C p c a b s K
 | .box _ x=>match o.dst,p with
  |some d,[]=>abd C d (bL s p x) s K
  |_,_=>False
 | .alloc e=>match o.dst,p with
  |some d,[]=>LR C d e s K
  |_,_=>False
 | .store t x y=>match p with
  |[]=>GZ C t (bL s p x) (bL s p y) s K
  |_=>False
 | .load t x=>bif zD C 2000 o.dst then(match o.dst,p with
   |some d,[]=>Re C t d (bL s p x) s K
   |_,_=>False)else NZ C p t (bL s p x) s K
 | .indexAddr t x y=>match intOf (bL s p y)with
  |some n=>xIdx C p t n (bL s p x) s K
  |none=>False
 | .index t x y=>match intOf (bL s p y)with
  |some n=>G8 C p t n (bL s p x) s K
  |none=>False
 | .buildSlice t len parts=>match o.dst with
  |some d=>bif Nd (d+3000) C.op then(match p with
   |[]=>Ha C t len d parts.toList s K
   |_=>False)else ve C p t len d parts.toList s K
  |none=>False
 | .makeFunc f first cap=>match first.toList with
  |[]=>Rp C p f cap.toList s K
  |l=>match cap.toList with
   |[]=>bif bZ (l.map fun x=>rd (bL s p x))then K (.bm f (l.map fun x=>rd (bL s p x))) s else False
   |_=>False
 | .makeSlice t x y=>match o.dst,p,intOf (bL s p x),intOf (bL s p y)with
  |some d,[],some n,some m=>Rd C t d n m s K
  |_,_,_,_=>False
 | .slice t x lo hi mx=>match mx with
  |none=>LH C p t lo hi (bL s p x) s K
  |some _=>False
 | .call c=>match c.callee with
  | .value f=>ZX (noI C o.dst) p (bL s p f) (c.args.toList.map fun x=>rd (bL s p x)) s K
  | .builtin b=>yH C p b o.dst c.argTypes.toList (c.args.toList.map (bL s p)) s K
  |_=>False
 |_=>False
def dF(s:St)(d:Nat):Path:=match look d s.c with|some q=>q|none=>[]
def K5:Option Nat→Nat→Bool
 |some e,d=> !cS e d
 |none,_=>true
def Hg(C:dj)(all:List Oper)(o:Oper)(s:St)(K:St→Prop):Prop:=
  match o.guard with
  |none=>
    (match BB C.I C.L s [] o.op with
    |some a=>wm s o.dst=true∧K (s.put [] o.dst a)
    |none=>Vs C [] o s (fun a s'=>wm s' o.dst=true∧K (s'.put [] o.dst a)))
  |some (j,b)=>match all[j]? with
   |none=>False
   |some og=>match og.dst with
    |none=>False
    |some d=>bif wm s o.dst&&(isBool (look d s.t)&&K5 o.dst d)then
      (match BB C.I C.L s (dF s d++[(d,b)]) o.op with
      |some a=>wm s o.dst=true∧K (s.put (dF s d++[(d,b)]) o.dst a)
      |none=>Vs C (dF s d++[(d,b)]) o s (fun a s'=>wm s' o.dst=true∧K (s'.put (dF s d++[(d,b)]) o.dst a)))
     else False
def Rj(C:dj)(all:List Oper):List Oper→St→(St→Prop)→Prop
 |[],s,K=>K s
 |o::rest,s,K=>Hg C all o s (fun s'=>Rj C all rest s' K)
def Df(C:dj)(all:List Oper):Tree→St→(St→Prop)→Prop
 | .done,s,K=>K s
 | .one i t,s,K=>match all[i]? with
  |some o=>Hg C all o s (fun s'=>Df C all t s' K)
  |none=>False
 | .fork i t u,s,K=>(match all[i]? with
  |some o=>Hg C all o s (fun s'=>Df C all t s' K)
  |none=>False)∧Df C all u s K
 | .nil,_,_=>True
def forget:List (Nat×Path)→List (Nat×AV)→List (Nat×AV)
 |[],t=>t
 |(d,_)::r,t=>forget r (del d t)
def St.clean(s:St):St:={s with t:=forget s.c s.t,c:=[]}
def UM:List Nat→List (Nat×AV)→List (Nat×AV)
 |[],t=>t
 |d::r,t=>UM r (del d t)
def St.FA(s:St)(l:List Nat):St:={s with t:=UM l s.t}
def wkT(t:List (Nat×AV)):List (Nat×AV)→Prop
 |[]=>True
 |(d,b)::r=>(match look d t with|some a=>NX a b|none=>NX .any b)∧wkT t r
def ahE:Ob→Ob→Prop
 | .box cs,.box cs'=>ZV cs cs'
 | .arr z xs,.arr z' xs'=>z=z'∧xs=xs'
 | .ow p l xs,.ow p' l' xs'=>p=p'∧l=l'∧xs=xs'
 | .lp n t ps nI body st,.lp n' t' Vt Vb Lc st'=>n=n'∧wkT t t'∧ps=Vt∧nI=Vb∧body=Lc∧st=st'
 |_,_=>False
def wkU:List Fr→List Fr→Prop
 |[],[]=>True
 |f::r,f'::r'=>(f.n=f'.n∧wkT f.t f'.t)∧wkU r r'
 |_,_=>False
def wkB(t:List (Nat×Ob)):List (Nat×Ob)→Prop
 |[]=>True
 |(d,b)::r=>(match look d t with|some a=>ahE a b|none=>False)∧wkB t r
def hasB(b:List (Nat×Ob)):List Nat→Bool
 |[]=>true
 |d::r=>(match look d b with|some _=>true|none=>false)&&hasB b r
def Ts(b:List (Nat×Ob)):List (Nat×AV)→Bool
 |[]=>true
 |(_,a)::r=>hasB b (zl a)&&Ts b r
def okB(b:List (Nat×Ob)):List (Nat×Ob)→Bool
 |[]=>true
 |(_,.box cs)::r=>hasB b (jT cs)&&okB b r
 |(_,.arr _ _)::r=>okB b r
 |(_,.ow _ _ _)::r=>okB b r
 |(_,.lp _ t _ _ _ _)::r=>Ts b t&&okB b r
def okU(b:List (Nat×Ob)):List Fr→Bool
 |[]=>true
 |f::r=>Ts b f.t&&okU b r
def Oi(s:St):Bool:=Ts s.b s.t&&(okB s.b s.b&&okU s.b s.up)
def wk(s s':St):Prop:=
 s.n=s'.n∧s.c=[]∧s'.c=[]∧s.g=s'.g∧s.nx=s'.nx∧wkT s.t s'.t∧wkB s.b s'.b∧wkU s.up s'.up∧Oi s'=true∧s.fl=s'.fl
def Jx(ρ:Nat)(l:List Nat)(s:St)(K:St→Prop):Prop:=match jw ρ l s with
 |some s1=> ∃s2,wk s1 s2∧K s2
 |none=>False
def Rr{α:Type}:List (Nat×α)→List (Nat×α)→List (Nat×α)
 |[],t=>t
 |(d,x)::r,t=>Rr r (cR d x t)
def oM(s:St)(vu:Option (List Fr))(vt:List (Nat×AV))(vb:List (Nat×Ob))(vg:Nat→Option Ob)(vn:Nat):St:=
 {s with t:=Rr vt s.t,b:=Rr vb s.b,g:=vg,nx:=vn,up:=match vu with|none=>s.up|some u=>u}
def RM(R:St→Prop)(Q:Ex→St→Prop)(e:Ex)(s:St):Prop:=
 match e with
 | .normal=>R s
 |e=>Q e s
def Ix(W:St→(Ex→St→Prop)→Prop)(Q:Ex→St→Prop):Nat→St→Prop
 |0,_=>False
 |n+1,s=>W s (RM (fun s'=>Ix W Q n s'∨ ∃s2,wk s' s2∧Ix W Q n s2) Q)
def nw(W:St→(Ex→St→Prop)→Prop)(n:Nat)(s:St)(Q:Ex→St→Prop):Prop:=Ix W Q n s∨ ∃s2,wk s s2∧Ix W Q n s2
def NV(W:St→(Ex→St→Prop)→Prop)(s:St)(Q:Ex→St→Prop):Prop:= ∃n,nw W n s Q
def aeM(b0:List (Nat×Ob))(l:List Nat)(d:Nat):Bool:=match look d b0 with|some _=>true|none=>Nd d l
def aah(b:List (Nat×Ob)):List Nat→List Nat
 |[]=>[]
 |d::r=>(match look d b with|some (.box cs)=>jT cs|_=>[])++aah b r
def reach(b:List (Nat×Ob)):Nat→List Nat→List Nat
 |0,l=>l
 |n+1,l=>match l with
  |[]=>[]
  |l=>l++reach b n (aah b l)
def wS(b0:List (Nat×Ob)):List (Nat×Ob)→List Nat
 |[]=>[]
 |(d,.box cs)::r=>(match look d b0 with|some _=>jT cs|none=>[])++wS b0 r
 |_::r=>wS b0 r
def xB(b0:List (Nat×Ob))(l:List Nat):List (Nat×Ob)→List (Nat×Ob)
 |[]=>[]
 |(d,o)::r=>bif aeM b0 l d then(d,o)::xB b0 l r else xB b0 l r
def MR:List Nat→List AV→List (Nat×AV)→List (Nat×AV)
 |p::ps,a::aa,t=>MR ps aa (cR p a t)
 |_,_,t=>t
def Lh(n:Nat):List Nat→Bool
 |[]=>true
 |p::r=>r6 p n&&Lh n r
def D7{α β:Type}:List α→List β→Bool
 |[],[]=>true
 |_::r,_::q=>D7 r q
 |_,_=>false
def XE:Ex→LS
 | .normal=> .Xb
 |e=> .dn e
def aeK:Ex→Bool
 | .normal=>true
 |_=>false
def L9(kd l:Nat)(b0:List (Nat×Ob))(K:bf)(e:Ex)(s:St):Prop:=
 match s.up,look kd s.b with
 |f::u,some (.lp n t ps nI body .busy)=>
  n.1=l∧(fun s'=>(bif Oi s' then K (.v (.bool (aeK e))) s' else False))
   {n:=f.n,t:=f.t,c:=[],g:=s.g,nx:=s.nx,up:=u,fl:=s.fl,b:=xB b0 (reach s.b 4 (wS b0 s.b)) (cR kd (.lp n t ps nI body (XE e)) s.b)}
 |_,_=>False
def He(kd:Nat)(ps:List Nat)(nI body:Unit→Code)(Wa Wb:St→(Ex→St→Prop)→Prop)(args:List AV)(s:St)(K:bf):Prop:=
 match look kd s.b with
 |some (.lp n t Vt Vb Lc .Xb)=>(Vt=ps∧Vb=nI∧Lc=body)∧
   (bif D7 ps args&&Lh n.2 ps&&bZ args then
    Wa {s with n:=n.2,t:=MR ps args t,c:=[],up:={n:=s.n,t:=s.clean.t}::s.up} (fun e s4=>match e with
     | .normal=>(match look kd s4.b with
      |some (.lp n4 t ps nI body .Xb)=>n4.1=n.1∧Wb {s4 with b:=cR kd (.lp n4 t ps nI body .busy) s4.b} (L9 kd n.1 s.b K)
      |_=>False)
     |_=>False)
   else False)
 |_=>False
def Z1(kd l:Nat)(Q:Ex→St→Prop)(s:St):Prop:=
 match look kd s.b with
 |some (.lp n _ _ _ _ st)=>n.1=l∧(fun s'=>(bif Oi s' then(match st with| .Xb=>Q .normal s'| .dn e=>Q e s'|_=>False)else False)) {s.clean with b:=del kd s.b}
 |_=>False
def ZW(W:St→(St→Prop)→Prop)(s:St)(Q:St→Prop):Prop:= ∃s',W s (fun s1=>s1=s'∨wk s1.clean s')∧ ∃s2,s'.clean=s2∧Q s2
def pY(C:dj):Code→St→(Ex→St→Prop)→Prop
 | .skip,s,Q=>Q .normal s
 | .label _,s,Q=>Q .normal s
 | .region id ops false,s,Q=>Rj C ops.toList ops.toList s (fun s'=>bif Nd (id+5000) C.op then Jx C.ρ (Le s'.b) (s'.clean.FA (C.dead id)) (fun s2=>Q .normal s2)else Q .normal (s'.clean.FA (C.dead id)))
 | .region id ops true,s,Q=>ZW (fun s K=>Df C ops.toList (C.tree id) s K) s (fun s'=>bif Nd (id+5000) C.op then Jx C.ρ (Le s'.b) (s'.FA (C.dead id)) (fun s2=>Q .normal s2)else Q .normal (s'.FA (C.dead id)))
 | .seq a b,s,Q=>pY C a s (fun e s'=>match e with| .normal=>pY C b s' Q|e=>Q e s')
 | .cond c a b,s,Q=>match bL s [] c with
  | .v (.bool x)=>(x=true→pY C a s Q)∧(x=false→pY C b s Q)
  |_=>False
 | .block id a,s,Q=>pY C a s (fun e s'=>match e with| .exit k=>(bif cS k id then Q .normal s' else Q (.exit k) s')|e=>Q e s')
 | .loop a,s,Q=>NV (fun s Q=>pY C a s Q) s Q
 | .exit id,s,Q=>Q (.exit id) s
 | .ret,s,Q=>Q .ret s
 | .scope a,s,Q=>pY C a s Q
 | .rangeFunc g ps nI body,s,Q=>match bL s [] g,look (C.base+999) s.b with
  | .fn (.func k) cap,none=> ∀l:Nat,C.AQ (fun d args s2 K2=>bif cS d (C.base+999)
    then He (C.base+999) ps.toList (fun _=>nI) (fun _=>body) (fun s Q=>pY C nI s Q) (fun s Q=>pY C body s Q) args s2 K2 else C.yl d args s2 K2)
    k (.pV (.s (C.base+999))::cap) {s.clean with b:=cR (C.base+999) (.lp (l,s.n) s.clean.t ps.toList (fun _=>nI) (fun _=>body) .Xb) s.b} (fun _ s2=>Z1 (C.base+999) l Q s2)
  |_,_=>False
 |_,_,_=>False
end Ab
namespace Ab
open Go
theorem xZ{a b:Nat}(h:a≠b):cS a b=false:=by
 cases hb:cS a b with
 |false=>rfl
 |true=>exact absurd (dg hb) h
theorem eZ(a:Nat):cS a a=true:=UI a
theorem aB{α:Type}(d k:Nat)(x:α)(r:List (Nat×α)):look d ((k,x)::r)=if k=d then some x else look d r:=by
 simp only[look]
 by_cases h:k=d
 ·subst h;simp
 ·rw[xZ h,if_neg h];rfl
theorem aF{α:Type}(d e:Nat)(x:α): ∀t,look d (cR e x t)=if e=d then some x else look d t
 |[]=>by simp[cR,aB,look]
 |(k,y)::r=>by
  simp only[cR]
  by_cases h1:k=e
  ·subst h1;rw[eZ,cond_true,aB,aB];split<;>rfl
  ·rw[xZ h1,cond_false]
   cases h2:r6 e k with
   |true=>rw[cond_true,aB]
   |false=>
    rw[cond_false,aB,aB,aF d e x r]
    by_cases h3:k=d
    ·rw[if_pos h3,if_pos h3,if_neg];omega
    ·rw[if_neg h3,if_neg h3]
theorem bI{α:Type}(d:Nat)(x:α)(t:List (Nat×α)):look d (cR d x t)=some x:=by rw[aF,if_pos rfl]
theorem vP{α:Type}{d e:Nat}(x:α)(h:d≠e)(t:List (Nat×α)):look d (cR e x t)=look d t:=by rw[aF,if_neg (Ne.symm h)]
theorem fQ{α:Type}(d e:Nat): ∀(t:List (Nat×α)),look d (del e t)=if e=d then none else look d t
 |[]=>by simp[del,look]
 |(k,y)::r=>by
  simp only[del]
  by_cases h1:k=e
  ·subst h1;rw[eZ,cond_true,fQ d k r,aB];split<;>rfl
  ·rw[xZ h1,cond_false,aB,aB,fQ d e r]
   by_cases h3:k=d
   ·rw[if_pos h3,if_pos h3,if_neg];omega
   ·rw[if_neg h3,if_neg h3]
theorem Km{α:Type}{d e:Nat}(h:e≠d)(t:List (Nat×α)):look e (del d t)=look e t:=by rw[fQ,if_neg (Ne.symm h)]
structure agH(P:Program)(t:Nat)(ti:TI):Prop where
 ex: ∃i d z,P.info? t=some i∧i.size=ti.size∧i.bytes=ti.bytes∧i.zero=some z∧z.cells.toList=ti.zero∧P.underlying t=some d∧
  (match ti.k with
   | .slice e=>d= .slice e
   | .cU fs=> ∃F:Array Field,d= .struct F∧F.size=fs.length∧ ∀(j o z:Nat),fs[j]? =some (o,z)→ ∃f i',F[j]? =some f∧f.offset=o∧P.info? f.type=some i'∧i'.size=z
   | .arr n e=>d= .array n e
   | .map k e=>d= .map k e
   | .int k=>d= .int k
   | .bool=>d= .bool
   | .str=>d= .string
   | .sc=>(match d with| .struct _=>False| .array _ _=>False|_=>True))
 Lz:ti.zero.length=ti.size
 alX: ∀x∈ti.zero,rR x=true
 zv:ti.agg=false→ ∀i z,P.info? t=some i→i.zero=some z→rR z=true
 fts: ∀F,P.underlying t=some (.struct F)→ ∀(j t':Nat),ti.ft[j]? =some t'→ ∃f:Field,F[j]? =some f∧f.type=t'
structure bn(P:Program)(L:nO):Prop where
 ok: ∀t ti,L t=some ti→agH P t ti
def yh:Ex→Option Code
 | .normal=>none
 | .exit k=>some (.exit k)
 | .ret=>some .ret
def agK:LS→LoopState→Option Code→Prop
 | .Xb,s,p=>s= .ready∧p=none
 | .busy,s,_=>s= .busy
 | .dn e,s,p=>s= .done∧p=yh e∧p≠none
 | .exh,s,_=>s= .exhausted
def rP(E:Env)(t:Tok)(r:Nat)(ys:List (List AV))(v:Value):Prop:=
 (ys=[]∧v= .slice none 0 0)∨ ∃z b c e cells,v= .slice (some ⟨b,0,none⟩) ys.length c∧ys.length≤c∧c≤maxLen∧(ys.length=0→c=0)∧0<z∧(∀l∈ys,l.length=z)∧E.dx b=r∧
  E.h[b]? =some (.cells cells e (0,0))∧cells.size=c*z∧E.own b= .tok t∧ ∀o,E.aN b o↔o<ys.length*z
def EM:Value→Option Nat
 | .slice (some a) _ _=>some a.block
 |_=>none
def Key.tok:Key→Tok
 | .s d=> .n d
 | .o d=> .n d
def M6(z:Nat):Option (Nat×Nat)→Nat→Prop
 |some (i,off),q=>q=i*z+off
 |none,_=>False
def FO(E:Env)(t:Tok)(z:Nat)(sN:Option (Nat×Nat))(xs:List (List AV))(u:Nat→Value):Prop:=
 (∀(q r:Nat) (ys:List (List AV)),xs.flatten[q]? =some (.sl r ys)→ ¬M6 z sN q→rP E t r ys (u q))∧
 ∀(q q' r r':Nat) (ys C9:List (List AV)) (b:Nat),xs.flatten[q]? =some (.sl r ys)→xs.flatten[q']? =some (.sl r' C9)→ ¬M6 z sN q→ ¬M6 z sN q'→q≠q'→EM (u q)=some b→EM (u q')≠some b
def bz:List VK→List Value→Bool
 |[],[]=>true
 | .int k::r,.int k' _::q=>(k==k')&&bz r q
 | .str::r,.string _::q=>bz r q
 | .bool::r,.bool _::q=>bz r q
 |_,_=>false
def fx:List Value→Value
 |[x]=>x
 |l=> .agg l.toArray
def ES(p:OwK)(len:Nat×Nat)(ob:Option Obj)(xs:List (List AV))(u:Nat→Value):Prop:=
 match p with
 | .sl z=>0<z∧(∀l∈xs,l.length=z)∧xs.length=len.1∧len.1≤len.2∧len.2≤maxLen∧ ∃c e,ob=some (.cells c e (0,0))∧c.size=len.2*z∧ ∀(q:Nat) (a:AV),xs.flatten[q]? =some a→c[q]? =some (u q)
 | .mp ks st=>(∀l∈xs,l.length=ks.length+1)∧ ∃es clock,ob=some (.map es clock)∧(∀i z,st=some (i,z)→ ∃e,es[i]? =some e∧(e.born:Int)=z)∧es.size=xs.length∧(∀(i:Nat) (e:MapEntry),es[i]? =some e→e.born<clock)∧
   (∀(i j:Nat) (e e':MapEntry),es[i]? =some e→es[j]? =some e'→e.born=e'.born→i=j)∧
   ∀(i:Nat) (row:List AV) (e:MapEntry),xs[i]? =some row→es[i]? =some e→ ∃kv:List Value,bz ks kv=true∧row.take ks.length=kv.map .v∧e.key=fx kv∧u (i*(ks.length+1)+ks.length)=e.val∧ ∀j x,kv[j]? =some x→u (i*(ks.length+1)+j)=x
def ca(E:Env)(k:Key):Ob→Prop
 | .box cs=>E.live k∧ ∃c e,E.h[E.m k]? =some (.cells c e (0,0))∧E.own (E.m k)= .key k∧(∀o,¬E.aN (E.m k) o)∧c.size=cs.length∧
   ∀(q:Nat) (a:AV) (x:Value),cs[q]? =some a→c[q]? =some x→Cz E a x
 | .arr z xs=>E.live k∧E.len k=(xs.length,xs.length)∧0<z∧(∀l∈xs,l.length=z)∧xs.length≤maxLen∧ ∃c e,E.h[E.m k]? =some (.cells c e (0,0))∧E.own (E.m k)= .key k∧(∀o,¬E.aN (E.m k) o)∧c.size=xs.length*z∧
   (∀(q:Nat) (a:AV),xs.flatten[q]? =some a→cm a=true)∧ ∀(q:Nat) (a:AV) (x:Value),xs.flatten[q]? =some a→c[q]? =some x→Cz E a x
 | .ow p sN xs=>E.live k∧E.own (E.m k)= .key k∧(∀o,¬E.aN (E.m k) o)∧(∀(q:Nat) (a:AV),xs.flatten[q]? =some a→cm a=true)∧ ∃u:Nat→Value,ES p (E.len k) E.h[E.m k]? xs u∧
   (∀(q:Nat) (a:AV),xs.flatten[q]? =some a→Cz E a (u q))∧FO E k.tok p.z sN xs u
 | .lp n t ps nI body st=>E.live k∧E.own (E.m k)= .key k∧(∀o,¬E.aN (E.m k) o)∧ ∃rec:Loop,E.h[E.m k]? =some (.loop rec)∧rec.tmps.size=n.2∧rec.params.toList=ps∧rec.assign=nI ()∧rec.body=body ()∧agK st rec.state rec.pending∧E.m k=n.1∧
   ∀d x,look d t=some x→Cz E x (rec.tmps.getD d undef)
def are(E:Env)(a:Act)(f:Fr):Prop:=a.tmps.size=f.n∧ ∀d x,look d f.t=some x→Cz E x (a.tmps.getD d undef)
def kS(E:Env):List Act→List Fr→Prop
 |[],[]=>True
 |a::aa,f::fs=>are E a f∧kS E aa fs
 |_,_=>False
def Dfs(n0:Nat)(E:Env)(l:List Deferred):Prop:=
 ∃Bs:List Nat,l=Bs.map (fun B=>{target:= .collected B,args:= #[]})∧Bs.Nodup∧ ∀B∈Bs,E.h[B]? =some (.deferred (some []))∧E.own B= .jF∧n0≤B
def QC(a:Act)(up:List Act):List Deferred:=a.defers++(up.map (·.defers)).flatten
def iz(w0 w:World):Prop:=w.os=w0.os∧w.tape=w0.tape∧w.output=w0.output
theorem iz.refl(w:World):iz w w:=⟨rfl,rfl,rfl⟩
theorem iz.trans{a b c:World}(h:iz a b)(k:iz b c):iz a c:=⟨k.1.trans h.1,k.2.1.trans h.2.1,k.2.2.trans h.2.2⟩
def di(o:Own):Prop:=o.di=true
def GOk(g:Nat→Option Ob):Prop:= ∀i ob,g i=some ob→match ob with
 | .box cs=> ∀(q:Nat) (a:AV),cs[q]? =some a→cm a=true
 | .arr _ _=>True
 | .ow .. =>False
 | .lp .. =>False
theorem rP.mono{E E':Env}{t:Tok}{r:Nat}{ys:List (List AV)}{v:Value}(h:rP E t r ys v)(hn: ∀b,E.own b= .tok t→b<E.h.size→E'.own b= .tok t∧E'.h[b]? =E.h[b]? ∧(∀o,E'.aN b o↔E.aN b o)∧E'.dx b=E.dx b):rP E' t r ys v:=by
 rcases h with h|⟨z,b,c,e,cells,h1,h2,h3,h4,h5,h6,h7,h8,h9,Ah,Iw⟩
 ·exact .inl h
 ·obtain⟨k1,k2,k3,k4⟩:=hn b Ah (Array.getElem?_eq_some_iff.1 h8).1
  exact .inr ⟨z,b,c,e,cells,h1,h2,h3,h4,h5,h6,k4.trans h7,k2.trans h8,h9,k1,fun o=>(k3 o).trans (Iw o)⟩
theorem FO.mono{E E':Env}{t:Tok}{z:Nat}{sN:Option (Nat×Nat)}{xs:List (List AV)}{u:Nat→Value}(h:FO E t z sN xs u)(hn: ∀b,E.own b= .tok t→b<E.h.size→E'.own b= .tok t∧E'.h[b]? =E.h[b]? ∧(∀o,E'.aN b o↔E.aN b o)∧E'.dx b=E.dx b):FO E' t z sN xs u:=
 ⟨fun q r ys hq hl=>(h.1 q r ys hq hl).mono hn,h.2⟩
theorem yZ{E E':Env}{k:Key}{p:OwK}{sN:Option (Nat×Nat)}{xs:List (List AV)}(hl:E.live k→E'.live k)(hm:E'.m k=E.m k)(ke:E'.len k=E.len k)(ho:E.own (E.m k)= .key k→E'.own (E.m k)= .key k∧E'.h[E.m k]? =E.h[E.m k]? ∧ ∀o,E'.aN (E.m k) o→E.aN (E.m k) o)
  (hc: ∀(a:AV) (x:Value),cm a=true→Cz E a x→Cz E' a x)(hn: ∀b,E.own b= .tok k.tok→b<E.h.size→E'.own b= .tok k.tok∧E'.h[b]? =E.h[b]? ∧(∀o,E'.aN b o↔E.aN b o)∧E'.dx b=E.dx b)(h:ca E k (.ow p sN xs)):ca E' k (.ow p sN xs):=by
 obtain⟨h1,h2,h3,h4,u,h5,h6,h7⟩:=h
 obtain⟨k1,k2,k3⟩:=ho h2
 exact⟨hl h1,by rw[hm];exact k1,fun o=>by rw[hm];exact fun hh=>h3 o (k3 o hh),h4,u,by rw[hm,ke,k2];exact h5,fun q a ha=>hc a _ (h4 q a ha) (h6 q a ha),h7.mono hn⟩
structure bq(E0 E:Env)(w0 w:World)(s:St)(a:Act):Prop where
 heap:w.heap=E.h
 wf:Wf E
 I8:Dfs E0.h.size E (QC a E0.up)
 up:kS E E0.up s.up
 sz:a.tmps.size=s.n
 tm: ∀d x,look d s.t=some x→aY s (dF s d)→Cz E x (a.tmps.getD d undef)
 cu: ∀d q,look d s.c=some q→ ¬aY s q→a.tmps.getD d undef=undef
 bx: ∀d ob,look d s.b=some ob→ca E (.s d) ob
 lv: ∀d,E.live (.s d)→ ∃ob,look d s.b=some ob
 gx: ∀i ob,s.g i=some ob→ca E (.o i) ob
 gl: ∀i,E.live (.o i)↔i<s.nx
 ext:Ext di E0 E
 xz: ∀b,b<E0.h.size→(E.own b).loc=false
 same:iz w0 w
 gk:GOk s.g
 nl: ∀d,¬E0.live (.s d)
 ng: ∀b,¬di (E.own b)
 lo:s.fl=true→ ∀b,¬di (E0.own b)∧ ∀o,E0.aN b o→E0.dx b<1000000
theorem BC{s:St}: ∀{q p:Path},tP q p=true→aY s p→aY s q
 |[],_,_,_=>trivial
 |(d,w)::r,[],h,_=>by simp[tP]at h
 |(d,w)::r,(e,v)::p,h,hp=>by
  simp only[tP,Bool.and_eq_true]at h
  have h1:d=e:=dg h.1.1
  have h2:w=v:=by simpa using h.1.2
  subst h1;subst h2
  exact⟨hp.1,BC h.2 hp.2⟩
theorem bq.slot{E0 E:Env}{w0 w:World}{s:St}{a:Act}(h:bq E0 E w0 w s a){p:Path}(hp:aY s p)(d:Nat):Cz E (DD s p d) (a.tmps.getD d undef):=by
 unfold DD
 cases h1:look d s.t with
 |none=>exact .any _
 |some x=>
  have ht:=h.tm d x h1
  unfold dF at ht
  cases h2:look d s.c with
  |none=>rw[h2]at ht;exact ht trivial
  |some q=>
   rw[h2]at ht
   dsimp only
   by_cases h3:tP q p=true
   ·rw[h3];exact ht (BC h3 hp)
   ·simp only[h3,cond_false];exact .any _
theorem bq.ev{E0 E:Env}{w0 w:World}{s:St}{a:Act}(h:bq E0 E w0 w s a){p:Path}(hp:aY s p)(x:Operand):Cz E (bL s p x) (a.eval x):=by
 cases x with
 |tmp d=>exact h.slot hp d
 |const x=>exact .v _
 |global g=>exact .any _
 |func f=>exact .fn _ [] [] rfl (fun q a y h _=>by simp at h)
theorem lF{s s':St}: ∀{p:Path},(∀d,Ir d p=true→look d s'.t=look d s.t)→(aY s' p↔aY s p)
 |[],_=>Iff.rfl
 |(d,w)::r,h=>by
  simp only[aY]
  rw[h d (by simp[Ir]),lF (p:=r) (fun e he=>h e (by simp[Ir,he]))]
theorem zp{c:List (Nat×Path)}{d e:Nat}{q:Path}(h:look d c=some q)(he:Ir e q=true):Qe e c=true:=by
 induction c with
 |nil=>simp[look]at h
 |cons x r ih=>
  obtain⟨k,y⟩:=x
  rw[aB]at h
  by_cases h1:k=d
  ·rw[if_pos h1]at h;cases h;simp[Qe,he]
  ·rw[if_neg h1]at h;simp[Qe,ih h]
theorem vk(a:Act)(d e:Nat)(x:Value)(hd:d<a.tmps.size):(a.put (some d) x).tmps.getD e undef=if e=d then x else a.tmps.getD e undef:=by
 simp only[Act.put,Array.getD_eq_getD_getElem?]
 by_cases h:e=d
 ·subst h;simp[hd]
 ·rw[if_neg h,Array.getElem?_setIfInBounds_ne (Ne.symm h)]
theorem bq.put{E0 E:Env}{w0 w:World}{s:St}{a:Act}(h:bq E0 E w0 w s a){p:Path}{dst:Option Nat}(hd:wm s dst=true)(vT: ∀d,dst=some d→Ir d p=false){r:AV}{x:Value}
  (hx:(aY s p∧Cz E r x)∨(¬aY s p∧x=undef)):bq E0 E w0 w (s.put p dst r) (a.put dst x):=by
 cases dst with
 |none=>exact h
 |some d=>
  simp only[wm,Bool.and_eq_true,Bool.not_eq_true']at hd
  have hd1:d<s.n:=by simpa using hd.1
  have hdn:d<a.tmps.size:=by rw[h.sz];exact hd1
  have Fy: ∀e q,look e s.c=some q→Ir d q=false:=fun e q hq=>by
   by_cases hh:Ir d q=true
   ·rw[zp hq hh]at hd;exact absurd hd.2 (by simp)
   ·simpa using hh
  have T8: ∀q:Path,Ir d q=false→(aY (s.put p (some d) r) q↔aY s q):=fun q hq=>
   lF fun e he=>by
    have:e≠d:=fun hh=>by subst hh;rw[he]at hq;cases hq
    exact vP r this _
  have hp:=T8 p (vT d rfl)
  have hc: ∀e,e≠d→look e (s.put p (some d) r).c=look e s.c:=fun e he=>by
   cases p with
   |nil=>exact Km he _
   |cons _ _=>exact vP _ he _
  have hlp: ∀e,e≠d→dF (s.put p (some d) r) e=dF s e:=fun e he=>by unfold dF;rw[hc e he]
  have X5: ∀e,Ir d (dF s e)=false:=fun e=>by
   unfold dF
   cases h2:look e s.c with
   |none=>rfl
   |some q=>exact Fy e q h2
  refine⟨h.heap,h.wf,h.I8,h.up,by simp[Act.put,St.put,h.sz],?_,?_,h.bx,h.lv,h.gx,h.gl,h.ext,h.xz,h.same,h.gk,h.nl,h.ng,h.lo⟩
  ·intro e y he hpe
   rw[vk a d e x hdn]
   by_cases QZ:e=d
   ·subst QZ
    rw[if_pos rfl]
    have:look e (cR e r s.t)=some r:=bI e r s.t
    have pA:look e (cR e r s.t)=some y:=he
    rw[this]at pA;cases pA
    rcases hx with hx|hx
    ·exact hx.2
    ·exfalso
     cases p with
     |nil=>exact hx.1 trivial
     |cons p0 pr=>
      have:dF (s.put (p0::pr) (some e) r) e=p0::pr:=by unfold dF;rw[show look e (s.put (p0::pr) (some e) r).c=some (p0::pr)from bI e _ _]
      rw[this]at hpe
      exact hx.1 (hp.1 hpe)
   ·rw[if_neg QZ]
    rw[hlp e QZ]at hpe
    exact h.tm e y (by rw[←vP r QZ s.t];exact he) ((T8 _ (X5 e)).1 hpe)
  ·intro e q he hpe
   rw[vk a d e x hdn]
   by_cases QZ:e=d
   ·subst QZ
    rw[if_pos rfl]
    cases p with
    |nil=>
     have:look e (del e s.c)=none:=by rw[fQ,if_pos rfl]
     have pA:look e (del e s.c)=some q:=he
     rw[this]at pA;cases pA
    |cons p0 pr=>
     have:look e (s.put (p0::pr) (some e) r).c=some (p0::pr):=bI e _ _
     rw[this]at he;cases he
     rcases hx with hx|hx
     ·exact absurd (hp.2 hx.1) hpe
     ·exact hx.2
   ·rw[if_neg QZ]
    rw[hc e QZ]at he
    exact h.cu e q he (fun hh=>hpe ((T8 q (Fy e q he)).2 hh))
end Ab
namespace Ab
open Go
variable{P:Program}{L:nO}{E0 E:Env}{w0 w:World}{s:St}{a:Act}{p:Path}
theorem run_v{α:Type}(P:Program)(s:Sem Value)(w w':World)(x:Value)(h:s.run P w= .ok x w'):(do pure (.value (←s)):Sem Next).run P w= .ok (.value x) w':=by
 simp[go_sem,h]
theorem eK{t:Nat}{d:TypeDesc}(h:P.underlying t=some d)(w:World):(underlying t).run P w= .ok d w:=by simp[underlying,go_sem,h]
theorem kA{t:Nat}{i:TypeInfo}(h:P.info? t=some i)(w:World):(Go.sizeOf t).run P w= .ok i.size w:=by simp[Go.sizeOf,typeInfo,go_sem,h]
theorem dX(b o k:Nat):(⟨b,o,none⟩:Addr).add k=⟨b,o+k,none⟩:=by unfold Addr.add;split<;>simp_all
theorem lB(hL:bn P L){t f o:Nat}(hf:fS L t f=some o)(b q:Nat)(w:World):(Instr.fieldAt t (.pointer (some ⟨b,q,none⟩)) f).run P w= .ok (.pointer (some ⟨b,q+o,none⟩)) w:=by
 unfold fS at hf
 cases ht:L t with
 |none=>simp[ht]at hf
 |some ti=>
  obtain⟨k,size,bytes,zero⟩:=ti
  rw[ht]at hf
  cases k with
  |cU fs=>
   obtain⟨i,d,z,h1,h2,h3,h4,h5,h6,F,h7,h8,h9⟩:=(hL.ok t _ ht).ex
   dsimp only at hf
   cases hfs:fs[f]? with
   |none=>simp[hfs]at hf
   |some oz=>
    obtain⟨o',z'⟩:=oz
    rw[hfs]at hf
    dsimp only at hf
    by_cases hz:z'=0
    ·subst hz;simp at hf
    ·rw[xZ hz]at hf
     simp only[cond_false,Option.some.injEq]at hf
     subst hf
     obtain⟨fd,i',g1,g2,g3,g4⟩:=h9 f o' z' hfs
     subst h7
     simp[Instr.fieldAt,fieldPlace,underlying,Go.sizeOf,typeInfo,Instr.sureAddr,go_sem,h6,g1,g3,g4,hz,g2,dX]
  |_=>simp at hf
theorem run_loadCells(P:Program)(w:World)(b o:Nat): ∀(n i:Nat) (acc:Array Value) (ys:List Value),ys.length=n→(∀(q:Nat) (y:Value),ys[q]? =some y→aR w.heap b (o+i+q)=some y)→
  (loadCellsFrom ⟨b,o,none⟩ i n acc).run P w= .ok (acc++ys.toArray) w
 |0,i,acc,ys,hl,h=>by
  have:ys=[]:=List.eq_nil_of_length_eq_zero hl
  subst this
  simp[loadCellsFrom,go_sem]
 |n+1,i,acc,ys,hl,h=>by
  cases ys with
  |nil=>simp at hl
  |cons y r=>
   have h0:w.cell? ⟨b,o+i,none⟩=some y:=by rw[jr];simpa using h 0 y (by simp)
   have ih:=run_loadCells P w b o n (i+1) (acc.push y) r (by simpa using hl) (fun q z hz=>by have:=h (q+1) z (by simpa using hz);rw[show o+(i+1)+q=o+i+(q+1)from by omega];exact this)
   unfold loadCellsFrom
   simp only[dX]
   rw[show((do let v←load ⟨b,o+i,none⟩;loadCellsFrom ⟨b,o,none⟩ (i+1) n (acc.push v)):Sem (Array Value)).run P w=(loadCellsFrom ⟨b,o,none⟩ (i+1) n (acc.push y)).run P w from by simp[go_sem,load,h0,Sem.run,Result.andThen]]
   rw[ih]
   simp
theorem iV(hL:bn P L){t:Nat}{ti:TI}(ht:L t=some ti){cs:List AV}{off b o:Nat}{r:AV}(jl:part ti cs off=some r)
  (I6: ∀(q:Nat) (a:AV),cs[q]? =some a→ ∃y,aR w.heap b (o+q)=some y∧Cz E a y):
  ∃x,(Instr.loadAt t (.pointer (some ⟨b,o+off,none⟩))).run P w= .ok x w∧Cz E r x:=by
 obtain⟨i,d,z,h1,h2,h3,h4,h5,h6,h7⟩:=(hL.ok t _ ht).ex
 unfold part at jl
 cases hle:lL (off+ti.size) cs.length with
 |false=>simp[hle]at jl
 |true=>
  have ae8:off+ti.size≤cs.length:=by simpa using hle
  rw[hle,cond_true]at jl
  cases sW:ti.agg with
  |true=>
   rw[sW,cond_true]at jl
   cases jl
   have hex: ∀n,n≤ti.size→ ∃ys:List Value,ys.length=n∧(∀(q:Nat) (y:Value),ys[q]? =some y→aR w.heap b (o+off+q)=some y)∧ ∀(q:Nat) (a:AV) (y:Value),(cut cs off ti.size)[q]? =some a→ys[q]? =some y→Cz E a y:=by
    intro n
    induction n with
    |zero=>intro _;exact⟨[],rfl,fun q y h=>by simp at h,fun q a y _ h=>by simp at h⟩
    |succ n ih=>
     intro hn
     obtain⟨ys,hl,hc,hz⟩:=ih (by omega)
     obtain⟨y,zt,hy2⟩:=I6 (off+n) (cs[off+n]'(by omega)) (by simp)
     refine⟨ys++[y],by simp[hl],fun q y' hq=>?_,fun q a' y' ha hq=>?_⟩
     ·by_cases aU:q<n
      ·exact hc q y' (by rw[List.getElem?_append_left (by omega)]at hq;exact hq)
      ·have:q=n:=by
        have:=(List.getElem?_eq_some_iff.1 hq).1
        simp at this;omega
       subst this
       rw[List.getElem?_append_right (by omega)]at hq
       simp[hl]at hq;subst hq
       rw[Nat.add_assoc];exact zt
     ·by_cases aU:q<n
      ·exact hz q a' y' ha (by rw[List.getElem?_append_left (by omega)]at hq;exact hq)
      ·have:q=n:=by
        have:=(List.getElem?_eq_some_iff.1 hq).1
        simp at this;omega
       subst this
       rw[List.getElem?_append_right (by omega)]at hq
       simp[hl]at hq;subst hq
       simp only[cut,List.getElem?_take,List.getElem?_drop]at ha
       rw[if_pos (by omega)]at ha
       rw[List.getElem?_eq_getElem (by omega)]at ha
       cases ha
       exact hy2
   obtain⟨ys,hl,hc,hz⟩:=hex ti.size (Nat.le_refl _)
   refine⟨.agg ys.toArray,?_,.agg _ ys (by rw[hl];simp[cut];omega) hz⟩
   have OJ:=run_loadCells P w b (o+off) ti.size 0 #[] ys hl (by simpa using hc)
   have Eg: ∀w,(isAgg t).run P w= .ok true w:=by
    intro w
    unfold TI.agg at sW
    cases hk:ti.k with
    |cU fs=>rw[hk]at h7;obtain⟨F,h7,_⟩:=h7;subst h7;simp[isAgg,underlying,go_sem,h6]
    |arr n e=>rw[hk]at h7;subst h7;simp[isAgg,underlying,go_sem,h6]
    |_=>rw[hk]at sW;simp at sW
   simp only[Instr.loadAt,Instr.sureAddr,loadVar,loadCells]
   simp[go_sem,Eg,Go.sizeOf,typeInfo,h1,h2,OJ]
  |false=>
   rw[sW,cond_false]at jl
   cases hg:cs[off]? with
   |none=>rw[hg]at jl;simp at jl
   |some a0=>
    rw[hg]at jl
    simp only[Option.some.injEq]at jl
    subst jl
    obtain⟨y,zt,hy2⟩:=I6 off a0 hg
    refine⟨y,?_,hy2⟩
    have Eg: ∀w,(isAgg t).run P w= .ok false w:=by
     intro w
     unfold TI.agg at sW
     cases hk:ti.k with
     |cU fs=>rw[hk]at sW;simp at sW
     |arr n e=>rw[hk]at sW;simp at sW
     |sc=>rw[hk]at h7;dsimp only at h7;cases d<;>simp_all [isAgg,underlying,go_sem]
     |_=>rw[hk]at h7;dsimp only at h7;subst h7;simp[isAgg,underlying,go_sem,h6]
    have h0:w.cell? ⟨b,o+off,none⟩=some y:=by rw[jr];exact zt
    simp[Instr.loadAt,Instr.sureAddr,loadVar,go_sem,Eg,load,h0,Sem.run]
theorem oL{a:AV}{x:Value}(h:Cz E a x){k:Nat}(hk:zV a=some k):x.cells.size=k∧(cellsOf a).length=k∧ ∀(q:Nat) (a':AV) (y:Value),(cellsOf a)[q]? =some a'→x.cells[q]? =some y→Cz E a' y:=by
 have one: ∀(a:AV) (x:Value),Cz E a x→x.cells= #[x]→cellsOf a=[a]→x.cells.size=1∧(cellsOf a).length=1∧ ∀(q:Nat) (a':AV) (y:Value),(cellsOf a)[q]? =some a'→x.cells[q]? =some y→Cz E a' y:=
  fun a x h hx ha=>by
   rw[hx,ha]
   refine⟨rfl,rfl,fun q a' y h1 h2=>?_⟩
   cases q with
   |zero=>simp at h1 h2;subst h1;subst h2;exact h
   |succ q=>simp at h1
 cases h with
 |any x=>simp[zV]at hk
 |fT=>simp[zV]at hk
 |v x=>
  simp only[zV,Option.some.injEq]at hk
  subst hk
  cases x with
  |agg c=>
   refine⟨rfl,by simp[cellsOf,Value.cells],fun q a' y h1 h2=>?_⟩
   simp only[cellsOf,List.getElem?_map,Array.getElem?_toList]at h1
   simp only[Value.cells]at h2
   rw[h2]at h1
   simp at h1;subst h1;exact .v _
  |_=>exact one _ _ (.v _) rfl rfl
 |agg cs ys hl hq=>
  simp only[zV,Option.some.injEq]at hk
  subst hk
  exact⟨by simp[Value.cells,hl],rfl,fun q a' y h1 h2=>hq q a' y h1 (by simpa[Value.cells]using h2)⟩
 |nA r A c=>cases hk;exact one _ _ (.nA _ _ _) rfl rfl
 |sl r xs z b o c u h1 h2 h3 h4 h5 h6 h7 h8 h9 Ah=>cases hk;exact one _ _ (.sl r xs z b o c u h1 h2 h3 h4 h5 h6 h7 h8 h9 Ah) rfl rfl
 |sX r t=>cases hk;exact one _ _ (.sX _ _) rfl rfl
 |gs r t xs z b c e cells u h1 h2 h3 h4 h5 h6 h7 h8 h9 Ah Iw h12 h13=>cases hk;exact one _ _ (.gs r t xs z b c e cells u h1 h2 h3 h4 h5 h6 h7 h8 h9 Ah Iw h12 h13) rfl rfl
 |aO r cs off b o u h1 h2 h3 h4 h5=>cases hk;exact one _ _ (.aO r cs off b o u h1 h2 h3 h4 h5) rfl rfl
 |ptr k off hl=>cases hk;exact one _ _ (.ptr _ _ hl) rfl rfl
 |ia k n h1 h2 h3 h4=>cases hk;exact one _ _ (.ia _ _ h1 h2 h3 h4) rfl rfl
 |cG k i off z hl=>cases hk;exact one _ _ (.cG _ _ _ _ hl) rfl rfl
 |mp k hl=>cases hk;exact one _ _ (.mp _ hl) rfl rfl
 |ar=>simp[zV]at hk
 |pV k hl=>cases hk;exact one _ _ (.pV _ hl) rfl rfl
 |bm f cs ys hl hi hq=>cases hk;exact one _ _ (.bm f cs ys hl hi hq) rfl rfl
 |nc r z xs x hz h=>
  cases hk
  have h':=h
  cases h with
  |aO=>exact one _ _ (.nc r z xs _ hz h') rfl rfl
 |fn f cap ys hl hq=>cases hk;exact one _ _ (.fn f cap ys hl hq) rfl rfl
theorem NG{n z:Nat}{xs:List (List AV)}{x:Value}(h:Cz E (.ar n z xs) x):Cz E (.agg xs.flatten) x∧xs.length=n∧(∀l∈xs,l.length=z)∧bZ xs.flatten=true:=by
 cases h with
 |ar _ _ _ ys hn hz hl hi hq=>exact⟨.agg _ ys (by rw[hl,aD hz,hn]) hq,hn,hz,wW hi⟩
theorem Ve{n z:Nat}{xs:List (List AV)}{x:Value}(h:Cz E (.agg xs.flatten) x)(hn:xs.length=n)(hz: ∀l∈xs,l.length=z)(hi: ∀(q:Nat) (a:AV),xs.flatten[q]? =some a→cm a=true):Cz E (.ar n z xs) x:=by
 cases h with
 |agg _ ys hl hq=>exact .ar n z xs ys hn hz (by rw[hl,aD hz,hn]) hi hq
def Row(E:Env)(cs:List AV)(c:Array Value):Prop:=c.size=cs.length∧ ∀(q:Nat) (a:AV) (y:Value),cs[q]? =some a→c[q]? =some y→Cz E a y
theorem pR(off:Nat): ∀(vs:List Value) (k:Nat) (c:Array Value),off+k+vs.length≤c.size→
  ((vs.zipIdx k).foldl (fun cs (x,j)=>cs.setIfInBounds (off+j) x) c).size=c.size∧
  ∀q,((vs.zipIdx k).foldl (fun cs (x,j)=>cs.setIfInBounds (off+j) x) c)[q]? =if off+k≤q∧q<off+k+vs.length then vs[q - (off+k)]? else c[q]?
 |[],k,c,_=>⟨rfl,fun q=>by simp;omega⟩
 |v::r,k,c,h=>by
  simp only[List.length_cons]at h
  obtain⟨h1,h2⟩:=pR off r (k+1) (c.setIfInBounds (off+k) v) (by simp;omega)
  simp only[List.zipIdx_cons,List.foldl_cons]
  refine⟨by rw[h1];simp,fun q=>?_⟩
  rw[h2]
  by_cases hq:q=off+k
  ·subst hq
   rw[if_neg (by omega),if_pos ⟨by omega,by simp⟩]
   rw[Array.getElem?_setIfInBounds_self,if_pos (by omega)];simp
  ·rw[Array.getElem?_setIfInBounds_ne (by omega)]
   by_cases aU:off+k≤q∧q<off+k+(r.length+1)
   ·rw[if_pos ⟨by omega,by omega⟩,if_pos (by simpa using aU)]
    rw[show q - (off+k)=(q - (off+(k+1)))+1 from by omega]
    simp
   ·rw[if_neg (by omega),if_neg (by simpa using aU)]
theorem xP{cs vs:List AV}{o q:Nat}(h:o+vs.length≤cs.length):(bD cs o vs)[q]? =if o≤q∧q<o+vs.length then vs[q - o]? else cs[q]? :=by
 unfold bD
 by_cases h1:q<o
 ·rw[if_neg (by omega),List.append_assoc,List.getElem?_append_left (by simp;omega),List.getElem?_take,if_pos h1]
 ·rw[List.append_assoc,List.getElem?_append_right (by simp;omega)]
  have hm:min o cs.length=o:=by omega
  simp only[List.length_take,hm]
  by_cases h2:q<o+vs.length
  ·rw[if_pos ⟨by omega,h2⟩,List.getElem?_append_left (by omega)]
  ·rw[if_neg (by omega),List.getElem?_append_right (by omega),List.getElem?_drop]
   congr 1;omega
theorem kq{cs vs:List AV}{o:Nat}(h:o+vs.length≤cs.length):(bD cs o vs).length=cs.length:=by
 unfold bD;simp;omega
theorem Row.bD{cs vs:List AV}{c:Array Value}{o:Nat}{ys:List Value}(h:Row E cs c)(ho:o+vs.length≤cs.length)(hl:ys.length=vs.length)
  (hy: ∀(q:Nat) (a:AV) (y:Value),vs[q]? =some a→ys[q]? =some y→Cz E a y):Row E (Ab.bD cs o vs) (ys.zipIdx.foldl (fun cs (x,j)=>cs.setIfInBounds (o+j) x) c):=by
 obtain⟨h1,h2⟩:=pR o ys 0 c (by rw[h.1];omega)
 refine⟨by rw[h1,kq ho];exact h.1,fun q a y ha hq=>?_⟩
 rw[xP ho]at ha
 rw[h2]at hq
 by_cases hc:o≤q∧q<o+vs.length
 ·rw[if_pos hc]at ha
  rw[if_pos (by simpa[hl]using hc)]at hq
  exact hy _ a y ha (by simpa using hq)
 ·rw[if_neg hc]at ha
  rw[if_neg (by simpa[hl]using hc)]at hq
  exact h.2 q a y ha hq
def wD(E:Env)(ps:List (Nat×AV))(vs:List (Nat×Value)):Prop:=ps.length=vs.length∧ ∀(q:Nat) (a:Nat×AV) (y:Nat×Value),ps[q]? =some a→vs[q]? =some y→a.1=y.1∧Cz E a.2 y.2
theorem wD.cons{p:Nat×AV}{ps:List (Nat×AV)}{vs:List (Nat×Value)}(h:wD E (p::ps) vs): ∃y ys,vs=y::ys∧p.1=y.1∧Cz E p.2 y.2∧wD E ps ys:=by
 cases vs with
 |nil=>simp[wD]at h
 |cons y ys=>
  have h0:=h.2 0 p y (by simp) (by simp)
  exact⟨y,ys,rfl,h0.1,h0.2,by have:=h.1;simpa using this,fun q a y ha hy=>h.2 (q+1) a y (by simpa using ha) (by simpa using hy)⟩
theorem En{fs:List (Nat×Nat)}{place:Nat→Option (Nat×Nat)}(hp: ∀j o z,fs[j]? =some (o,z)→place j=some (o,z)):
  ∀{ps:List (Nat×AV)} {vs:List (Nat×Value)} {cs cs':List AV} {c:Array Value},wD E ps vs→Row E cs c→GH fs cs ps=some cs'→ ∃c',Instr.fill place c vs=some c'∧Row E cs' c'
 |[],vs,cs,cs',c,h,hr,hf=>by
  have:vs=[]:=List.eq_nil_of_length_eq_zero (by have:=h.1;simp at this;omega)
  subst this
  simp only[GH,Option.some.injEq]at hf;subst hf
  exact⟨c,by simp[Instr.fill],hr⟩
 |(i,a)::ps,vs,cs,cs',c,h,hr,hf=>by
  obtain⟨⟨i',y⟩,ys,rfl,h1,h2,h3⟩:=h.cons
  dsimp only at h1 h2
  subst h1
  simp only[GH]at hf
  cases hfs:fs[i]? with
  |none=>rw[hfs]at hf;simp at hf
  |some oz=>
   obtain⟨o,z⟩:=oz
   rw[hfs]at hf
   dsimp only at hf
   cases hk:zV a with
   |none=>rw[hk]at hf;simp at hf
   |some k=>
    rw[hk]at hf
    dsimp only at hf
    cases hb:cS k z&&lL (o+z) cs.length with
    |false=>rw[hb]at hf;simp at hf
    |true=>
     rw[hb,cond_true]at hf
     simp only[Bool.and_eq_true]at hb
     have hkz:k=z:=dg hb.1
     have hle:o+z≤cs.length:=by simpa using hb.2
     obtain⟨c1,c2,c3⟩:=oL h2 hk
     have mE:=hr.bD (o:=o) (vs:=cellsOf a) (ys:=y.cells.toList) (by omega) (by simp;omega) (fun q a' y' h1 h2=>c3 q a' y' h1 (by simpa using h2))
     obtain⟨c',g1,g2⟩:=En hp h3 mE hf
     refine⟨c',?_,g2⟩
     simp only[Instr.fill,hp i o z hfs]
     rw[if_neg (by simp only[Bool.or_eq_true,bne_iff_ne,decide_eq_true_eq,ne_eq,not_or,Decidable.not_not];exact⟨by omega,by rw[hr.1];omega⟩)]
     rw[←g1]
     congr 1
     rw[←Array.foldl_toList]
     simp
theorem BV{z:Nat}:
  ∀{ps:List (Nat×AV)} {vs:List (Nat×Value)} {cs cs':List AV} {c:Array Value},wD E ps vs→Row E cs c→om z cs ps=some cs'→ ∃c',Instr.fill (fun i=>some (i*z,z)) c vs=some c'∧Row E cs' c'
 |[],vs,cs,cs',c,h,hr,hf=>by
  have:vs=[]:=List.eq_nil_of_length_eq_zero (by have:=h.1;simp at this;omega)
  subst this
  simp only[om,Option.some.injEq]at hf;subst hf
  exact⟨c,by simp[Instr.fill],hr⟩
 |(i,a)::ps,vs,cs,cs',c,h,hr,hf=>by
  obtain⟨⟨i',y⟩,ys,rfl,h1,h2,h3⟩:=h.cons
  dsimp only at h1 h2
  subst h1
  simp only[om]at hf
  cases hk:zV a with
  |none=>rw[hk]at hf;simp at hf
  |some k=>
   rw[hk]at hf
   dsimp only at hf
   cases hb:cS k z&&lL (i*z+z) cs.length with
   |false=>rw[hb]at hf;simp at hf
   |true=>
    rw[hb,cond_true]at hf
    simp only[Bool.and_eq_true]at hb
    have hkz:k=z:=dg hb.1
    have hle:i*z+z≤cs.length:=by simpa using hb.2
    obtain⟨c1,c2,c3⟩:=oL h2 hk
    have mE:=hr.bD (o:=i*z) (vs:=cellsOf a) (ys:=y.cells.toList) (by omega) (by simp;omega) (fun q a' y' h1 h2=>c3 q a' y' h1 (by simpa using h2))
    obtain⟨c',g1,g2⟩:=BV h3 mE hf
    refine⟨c',?_,g2⟩
    simp only[Instr.fill]
    rw[if_neg (by simp only[Bool.or_eq_true,bne_iff_ne,decide_eq_true_eq,ne_eq,not_or,Decidable.not_not];exact⟨by omega,by rw[hr.1];omega⟩)]
    rw[←g1]
    congr 1
    rw[←Array.foldl_toList]
    simp
theorem JC{α β:Type}(P:Program){g:α→Sem β}{h:α→β}(w:World): ∀(l:List α),(∀x∈l,(g x).run P w= .ok (h x) w)→(l.mapM g).run P w= .ok (l.map h) w
 |[],_=>by simp[go_sem]
 |x::r,hx=>by
  have h1:=hx x (by simp)
  have h2:=JC P w r (fun y hy=>hx y (by simp[hy]))
  rw[List.mapM_cons]
  simp[go_sem,h1,h2]
theorem JD{α β:Type}(P:Program){g:α→Sem β}{h:α→β}(w:World)(l:Array α)(hx: ∀x∈l.toList,(g x).run P w= .ok (h x) w):(l.mapM g).run P w= .ok (l.map h) w:=by
 rw[Array.mapM_eq_mapM_toList]
 have:=JC P w l.toList hx
 simp[go_sem,this]
 exact Array.toList_inj.1 (by simp)
theorem run_build(hL:bn P L){t:Nat}{ps:List (Nat×AV)}{r:AV}(hr:MT L t ps=some r){vs:Array (Nat×Value)}(hv:wD E ps vs.toList)(w:World):
  ∃x,(Instr.build t vs).run P w= .ok x w∧Cz E r x:=by
 unfold MT at hr
 cases ht:L t with
 |none=>rw[ht]at hr;simp at hr
 |some ti=>
  have jU:=hL.ok t ti ht
  rw[ht]at hr
  obtain⟨k,size,bytes,zero⟩:=ti
  cases k with
  |cU fs=>
   dsimp only at hr
   obtain⟨i,d,z,h1,h2,h3,h4,h5,h6,F,h7,h8,h9⟩:=jU.ex
   cases hf:GH fs (zero.map .v) ps with
   |none=>rw[hf]at hr;simp at hr
   |some cs=>
    rw[hf]at hr
    simp only[Option.some.injEq]at hr
    subst hr;subst h7
    dsimp only at h5 h8 h9
    let N8:Field→Nat:=fun f=>((P.info? f.type).map (·.size)).getD 0
    have hpl:((F.mapM fun f=>do pure (f.offset,←Go.sizeOf f.type):Sem (Array (Nat×Nat)))).run P w= .ok (F.map fun f=>(f.offset,N8 f)) w:=by
     refine JD P w F fun f hfm=>?_
     obtain⟨j,hj,he⟩:=List.getElem_of_mem hfm
     have X4:j<fs.length:=by rw[←h8];simpa using hj
     obtain⟨f',i',g1,g2,g3,g4⟩:=h9 j (fs[j]).1 (fs[j]).2 (List.getElem?_eq_getElem X4)
     have:f'=f:=by
      have:F[j]? =some f:=by rw[←he];simp
      rw[this]at g1;cases g1;rfl
     subst this
     simp[go_sem,Go.sizeOf,typeInfo,g3,N8]
    have mE:Row E (zero.map AV.v) z.cells:=by
     refine⟨by rw[List.length_map,←h5];simp,fun q a y ha hy=>?_⟩
     rw[←h5,List.getElem?_map,Array.getElem?_toList,hy]at ha
     simp at ha;subst ha;exact .v _
    obtain⟨c',g1,g2⟩:=En (place:=((F.map fun f=>(f.offset,N8 f))[·]?)) (fun j o zz hj=>by
     obtain⟨f',i',g1,g2,g3,g4⟩:=h9 j o zz hj
     simp[g1,g2,N8,g3,g4]) hv mE hf
    refine⟨.agg c',?_,?_⟩
    ·have hz: ∀w,(zeroValue t).run P w= .ok z w:=by intro w;simp[zeroValue,typeInfo,go_sem,h1,h4]
     have hu: ∀w,(underlying t).run P w= .ok (.struct F) w:=eK h6
     simp only[bind_pure_comp]at hpl
     unfold Instr.build
     simp only[Sem.run_bind,hz,hu,hpl,Result.andThen,bind_pure_comp]
     simp only[g1]
     rfl
    ·have:=Cz.agg (E:=E) cs c'.toList (by simpa using g2.1) (fun q a y ha hy=>g2.2 q a y ha (by simpa using hy))
     simpa using this
  |arr n e=>
   dsimp only at hr
   obtain⟨i,d,z,h1,h2,h3,h4,h5,h6,h7⟩:=jU.ex
   dsimp only at h5 h7
   subst h7
   cases he:L e with
   |none=>rw[he]at hr;simp at hr
   |some te=>
    rw[he]at hr
    dsimp only at hr
    obtain⟨ie,de,ze,g1,g2,_⟩:=(hL.ok e te he).ex
    cases hf:om te.size (zero.map .v) ps with
    |none=>rw[hf]at hr;simp at hr
    |some cs=>
     rw[hf]at hr
     simp only[Option.some.injEq]at hr
     subst hr
     have mE:Row E (zero.map AV.v) z.cells:=by
      refine⟨by rw[List.length_map,←h5];simp,fun q a y ha hy=>?_⟩
      rw[←h5,List.getElem?_map,Array.getElem?_toList,hy]at ha
      simp at ha;subst ha;exact .v _
     obtain⟨c',k1,k2⟩:=BV (z:=te.size) hv mE hf
     refine⟨.agg c',?_,?_⟩
     ·have hz: ∀w,(zeroValue t).run P w= .ok z w:=by intro w;simp[zeroValue,typeInfo,go_sem,h1,h4]
      have hu: ∀w,(underlying t).run P w= .ok (.array n e) w:=eK h6
      have hs: ∀w,(Go.sizeOf e).run P w= .ok te.size w:=fun w=>by rw[←g2];exact kA g1 w
      unfold Instr.build
      simp only[Sem.run_bind,hz,hu,hs,Result.andThen]
      simp only[k1]
      rfl
     ·have:=Cz.agg (E:=E) cs c'.toList (by simpa using k2.1) (fun q a y ha hy=>k2.2 q a y ha (by simpa using hy))
      simpa using this
  |_=>dsimp only at hr;simp at hr
theorem bG{x:Value}{k:Value}(h:Cz E (.v k) x):x=k:=by cases h;rfl
theorem Tk(h:bq E0 E w0 w s a)(hp:aY s p)(parts:List (Nat×Operand)):wD E (parts.map fun q=>(q.1,bL s p q.2)) (parts.map fun q=>(q.1,a.eval q.2)):=by
 refine⟨by simp,fun q x y hx hy=>?_⟩
 simp only[List.getElem?_map]at hx hy
 cases hq:parts[q]? with
 |none=>rw[hq]at hx;simp at hx
 |some z=>rw[hq]at hx hy;simp at hx hy;subst hx;subst hy;exact⟨rfl,h.ev hp _⟩
theorem La(a b:ByteArray):(a.toList==b.toList)=decide (a=b):=by
 have:a.toList=b.toList↔a=b:=⟨fun h=>by
  have ha:a.data.toList=b.data.toList:=by
   have e: ∀c:ByteArray,c.toList=c.data.toList:=fun c=>ByteArray.toList_eq c
   rw[←e,←e];exact h
  cases a;cases b;simp at ha;simp[ha],fun h=>by rw[h]⟩
 by_cases h:a=b
 ·subst h;simp
 ·have h': ¬a.toList=b.toList:=fun hh=>h (this.1 hh)
  simp[h,h']
theorem GK{op:BinOp}{t:Nat}{x y r:Value}(h:bin al op x y=some r)(w:World):(binOp op t x y).run P w= .ok r w:=by
 unfold bin at h
 split at h<;>first
  |(rename_i k a k' b
    cases hk:k==k' with
    |false=>rw[hk]at h;simp at h
    |true=>
     have hkk:k=k':=by simpa using hk
     subst hkk
     rw[hk,cond_true]at h
     cases h
     first
      |(simp[binOp,Op.intArith,Op.intCmp,go_sem,al];done)
      |(simp[binOp,Op.intArith,Op.intCmp,go_sem,al];rfl))
  |(cases h
    simp[binOp,Op.stringOp,go_sem,al,La]
    done)
  |(cases h
    simp[binOp,Op.stringOp,go_sem,al,La]
    rfl)
  |(simp at h)
theorem Cz.len{x:Value}{r:Nat}{xs:List (List AV)}(h:Cz E (.sl r xs) x): ∃A c,x= .slice A xs.length c:=by
 cases h with
 |nA r A c=>exact⟨A,c,rfl⟩
 |sl=>exact⟨_,_,rfl⟩
def U8:Op→Bool
 | .load _ _=>false
 | .build _ _=>false
 |_=>true
theorem J4(hL:bn P L){t f:Nat}{x r:AV}{v:Value}(h:Tl L t f x=some r)(hc:Cz E x v): ∃y,(∀w,(Instr.field t v f).run P w= .ok y w)∧Cz E r y:=by
 unfold Tl at h
 split at h
 ·rename_i fs size bytes zero ft ug
  split at h
  ·rename_i o z t' hf ht'
   cases Ng:L t' with
   |none=>rw[Ng]at h;cases h
   |some tj=>
    rw[Ng]at h
    obtain⟨cs,rfl⟩: ∃cs,x= .agg cs:=by cases x<;>first|exact⟨_,rfl⟩|cases h
    dsimp only at h
    cases hc with
    |agg _ ys hlen hq=>
    have jU:=hL.ok t _ ug
    obtain⟨i,d,zz,h1,h2,h3,h4,h5,h6,F,h7,h8,h9⟩:=jU.ex
    obtain⟨ff,i',g1,g2,g3,g4⟩:=h9 f o z hf
    obtain⟨ff',g5,g6⟩:=jU.fts F (h7▸h6) f t' ht'
    have hff:ff'=ff:=by rw[g1]at g5;exact(Option.some.inj g5).symm
    subst hff
    obtain⟨i2,d2,z2,k1,k2,k3,k4,k5,k6,k7⟩:=(hL.ok t' tj Ng).ex
    have ajm: ∀w,(underlying t).run P w= .ok (.struct F) w:=fun w=>by rw[run_underlying h6,h7]
    have aat: ∀w,(underlying t').run P w= .ok d2 w:=fun w=>run_underlying k6 w
    unfold part at h
    cases hle:lL (o+tj.size) cs.length with
    |false=>rw[hle]at h;cases h
    |true=>
     rw[hle,cond_true]at h
     have ae8:o+tj.size≤cs.length:=Kq hle
     cases sW:tj.agg with
     |true=>
      rw[sW,cond_true]at h
      cases h
      have Un: ∀w,(isAgg t').run P w= .ok true w:=fun w=>by
       unfold TI.agg at sW
       unfold isAgg
       rw[Sem.run_bind,aat]
       simp only[Result.andThen]
       cases hk:tj.k<;>rw[hk]at sW k7<;>try cases sW
       ·obtain⟨F2,hF2,_⟩:=k7;rw[hF2];rfl
       ·dsimp only at k7;rw[k7];rfl
      refine⟨.agg (ys.toArray.extract o (o+tj.size)),fun w=>?_,?_⟩
      ·simp[Instr.field,Sem.run_bind,ajm,Result.andThen,g1,g6,g2,asAgg,Go.part,Un,kA k1,k2]
      ·have e:ys.toArray.extract o (o+tj.size)=((ys.drop o).take tj.size).toArray:=by
        apply Array.toList_inj.1
        rw[Array.toList_extract,List.extract_eq_take_drop]
        simp
       rw[e]
       refine .agg _ _ (by simp[cut,hlen]) fun q a y ha hy=>?_
       unfold cut at ha
       rw[List.getElem?_take]at ha hy
       split at ha
       ·rw[List.getElem?_drop]at ha
        rw[if_pos (by assumption),List.getElem?_drop]at hy
        exact hq _ a y ha hy
       ·cases ha
     |false=>
      rw[sW,cond_false]at h
      cases I6:cs[o]? with
      |none=>rw[I6]at h;cases h
      |some b=>
       rw[I6]at h
       cases h
       have aU:o<ys.length:=by rw[hlen];exact(List.getElem?_eq_some_iff.1 I6).1
       have hy:ys[o]? =some ys[o]:=by simp[aU]
       have Un: ∀w,(isAgg t').run P w= .ok false w:=fun w=>by
        unfold TI.agg at sW
        unfold isAgg
        rw[Sem.run_bind,aat]
        simp only[Result.andThen]
        cases hk:tj.k<;>rw[hk]at sW k7<;>try cases sW
        all_goals first
         |(dsimp only at k7;subst k7;rfl)
         |(dsimp only at k7;cases d2<;>first|rfl|exact k7.elim)
       refine⟨ys[o],fun w=>?_,hq o _ _ I6 hy⟩
       simp[Instr.field,Sem.run_bind,ajm,Result.andThen,g1,g6,g2,asAgg,Go.part,Un,aU]
  ·cases h
 ·cases h
theorem vw(hL:bn P L)(h:bq E0 E w0 w s a)(hp:aY s p){o:Oper}{r:AV}(hr:rV al L s p o.op=some r):
  ∃x,(∀w',(U8 o.op=false→w'=w)→(execOp a.eval o).run P w'= .ok (.value x) w')∧Cz E r x:=by
 unfold rV at hr
 split at hr
 ·rename_i x he
  cases hr
  exact⟨a.eval x,fun _ _=>by simp[execOp,he,go_sem],h.ev hp x⟩
 ·rename_i x he
  cases hr
  exact⟨a.eval x,fun _ _=>by simp[execOp,he,go_sem],h.ev hp x⟩
 ·rename_i x he
  have hx:=h.ev hp x
  unfold aiv at hr
  split at hr
  ·rename_i dG
   cases hr
   rw[dG]at hx
   cases dS:a.eval x<;>rw[dS]at hx<;>cases hx
   rename_i hl
   exact⟨.pointer (some ⟨E.m _,_,none⟩),fun w' Ck=>by simp only[execOp,he,dS];simp[go_sem],.ptr _ _ hl⟩
  ·rename_i rr cs off dG
   cases hr
   rw[dG]at hx
   cases dS:a.eval x<;>rw[dS]at hx<;>cases hx
   rename_i b q u k1 k2 k3 k4 k5
   exact⟨.pointer (some ⟨b,q+off,none⟩),fun w' Ck=>by simp only[execOp,he,dS];simp[go_sem],.aO _ cs off b q u k5 k1 k2 k3 k4⟩
  ·rename_i dG
   cases hr
   rw[dG]at hx
   cases dS:a.eval x<;>rw[dS]at hx<;>cases hx
   rename_i hl
   exact⟨.pointer (some ⟨E.m _,_,none⟩),fun w' Ck=>by simp only[execOp,he,dS];simp[go_sem],.cG _ _ _ _ hl⟩
  ·rename_i rr z xs dG
   cases hr
   rw[dG]at hx
   have hx0:=hx
   cases hx with
   |nc _ _ _ _ hz hc=>
   cases dS:a.eval x<;>rw[dS]at hc hx0<;>cases hc
   rename_i b q u k1 k2 k3 k4 k5
   exact⟨.pointer (some ⟨b,q+0,none⟩),fun w' Ck=>by simp only[execOp,he,dS];simp[go_sem],hx0⟩
  ·simp at hr
 ·rename_i t x f he
  have hx:=h.ev hp x
  cases hf:fS L t f with
  |none=>rw[hf]at hr;simp at hr
  |some o'=>
   rw[hf]at hr
   dsimp only at hr
   unfold Tn at hr
   split at hr
   ·rename_i k off dG
    cases hr
    rw[dG]at hx
    cases dS:a.eval x<;>rw[dS]at hx<;>cases hx
    rename_i hl
    exact⟨.pointer (some ⟨E.m k,off+o',none⟩),fun w' Ck=>by simp only[execOp,he,dS];simp[lB hL hf],.ptr _ _ hl⟩
   ·rename_i rr cs off dG
    cases hr
    rw[dG]at hx
    cases dS:a.eval x<;>rw[dS]at hx<;>cases hx
    rename_i b q u g1 g2 g3 g4 g5
    exact⟨.pointer (some ⟨b,q+off+o',none⟩),fun w' Ck=>by simp only[execOp,he,dS];simp[lB hL hf],by rw[Nat.add_assoc];exact .aO _ cs (off+o') b q u g5 g1 g2 g3 g4⟩
   ·rename_i k i off z dG
    cases hr
    rw[dG]at hx
    cases dS:a.eval x<;>rw[dS]at hx<;>cases hx
    rename_i hl
    exact⟨.pointer (some ⟨E.m k,i*z+off+o',none⟩),fun w' Ck=>by simp only[execOp,he,dS];simp[lB hL hf],by rw[Nat.add_assoc];exact .cG k i (off+o') z hl⟩
   ·simp at hr
 ·rename_i t x he
  have hx:=h.ev hp x
  cases ht:L t with
  |none=>rw[ht]at hr;simp at hr
  |some ti=>
   rw[ht]at hr
   dsimp only at hr
   unfold Tm at hr
   split at hr
   ·rename_i d off dG
    rw[dG]at hx
    split at hr
    ·rename_i cs e8
     cases dS:a.eval x<;>rw[dS]at hx<;>cases hx
     obtain⟨hl,c,e,hb,ho,hs,du,hq⟩:=h.bx d _ e8
     obtain⟨y,g1,g2⟩:=iV (P:=P) (E:=E) (w:=w) hL ht (b:=E.m (.s d)) (o:=0) hr (fun q a' ha=>by
      have aU:q<c.size:=by rw[du];exact(List.getElem?_eq_some_iff.1 ha).1
      refine⟨c[q],by simp[aR,h.heap,hb,aU],hq q a' _ ha (by simp)⟩)
     refine⟨y,?_,g2⟩
     rw[Nat.zero_add]at g1
     intro w' Ck
     have e:=Ck (by rw[he];rfl);subst e
     simp only[execOp,he,dS];simp[g1]
    ·simp at hr
   ·rename_i rr cs off dG
    rw[dG]at hx
    cases dS:a.eval x<;>rw[dS]at hx<;>cases hx
    rename_i b q u k1 k2 k3 k4 k5
    obtain⟨y,g1,g2⟩:=iV (P:=P) (E:=E) (w:=w) hL ht (b:=b) (o:=q) hr (fun j a' ha=>⟨u j,by rw[h.heap];exact k3 j a' ha,k4 j a' ha⟩)
    exact⟨y,fun w' Ck=>by have e:=Ck (by rw[he];rfl);subst e;simp only[execOp,he,dS];simp[g1],g2⟩
   ·simp at hr
 ·rename_i op t x y t' he
  have hx:=h.ev hp x
  have hy:=h.ev hp y
  unfold aix at hr
  split at hr
  ·rename_i u v hu hv
   rw[hu]at hx
   rw[hv]at hy
   cases hb:bin al op u v with
   |none=>rw[hb]at hr;simp at hr
   |some z=>
    rw[hb]at hr
    cases hr
    refine⟨z,?_,.v _⟩
    have e1:=bG hx
    have e2:=bG hy
    have hg: ∀w,(eqGuard op t x y (a.eval x) (a.eval y)).run P w= .ok () w:=by
     intro w
     rw[e1,e2]
     unfold bin at hb
     split at hb<;>first|(simp[eqGuard,go_sem];done)|(simp at hb)
    simp only[e1,e2]at hg
    intro w' _
    simp only[execOp,he,e1,e2]
    simp[Sem.run_bind,hg,GK hb,Result.andThen]
  ·simp at hr
 ·rename_i op t x he
  have hx:=h.ev hp x
  unfold pUn at hr
  split at hr
  ·rename_i b dG
   cases hr
   rw[dG]at hx
   have e1:=bG hx
   exact⟨.bool (!b),fun w' Ck=>by simp only[execOp,he,e1];simp[go_sem,Op.unary],.v _⟩
  ·simp at hr
 ·rename_i x i he
  have hx:=h.ev hp x
  unfold J5 at hr
  split at hr
  ·rename_i vs dG
   rw[dG]at hx
   cases dS:a.eval x<;>rw[dS]at hx<;>cases hx
   rename_i ys hl hq
   have aU:i<ys.length:=by rw[hl];exact(List.getElem?_eq_some_iff.1 hr).1
   exact⟨ys[i],fun w' Ck=>by simp only[execOp,he,dS];simp[go_sem,Instr.extract,aU],hq i r _ hr (by simp)⟩
  ·simp at hr
 ·rename_i t parts he
  obtain⟨x,g1,g2⟩:=run_build hL hr (vs:=parts.map fun q=>(q.1,a.eval q.2)) (by simpa using Tk h hp parts.toList) w
  refine⟨x,?_,g2⟩
  intro w' Ck
  have e:=Ck (by rw[he];rfl);subst e
  have:(parts.map fun(i,x)=>(i,a.eval x))=parts.map fun q=>(q.1,a.eval q.2):=rfl
  simp[execOp,he,Sem.run_bind,this,g1,Result.andThen]
 ·rename_i t x f he
  obtain⟨y,h1,h2⟩:=J4 hL hr (h.ev hp x)
  exact⟨y,fun w' _=>by simp only[execOp,he];simp[Sem.run_bind,h1,Result.andThen],h2⟩
 ·rename_i c he
  split at hr
  ·rename_i b hb
   unfold J6 at hr
   split at hr
   ·rename_i t x QW cQ
    cases ug:L t with
    |none=>rw[ug]at hr;simp at hr
    |some ti=>
     rw[ug]at hr
     dsimp only at hr
     obtain⟨y,hy⟩: ∃y,c.args= #[y]:=by
      cases hc:c.args.toList with
      |nil=>rw[hc]at cQ;simp at cQ
      |cons y r=>cases r with
       |nil=>exact⟨y,Array.toList_inj.1 hc⟩
       |cons _ _=>rw[hc]at cQ;simp at cQ
     have ht:c.argTypes= #[t]:=Array.toList_inj.1 QW
     rw[hy]at cQ
     simp only[List.map_cons,List.map_nil,List.cons.injEq,and_true]at cQ
     have hx:=h.ev hp y
     rw[cQ]at hx
     obtain⟨i,d,z,h1,h2,h3,h4,h5,h6,h7⟩:=(hL.ok t ti ug).ex
     have key: ∀(n:Int) (w:World),(Builtin.len_ #[t] o.type #[a.eval y]).run P w= .ok (.int .i64 n) w→(execOp a.eval o).run P w= .ok (.value (.int .i64 n)) w:=fun n w hn=>by
      simp[execOp,he,resolve,hb,invoke,builtin,hy,ht,Sem.run_bind,hn,Result.andThen]
     unfold aiw at hr
     split at hr
     ·rename_i e rr xs hk
      cases hr
      rw[hk]at h7;dsimp only at h7;subst h7
      obtain⟨A,cc,dS⟩:=hx.len
      exact⟨.int .i64 xs.length,fun w' _=>key _ w' (by rw[dS];simp[Builtin.len_,go_sem,underlying,h6,goInt]),.v _⟩
     ·rename_i e rr tt xs hk
      cases hr
      rw[hk]at h7;dsimp only at h7;subst h7
      obtain⟨A,cc,dS⟩:=hx.read.len
      exact⟨.int .i64 xs.length,fun w' _=>key _ w' (by rw[dS];simp[Builtin.len_,go_sem,underlying,h6,goInt]),.v _⟩
     ·rename_i e kk n hk
      cases hr
      rw[hk]at h7;dsimp only at h7;subst h7
      cases dS:a.eval y<;>rw[dS]at hx<;>cases hx
      exact⟨.int .i64 n,fun w' _=>key _ w' (by rw[dS];simp[Builtin.len_,go_sem,underlying,h6,goInt]),.v _⟩
     ·rename_i b hk
      cases hr
      rw[hk]at h7;dsimp only at h7;subst h7
      have dS:=bG hx
      exact⟨.int .i64 b.size,fun w' _=>key _ w' (by rw[dS];simp[Builtin.len_,go_sem,underlying,h6,goInt]),.v _⟩
     ·rename_i e A n cc hk
      cases hr
      rw[hk]at h7;dsimp only at h7;subst h7
      have dS:=bG hx
      exact⟨.int .i64 n,fun w' _=>key _ w' (by rw[dS];simp[Builtin.len_,go_sem,underlying,h6,goInt]),.v _⟩
     ·rename_i n e hk
      cases hr
      rw[hk]at h7;dsimp only at h7;subst h7
      exact⟨.int .i64 n,fun w' _=>key _ w' (by simp[Builtin.len_,go_sem,underlying,h6,goInt]),.v _⟩
     ·simp at hr
   ·simp at hr
  ·simp at hr
 ·simp at hr
theorem tN(hL:bn P L)(h:bq E0 E w0 w s a)(hp:aY s p){o:Oper}{r:AV}(hr:rV al L s p o.op=some r):
  ∃x,(execOp a.eval o).run P w= .ok (.value x) w∧Cz E r x:=
 let⟨x,h1,h2⟩:=vw hL h hp hr
 ⟨x,h1 w fun _=>rfl,h2⟩
end Ab
namespace Ab
open Go
variable{P:Program}{L:nO}{E0 E E':Env}{w0 w w':World}{s:St}{a:Act}{p:Path}
theorem sL(T:Tok→Bool)(d:Nat): ∀t,look d (fG T t)=(look d t).map (qd T)
 |[]=>rfl
 |(k,x)::r=>by
  simp only[fG,aB,sL T d r]
  split<;>rfl
theorem cw(T:Tok→Bool)(d:Nat): ∀t,look d (eN T t)=(look d t).map (xu T)
 |[]=>rfl
 |(k,x)::r=>by
  simp only[eN,aB,cw T d r]
  split<;>rfl
def St.qd(T:Tok→Bool)(s:St):St:={s with t:=fG T s.t,b:=eN T s.b,up:=mg T s.up}
theorem lookP_scr(T:Tok→Bool)(d:Nat):dF (s.qd T) d=dF s d:=rfl
theorem ig(T:Tok→Bool): ∀{p:Path},aY (s.qd T) p↔aY s p
 |[]=>Iff.rfl
 |(d,b)::r=>by
  simp only[aY,St.qd,sL]
  have ih:=ig T (p:=r)
  simp only[St.qd]at ih
  rw[ih]
  refine and_congr_left fun _=>?_
  cases look d s.t with
  |none=>rfl
  |some x=>
   cases x with
   |gs rr t xs=>cases ht:T t<;>simp[Ab.qd,ht,isB]
   |_=>rfl
def Ll(C:Own→Prop):Prop:= ∀o,C o→o.loc=true∨di o
theorem Ext.xW{C:Own→Prop}(h:Ext di E0 E)(k:Ext C E E')(hC:Ll C)(hold: ∀b,b<E0.h.size→(E.own b).loc=false):Ext di E0 E':=
 ⟨Nat.le_trans h.size k.size,
  fun b o hs=>by obtain⟨h1,h2,h3⟩:=h.aN b o hs;obtain⟨k1,k2,k3⟩:=k.aN b o h1;exact⟨k1,k2.trans h2,k3.trans h3⟩,
  fun q hl=>by obtain⟨h1,h2,h3⟩:=h.live q hl;obtain⟨k1,k2,k3⟩:=k.live q h1;exact⟨k1,k2.trans h2,k3.trans h3⟩,
  fun b hb hn=>by
  obtain⟨h1,h2,h3,h4⟩:=h.bp b hb hn
  obtain⟨k1,k2,k3,k4⟩:=k.bp b (Nat.lt_of_lt_of_le hb h.size) (fun hc=>by
   rcases hC _ hc with hl|hg
   ·rw[hold b hb]at hl;cases hl
   ·rw[h1]at hg;exact hn hg)
  exact⟨k1.trans h1,k2.trans h2,fun o=>(k3 o).trans (h3 o),k4.trans h4⟩⟩
theorem Ext.xz{C:Own→Prop}(k:Ext C E E')(hC:Ll C)(h:Ext di E0 E)(hold: ∀b,b<E0.h.size→(E.own b).loc=false)
  (vV: ∀b,b<E0.h.size→C (E.own b)→(E'.own b).loc=false): ∀b,b<E0.h.size→(E'.own b).loc=false:=fun b hb=>by
 by_cases hc:C (E.own b)
 ·exact vV b hb hc
 ·rw[(k.bp b (Nat.lt_of_lt_of_le hb h.size) hc).1];exact hold b hb
theorem wO{C:Own→Prop}(hE:Ext C E E')(hw:Wf E)(T:Tok→Bool)(hT: ∀t,C (.tok t)→T t=true){t:List (Nat×AV)}{A:Array Value}(h: ∀d x,look d t=some x→Cz E x (A.getD d undef)):
  ∀d x,look d (fG T t)=some x→Cz E' x (A.getD d undef):=by
 intro d x hd
 rw[sL]at hd
 cases hh:look d t with
 |none=>rw[hh]at hd;simp at hd
 |some y=>rw[hh]at hd;simp at hd;subst hd;exact((h d y hh).ext hE hw T hT).1
theorem ca.move{C:Own→Prop}(hE:Ext C E E')(hw:Wf E)(T:Tok→Bool)(hT: ∀t,C (.tok t)→T t=true){k:Key}{ob:Ob}(hk: ¬C (.key k))(hkn:aeJ (some ob)=true→ ¬C (.tok k.tok))(h:ca E k ob):ca E' k (xu T ob):=by
 cases ob with
 |ow p sN xs=>
  replace hkn:=hkn rfl
  have h0:=h
  obtain⟨hl,ho,_⟩:=h0
  obtain⟨l1,l2,l3⟩:=hE.live k hl
  have aU:E.m k<E.h.size:=hw.own _ (by rw[ho];simp)
  obtain⟨k1,k2,k3,k4⟩:=hE.bp (E.m k) aU (by rw[ho];exact hk)
  exact yZ (fun _=>l1) l2 l3 (fun ho=>⟨k1.trans ho,k2,fun o=>(k3 o).1⟩) (fun a x hi hc=>(hc.ext hE hw T hT).2 hi) (fun b hb aU=>by
   obtain⟨q1,q2,q3,q4⟩:=hE.bp b aU (by rw[hb];exact hkn)
   exact⟨q1.trans hb,q2,q3,q4⟩) h
 |box cs=>
  obtain⟨hl,c,e,hb,ho,hs,du,hq⟩:=h
  obtain⟨l1,l2,l3⟩:=hE.live k hl
  have aU:E.m k<E.h.size:=hw.own _ (by rw[ho];simp)
  obtain⟨k1,k2,k3,k4⟩:=hE.bp (E.m k) aU (by rw[ho];exact hk)
  refine⟨l1,c,e,?_,?_,?_,?_,?_⟩
  ·rw[l2,k2];exact hb
  ·rw[l2,k1];exact ho
  ·intro o;rw[l2,k3];exact hs o
  ·rw[da];exact du
  ·intro q a x ha hx
   rw[qc]at ha
   cases hh:cs[q]? with
   |none=>rw[hh]at ha;simp at ha
   |some a'=>rw[hh]at ha;simp at ha;subst ha;exact((hq q a' x hh hx).ext hE hw T hT).1
 |arr z xs=>
  obtain⟨hl,ke,dV,hz,hm,c,e,hb,ho,hs,du,hi,hq⟩:=h
  obtain⟨l1,l2,l3⟩:=hE.live k hl
  have aU:E.m k<E.h.size:=hw.own _ (by rw[ho];simp)
  obtain⟨k1,k2,k3,k4⟩:=hE.bp (E.m k) aU (by rw[ho];exact hk)
  refine⟨l1,l3.trans ke,dV,hz,hm,c,e,?_,?_,?_,du,hi,fun q a x ha hx=>((hq q a x ha hx).ext hE hw T hT).2 (hi q a ha)⟩
  ·rw[l2,k2];exact hb
  ·rw[l2,k1];exact ho
  ·intro o;rw[l2,k3];exact hs o
 |lp n t ps nI body st=>
  obtain⟨hl,ho,hs,rec,hb,h1,h2,h3,h4,h5,h6,hq⟩:=h
  obtain⟨l1,l2,l3⟩:=hE.live k hl
  have aU:E.m k<E.h.size:=hw.own _ (by rw[ho];simp)
  obtain⟨k1,k2,k3,k4⟩:=hE.bp (E.m k) aU (by rw[ho];exact hk)
  refine⟨l1,?_,?_,rec,?_,h1,h2,h3,h4,h5,l2.trans h6,wO hE hw T hT hq⟩
  ·rw[l2,k1];exact ho
  ·intro o;rw[l2,k3];exact hs o
  ·rw[l2,k2];exact hb
theorem kS.move{C:Own→Prop}(hE:Ext C E E')(hw:Wf E)(T:Tok→Bool)(hT: ∀t,C (.tok t)→T t=true): ∀{aa:List Act} {fs:List Fr},kS E aa fs→kS E' aa (mg T fs)
 |[],[],_=>trivial
 |a::aa,f::fs,h=>⟨⟨h.1.1,wO hE hw T hT h.1.2⟩,kS.move hE hw T hT h.2⟩
 |[],_::_,h=>h.elim
 |_::_,[],h=>h.elim
theorem Dfs.move{C:Own→Prop}(hE:Ext C E E')(hC: ¬C .jF){n0:Nat}{l:List Deferred}(h:Dfs n0 E l):Dfs n0 E' l:=by
 obtain⟨Bs,h1,h2,h3⟩:=h
 refine⟨Bs,h1,h2,fun B hB=>?_⟩
 obtain⟨h4,h5,h6⟩:=h3 B hB
 obtain⟨k1,k2,_⟩:=hE.bp B (Array.getElem?_eq_some_iff.1 h4).1 (by rw[h5];exact hC)
 exact⟨k2.trans h4,k1.trans h5,h6⟩
theorem Ll.jF{C:Own→Prop}(h:Ll C): ¬C .jF:=fun hc=>by
 rcases h _ hc with h|h
 ·cases h
 ·cases h
def ET(T:Tok→Bool):Prop:= ∀t,T t=false
 mutual
theorem jY{T:Tok→Bool}(h:ET T): ∀a,Ab.qd T a=a
  | .gs r t xs=>by simp[Ab.qd,h t]
  | .fn f cs=>by simp[Ab.qd,yN h cs]
  | .agg cs=>by simp[Ab.qd,yN h cs]
  | .fT cs=>by simp[Ab.qd,yN h cs]
  | .any=>rfl
  | .v _=>rfl
  | .sl _ _=>rfl
  | .aO _ _ _=>rfl
  | .ptr _ _=>rfl
  | .ia _ _=>rfl
  | .cG _ _ _ _=>rfl
  | .mp _=>rfl
  | .pV _=>rfl
  | .ar _ _ _=>rfl
  | .bm _ _=>rfl
  | .nc _ _ _=>rfl
theorem yN{T:Tok→Bool}(h:ET T): ∀a,Ab.jX T a=a
  |[]=>rfl
  |a::r=>by simp[jX,jY h a,yN h r]
end
theorem kU{T:Tok→Bool}(h:ET T): ∀t,fG T t=t
 |[]=>rfl
 |(d,a)::r=>by simp[fG,jY h,kU h r]
theorem nY{T:Tok→Bool}(h:ET T)(o:Ob):xu T o=o:=by cases o<;>simp[xu,yN h,kU h]
theorem pE{T:Tok→Bool}(h:ET T): ∀t,mg T t=t
 |[]=>rfl
 |f::r=>by simp[mg,kU h,pE h r]
theorem N9{T:Tok→Bool}(h:ET T): ∀t,eN T t=t
 |[]=>rfl
 |(d,a)::r=>by simp[eN,nY h,N9 h r]
theorem St.jY{T:Tok→Bool}(h:ET T):s.qd T=s:=by cases s;simp[St.qd,kU h,N9 h,pE h]
theorem World.same_heap(h:w'.heap=E'.h):w'.heap=E'.h:=h
theorem bq.giveUp(h:bq E0 E w0 w s a)(T:Tok→Bool):bq E0 E w0 w (s.qd T) a:=by
 have hE:=Ext.refl (fun _=>False) E
 have hT: ∀t,(fun _:Own=>False) (.tok t)→T t=true:=fun _ hf=>hf.elim
 refine⟨h.heap,h.wf,h.I8,kS.move hE h.wf T hT h.up,h.sz,?_,?_,?_,?_,h.gx,h.gl,h.ext,h.xz,h.same,h.gk,h.nl,h.ng,h.lo⟩
 ·intro d x hd hp
  have na:look d (fG T s.t)=some x:=hd
  rw[sL]at na
  cases hh:look d s.t with
  |none=>rw[hh]at na;simp at na
  |some y=>rw[hh]at na;simp at na;subst na;exact((h.tm d y hh ((ig T).1 hp)).ext hE h.wf T hT).1
 ·intro d q hd hp
  exact h.cu d q hd (fun hh=>hp ((ig T).2 hh))
 ·intro d ob hd
  have na:look d (eN T s.b)=some ob:=hd
  rw[cw]at na
  cases hh:look d s.b with
  |none=>rw[hh]at na;simp at na
  |some y=>rw[hh]at na;simp at na;subst na;exact ca.move hE h.wf T hT (fun hf=>hf.elim) (fun _ hf=>hf.elim) (h.bx d y hh)
 ·intro d hl
  obtain⟨ob,ho⟩:=h.lv d hl
  exact⟨xu T ob,by show look d (eN T s.b)=_;rw[cw,ho];rfl⟩
theorem bq.draw(h:bq E0 E w0 w s a)(hh:w'.heap=w.heap)(hs:iz w w'):bq E0 E w0 w' s a:=
 ⟨hh.trans h.heap,h.wf,h.I8,h.up,h.sz,h.tm,h.cu,h.bx,h.lv,h.gx,h.gl,h.ext,h.xz,h.same.trans hs,h.gk,h.nl,h.ng,h.lo⟩
 mutual
theorem OG{T:Tok→Bool}: ∀{a:AV},cm a=true→Ab.qd T a=a
  | .gs r t xs,h=>by simp[cm]at h
  | .fn f cs,h=>by simp only[Ab.qd,vS (show bZ cs=true by simpa[cm]using h)]
  | .agg cs,h=>by simp only[Ab.qd,vS (show bZ cs=true by simpa[cm]using h)]
  | .fT cs,h=>by simp only[Ab.qd,vS (show bZ cs=true by simpa[cm]using h)]
  | .any,_=>rfl
  | .v _,_=>rfl
  | .sl _ _,_=>rfl
  | .aO _ _ _,_=>rfl
  | .ptr _ _,_=>rfl
  | .ia _ _,_=>rfl
  | .cG _ _ _ _,_=>rfl
  | .mp _,_=>rfl
  | .pV _,_=>rfl
  | .ar _ _ _,_=>rfl
  | .bm _ _,_=>rfl
  | .nc _ _ _,_=>rfl
theorem vS{T:Tok→Bool}: ∀{a:List AV},bZ a=true→jX T a=a
  |[],_=>rfl
  |a::r,h=>by
   simp only[bZ,Bool.and_eq_true]at h
   simp only[jX,OG h.1,vS h.2]
end
theorem ca.shared{C:Own→Prop}(hE:Ext C E E')(hw:Wf E)(T:Tok→Bool)(hT: ∀t,C (.tok t)→T t=true){i:Nat}{ob:Ob}(hk: ¬C (.key (.o i)))
  (hg:match ob with
   | .box cs=> ∀(q:Nat) (a:AV),cs[q]? =some a→cm a=true
   | .arr _ _=>True
   | .ow .. =>False
   | .lp .. =>False)(h:ca E (.o i) ob):ca E' (.o i) ob:=by
 have hm:=ca.move hE hw T hT hk (fun ho=>by cases ob<;>first|(cases ho;done)|exact hg.elim) h
 cases ob with
 |arr z xs=>exact hm
 |lp=>exact hg.elim
 |ow=>exact hg.elim
 |box cs=>
  obtain⟨hl,c,e,hb,ho,hs,du,hqq⟩:=hm
  obtain⟨_,c0,e0,GB,_,_,hsz0,hq0⟩:=h
  refine⟨hl,c,e,hb,ho,hs,by rw[du,da],fun q a x ha hx=>?_⟩
  have:=hqq q (Ab.qd T a) x (by rw[qc,ha];rfl) hx
  rwa [OG (hg q a ha)]at this
theorem bq.xW(h:bq E0 E w0 w s a){C:Own→Prop}{T:Tok→Bool}(hE:Ext C E E')(hT: ∀t,C (.tok t)→T t=true)(hC:Ll C)(Ck:Wf E')(hh:w'.heap=E'.h)(KI:iz w w')
  (vV: ∀b,b<E0.h.size→C (E.own b)→(E'.own b).loc=false)(b':List (Nat×Ob))(g':Nat→Option Ob)(gG:Nat)
  (hb: ∀d ob,look d b'=some ob→(∃ob0,look d s.b=some ob0∧ob=xu T ob0∧ ¬C (.key (.s d))∧ ¬C (.tok (.n d)))∨ca E' (.s d) ob)
  (hlv: ∀d,E'.live (.s d)→ ∃ob,look d b'=some ob)
  (hg: ∀i ob,g' i=some ob→(s.g i=some ob∧ ¬C (.key (.o i)))∨ca E' (.o i) ob)
  (hgl: ∀i,E'.live (.o i)↔i<gG)(X6:GOk g')(hng: ∀b,¬di (E'.own b)):
  bq E0 E' w0 w' {s with t:=fG T s.t,b:=b',g:=g',nx:=gG,up:=mg T s.up} a:=by
 refine⟨hh,Ck,h.I8.move hE hC.jF,kS.move hE h.wf T hT h.up,h.sz,?_,?_,?_,hlv,?_,hgl,h.ext.xW hE hC h.xz,Ext.xz hE hC h.ext h.xz vV,h.same.trans KI,X6,h.nl,hng,h.lo⟩
 ·intro d x hd hp
  have na:look d (fG T s.t)=some x:=hd
  rw[sL]at na
  have Ub:aY (s.qd T) (dF s d):=(lF (s:=s.qd T) (s':={s with t:=fG T s.t,b:=b',g:=g',nx:=gG,up:=mg T s.up}) (fun _ _=>rfl)).1 hp
  cases hk:look d s.t with
  |none=>rw[hk]at na;simp at na
  |some y=>rw[hk]at na;simp at na;subst na;exact((h.tm d y hk ((ig T).1 Ub)).ext hE h.wf T hT).1
 ·intro d q hd hp
  exact h.cu d q hd (fun hk=>hp ((lF (s:=s.qd T) (s':={s with t:=fG T s.t,b:=b',g:=g',nx:=gG,up:=mg T s.up}) (fun _ _=>rfl)).2 ((ig T).2 hk)))
 ·intro d ob hd
  rcases hb d ob hd with⟨ob0,h1,h2,h3,h4⟩|h1
  ·subst h2;exact(h.bx d ob0 h1).move hE h.wf T hT h3 (fun _=>h4)
  ·exact h1
 ·intro i ob hi
  rcases hg i ob hi with⟨h1,h2⟩|h1
  ·exact(h.gx i ob h1).shared hE h.wf T hT h2 (h.gk i ob h1)
  ·exact h1
end Ab
namespace Ab
open Go
variable{P:Program}{L:nO}{E0 E E':Env}{w0 w w':World}{s:St}{a:Act}{p:Path}{C:dj}
def Out(E0:Env)(w0:World)(a:Act)(K:bf)(x:Value)(w':World):Prop:= ∃r s' E',K r s'∧bq E0 E' w0 w' s' a∧Cz E' r x
def fC(E0:Env)(w0:World)(o:Oper)(a:Act)(K:bf):Act→World→Prop:=fun a' w'=> ∃x,a'=a.put o.dst x∧Out E0 w0 a K x w'
def Dl(P:Program)(o:Oper)(a:Act)(K:Act→World→Prop):Result Next→Prop
 | .ok (.value v) w'=>K (a.put o.dst v) w'
 | .ok .skip w'=>K (a.put o.dst undef) w'
 | .ok (.enter f args) w'=>Calls P f args w' fun e Rq=> ∃x,e= .returned x∧K (a.put o.dst x) Rq
 | .ok (.round l f tmps nI body) w'=>RoundIn Fence.wide 0 P l f tmps nI body w' fun e Rq=> ∃x,e= .returned x∧K (a.put o.dst x) Rq
 |_=>False
def lj(P:Program)(o:Oper)(a:Act)(w:World)(K:Act→World→Prop)(_:Exit→Act→World→Prop):Prop:=Dl P o a K ((execOp a.eval o).run P w)
theorem lj.mono{o:Oper}{Q:Exit→Act→World→Prop}{K K':Act→World→Prop}(h: ∀a w,K a w→K' a w)(hh:lj P o a w K Q):lj P o a w K' Q:=by
 unfold lj at*
 generalize (execOp a.eval o).run P w=r at*
 cases r with
 |ok n w'=>
  cases n<;>simp only[Dl]at hh ⊢ <;>
   first
    |exact h _ _ hh
    |exact Calls.mono hh (fun e Rq ⟨x,e1,e2⟩=>⟨x,e1,h _ _ e2⟩)
    |exact RoundIn.mono hh (fun e Rq ⟨x,e1,e2⟩=>⟨x,e1,h _ _ e2⟩)
 |halt x w'=>simp only[Dl]at hh
theorem cP{o:Oper}{Q:Exit→Act→World→Prop}{K:bf}{x:Value}(h:(execOp a.eval o).run P w= .ok (.value x) w')(k:Out E0 w0 a K x w'):lj P o a w (fC E0 w0 o a K) Q:=by
 unfold lj
 rw[h]
 exact⟨x,rfl,k⟩
theorem vh{o:Oper}{Q:Exit→Act→World→Prop}{K:bf}(h:(execOp a.eval o).run P w= .ok .skip w')(k:Out E0 w0 a K undef w'):lj P o a w (fC E0 w0 o a K) Q:=by
 unfold lj
 rw[h]
 exact⟨undef,rfl,k⟩
theorem gj(P:Program)(e:Nat)(c:Array Value)(w:World):(newRow e c).run P w= .ok ⟨w.heap.size,0,none⟩ (w.alloc (.cells c e)):=rfl
def Env.addKey(E:Env)(k:Key)(o:Obj)(n:Nat:=0):Env:=
 {E with len:=fun q=>if q=k then(n,n)else E.len q,h:=E.h.push o,m:=fun q=>if q=k then E.h.size else E.m q,live:=fun q=>q=k∨E.live q,own:=fun b=>if b=E.h.size then .key k else E.own b}
theorem yq(h:Array Obj)(o:Obj){b:Nat}(hb:b<h.size)(i:Nat):aR (h.push o) b i=aR h b i:=by
 unfold aR
 rw[Array.getElem?_push,if_neg (by omega)]
theorem nJ(hw:Wf E){k:Key}(hk: ¬E.live k)(o:Obj)(n:Nat:=0):Ext (fun _=>False) E (E.addKey k o n):=
 ⟨by simp[Env.addKey],
  fun b i hs=>⟨hs,yq _ _ (hw.aN b i hs) i,rfl⟩,
  fun q hq=>⟨.inr hq,by simp only[Env.addKey];rw[if_neg (fun e=>by subst e;exact hk hq)],by simp only[Env.addKey];rw[if_neg (fun e=>by subst e;exact hk hq)]⟩,
  fun b hb _=>⟨by simp only[Env.addKey];rw[if_neg (by omega)],by simp only[Env.addKey];rw[Array.getElem?_push,if_neg (by omega)],fun _=>Iff.rfl,rfl⟩⟩
theorem GQ(hw:Wf E)(k:Key)(o:Obj)(n:Nat:=0):Wf (E.addKey k o n):=
 ⟨fun b i hs=>by have:=hw.aN b i hs;simp[Env.addKey];omega,
  fun b hb=>by
  simp only[Env.addKey]at hb ⊢
  by_cases h:b=E.h.size
  ·subst h;simp
  ·rw[if_neg h]at hb;have:=hw.own b hb;simp;omega,
  fun b i hs hr=>by
  obtain⟨c,e,h⟩:=hw.fz b i hs hr
  have:=hw.aN b i hs
  exact⟨c,e,by simp only[Env.addKey];rw[Array.getElem?_push,if_neg (by omega)];exact h⟩⟩
theorem qs:Ll (fun _=>False):=fun _ h=>h.elim
theorem tH(w:World)(o:Obj):iz w (w.alloc o):=⟨rfl,rfl,rfl⟩
theorem GR(h: ∀b,¬di (E.own b))(d:Nat){o:Obj}{n:Nat}(b:Nat): ¬di ((E.addKey (.s d) o n).own b):=by
 simp only[Env.addKey]
 split
 ·simp[di,Own.di,Key.loc]
 ·exact h b
theorem bq.Tw(h:bq E0 E w0 w s a){d:Nat}(hd:look d s.b=none){ob:Ob}{c:Array Value}{e n:Nat}(uh:ca (E.addKey (.s d) (.cells c e (0,0)) n) (.s d) ob):
  bq E0 (E.addKey (.s d) (.cells c e (0,0)) n) w0 (w.alloc (.cells c e)) {s with b:=cR d ob s.b} a:=by
 have zx: ¬E.live (.s d):=fun hl=>by obtain⟨ob,ho⟩:=h.lv d hl;rw[hd]at ho;cases ho
 have hE:=nJ h.wf zx (.cells c e (0,0)) n
 have hs:=h.xW (T:=fun _=>false) hE (fun _ hf=>hf.elim) qs (GQ h.wf _ _ n) (w':=w.alloc (.cells c e)) (by show w.heap.push _=_;rw[h.heap];rfl) (tH _ _) (fun _ _ hf=>hf.elim)
  (cR d ob s.b) s.g s.nx (fun d' DW h'=>by
   rw[aF]at h'
   by_cases so:d=d'
   ·rw[if_pos so]at h';cases h';subst so;exact .inr uh
   ·rw[if_neg so]at h';exact .inl ⟨DW,h',(nY (fun _=>rfl) DW).symm,(fun hf=>hf),fun hf=>hf⟩)
  (fun d' hl=>by
   rw[aF]
   by_cases so:d=d'
   ·exact⟨ob,by rw[if_pos so]⟩
   ·rw[if_neg so]
    rcases hl with hl|hl
    ·exact absurd (by injection hl with hl;exact hl.symm) so
    ·exact h.lv d' hl)
  (fun i DW h'=> .inl ⟨h',fun hf=>hf⟩)
  (fun i=>by
   constructor
   ·rintro(hl|hl)
    ·cases hl
    ·exact(h.gl i).1 hl
   ·exact fun hl=> .inr ((h.gl i).2 hl)) h.gk (fun b=>GR h.ng d b)
 have:fG (fun _=>false) s.t=s.t:=kU (fun _=>rfl) _
 rw[this,pE (fun _=>rfl)]at hs
 exact hs
theorem NI(h:bq E0 E w0 w s a){k:Key}(hk: ¬E.live k){cs:List AV}{c:Array Value}(hr:Row E cs c)(e:Nat):ca (E.addKey k (.cells c e (0,0))) k (.box cs):=by
 have hE:=nJ h.wf hk (.cells c e (0,0))
 refine⟨.inl rfl,c,e,by simp[Env.addKey],by simp[Env.addKey],fun o hs=>?_,hr.1,fun q a x ha hx=>?_⟩
 ·simp only[Env.addKey,if_true]at hs
  have:=h.wf.aN _ _ hs;omega
 ·have:=((hr.2 q a x ha hx).ext hE h.wf (fun _=>false) (fun _ hf=>hf.elim)).1
  rwa [jY (fun _=>rfl)]at this
theorem zi(h:bq E0 E w0 w s a){d e:Nat}{cs:List AV}{c:Array Value}(hr:Row E cs c){K:bf}(hk:Ic C s d cs K):
  Out E0 w0 a K (.pointer (some ⟨w.heap.size,0,none⟩)) (w.alloc (.cells c e)):=by
 unfold Ic at hk
 cases Fy:Nd d C.sh with
 |true=>
  rw[Fy,cond_true]at hk
  exact hk.elim
 |false=>
  rw[Fy,cond_false]at hk
  generalize C.base+d=d at hk
  cases hl:look d s.b with
  |some _=>rw[hl]at hk;exact hk.elim
  |none=>
   rw[hl]at hk
   have zx: ¬E.live (.s d):=fun tz=>by obtain⟨ob,ho⟩:=h.lv d tz;rw[hl]at ho;cases ho
   refine⟨_,_,_,hk,h.Tw hl (NI h zx hr e),?_⟩
   have:(E.addKey (.s d) (.cells c e (0,0))).m (.s d)=w.heap.size:=by simp[Env.addKey,h.heap]
   rw[←this];exact .ptr _ _ (.inl rfl)
theorem LQ(h:bq E0 E w0 w s a){o:Oper}{e d:Nat}{x:Operand}(he:o.op= .box e x){K:bf}{Q:Exit→Act→World→Prop}(hk:abp C d (bL s [] x) s K):lj P o a w (fC E0 w0 o a K) Q:=by
 unfold abp at hk
 cases hz:zV (bL s [] x)with
 |none=>rw[hz]at hk;exact hk.elim
 |some k=>
  rw[hz]at hk
  have hx:=h.ev (p:=[]) trivial x
  obtain⟨c1,c2,c3⟩:=oL hx hz
  have:=zi h (e:=e) (c:=(a.eval x).cells) ⟨by rw[c1,c2],c3⟩ hk
  refine cP (x:= .pointer (some ⟨w.heap.size,0,none⟩)) (w':=w.alloc (.cells (a.eval x).cells e)) ?_ this
  simp only[execOp,he,Instr.box,newVar]
  simp[gj]
theorem Q7{z:Value}{l:List Value}(h:z.cells.toList=l):Row E (l.map AV.v) z.cells:=by
 refine⟨by rw[List.length_map,←h];simp,fun q a y ha hy=>?_⟩
 rw[←h,List.getElem?_map,Array.getElem?_toList,hy]at ha
 simp at ha;subst ha;exact .v _
theorem Gd{e:Nat}{z:Value}{i:TypeInfo}(h:P.info? e=some i)(hz:i.zero=some z)(w:World):(Instr.alloc e true (.tuple #[])).run P w= .ok (.pointer (some ⟨w.heap.size,0,none⟩)) (w.alloc (.cells z.cells e)):=by
 have h1: ∀w,(zeroValue e).run P w= .ok z w:=fun w=>by simp[zeroValue,typeInfo,go_sem,h,hz]
 unfold Instr.alloc
 simp[Sem.run_bind,h1,Result.andThen,newVar,gj]
theorem aeN(l:List Value):bZ (l.map AV.v)=true:=wW fun q a h=>by
 rw[List.getElem?_map]at h
 cases hq:l[q]? with
 |none=>rw[hq]at h;simp at h
 |some x=>rw[hq]at h;simp at h;subst h;rfl
theorem KC{a b:List AV}(ha:bZ a=true)(hb:bZ b=true):bZ (a++b)=true:=by
 induction a with
 |nil=>exact hb
 |cons x r ih=>simp only[bZ,Bool.and_eq_true,List.cons_append]at ha ⊢;exact⟨ha.1,ih ha.2⟩
theorem uf(n:Nat){l:List AV}(h:bZ l=true):bZ (List.replicate n l).flatten=true:=by
 induction n with
 |zero=>rfl
 |succ n ih=>rw[List.replicate_succ,List.flatten_cons];exact KC h ih
theorem Jm: ∀(n:Nat) (l:List Value),(List.replicate n (l.map AV.v)).flatten=((List.replicate n l).flatten).map AV.v
 |0,_=>rfl
 |n+1,l=>by rw[List.replicate_succ,List.replicate_succ,List.flatten_cons,List.flatten_cons,List.map_append,Jm n l]
theorem EO(h:bq E0 E w0 w s a){k:Key}(hk: ¬E.live k){z:Nat}{n:Nat}{l:List Value}(hz:0<z)(hl:l.length=z)(hn:n≤maxLen){c:Array Value}(hc:c.toList=(List.replicate n l).flatten)(e:Nat):
  ca (E.addKey k (.cells c e (0,0)) n) k (.arr z (List.replicate n (l.map AV.v))):=by
 have hlen: ∀x∈List.replicate n l,x.length=z:=fun x hx=>by rw[(List.mem_replicate.1 hx).2];exact hl
 refine⟨.inl rfl,by simp[Env.addKey],hz,fun x hx=>by rw[(List.mem_replicate.1 hx).2];simp[hl],by simpa using hn,c,e,by simp[Env.addKey],by simp[Env.addKey],fun o hs=>?_,?_,?_,?_⟩
 ·simp only[Env.addKey,if_true]at hs
  have:=h.wf.aN _ _ hs;omega
 ·have:c.toList.length=n*z:=by rw[hc,aD hlen];simp
  simpa using this
 ·exact bj (uf n (aeN l))
 ·intro q a x ha hx
  rw[Jm,List.getElem?_map,←hc,Array.getElem?_toList,hx]at ha
  simp at ha;subst ha;exact .v _
theorem rM{z:Nat}: ∀{n:Nat} {l:List AV},l.length=n*z→(chunks z n l).flatten=l∧(chunks z n l).length=n∧ ∀x∈chunks z n l,x.length=z
 |0,l,h=>by
  have:l=[]:=List.eq_nil_of_length_eq_zero (by simpa using h)
  subst this;simp[chunks]
 |n+1,l,h=>by
  rw[Nat.succ_mul]at h
  obtain⟨h1,h2,h3⟩:=rM (z:=z) (n:=n) (l:=l.drop z) (by simp;omega)
  refine⟨by simp[chunks,h1],by simp[chunks,h2],fun x hx=>?_⟩
  simp only[chunks,List.mem_cons]at hx
  rcases hx with rfl|hx
  ·simp;omega
  ·exact h3 x hx
theorem BZ(h:bq E0 E w0 w s a){k:Key}(hk: ¬E.live k){z n:Nat}{cs:List AV}(hz:0<z)(hn:n≤maxLen){c:Array Value}(hl:cs.length=n*z)(hi:bZ cs=true)(hr:Row E cs c)(e:Nat):
  ca (E.addKey k (.cells c e (0,0)) n) k (.arr z (chunks z n cs)):=by
 obtain⟨f1,f2,f3⟩:=rM hl
 have hE:=nJ h.wf hk (.cells c e (0,0)) n
 refine⟨.inl rfl,by simp[Env.addKey,f2],hz,f3,by rw[f2];exact hn,c,e,by simp[Env.addKey],by simp[Env.addKey],fun o hs=>?_,by rw[f2,hr.1,hl],?_,?_⟩
 ·simp only[Env.addKey,if_true]at hs
  have:=h.wf.aN _ _ hs;omega
 ·rw[f1];exact bj hi
 ·rw[f1]
  intro q a x ha hx
  have:=((hr.2 q a x ha hx).ext hE h.wf (fun _=>false) (fun _ hf=>hf.elim)).1
  rwa [jY (fun _=>rfl)]at this
theorem Hn(hL:bn P C.L)(hI:C.I=al)(h:bq E0 E w0 w s a){o:Oper}{e d:Nat}(he:o.op= .alloc e){K:bf}{Q:Exit→Act→World→Prop}(hk:LR C d e s K):lj P o a w (fC E0 w0 o a K) Q:=by
 unfold LR at hk
 cases ht:C.L e with
 |none=>rw[ht]at hk;exact hk.elim
 |some ti=>
  rw[ht]at hk
  dsimp only at hk
  obtain⟨i,dd,z,h1,h2,h3,h4,h5,h6,h7⟩:=(hL.ok e ti ht).ex
  have eH:(execOp a.eval o).run P w= .ok (.value (.pointer (some ⟨w.heap.size,0,none⟩))) (w.alloc (.cells z.cells e)):=by
   simp only[execOp,he]
   simp[Gd h1 h4]
  refine cP eH ?_
  split at hk
  ·rename_i n e' kO
   split at hk
   ·rename_i LX ht' e8
    cases hb:cS (n*LX.size) ti.size&&(lL 1 LX.size&&lL n 1048576)with
    |false=>rw[hb]at hk;exact hk.elim
    |true=>
     rw[hb,cond_true]at hk
     simp only[Bool.and_eq_true]at hb
     have b1:n*LX.size=ti.size:=dg hb.1
     have b2:1≤LX.size:=by simpa using hb.2.1
     have b3:n≤1048576:=by simpa using hb.2.2
     generalize C.base+d=d at hk e8
     have zx: ¬E.live (.s d):=fun tz=>by obtain⟨ob,ho⟩:=h.lv d tz;rw[e8]at ho;cases ho
     obtain⟨zs,⟨hz1,Qh⟩,hk⟩:=hk
     rw[hI]at Qh
     have Qh:List.replicate n (LX.zero.map AV.v)=zs:=Qh
     subst Qh
     refine⟨_,_,_,hk,h.Tw e8 (EO h zx (z:=LX.size) (n:=n) (l:=LX.zero) (c:=z.cells) b2 (hL.ok e' LX ht').Lz (by unfold maxLen;omega) (by rw[h5,hz1]) e),?_⟩
     have:(E.addKey (.s d) (.cells z.cells e (0,0)) n).m (.s d)=w.heap.size:=by simp[Env.addKey,h.heap]
     rw[←this];exact .ptr _ _ (.inl rfl)
   ·exact hk.elim
  ·exact zi h (Q7 h5) hk
theorem Hz(w:World)(b o:Nat)(v:Value){c:Array Value}{e:Nat}{fr:Nat×Nat}(h:w.heap[b]? =some (.cells c e fr)):
  (w.setCell ⟨b,o,none⟩ v).heap=w.heap.setIfInBounds b (.cells (c.setIfInBounds o v) e fr):=by
 obtain⟨aU,hb⟩:=Array.getElem?_eq_some_iff.1 h
 apply Array.ext
 ·simp[World.setCell]
 ·intro i h1 h2
  simp only[World.setCell]
  by_cases hi:i=b
  ·subst hi
   rw[Array.getElem_modify_self,Array.getElem_setIfInBounds_self,hb]
   obtain⟨x,y⟩:=fr
   rfl
  ·rw[Array.getElem_modify_of_ne (Ne.symm hi),Array.getElem_setIfInBounds_ne (by simpa[World.setCell]using h1) (Ne.symm hi)]
theorem fH(P:Program)(b off e:Nat): ∀(vs:List Value) (i:Nat) (w:World) (c:Array Value),w.heap[b]? =some (.cells c e (0,0))→off+i+vs.length≤c.size→(∀v∈vs,rR v=true)→
  ∃w',(storeCells ⟨b,off,none⟩ vs i).run P w= .ok () w'∧w'.heap=w.heap.setIfInBounds b (.cells ((vs.zipIdx i).foldl (fun cs (x,j)=>cs.setIfInBounds (off+j) x) c) e (0,0))∧iz w w'
 |[],i,w,c,hb,_,_=>by
  refine⟨w,by simp[storeCells,go_sem],?_,iz.refl _⟩
  obtain⟨aU,eI⟩:=Array.getElem?_eq_some_iff.1 hb
  apply Array.ext
  ·simp
  ·intro j h1 h2
   by_cases hj:j=b
   ·subst hj;rw[Array.getElem_setIfInBounds_self];simpa using eI
   ·rw[Array.getElem_setIfInBounds_ne h1 (Ne.symm hj)]
 |v::r,i,w,c,hb,hlen,hv=>by
  simp only[List.length_cons]at hlen
  have sU:w.cell? ⟨b,off+i,none⟩=some c[off+i]:=by rw[jr,aR,hb];simp
  have hfr:w.frozen? ⟨b,off+i,none⟩=false:=by simp[World.frozen?,hb]
  have h0:=hv v (by simp)
  have fY:(store ⟨b,off+i,none⟩ v).run P w= .ok () (w.setCell ⟨b,off+i,none⟩ v):=by
   unfold store
   cases v<;>first|(simp[rR]at h0;done)|(simp[Sem.run,sU,hfr])
  have KM:=Hz w b (off+i) v hb
  have aU:b<w.heap.size:=(Array.getElem?_eq_some_iff.1 hb).1
  obtain⟨w',g1,g2,g3⟩:=fH P b off e r (i+1) (w.setCell ⟨b,off+i,none⟩ v) (c.setIfInBounds (off+i) v) (by rw[KM];simp[aU]) (by simp;omega) (fun x hx=>hv x (by simp[hx]))
  refine⟨w',?_,?_,?_⟩
  ·simp only[storeCells,dX]
   simp[Sem.run_bind,fY,Result.andThen,g1]
  ·rw[g2,KM]
   simp
  ·exact iz.trans ⟨rfl,rfl,rfl⟩ g3
theorem run_store(hL:bn P L){t:Nat}{ti:TI}(ht:L t=some ti){b off e:Nat}{c:Array Value}{v:Value}(hb:w.heap[b]? =some (.cells c e (0,0)))(du:v.cells.size=ti.size)(hle:off+ti.size≤c.size)
  (hv: ∀x∈v.cells.toList,rR x=true):
  ∃w',(Instr.storeAt t (.pointer (some ⟨b,off,none⟩)) v).run P w= .ok () w'∧w'.heap=w.heap.setIfInBounds b (.cells (v.cells.toList.zipIdx.foldl (fun cs (x,j)=>cs.setIfInBounds (off+j) x) c) e (0,0))∧iz w w':=by
 obtain⟨i,d,z,h1,h2,h3,h4,h5,h6,h7⟩:=(hL.ok t ti ht).ex
 obtain⟨w',g1,g2,g3⟩:=fH P b off e v.cells.toList 0 w c hb (by simp;omega) hv
 refine⟨w',?_,g2,g3⟩
 unfold Instr.storeAt storeVar
 simp only[Instr.sureAddr]
 simp[Sem.run_bind,Go.sizeOf,typeInfo,Sem.run,program,h1,h2,du,Result.andThen,g1]
theorem DT{cs:List AV}{c:Array Value}(hr:Row E cs c)(h:lf cs=true): ∀x∈c.toList,rR x=true:=by
 have key: ∀(q:Nat) (a:AV),cs[q]? =some a→Tq a=true:=by
  clear hr
  induction cs with
  |nil=>intro q a ha;simp at ha
  |cons y r ih=>
   simp only[lf,Bool.and_eq_true]at h
   intro q a ha
   cases q with
   |zero=>simp at ha;subst ha;exact h.1
   |succ q=>exact ih h.2 q a (by simpa using ha)
 intro x hx
 obtain⟨q,hq,he⟩:=List.getElem_of_mem hx
 have uV:q<cs.length:=by rw[←hr.1];simpa using hq
 have h1:=key q cs[q] (by simp)
 have h2:=hr.2 q cs[q] x (by simp) (by rw[←he];simp)
 cases I6:cs[q]<;>rw[I6]at h1 h2<;>cases h2<;>first|rfl|(simp[Tq]at h1;done)|exact h1|(rename_i hc;cases hc;rfl)
def Env.write(E:Env)(k:Key)(o:Obj):Env:={E with h:=E.h.setIfInBounds (E.m k) o}
theorem ib{k:Key}(ho:E.own (E.m k)= .key k)(hs: ∀o,¬E.aN (E.m k) o)(o:Obj):Ext (fun x=>x= .key k) E (E.write k o):=
 ⟨by simp[Env.write],
  fun b i hb=>⟨hb,by
   have:b≠E.m k:=fun e=>by subst e;exact hs i hb
   simp only[Env.write,aR];rw[Array.getElem?_setIfInBounds_ne (Ne.symm this)],rfl⟩,
  fun q hq=>⟨hq,rfl,rfl⟩,
  fun b hb hn=>⟨rfl,by
   have:b≠E.m k:=fun e=>by subst e;exact hn ho
   simp only[Env.write];rw[Array.getElem?_setIfInBounds_ne (Ne.symm this)],fun _=>Iff.rfl,rfl⟩⟩
theorem Ri(hw:Wf E)(k:Key)(o:Obj)(hn: ∀i,¬E.aN (E.m k) i):Wf (E.write k o):=
 ⟨fun b i hs=>by have:=hw.aN b i hs;simpa[Env.write]using this,fun b hb=>by have:=hw.own b hb;simpa[Env.write]using this,
  fun b i hs hr=>by
  obtain⟨c,e,h⟩:=hw.fz b i hs hr
  have:b≠E.m k:=fun e=>by subst e;exact hn i hs
  exact⟨c,e,by simp only[Env.write];rw[Array.getElem?_setIfInBounds_ne (Ne.symm this)];exact h⟩⟩
theorem Kk(k:Key):Ll (fun x=>x= .key k):=fun o h=>by subst h;cases k<;>simp[Own.loc,di,Own.di,Key.loc]
theorem eY(k:Key): ∀t,(fun x=>x=Own.key k) (.tok t)→(fun _:Tok=>false) t=true:=fun t h=>by cases h
theorem bq.pX(h:bq E0 E w0 w s a){d:Nat}{ob ob0:Ob}(e8:look d s.b=some ob0){o:Obj}(uh:ca (E.write (.s d) o) (.s d) ob)(hh:w'.heap=w.heap.setIfInBounds (E.m (.s d)) o)(KI:iz w w')
  (ho:E.own (E.m (.s d))= .key (.s d))(hs: ∀o,¬E.aN (E.m (.s d)) o):bq E0 (E.write (.s d) o) w0 w' {s with b:=cR d ob s.b} a:=by
 have hE:=ib ho hs o
 have hx:=h.xW (T:=fun _=>false) hE (eY _) (Kk _) (Ri h.wf _ _ hs) (w':=w') (by rw[hh,h.heap];rfl) KI
  (fun b hb hc=>by have:=h.xz b hb;rw[hc]at this;simp[Own.loc,Key.loc]at this) (cR d ob s.b) s.g s.nx
  (fun d' DW h'=>by
   rw[aF]at h'
   by_cases so:d=d'
   ·rw[if_pos so]at h';cases h';subst so;exact .inr uh
   ·rw[if_neg so]at h';exact .inl ⟨DW,h',(nY (fun _=>rfl) DW).symm,(fun hf=>so (by injection hf with hf;injection hf with hf;exact hf.symm)),fun hf=>by cases hf⟩)
  (fun d' hl=>by
   rw[aF]
   by_cases so:d=d'
   ·exact⟨ob,by rw[if_pos so]⟩
   ·rw[if_neg so];exact h.lv d' hl)
  (fun i DW h'=> .inl ⟨h',fun hf=>by cases hf⟩) (fun i=>h.gl i) h.gk h.ng
 have:fG (fun _=>false) s.t=s.t:=kU (fun _=>rfl) _
 rw[this,pE (fun _=>rfl)]at hx
 exact hx
theorem Aj{k:Key}{cs vs:List AV}{c:Array Value}{e off:Nat}{ys:List Value}(hw:Wf E)(hl:E.live k)(hb:E.h[E.m k]? =some (.cells c e (0,0)))(ho:E.own (E.m k)= .key k)(hs: ∀o,¬E.aN (E.m k) o)
  (hr:Row E cs c)(hle:off+vs.length≤cs.length)(Vz:ys.length=vs.length)(hy: ∀(q:Nat) (a:AV) (y:Value),vs[q]? =some a→ys[q]? =some y→Cz E a y):
  ca (E.write k (.cells (ys.zipIdx.foldl (fun cs (x,j)=>cs.setIfInBounds (off+j) x) c) e (0,0))) k (.box (bD cs off vs)):=by
 have Ag:=hr.bD hle Vz hy
 have hE:=ib ho hs (.cells (ys.zipIdx.foldl (fun cs (x,j)=>cs.setIfInBounds (off+j) x) c) e (0,0))
 have aU:E.m k<E.h.size:=(Array.getElem?_eq_some_iff.1 hb).1
 refine⟨hl,_,e,by simp[Env.write,aU],ho,hs,Ag.1,fun q a x ha hx=>?_⟩
 have:=((Ag.2 q a x ha hx).ext hE hw (fun _=>false) (eY _)).1
 rwa [jY (fun _=>rfl)]at this
theorem Cz.giveUp{av:AV}{v:Value}(hw:Wf E)(h:Cz E av v)(T:Tok→Bool):Cz E (Ab.qd T av) v:=(h.ext (Ext.refl (fun _=>False) E) hw T (fun _ hf=>hf.elim)).1
theorem Pb(T:Tok→Bool)(av:AV):zV (Ab.qd T av)=zV av:=by
 cases av with
 |gs r t xs=>simp only[Ab.qd];split<;>rfl
 |agg cs=>simp[Ab.qd,zV,da]
 |_=>rfl
theorem ones_scr(T:Tok→Bool)(cs:List AV):lf (jX T cs)=lf cs:=by
 induction cs with
 |nil=>rfl
 |cons a r ih=>
  simp only[jX,lf,ih]
  congr 1
  cases a with
  |gs rr t xs=>simp only[Ab.qd];split<;>rfl
  |_=>rfl
theorem Ak{k:Key}{z:Nat}{xs xs':List (List AV)}{vs:List AV}{c:Array Value}{e off:Nat}{ys:List Value}(hw:Wf E)(hl:E.live k)(ke:E.len k=(xs'.length,xs'.length))(dV:0<z)(hm:xs'.length≤maxLen)(hz: ∀l∈xs',l.length=z)
  (hb:E.h[E.m k]? =some (.cells c e (0,0)))(ho:E.own (E.m k)= .key k)(hs: ∀o,¬E.aN (E.m k) o)
  (hr:Row E xs.flatten c)(hi: ∀(q:Nat) (a:AV),xs.flatten[q]? =some a→cm a=true)(hiv:bZ vs=true)(hle:off+vs.length≤xs.flatten.length)(fB:xs'.flatten=bD xs.flatten off vs)
  (Vz:ys.length=vs.length)(hy: ∀(q:Nat) (a:AV) (y:Value),vs[q]? =some a→ys[q]? =some y→Cz E a y):
  ca (E.write k (.cells (ys.zipIdx.foldl (fun cs (x,j)=>cs.setIfInBounds (off+j) x) c) e (0,0))) k (.arr z xs'):=by
 have Ag:=hr.bD hle Vz hy
 generalize (ys.zipIdx.foldl (fun cs (x,j)=>cs.setIfInBounds (off+j) x) c)=F at Ag ⊢
 have hE:=ib ho hs (.cells F e (0,0))
 have aU:E.m k<E.h.size:=(Array.getElem?_eq_some_iff.1 hb).1
 rw[←fB]at Ag
 refine⟨hl,ke,dV,hz,hm,F,e,by simp[Env.write,aU],ho,hs,by have:=Ag.1;rw[aD hz]at this;exact this,?_,fun q a x ha hx=>?_⟩
 ·intro q a ha
  rw[fB,xP hle]at ha
  split at ha
  ·exact bj hiv _ a ha
  ·exact hi q a ha
 ·have:=((Ag.2 q a x ha hx).ext hE hw (fun _=>false) (eY _)).1
  rwa [jY (fun _=>rfl)]at this
theorem rG{z:Nat}: ∀{xs:List (List AV)} {i:Nat} {cs vs:List AV} {off:Nat},(∀l∈xs,l.length=z)→xs[i]? =some cs→off+vs.length≤z→(xs.set i (bD cs off vs)).flatten=bD xs.flatten (i*z+off) vs
 |[],i,cs,vs,off,_,h,_=>by simp at h
 |l::r,0,cs,vs,off,hz,h,hle=>by
  simp at h;subst h
  have hl:=hz l (by simp)
  simp only[List.set_cons_zero,List.flatten_cons,Nat.zero_mul,Nat.zero_add]
  unfold bD
  rw[List.take_append_of_le_length (by omega),List.drop_append_of_le_length (by omega)]
  simp
 |l::r,i+1,cs,vs,off,hz,h,hle=>by
  have hl:=hz l (by simp)
  have ih:=rG (xs:=r) (i:=i) (fun l' tz=>hz l' (by simp[tz])) (by simpa using h) hle
  simp only[List.set_cons_succ,List.flatten_cons,ih]
  unfold bD
  rw[Nat.succ_mul,List.take_append,List.drop_append,List.take_of_length_le (l:=l) (by omega),@List.drop_eq_nil_of_le _ l _ (by omega)]
  rw[show i*z+z+off - l.length=i*z+off from by omega,show i*z+z+off+vs.length - l.length=i*z+off+vs.length from by omega]
  simp
def Env.cV(E:Env)(t t':Tok):Env:={E with own:=fun b=>match E.own b with| .tok q=>if q=t then .tok t' else .tok q|x=>x}
theorem su{t t':Tok}{b:Nat}(h:E.own b≠ .tok t):(E.cV t t').own b=E.own b:=by
 simp only[Env.cV]
 split
 ·rename_i q hq;rw[if_neg (fun e=>h (by rw[hq,e]))];exact hq.symm
 ·rfl
theorem sw(t t':Tok):Ext (fun x=>x= .tok t) E (E.cV t t'):=
 ⟨Nat.le_refl _,fun _ _ h=>⟨h,rfl,rfl⟩,fun _ h=>⟨h,rfl,rfl⟩,fun b _ hn=>⟨su hn,rfl,fun _=>Iff.rfl,rfl⟩⟩
theorem jg(t:Tok): ¬di (.tok t):=by cases t<;>simp[di,Own.di,Tok.loc]
theorem JF(h: ∀b,¬di (E.own b))(t t':Tok)(b:Nat): ¬di ((E.cV t t').own b):=by
 have:=h b
 simp only[Env.cV]
 split
 ·split<;>exact jg _
 ·exact this
theorem JE(hw:Wf E)(t t':Tok):Wf (E.cV t t'):=⟨hw.aN,fun b hb=>hw.own b (fun e=>hb (by simp only[Env.cV];rw[e])),hw.fz⟩
theorem lq(t q:Tok):bh t q=true↔t=q:=by
 cases t<;>cases q<;>simp[bh]
theorem Cz.cV{r:Nat}{t t':Tok}{xs:List (List AV)}{x:Value}(hw:Wf E)(h:Cz E (.gs r t xs) x):Cz (E.cV t t') (.gs r t' xs) x:=by
 cases h with
 |sX=>exact .sX _ _
 |gs _ _ _ z b c e cells u hc hm h0 dV hz hr hb du ho fY hi hu hq=>
  exact .gs r t' xs z b c e cells u hc hm h0 dV hz hr hb du (by simp only[Env.cV];rw[ho];simp) fY hi hu
   (fun q a ha=>((hq q a ha).ext (sw t t') hw (bh t) (fun q' uV=>(lq _ _).2 (by cases uV;rfl))).2 (hi q a ha))
theorem bq.cV(h:bq E0 E w0 w s a)(t t':Tok)(OI:P2 t=true):bq E0 (E.cV t t') w0 w (s.qd (bh t)) a:=by
 have hE:=sw (E:=E) t t'
 have hC:Ll (fun x=>x=Own.tok t):=fun o ho=>by subst ho;left;cases t<;>rfl
 have hx:=h.xW (T:=bh t) hE (fun t ht=>(lq _ _).2 (by cases ht;rfl)) hC (JE h.wf _ _) (w':=w) h.heap (iz.refl _)
  (fun b hb hc=>by
   have:=h.xz b hb
   rw[hc]at this;cases t<;>simp[Own.loc,Tok.loc]at this) (eN (bh t) s.b) s.g s.nx
  (fun d ob hd=>by
   rw[cw]at hd
   cases hh:look d s.b with
   |none=>rw[hh]at hd;simp at hd
   |some y=>rw[hh]at hd;simp at hd;exact .inl ⟨y,rfl,hd.symm,(fun hf=>by cases hf),fun hf=>by cases hf;cases OI⟩)
  (fun d hl=>by
   obtain⟨ob,ho⟩:=h.lv d hl
   exact⟨xu (bh t) ob,by rw[cw,ho];rfl⟩)
  (fun i ob hi=> .inl ⟨hi,fun hf=>by cases hf⟩) (fun i=>h.gl i) h.gk (JF h.ng t t')
 exact hx
theorem xp(hL:bn P C.L)(h:bq E0 E w0 w s a){t:Nat}{ti:TI}(ht:C.L t=some ti){d off:Nat}{av:AV}{v:Value}(hv:Cz E av v){k:Nat}(hk:zV av=some k)(hkz:k=ti.size)(yg:lf (cellsOf av)=true){K:bf}
  (hK:pC al ti d off av s K): ∃w',(Instr.storeAt t (.pointer (some ⟨E.m (.s d),off,none⟩)) v).run P w= .ok () w'∧Out E0 w0 a K undef w':=by
 obtain⟨c1,c2,c3⟩:=oL hv hk
 have KH:=DT (E:=E) (c:=v.cells) ⟨by rw[c1,c2],c3⟩ yg
 unfold pC at hK
 split at hK
 ·rename_i cs e8
  cases hle:lL (off+ti.size) cs.length with
  |false=>rw[hle]at hK;exact hK.elim
  |true=>
   rw[hle,cond_true]at hK
   have ae8:off+ti.size≤cs.length:=by simpa using hle
   split at hK
   ·rename_i r t0 xs
    simp only[zV,Option.some.injEq]at hk
    obtain⟨OI,hK⟩:=hK
    have h2:=h.cV t0 (.c d off) OI
    have ajN:look d (eN (bh t0) s.b)=some (.box (jX (bh t0) cs)):=by rw[cw,e8];rfl
    obtain⟨hl,c,e,hb,ho,hs,du,hq⟩:=h2.bx d _ ajN
    have hv2:=hv.cV (t':= .c d off) h.wf
    obtain⟨w',g1,g2,g3⟩:=run_store (w:=w) hL ht (b:=E.m (.s d)) (off:=off) (e:=e) (c:=c) (v:=v) (by rw[h.heap];exact hb) (by omega) (by rw[du,da];omega) KH
    have hvc:v.cells= #[v]:=by cases hv<;>rfl
    refine⟨w',g1,_,_,_,hK,h2.pX ajN (Aj h2.wf hl hb ho hs ⟨du,hq⟩ (vs:=[.gs r (.c d off) xs]) (by rw[da];simp;omega) (by simp[hvc]) (fun q' a' y h1 h2=>?_)) g2 g3 ho hs,.any _⟩
    rw[hvc]at h2
    cases q' with
    |zero=>simp at h1 h2;subst h1;subst h2;exact hv2
    |succ q'=>simp at h1
   obtain⟨hl,c,e,hb,ho,hs,du,hq⟩:=h.bx d _ e8
   obtain⟨w',g1,g2,g3⟩:=run_store (w:=w) hL ht (b:=E.m (.s d)) (off:=off) (e:=e) (c:=c) (v:=v) (by rw[h.heap];exact hb) (by omega) (by omega) KH
   refine⟨w',g1,_,_,_,hK,h.pX e8 (Aj h.wf hl hb ho hs ⟨du,hq⟩ (by omega) (by simp;omega) (fun q a y h1 h2=>c3 q a y h1 (by simpa using h2))) g2 g3 ho hs,.any _⟩
 ·rename_i z xs e8
  split at hK
  ·rename_i n e' kO
   obtain⟨e0,e1,e2,hi,hK⟩:=hK
   have e1:xs.length=n:=e1
   subst e0;subst e1
   obtain⟨hl,ke,dV,hz,hm,c,e,hb,ho,hs,du,lV,hq⟩:=h.bx d _ e8
   have fB:=aD hz
   have hvr:=hv.giveUp h.wf (fun _=>true)
   obtain⟨d1,d2,d3⟩:=oL hvr (k:=k) (by rw[Pb];exact hk)
   have hlen:(cellsOf (rd av)).length=xs.length*z:=by
    show(cellsOf (Ab.qd _ av)).length=_
    rw[d2,hkz,e2]
   obtain⟨f1,f2,f3⟩:=rM hlen
   obtain⟨w',g1,g2,g3⟩:=run_store (w:=w) hL ht (b:=E.m (.s d)) (off:=0) (e:=e) (c:=c) (v:=v) (by rw[h.heap];exact hb) (by omega) (by omega) KH
   refine⟨w',g1,_,_,_,hK,h.pX e8 (Ak h.wf hl (by show _=((chunks _ _ _).length,(chunks _ _ _).length);rw[f2];exact ke) dV (by show(chunks _ _ _).length≤_;rw[f2];exact hm) f3 hb ho hs ⟨by rw[du,fB],hq⟩ lV hi (off:=0) (by rw[hlen,fB];omega) ?_ (by simp;omega) (fun q a y h1 h2=>d3 q a y h1 (by simpa using h2))) g2 g3 ho hs,.any _⟩
   show(chunks _ _ _).flatten=_
   rw[f1]
   unfold bD
   rw[hlen,←fB]
   simp
  ·exact hK.elim
 ·exact hK.elim
theorem Ff(hL:bn P C.L)(h:bq E0 E w0 w s a){t:Nat}{ti:TI}(ht:C.L t=some ti){d i off z:Nat}{av:AV}{v:Value}(hv:Cz E av v){k:Nat}(hk:zV av=some k)(hkz:k=ti.size)(yg:lf (cellsOf av)=true){K:bf}
  (hK:yI al ti d i off z av s K): ∃w',(Instr.storeAt t (.pointer (some ⟨E.m (.s d),i*z+off,none⟩)) v).run P w= .ok () w'∧Out E0 w0 a K undef w':=by
 obtain⟨c1,c2,c3⟩:=oL hv hk
 have KH:=DT (E:=E) (c:=v.cells) ⟨by rw[c1,c2],c3⟩ yg
 unfold yI at hK
 split at hK
 ·rename_i z' xs e8
  obtain⟨cs,e0,e1,e2,hi,hK⟩:=hK
  subst e0
  obtain⟨hl,ke,dV,hz,hm,c,e,hb,ho,hs,du,lV,hq⟩:=h.bx d _ e8
  have fB:=aD hz
  have hvr:=hv.giveUp h.wf (fun _=>true)
  obtain⟨d1,d2,d3⟩:=oL hvr (k:=k) (by rw[Pb];exact hk)
  have hlen:(cellsOf (rd av)).length=ti.size:=by show(cellsOf (Ab.qd _ av)).length=_;rw[d2,hkz]
  have Cm:i<xs.length:=(List.getElem?_eq_some_iff.1 e1).1
  have hmul:i*z+z≤xs.length*z:=by rw[←Nat.succ_mul];exact Nat.mul_le_mul_right _ Cm
  have Ei:cs.length=z:=hz cs (by rw[List.getElem?_eq_getElem Cm]at e1;cases e1;simp)
  obtain⟨w',g1,g2,g3⟩:=run_store (w:=w) hL ht (b:=E.m (.s d)) (off:=i*z+off) (e:=e) (c:=c) (v:=v) (by rw[h.heap];exact hb) (by omega) (by omega) KH
  refine⟨w',g1,_,_,_,hK,h.pX e8 (Ak h.wf hl (by show _=((List.set _ _ _).length,(List.set _ _ _).length);simpa using ke) dV (by show(List.set _ _ _).length≤_;simpa using hm) ?_ hb ho hs ⟨by rw[du,fB],hq⟩ lV hi (off:=i*z+off) (by rw[fB];omega) (rG hz e1 (by omega)) (by simp;omega) (fun q a y h1 h2=>d3 q a y h1 (by simpa using h2))) g2 g3 ho hs,.any _⟩
  intro l tz
  rcases List.mem_or_eq_of_mem_set tz with h1|h1
  ·exact hz l h1
  ·rw[h1,kq (by omega)];exact Ei
 ·exact hK.elim
theorem A9{z:Nat}: ∀{xs:List (List AV)},(∀l∈xs,l.length=z)→chunks z xs.length xs.flatten=xs
 |[],_=>rfl
 |l::r,h=>by
  have hl:=h l (by simp)
  have ih:=A9 (xs:=r) (fun l' tz=>h l' (by simp[tz]))
  simp only[List.length_cons,chunks,List.flatten_cons]
  rw[←hl,List.take_left,List.drop_left,hl,ih]
theorem Ka{ys:List (List AV)}(h:dU ys=true):lf ys.flatten=true:=by
 induction ys with
 |nil=>rfl
 |cons l r ih=>
  simp only[dU,Bool.and_eq_true]at h
  rw[List.flatten_cons]
  have:=ih h.2
  generalize r.flatten=q at this
  have h1:=h.1
  clear ih h
  induction l with
  |nil=>exact this
  |cons a l ih=>simp only[lf,Bool.and_eq_true,List.cons_append]at h1 ⊢;exact⟨h1.1,ih h1.2⟩
theorem Db(hL:bn P C.L)(hI:C.I=al)(h:bq E0 E w0 w s a){o:Oper}{t:Nat}{x y:Operand}(he:o.op= .store t x y){n z:Nat}{ys:List (List AV)}(dG:bL s [] y= .ar n z ys){K:bf}{Q:Exit→Act→World→Prop}(hk:Dc C t (bL s [] x) n z ys s K):lj P o a w (fC E0 w0 o a K) Q:=by
 unfold Dc at hk
 have hx:=h.ev (p:=[]) trivial x
 have hy:=h.ev (p:=[]) trivial y
 rw[dG]at hy
 obtain⟨zt,hn,hz,hi⟩:=NG hy
 split at hk
 ·rename_i ti d off ug hex
  split at hk
  ·rename_i m e' z' xs kO e8
   obtain⟨⟨k1,k2,k3,k4,k5,k6⟩,hk⟩:=hk
   subst k1;subst k2;subst k3
   rw[hex]at hx
   cases dS:a.eval x<;>rw[dS]at hx<;>cases hx
   have OL:cellsOf (rd (.agg ys.flatten))=ys.flatten:=by show jX _ _=_;exact vS hi
   have fB:=aD hz
   obtain⟨w',g1,g2⟩:=xp (C:=C) (K:=K) (k:=ys.flatten.length) hL h ug (d:=d) (off:=0) (av:= .agg ys.flatten) zt rfl (by rw[fB,hn];exact k5) (Ka k6) (by
    unfold pC
    rw[e8]
    dsimp only
    rw[kO]
    dsimp only
    rw[hI]at k4
    refine⟨rfl,k4,k5,by rw[OL];exact hi,?_⟩
    rw[OL]
    show K .any {s with b:=cR d (.arr z' (chunks z' n ys.flatten)) s.b}
    rw[←hn,A9 hz]
    exact hk)
   refine vh ?_ g2
   simp only[execOp,he,dS]
   simp[g1]
  ·exact hk.elim
 ·exact hk.elim
theorem LK(h:bq E0 E w0 w s a){o:Oper}{e d:Nat}{x:Operand}(he:o.op= .box e x){K:bf}{Q:Exit→Act→World→Prop}(hk:abd C d (bL s [] x) s K):lj P o a w (fC E0 w0 o a K) Q:=by
 unfold abd at hk
 split at hk
 ·rename_i n z xs dG
  generalize C.base+d=d at hk
  have hx:=h.ev (p:=[]) trivial x
  rw[dG]at hx
  split at hk
  ·rename_i e8
   obtain⟨⟨k1,k2⟩,hk⟩:=hk
   obtain⟨zt,hn,hz,hi⟩:=NG hx
   have zx: ¬E.live (.s d):=fun tz=>by obtain⟨ob,ho⟩:=h.lv d tz;rw[e8]at ho;cases ho
   generalize hv:a.eval x=v at zt
   cases zt with
   |agg _ ys hl hq=>
    have uh:=BZ (h:=h) zx (z:=z) (n:=n) (cs:=xs.flatten) (c:=ys.toArray) k1 (by unfold maxLen;omega) (by rw[aD hz,hn]) hi ⟨by simpa using hl,fun q b y hb hy=>hq q b y hb (by simpa using hy)⟩ e
    rw[←hn,A9 hz]at uh
    refine cP (x:= .pointer (some ⟨w.heap.size,0,none⟩)) (w':=w.alloc (.cells ys.toArray e)) ?_ ⟨_,_,_,hk,h.Tw e8 uh,?_⟩
    ·simp only[execOp,he,Instr.box,newVar,hv]
     simp[gj,Value.cells]
    ·have:(E.addKey (.s d) (.cells ys.toArray e (0,0)) xs.length).m (.s d)=w.heap.size:=by simp[Env.addKey,h.heap]
     rw[←this];exact .ptr _ _ (.inl rfl)
  ·exact hk.elim
 ·exact LQ h he hk
theorem Hi(hL:bn P C.L)(hI:C.I=al)(h:bq E0 E w0 w s a){o:Oper}{t:Nat}{x y:Operand}(he:o.op= .store t x y){K:bf}{Q:Exit→Act→World→Prop}(hk:Hj C t (bL s [] x) (bL s [] y) s K):lj P o a w (fC E0 w0 o a K) Q:=by
 unfold Hj at hk
 split at hk
 ·rename_i ti k ug hz
  obtain⟨k1,k2,k3⟩:=hk
  have hx:=h.ev (p:=[]) trivial x
  have hy:=h.ev (p:=[]) trivial y
  have fin: ∀w',(Instr.storeAt t (a.eval x) (a.eval y)).run P w= .ok () w'→Out E0 w0 a K undef w'→lj P o a w (fC E0 w0 o a K) Q:=fun w' g1 g2=>by
   refine vh ?_ g2
   simp only[execOp,he]
   simp[g1]
  rw[hI]at k3
  split at k3
  ·rename_i d off dG
   rw[dG]at hx
   cases dS:a.eval x<;>rw[dS]at hx<;>cases hx
   obtain⟨w',g1,g2⟩:=xp hL h ug hy hz k1 k2 k3
   exact fin w' (by rw[dS];exact g1) g2
  ·rename_i d i off z dG
   rw[dG]at hx
   cases dS:a.eval x<;>rw[dS]at hx<;>cases hx
   obtain⟨w',g1,g2⟩:=Ff hL h ug hy hz k1 k2 k3
   exact fin w' (by rw[dS];exact g1) g2
  ·exact k3.elim
 ·exact hk.elim
def Reads(P:Program)(E:Env)(w:World)(a:Act)(o:Oper)(s:St)(p:Path)(K:bf):Prop:= ∃r,K r s∧(aY s p→ ∃x,(execOp a.eval o).run P w= .ok (.value x) w∧Cz E r x)
theorem bF{X:Prop}(h:under s p X)(hp:aY s p):X:=by
 unfold under at h
 split at h
 ·exact h
 ·exact h hp
theorem part_row{ti:TI}{cs:List AV}{off:Nat}{r:AV}(h:part ti cs off=some r):off+ti.size≤cs.length:=by
 unfold part at h
 cases hle:lL (off+ti.size) cs.length with
 |false=>simp[hle]at h
 |true=>simpa using hle
theorem dH{z:Nat}: ∀{xs:List (List AV)} {i:Nat} {cs:List AV},(∀l∈xs,l.length=z)→xs[i]? =some cs→ ∀q,q<z→xs.flatten[i*z+q]? =cs[q]?
 |[],i,cs,_,h,q,_=>by simp at h
 |l::r,0,cs,hz,h,q,hq=>by
  simp at h;subst h
  have hl:=hz l (by simp)
  rw[List.flatten_cons,List.getElem?_append_left (by omega)]
  simp
 |l::r,i+1,cs,hz,h,q,hq=>by
  have hl:=hz l (by simp)
  have ih:=dH (xs:=r) (i:=i) (fun l' tz=>hz l' (by simp[tz])) (by simpa using h) q hq
  rw[List.flatten_cons,List.getElem?_append_right (by rw[Nat.succ_mul];omega),Nat.succ_mul,show i*z+z+q - l.length=i*z+q from by omega]
  exact ih
theorem rj(hL:bn P C.L)(hI:C.I=al)(h:bq E0 E w0 w s a){o:Oper}{t:Nat}{x:Operand}(he:o.op= .load t x){K:bf}(hk:NZ C p t (bL s p x) s K):Reads P E w a o s p K:=by
 unfold NZ at hk
 cases ht:C.L t with
 |none=>rw[ht]at hk;exact hk.elim
 |some ti=>
  rw[ht]at hk
  dsimp only at hk
  have fin: ∀v y,a.eval x=v→(Instr.loadAt t v).run P w= .ok y w→(execOp a.eval o).run P w= .ok (.value y) w:=fun v y hv hy=>by
   simp only[execOp,he,hv]
   simp[hy]
  split at hk
  ·rename_i rr z xs dG
   split at hk
   ·rename_i n e' kO
    obtain⟨⟨k2,k3⟩,hk⟩:=hk
    rw[hI]at k2
    have k2:xs.length=n:=k2
    refine⟨_,hk,fun hp=>?_⟩
    have hx:=h.ev hp x
    rw[dG]at hx
    cases hx with
    |nc _ _ _ _ hz hc=>
    generalize dS:a.eval x=v at hc
    cases hc with
    |aO _ _ _ b o u hr hi fY hu hq=>
    have fB:=aD hz
    have sW:ti.agg=true:=by unfold TI.agg;rw[kO]
    have jl:part ti xs.flatten 0=some (.agg xs.flatten):=by
     have h1:lL (0+ti.size) xs.flatten.length=true:=by rw[ye];rw[fB,k2,k3];omega
     unfold part
     rw[h1,sW]
     simp only[cond_true,cut,List.drop_zero]
     rw[List.take_of_length_le (by rw[fB,k2,k3];exact Nat.le_refl _)]
    obtain⟨y,g1,g2⟩:=iV (P:=P) (E:=E) (w:=w) hL ht (b:=b) (o:=o) jl (fun q a' ha=>⟨u q,by rw[h.heap];exact hu q a' ha,hq q a' ha⟩)
    exact⟨y,fin _ _ dS g1,Ve g2 k2 hz (fun q a ha=>hi q a ha)⟩
   ·exact hk.elim
  ·rename_i i off dG
   obtain⟨cs,r,hg,jl,hk⟩:=hk
   refine⟨r,hk,fun hp=>?_⟩
   have hx:=h.ev hp x
   rw[dG]at hx
   cases dS:a.eval x<;>rw[dS]at hx<;>cases hx
   obtain⟨hl,c,e,hb,ho,hs,du,hq⟩:=h.gx i _ (bF hg hp)
   obtain⟨y,g1,g2⟩:=iV (P:=P) (E:=E) (w:=w) hL ht (b:=E.m (.o i)) (o:=0) jl (fun q a' ha=>by
    have aU:q<c.size:=by rw[du];exact(List.getElem?_eq_some_iff.1 ha).1
    exact⟨c[q],by simp[aR,h.heap,hb,aU],hq q a' _ ha (by simp)⟩)
   rw[Nat.zero_add]at g1
   exact⟨y,fin _ _ dS g1,g2⟩
  ·rename_i d off dG
   split at hk
   ·rename_i z xs e8
    split at hk
    ·rename_i n e' kO
     obtain⟨⟨k1,k2,k3⟩,hk⟩:=hk
     rw[hI]at k2
     subst k1
     refine⟨_,hk,fun hp=>?_⟩
     have k2:xs.length=n:=bF k2 hp
     have hx:=h.ev hp x
     rw[dG]at hx
     cases dS:a.eval x<;>rw[dS]at hx<;>cases hx
     obtain⟨hl,ke,dV,hz,hm,c,e,hb,ho,hs,du,lV,hq⟩:=h.bx d _ e8
     have fB:=aD hz
     have sW:ti.agg=true:=by unfold TI.agg;rw[kO]
     have jl:part ti xs.flatten 0=some (.agg xs.flatten):=by
      have h1:lL (0+ti.size) xs.flatten.length=true:=by rw[ye];rw[fB,k2,k3];omega
      unfold part
      rw[h1,sW]
      simp only[cond_true,cut,List.drop_zero]
      rw[List.take_of_length_le (by rw[fB,k2,k3];exact Nat.le_refl _)]
     obtain⟨y,g1,g2⟩:=iV (P:=P) (E:=E) (w:=w) hL ht (b:=E.m (.s d)) (o:=0) jl (fun q a' ha=>by
      have aU:q<c.size:=by rw[du,←fB];exact(List.getElem?_eq_some_iff.1 ha).1
      exact⟨c[q],by simp[aR,h.heap,hb,aU],hq q a' _ ha (by simp)⟩)
     exact⟨y,fin _ _ dS (by simpa using g1),Ve g2 k2 hz lV⟩
    ·exact hk.elim
   ·exact hk.elim
  ·rename_i d i off z dG
   split at hk
   ·rename_i z' xs e8
    obtain⟨cs,r,e0,hg,jl,hk⟩:=hk
    subst e0
    refine⟨r,hk,fun hp=>?_⟩
    have hx:=h.ev hp x
    rw[dG]at hx
    cases dS:a.eval x<;>rw[dS]at hx<;>cases hx
    obtain⟨hl,ke,dV,hz,hm,c,e,hb,ho,hs,du,lV,hq⟩:=h.bx d _ e8
    have fB:=aD hz
    have KN:=bF hg hp
    have Cm:i<xs.length:=(List.getElem?_eq_some_iff.1 KN).1
    have hmul:i*z+z≤xs.length*z:=by rw[←Nat.succ_mul];exact Nat.mul_le_mul_right _ Cm
    have Ei:cs.length=z:=hz cs (by rw[List.getElem?_eq_getElem Cm]at KN;cases KN;simp)
    obtain⟨y,g1,g2⟩:=iV (P:=P) (E:=E) (w:=w) hL ht (b:=E.m (.s d)) (o:=i*z) jl (fun q a' ha=>by
     have uV:q<z:=by rw[←Ei];exact(List.getElem?_eq_some_iff.1 ha).1
     have aU:i*z+q<c.size:=by omega
     exact⟨c[i*z+q],by simp[aR,h.heap,hb,aU],hq (i*z+q) a' _ (by rw[dH hz KN q uV];exact ha) (by simp)⟩)
    exact⟨y,fin _ _ dS g1,g2⟩
   ·rename_i z' sN xs e8
    obtain⟨cs,r,e0,hg,jl,hk⟩:=hk
    subst e0
    refine⟨r,hk,fun hp=>?_⟩
    have hx:=h.ev hp x
    rw[dG]at hx
    cases dS:a.eval x<;>rw[dS]at hx<;>cases hx
    obtain⟨hl,ho,hs,lV,u,⟨dV,hz,ke,hle,hm,c,e,hb,du,hu⟩,hq,_⟩:=h.bx d _ e8
    have KN:=bF hg hp
    have Cm:i<xs.length:=(List.getElem?_eq_some_iff.1 KN).1
    have Ei:cs.length=z:=hz cs (by rw[List.getElem?_eq_getElem Cm]at KN;cases KN;simp)
    obtain⟨y,g1,g2⟩:=iV (P:=P) (E:=E) (w:=w) hL ht (b:=E.m (.s d)) (o:=i*z) jl (fun q a' ha=>by
     have uV:q<z:=by rw[←Ei];exact(List.getElem?_eq_some_iff.1 ha).1
     have hfa:xs.flatten[i*z+q]? =some a':=by rw[dH hz KN q uV];exact ha
     exact⟨u (i*z+q),by simp[aR,h.heap,hb,hu _ _ hfa],hq _ _ hfa⟩)
    exact⟨y,fin _ _ dS g1,g2⟩
   ·exact hk.elim
  ·exact hk.elim
theorem iW(hL:bn P L){t e:Nat}{ti:TI}(ht:elemOf L t=some (e,ti))(k:IntKind)(n:Int)(b o m c:Nat)(h0:0≤n)(h1:n<m)(w:World):
  (Instr.indexAt t (.slice (some ⟨b,o,none⟩) m c) (.int k n)).run P w= .ok (.pointer (some ⟨b,o+n.toNat*ti.size,none⟩)) w:=by
 unfold elemOf at ht
 cases hl:L t with
 |none=>rw[hl]at ht;simp at ht
 |some tj=>
  obtain⟨kk,size,bytes,zero⟩:=tj
  rw[hl]at ht
  cases kk with
  |slice e'=>
   dsimp only at ht
   cases he:L e' with
   |none=>rw[he]at ht;simp at ht
   |some tk=>
    rw[he]at ht
    simp only[Option.some.injEq,Prod.mk.injEq]at ht
    obtain⟨rfl,rfl⟩:=ht
    obtain⟨i,d,z,g1,g2,g3,g4,g5,g6,g7⟩:=(hL.ok t _ hl).ex
    obtain⟨i',d',z',k1,k2,k3,k4,k5,k6,k7⟩:=(hL.ok e' _ he).ex
    dsimp only at g7
    subst g7
    simp[Instr.indexAt,go_sem,underlying,g6,Go.sizeOf,typeInfo,k1,k2,h0,h1,dX]
  |_=>simp at ht
theorem yP(hL:bn P L){t n' e:Nat}{ti:TI}(ht:L t=some ti)(hk:ti.k= .arr n' e){tj:TI}(he:L e=some tj)(k:IntKind)(n:Int)(b o:Nat)(h0:0≤n)(h1:n<n')(w:World):
  (Instr.indexAt t (.pointer (some ⟨b,o,none⟩)) (.int k n)).run P w= .ok (.pointer (some ⟨b,o+n.toNat*tj.size,none⟩)) w:=by
 obtain⟨i,d,z,g1,g2,g3,g4,g5,g6,g7⟩:=(hL.ok t _ ht).ex
 obtain⟨i',d',z',k1,k2,k3,k4,k5,k6,k7⟩:=(hL.ok e _ he).ex
 rw[hk]at g7
 dsimp only at g7
 subst g7
 simp[Instr.indexAt,go_sem,underlying,g6,Go.sizeOf,typeInfo,k1,k2,h0,h1,dX,Instr.sureAddr]
theorem eG{x:Operand}{n:Int}(hn:intOf (bL s p x)=some n)(h:bq E0 E w0 w s a)(hp:aY s p): ∃k,a.eval x= .int k n:=by
 unfold intOf at hn
 split at hn
 ·rename_i k m dG
  cases hn
  have hx:=h.ev hp x
  rw[dG]at hx
  exact⟨k,bG hx⟩
 ·simp at hn
theorem nZ{av:AV}{v:Value}{r:Nat}{xs:List (List AV)}(hr:xy av=some (r,xs))(h:Cz E av v):Cz E (.sl r xs) v:=by
 unfold xy at hr
 split at hr
 ·cases hr;exact h
 ·cases hr;exact h.read
 ·cases hr;have:=bG h;subst this;exact .nA _ _ _
 ·simp at hr
theorem Cz.elem{r:Nat}{xs:List (List AV)}{v:Value}(h:Cz E (.sl r xs) v){i:Nat}{cs:List AV}(hi:xs[i]? =some cs):
  ∃b o c,v= .slice (some ⟨b,o,none⟩) xs.length c∧Cz E (.aO r cs 0) (.pointer (some ⟨b,o+i*cs.length,none⟩)):=by
 cases h with
 |nA=>simp at hi
 |sl _ _ z b o c u hp hc hm dV hz hr hii hs hu hq=>
  have iH:cs.length=z:=hz cs (by rw[List.getElem?_eq_some_iff]at hi;obtain⟨h1,h2⟩:=hi;rw[←h2];simp)
  have get: ∀q a,cs[q]? =some a→xs.flatten[i*z+q]? =some a:=fun q a ha=>by
   rw[dH hz hi q (by rw[←iH];exact(List.getElem?_eq_some_iff.1 ha).1)];exact ha
  refine⟨b,o,c,rfl,?_⟩
  have:=Cz.aO (E:=E) r cs 0 b (o+i*z) (fun q=>u (i*z+q)) (fun q a ha=>hr) (fun q a ha=>hii _ a (get q a ha)) (fun q a ha=>by rw[Nat.add_assoc];exact hs _ a (get q a ha))
   (fun q a ha=>by rw[Nat.add_assoc];exact hu _ a (get q a ha)) (fun q a ha=>hq _ a (get q a ha))
  rw[iH]
  simpa using this
theorem LP(hL:bn P C.L)(hI:C.I=al)(h:bq E0 E w0 w s a){o:Oper}{t:Nat}{x y:Operand}(he:o.op= .indexAddr t x y){n:Int}(hn:intOf (bL s p y)=some n){K:bf}(hk:Ro C p t n (bL s p x) s K):Reads P E w a o s p K:=by
 have fin: ∀v z k,a.eval x=v→a.eval y= .int k n→(Instr.indexAt t v (.int k n)).run P w= .ok z w→(execOp a.eval o).run P w= .ok (.value z) w:=fun v z k hv hk hy=>by
  simp only[execOp,he,hv,hk]
  simp[hy]
 unfold Ro at hk
 rw[hI]at hk
 split at hk
 ·rename_i k m dG
  split at hk
  ·rename_i e ti sn
   obtain⟨hb,hk⟩:=hk
   refine⟨_,hk,fun hp=>?_⟩
   obtain⟨h0,h1⟩:0≤n∧n<(m:Int):=by
    have q:=bF hb hp
    skip
    exact q
   obtain⟨ki,hy⟩:=eG hn h hp
   have hx:=h.ev hp x
   rw[dG]at hx
   cases dS:a.eval x<;>rw[dS]at hx<;>cases hx
   rename_i hl _ _
   exact⟨_,fin _ _ _ dS hy (iW hL sn ki n _ _ _ _ h0 h1 w),by
    have:=Cz.cG (E:=E) k n.toNat 0 ti.size (by assumption)
    show Cz E (.cG _ n.toNat _ _) _;simpa using this⟩
  ·exact hk.elim
 ·rename_i d off dG
  split at hk
  ·rename_i ti z xs ug e8
   split at hk
   ·rename_i m e kO
    split at hk
    ·rename_i tj Ng
     obtain⟨k1,k2,hb,hk⟩:=hk
     subst k1;subst k2
     refine⟨_,hk,fun hp=>?_⟩
     obtain⟨h0,h1⟩:0≤n∧n<(m:Int):=by
      have q:=bF hb hp
      skip
      exact q
     obtain⟨ki,hy⟩:=eG hn h hp
     have hx:=h.ev hp x
     rw[dG]at hx
     cases dS:a.eval x<;>rw[dS]at hx<;>cases hx
     rename_i hl
     exact⟨_,fin _ _ _ dS hy (yP hL ug kO Ng ki n _ _ h0 h1 w),by
      have:=Cz.cG (E:=E) (.s d) n.toNat 0 tj.size hl
      show Cz E (.cG _ n.toNat _ _) _;simpa using this⟩
    ·exact hk.elim
   ·exact hk.elim
  ·exact hk.elim
 ·split at hk
  ·rename_i r xs e ti OL sn
   obtain⟨cs,hb,hk⟩:=hk
   refine⟨_,hk,fun hp=>?_⟩
   obtain⟨h0,h1,h2⟩:=bF hb hp
   obtain⟨ki,hy⟩:=eG hn h hp
   have hx:=nZ OL (h.ev hp x)
   obtain⟨b,o',c,hv,hc⟩:=hx.elem h1
   refine⟨_,fin _ _ _ hv hy (iW hL sn ki n b o' xs.length c h0 (by
    have:=(List.getElem?_eq_some_iff.1 h1).1;omega) w),?_⟩
   rw[←h2];exact hc
  ·exact hk.elim
theorem yO(hL:bn P L){t:Nat}(ht:isStr L t=true)(k:IntKind)(n:Int)(b:ByteArray){c:UInt8}(h0:0≤n)(h1:b[n.toNat]? =some c)(w:World):
  (Instr.index t (.string b) (.int k n)).run P w= .ok (.int .u8 c.toNat) w:=by
 unfold isStr at ht
 cases hl:L t with
 |none=>rw[hl]at ht;simp at ht
 |some ti=>
  rw[hl]at ht
  dsimp only at ht
  obtain⟨i,d,z,g1,g2,g3,g4,g5,g6,g7⟩:=(hL.ok t _ hl).ex
  split at ht
  ·rename_i hk
   rw[hk]at g7
   dsimp only at g7
   subst g7
   simp[Instr.index,go_sem,underlying,g6,h0,h1]
  ·simp at ht
theorem yQ(hL:bn P L){t m e:Nat}{ti tj:TI}(ht:L t=some ti)(hk:ti.k= .arr m e)(he:L e=some tj)(h1:tj.size=1)(h2:tj.agg=false)(k:IntKind)(n:Int)(cs:Array Value){y:Value}(h0:0≤n)(hn:n<m)(hy:cs[n.toNat]? =some y)(w:World):
  (Instr.index t (.agg cs) (.int k n)).run P w= .ok y w:=by
 obtain⟨i,d,z,g1,g2,g3,g4,g5,g6,g7⟩:=(hL.ok t _ ht).ex
 obtain⟨i',d',z',k1,k2,k3,k4,k5,k6,k7⟩:=(hL.ok e _ he).ex
 rw[hk]at g7
 dsimp only at g7
 subst g7
 have Eg: ∀w,(isAgg e).run P w= .ok false w:=by
  intro w
  unfold TI.agg at h2
  cases hk:tj.k with
  |cU fs=>rw[hk]at h2;simp at h2
  |arr n e=>rw[hk]at h2;simp at h2
  |sc=>rw[hk]at k7;dsimp only at k7;cases d'<;>simp_all [isAgg,underlying,go_sem]
  |_=>rw[hk]at k7;dsimp only at k7;subst k7;simp[isAgg,underlying,go_sem,k6]
 simp[Instr.index,go_sem,underlying,g6,Go.sizeOf,typeInfo,k1,k2,h1,h0,hn,Go.part,Eg,hy]
theorem Hl(hL:bn P C.L)(h:bq E0 E w0 w s a){o:Oper}{t:Nat}{x y:Operand}(he:o.op= .index t x y){n:Int}(hn:intOf (bL s p y)=some n){K:bf}(hk:Hm C p t n (bL s p x) s K):Reads P E w a o s p K:=by
 have fin: ∀v z k,a.eval x=v→a.eval y= .int k n→(Instr.index t v (.int k n)).run P w= .ok z w→(execOp a.eval o).run P w= .ok (.value z) w:=fun v z k hv hk hy=>by
  simp only[execOp,he,hv,hk]
  simp[hy]
 unfold Hm at hk
 split at hk
 ·rename_i b dG
  cases hs:isStr C.L t with
  |false=>rw[hs]at hk;exact hk.elim
  |true=>
   rw[hs,cond_true]at hk
   obtain⟨c,hb,hk⟩:=hk
   refine⟨_,hk,fun hp=>?_⟩
   obtain⟨h0,h1⟩:=bF hb hp
   obtain⟨ki,hy⟩:=eG hn h hp
   have hx:=h.ev hp x
   rw[dG]at hx
   exact⟨_,fin _ _ _ (bG hx) hy (yO hL hs ki n b h0 h1 w),.v _⟩
 ·rename_i cs dG
  split at hk
  ·rename_i ti ug
   split at hk
   ·rename_i m e kO
    split at hk
    ·rename_i tj Ng
     cases eI:cS tj.size 1&& !tj.agg with
     |false=>rw[eI]at hk;exact hk.elim
     |true=>
      rw[eI,cond_true]at hk
      simp only[Bool.and_eq_true,Bool.not_eq_true']at eI
      obtain⟨r,hb,hk⟩:=hk
      refine⟨_,hk,fun hp=>?_⟩
      obtain⟨h0,h1,h2⟩:=bF hb hp
      obtain⟨ki,hy⟩:=eG hn h hp
      have hx:=h.ev hp x
      rw[dG]at hx
      cases dS:a.eval x<;>rw[dS]at hx<;>cases hx
      rename_i ys hl hq
      have aU:n.toNat<ys.length:=by rw[hl];exact(List.getElem?_eq_some_iff.1 h2).1
      exact⟨ys[n.toNat],fin _ _ _ dS hy (yQ hL ug kO Ng (dg eI.1) eI.2 ki n _ h0 h1 (by simp[aU]) w),hq _ r _ h2 (by simp)⟩
    ·exact hk.elim
   ·exact hk.elim
  ·exact hk.elim
 ·exact hk.elim
theorem vj(hI:C.I=al)(h:bq E0 E w0 w s a){o:Oper}{c x y:Operand}(he:o.op= .pick c x y){K:bf}(hk:Rn C p c x y s K):Reads P E w a o s p K:=by
 unfold Rn at hk
 split at hk
 ·exact hk.elim
 ·rename_i d hd
  split at hk
  ·rename_i r OM
   refine⟨r,hk,fun hp=>?_⟩
   unfold Z7 at OM
   split at OM
   ·rename_i g u v h1 h2 h3
    cases OM
    have hc:=h.ev hp c
    rw[h1]at hc
    have ec:=bG hc
    have aju:c= .tmp d:=by unfold RH at hd;split at hd<;>simp_all
    have hcd: ∃q,look d s.t=some (.v (.bool g))∧q=g:=by
     subst aju
     have:DD s p d= .v (.bool g):=h1
     unfold DD at this
     cases hl:look d s.t with
     |none=>rw[hl]at this;simp at this
     |some z=>
      rw[hl]at this
      dsimp only at this
      split at this
      ·subst this;exact⟨g,rfl,rfl⟩
      ·rename_i q _
       cases hpb:tP q p with
       |true=>rw[hpb,cond_true]at this;subst this;exact⟨g,rfl,rfl⟩
       |false=>rw[hpb,cond_false]at this;cases this
    obtain⟨_,iH,_⟩:=hcd
    have J0: ∀(w:Bool),g=w→aY s (p++[(d,w)]):=fun w hw=>by
     have: ∀q:Path,aY s q→aY s (q++[(d,w)]):=fun q=>by
      induction q with
      |nil=>intro _;exact⟨by rw[iH];exact hw,trivial⟩
      |cons z r ih=>intro hq;exact⟨hq.1,ih hq.2⟩
     exact this p hp
    rw[hI]
    refine⟨.bool (bif g then u else v),?_,.v _⟩
    cases g with
    |true=>
     have hx:=h.ev (J0 true rfl) x
     rw[h2]at hx
     have ex:=bG hx
     simp only[execOp,he,ec,ex]
     simp[asBool,go_sem]
    |false=>
     have hx:=h.ev (J0 false rfl) y
     rw[h3]at hx
     have ex:=bG hx
     simp only[execOp,he,ec,ex]
     simp[asBool,go_sem]
   ·simp at OM
  ·exact hk.elim
theorem H4{d n:Int}{y:Option Operand}(hn:ld s p d y=some n)(h:bq E0 E w0 w s a)(hp:aY s p):(y=none∧n=d)∨ ∃x k,y=some x∧a.eval x= .int k n:=by
 unfold ld at hn
 cases y with
 |none=>cases hn;exact .inl ⟨rfl,rfl⟩
 |some x=>obtain⟨k,hk⟩:=eG hn h hp;exact .inr ⟨x,k,rfl,hk⟩
theorem tI(P:Program)(isS:Bool)(len cap:Nat)(lo hi:Option Value)(l h:Nat)(hlo:(lo=none∧l=0)∨ ∃k,lo=some (.int k l))(hhi:(hi=none∧h=len)∨ ∃k,hi=some (.int k h))(h1:l≤h)(h2:h≤len)(h3:len≤cap)(w:World):
  (Instr.sliceBounds isS len cap lo hi none).run P w= .ok (l,h,cap) w:=by
 rcases hlo with⟨rfl,rfl⟩|⟨k,rfl⟩<;>rcases hhi with⟨rfl,rfl⟩|⟨k',rfl⟩
 ·simp[Instr.sliceBounds,go_sem]
 ·have t:h≤cap:=by omega
  simp[Instr.sliceBounds,Instr.sliceBound,asIntOf,go_sem,t]
 ·simp[Instr.sliceBounds,Instr.sliceBound,asIntOf,go_sem,h1]
 ·have t1:h≤cap:=by omega
  simp[Instr.sliceBounds,Instr.sliceBound,asIntOf,go_sem,t1,h1]
theorem sI{d n:Int}{y:Option Operand}(hn:ld s p d y=some n)(h:bq E0 E w0 w s a)(hp:aY s p)(h0:0≤n):((y.map a.eval)=none∧n=d)∨ ∃k,(y.map a.eval)=some (.int k (n.toNat:Int)):=by
 rcases H4 hn h hp with⟨rfl,rfl⟩|⟨x,k,rfl,hx⟩
 ·exact .inl ⟨rfl,rfl⟩
 ·exact .inr ⟨k,by simp[hx,Int.toNat_of_nonneg h0]⟩
theorem HB(hL:bn P L){t:Nat}(ht:isStr L t=true)(b:ByteArray){lo hi:Option Value}{l h:Nat}(hb: ∀w,(Instr.sliceBounds false b.size b.size lo hi none).run P w= .ok (l,h,b.size) w)(w:World):
  (Instr.sliceAt t (.string b) lo hi none).run P w= .ok (.string (b.extract l h)) w:=by
 unfold isStr at ht
 cases hl:L t with
 |none=>rw[hl]at ht;simp at ht
 |some ti=>
  rw[hl]at ht
  dsimp only at ht
  obtain⟨i,d,z,g1,g2,g3,g4,g5,g6,g7⟩:=(hL.ok t _ hl).ex
  split at ht
  ·rename_i hk
   rw[hk]at g7
   dsimp only at g7
   subst g7
   have hu: ∀w,(underlying t).run P w= .ok .string w:=eK g6
   unfold Instr.sliceAt
   simp[Sem.run_bind,hu,Result.andThen,Instr.slice,hb]
  ·simp at ht
theorem gA(hL:bn P L){t e:Nat}{ti:TI}(ht:elemOf L t=some (e,ti)):P.underlying t=some (.slice e)∧L e=some ti∧ ∃i,P.info? e=some i∧i.size=ti.size∧i.bytes=ti.bytes∧ ∃z,i.zero=some z∧z.cells.toList=ti.zero:=by
 unfold elemOf at ht
 cases hl:L t with
 |none=>rw[hl]at ht;simp at ht
 |some tj=>
  obtain⟨kk,size,bytes,zero⟩:=tj
  rw[hl]at ht
  cases kk with
  |slice e'=>
   dsimp only at ht
   cases he:L e' with
   |none=>rw[he]at ht;simp at ht
   |some tk=>
    rw[he]at ht
    simp only[Option.some.injEq,Prod.mk.injEq]at ht
    obtain⟨rfl,rfl⟩:=ht
    obtain⟨i,d,z,g1,g2,g3,g4,g5,g6,g7⟩:=(hL.ok t _ hl).ex
    obtain⟨i',d',z',k1,k2,k3,k4,k5,k6,k7⟩:=(hL.ok e' _ he).ex
    dsimp only at g7
    subst g7
    exact⟨g6,he,i',k1,k2,k3,z',k4,k5⟩
  |_=>simp at ht
theorem Bq(hL:bn P L){t e:Nat}{ti:TI}(ht:elemOf L t=some (e,ti))(A:Option Addr)(n c:Nat){lo hi:Option Value}{l h m:Nat}(hb: ∀w,(Instr.sliceBounds true n c lo hi none).run P w= .ok (l,h,m) w)(w:World):
  (Instr.sliceAt t (.slice A n c) lo hi none).run P w= .ok (.slice (if m=l then A else A.map (·.add (l*ti.size))) (h - l) (m - l)) w:=by
 obtain⟨g6,_,i,k1,k2,_⟩:=gA hL ht
 have hu: ∀w,(underlying t).run P w= .ok (.slice e) w:=eK g6
 have hz: ∀w,(Go.sizeOf e).run P w= .ok ti.size w:=fun w=>by rw[←k2];exact kA k1 w
 unfold Instr.sliceAt
 simp[Sem.run_bind,hu,Result.andThen,Instr.slice,hb,hz]
theorem HC(hL:bn P L){t n e:Nat}{ti:TI}(ht:L t=some ti)(hk:ti.k= .arr n e)(b:Nat){lo hi:Option Value}{h m:Nat}(hb: ∀w,(Instr.sliceBounds false n n lo hi none).run P w= .ok (0,h,m) w){tj:TypeInfo}(he:P.info? e=some tj)(w:World):
  (Instr.sliceAt t (.pointer (some ⟨b,0,none⟩)) lo hi none).run P w= .ok (.slice (some ⟨b,0,none⟩) h m) w:=by
 obtain⟨i,d,z,g1,g2,g3,g4,g5,g6,g7⟩:=(hL.ok t _ ht).ex
 rw[hk]at g7
 dsimp only at g7
 subst g7
 have hu: ∀w,(underlying t).run P w= .ok (.array n e) w:=eK g6
 have hz: ∀w,(Go.sizeOf e).run P w= .ok tj.size w:=fun w=>kA he w
 unfold Instr.sliceAt
 simp only[Instr.sureAddr]
 simp[Sem.run_bind,hu,Result.andThen,hb,hz,dX]
theorem Cz.cut{r:Nat}{xs:List (List AV)}{A:Option Addr}{n c:Nat}(h:Cz E (.sl r xs) (.slice A n c)){l k z:Nat}(hz: ∀cs∈xs,cs.length=z)(h1:l≤k)(h2:k≤xs.length):
  n=xs.length∧Cz E (.sl r ((xs.take k).drop l)) (.slice (if c=l then A else A.map (·.add (l*z))) (k - l) (c - l))∧xs.length≤c∨(xs=[]∧n=0):=by
 cases h with
 |nA=>exact .inr ⟨rfl,rfl⟩
 |sl _ _ z' b o c u hp hc hm dV KG hr hi hs hu hq=>
  left
  have Qg:z'=z:=by
   cases xs with
   |nil=>simp at hp
   |cons x r=>rw[←KG x (by simp),hz x (by simp)]
  subst Qg
  refine⟨rfl,?_,hc⟩
  by_cases hk:k=l
  ·subst hk
   have:(xs.take k).drop k=[]:=by simp
   rw[this,Nat.sub_self]
   exact .nA _ _ _
  ·have iH:c≠l:=by omega
   rw[if_neg iH]
   simp only[Option.map_some,dX]
   have hlen:((xs.take k).drop l).length=k - l:=by simp;omega
   have get: ∀q a,((xs.take k).drop l).flatten[q]? =some a→xs.flatten[l*z'+q]? =some a:=fun q a ha=>by
    have ek:xs.take l++(xs.take k).drop l=xs.take k:=by
     have:=List.take_append_drop l (xs.take k)
     rwa [List.take_take,Nat.min_eq_left h1]at this
    have e1:xs.take l++((xs.take k).drop l++xs.drop k)=xs:=by rw[←List.append_assoc,ek,List.take_append_drop]
    have e2:xs.flatten=(xs.take l).flatten++(((xs.take k).drop l).flatten++(xs.drop k).flatten):=by
     rw[←List.flatten_append,←List.flatten_append,e1]
    have e3:(xs.take l).flatten.length=l*z':=by
     rw[aD (z:=z') (fun x hx=>KG x (List.mem_of_mem_take hx))]
     rw[List.length_take,Nat.min_eq_left (by omega)]
    rw[e2,List.getElem?_append_right (by omega),e3,show l*z'+q - l*z'=q from by omega]
    rw[List.getElem?_append_left (List.getElem?_eq_some_iff.1 ha).1]
    exact ha
   have:=Cz.sl (E:=E) r ((xs.take k).drop l) z' b (o+l*z') (c - l) (fun q=>u (l*z'+q)) (by omega) (by omega) (by omega) dV (fun x hx=>KG x (List.mem_of_mem_take (List.mem_of_mem_drop hx))) hr (fun q a ha=>hi _ a (get q a ha))
    (fun q a ha=>by rw[Nat.add_assoc];exact hs _ a (get q a ha)) (fun q a ha=>by rw[Nat.add_assoc];exact hu _ a (get q a ha)) (fun q a ha=>hq _ a (get q a ha))
   rw[hlen]at this
   exact this
theorem Hk(hL:bn P C.L)(hI:C.I=al)(h:bq E0 E w0 w s a){o:Oper}{t:Nat}{x:Operand}{lo hi:Option Operand}(he:o.op= .slice t x lo hi none){K:bf}(hk:Al C p t lo hi (bL s p x) s K):Reads P E w a o s p K:=by
 have fin: ∀v y,a.eval x=v→(Instr.sliceAt t v (lo.map a.eval) (hi.map a.eval) none).run P w= .ok y w→(execOp a.eval o).run P w= .ok (.value y) w:=fun v y hv hy=>by
  simp only[execOp,he,hv,Option.map_none]
  simp[hy]
 unfold Al at hk
 rw[hI]at hk
 split at hk
 ·rename_i b dG
  cases hs:isStr C.L t with
  |false=>rw[hs]at hk;exact hk.elim
  |true=>
   rw[hs,cond_true]at hk
   split at hk
   ·rename_i l k hl hh
    obtain⟨hb,hk⟩:=hk
    refine⟨_,hk,fun hp=>?_⟩
    obtain⟨h0,h1,h2⟩:=bF hb hp
    have h2:k≤(b.size:Int):=h2
    have hx:=h.ev hp x
    rw[dG]at hx
    have e1:(l.toNat:Int)=l:=Int.toNat_of_nonneg h0
    have e2:(k.toNat:Int)=k:=Int.toNat_of_nonneg (by omega)
    refine⟨_,fin _ _ (bG hx) (HB hL hs b (l:=l.toNat) (h:=k.toNat) (fun w=>tI P false b.size b.size _ _ _ _ ?_ ?_ (by omega) (by omega) (Nat.le_refl _) w) w),.v _⟩
    ·rcases sI hl h hp h0 with⟨g1,g2⟩|⟨q,g⟩
     ·exact .inl ⟨g1,by omega⟩
     ·exact .inr ⟨q,g⟩
    ·rcases sI hh h hp (by omega)with⟨g1,g2⟩|⟨q,g⟩
     ·exact .inl ⟨g1,by have g2:k=(b.size:Int):=g2;omega⟩
     ·exact .inr ⟨q,g⟩
   ·exact hk.elim
 ·rename_i kk m dG
  split at hk
  ·rename_i ee k sn hh
   obtain⟨e',ti⟩:=ee
   obtain⟨hb,hk⟩:=hk
   refine⟨_,hk,fun hp=>?_⟩
   obtain⟨_,h0,h1⟩:=bF hb hp
   have hx:=h.ev hp x
   rw[dG]at hx
   cases dS:a.eval x<;>rw[dS]at hx<;>cases hx
   have hcn:m≤(E.len kk).1:=by assumption
   have hcc:(E.len kk).1≤(E.len kk).2:=by assumption
   have e2:(k.toNat:Int)=k:=Int.toNat_of_nonneg h0
   refine⟨_,fin _ _ dS (Bq hL sn _ _ _ (l:=0) (h:=k.toNat) (m:=(E.len kk).2) (fun w=>tI P true m (E.len kk).2 _ _ _ _ (.inl ⟨rfl,rfl⟩) ?_ (by omega) (by omega) (by omega) w) w),?_⟩
   ·rcases sI hh h hp h0 with⟨g1,g2⟩|⟨q,g⟩
    ·exact .inl ⟨g1,by omega⟩
    ·exact .inr ⟨q,g⟩
   ·have:=Cz.ia (E:=E) kk k.toNat (by assumption) (by omega) hcc (by assumption)
    simp only[Option.map_some,dX,Nat.zero_mul,Nat.sub_zero,ite_self]
    exact this
  ·exact hk.elim
 ·rename_i d off dG
  split at hk
  ·rename_i ti z xs ug e8
   split at hk
   ·rename_i m e kO
    split at hk
    ·rename_i tj k Ng hh
     obtain⟨k1,k2,k3,hb,hk⟩:=hk
     subst k1
     have k2:xs.length=m:=k2
     refine⟨_,hk,fun hp=>?_⟩
     obtain⟨_,h0,h1⟩:=bF hb hp
     have hx:=h.ev hp x
     rw[dG]at hx
     cases dS:a.eval x<;>rw[dS]at hx<;>cases hx
     rename_i hl
     have e2:(k.toNat:Int)=k:=Int.toNat_of_nonneg h0
     have ke:E.len (.s d)=(m,m):=by rw[←k2];exact(h.bx d _ e8).2.1
     have aj4:=Cz.ia (E:=E) (.s d) k.toNat hl (by rw[ke];dsimp only;omega) (by rw[ke];exact Nat.le_refl _) (by rw[ke];unfold maxLen;dsimp only;omega)
     rw[ke]at aj4
     obtain⟨i,dd,zz,g1,g2,g3,g4,g5,g6,g7⟩:=(hL.ok e _ Ng).ex
     refine⟨_,fin _ _ dS (HC hL ug kO (E.m (.s d)) (h:=k.toNat) (m:=m) (fun w=>tI P false m m _ _ _ _ (.inl ⟨rfl,rfl⟩) ?_ (by omega) (by omega) (Nat.le_refl _) w) g1 w),aj4⟩
     rcases sI hh h hp h0 with⟨g1,g2⟩|⟨q,g⟩
     ·exact .inl ⟨g1,by omega⟩
     ·exact .inr ⟨q,g⟩
    ·exact hk.elim
   ·exact hk.elim
  ·exact hk.elim
 ·split at hk
  ·rename_i r xs e ti OL sn
   split at hk
   ·rename_i l k hl hh
    obtain⟨hb,hk⟩:=hk
    refine⟨_,hk,fun hp=>?_⟩
    obtain⟨⟨h0,h1,h2⟩,hz⟩:=bF hb hp
    have h2:k≤(xs.length:Int):=h2
    have hx:=nZ OL (h.ev hp x)
    obtain⟨A,c,hv⟩:=hx.len
    rw[hv]at hx
    have e1:(l.toNat:Int)=l:=Int.toNat_of_nonneg h0
    have e2:(k.toNat:Int)=k:=Int.toNat_of_nonneg (by omega)
    have Nq:xs.length≤c:=by
     cases hx with
     |nA=>simp
     |sl=>assumption
    refine⟨_,fin _ _ hv (Bq hL sn A xs.length c (l:=l.toNat) (h:=k.toNat) (m:=c) (fun w=>tI P true xs.length c _ _ _ _ ?_ ?_ (by omega) (by omega) Nq w) w),?_⟩
    ·rcases sI hl h hp h0 with⟨g1,g2⟩|⟨q,g⟩
     ·exact .inl ⟨g1,by omega⟩
     ·exact .inr ⟨q,g⟩
    ·rcases sI hh h hp (by omega)with⟨g1,g2⟩|⟨q,g⟩
     ·exact .inl ⟨g1,by have g2:k=(xs.length:Int):=g2;omega⟩
     ·exact .inr ⟨q,g⟩
    ·rcases hx.cut (z:=ti.size) hz (l:=l.toNat) (k:=k.toNat) (by omega) (by omega)with⟨_,g,_⟩|⟨g,_⟩
     ·exact g
     ·subst g
      have:k.toNat - l.toNat=0:=by simp at h2;omega
      rw[this]
      show Cz E (.sl r ((List.take _ []).drop _)) _
      simp only[List.take_nil,List.drop_nil]
      exact .nA _ _ _
   ·exact hk.elim
  ·exact hk.elim
 mutual
theorem Nf{d:Nat}{F A:Nat→AV}: ∀{a:AV},cm a=true→sb d F A a=a
  | .gs r t xs,h=>by simp[cm]at h
  | .fn f cs,h=>by simp only[sb,CW (show bZ cs=true by simpa[cm]using h)]
  | .agg cs,h=>by simp only[sb,CW (show bZ cs=true by simpa[cm]using h)]
  | .fT cs,h=>by simp only[sb,CW (show bZ cs=true by simpa[cm]using h)]
  | .any,_=>rfl
  | .v _,_=>rfl
  | .sl _ _,_=>rfl
  | .aO _ _ _,_=>rfl
  | .ptr (.s e) _,h=>by simp[cm,Key.loc]at h
  | .ptr (.o e) _,_=>rfl
  | .ia (.s e) _,h=>by simp[cm,Key.loc]at h
  | .ia (.o e) _,_=>rfl
  | .cG (.s e) _ _ _,h=>by simp[cm,Key.loc]at h
  | .cG (.o e) _ _ _,_=>rfl
  | .mp (.s e),h=>by simp[cm,Key.loc]at h
  | .mp (.o e),_=>rfl
  | .pV (.s e),h=>by simp[cm,Key.loc]at h
  | .pV (.o e),_=>rfl
  | .ar _ _ _,_=>rfl
  | .bm _ _,_=>rfl
  | .nc _ _ _,_=>rfl
theorem CW{d:Nat}{F A:Nat→AV}: ∀{a:List AV},bZ a=true→PI d F A a=a
  |[],_=>rfl
  |a::r,h=>by
   simp only[bZ,Bool.and_eq_true]at h
   simp only[PI,Nf h.1,CW h.2]
end
theorem nS(d:Nat)(F A:Nat→AV)(cs:List AV)(q:Nat):(PI d F A cs)[q]? =(cs[q]?).map (sb d F A):=by
 induction cs generalizing q with
 |nil=>simp[PI]
 |cons a r ih=>cases q<;>simp[PI,ih]
theorem fv(d:Nat)(F A:Nat→AV)(cs:List AV):(PI d F A cs).length=cs.length:=by
 induction cs with
 |nil=>rfl
 |cons a r ih=>simp[PI,ih]
theorem sM(d:Nat)(F A:Nat→AV)(e:Nat): ∀t,look e (L8 d F A t)=(look e t).map (sb d F A)
 |[]=>rfl
 |(k,x)::r=>by
  simp only[L8,aB,sM d F A e r]
  split<;>rfl
def RK(d:Nat)(F A:Nat→AV):Ob→Ob
 | .box cs=> .box (PI d F A cs)
 | .arr z xs=> .arr z xs
 | .ow p l xs=> .ow p l xs
 | .lp n t ps nI body st=> .lp n (L8 d F A t) ps nI body st
theorem mB(d:Nat)(F A:Nat→AV)(e:Nat): ∀t,look e (HA d F A t)=(look e t).map (RK d F A)
 |[]=>rfl
 |(k,.box x)::r=>by
  simp only[HA,aB,mB d F A e r]
  split<;>rfl
 |(k,.arr z x)::r=>by
  simp only[HA,aB,mB d F A e r]
  split<;>rfl
 |(k,.ow p l x)::r=>by
  simp only[HA,aB,mB d F A e r]
  split<;>rfl
 |(k,.lp n t ps nI body st)::r=>by
  simp only[HA,aB,mB d F A e r]
  split<;>rfl
def Env.shut(E:Env)(ρ d n:Nat):Env:=
 {E with aN:=fun b o=>E.aN b o∨(b=E.m (.s d)∧o<n),dx:=fun b=>if b=E.m (.s d)then ρ else E.dx b,live:=fun k=>k≠ .s d∧E.live k,own:=fun b=>if b=E.m (.s d)then .Tu else E.own b}
structure sg(E:Env)(d:Nat):Prop where
 own:E.own (E.m (.s d))= .key (.s d)
 aN: ∀o,¬E.aN (E.m (.s d)) o
 cell: ∃c e,E.h[E.m (.s d)]? =some (.cells c e (0,0))
theorem dT{ρ d n:Nat}(hs:sg E d){a:AV}{x:Value}(h:Cz E a x):cm a=true→Cz (E.shut ρ d n) a x:=by
 induction h with
 |any x=>exact fun _=> .any _
 |v x=>exact fun _=> .v _
 |nA r A c=>exact fun _=> .nA _ _ _
 |sl r xs z b o c u hp hc hm dV hz hr hi fY hu hq ih=>
  intro _
  have hf:=aD hz
  obtain⟨a0,Yb⟩:=qq (l:=xs.flatten) (by rw[hf];exact Nat.mul_pos hp dV)
  have cM:b≠E.m (.s d):=fun e=>by have:=fY 0 a0 Yb;rw[e]at this;exact hs.aN _ this
  exact .sl r xs z b o c u hp hc hm dV hz (by simp only[Env.shut];rw[if_neg cM];exact hr) hi (fun q a dh=> .inl (fY q a dh)) hu (fun q a dh=>ih q a dh (hi q a dh))
 |sX r t=>exact fun _=> .sX _ _
 |gs r t xs=>intro hi;simp[cm]at hi
 |aO r cs off b o u hr hi fY hu hq ih=>
  intro _
  exact .aO r cs off b o u (fun q a dh=>by
   have cM:b≠E.m (.s d):=fun e=>by have:=fY q a dh;rw[e]at this;exact hs.aN _ this
   simp only[Env.shut];rw[if_neg cM];exact hr q a dh) hi (fun q a dh=> .inl (fY q a dh)) hu (fun q a dh=>ih q a dh (hi q a dh))
 |ptr k off hl=>intro hi;exact Cz.ptr (E:=E.shut ρ d n) k off ⟨fun e=>by subst e;simp[cm,Key.loc]at hi,hl⟩
 |ia k m hl hn hc hm=>intro hi;exact Cz.ia (E:=E.shut ρ d n) k m ⟨fun e=>by subst e;simp[cm,Key.loc]at hi,hl⟩ hn hc hm
 |cG k i off z hl=>intro hi;exact Cz.cG (E:=E.shut ρ d n) k i off z ⟨fun e=>by subst e;simp[cm,Key.loc]at hi,hl⟩
 |mp k hl=>intro hi;exact Cz.mp (E:=E.shut ρ d n) k ⟨fun e=>by subst e;simp[cm,Key.loc]at hi,hl⟩
 |pV k hl=>intro hi;exact Cz.pV (E:=E.shut ρ d n) k ⟨fun e=>by subst e;simp[cm,Key.loc]at hi,hl⟩
 |ar n' z xs ys hn hz hl hi hq ih=>exact fun _=> .ar n' z xs ys hn hz hl hi fun q a y ha hy=>ih q a y ha hy (hi q a ha)
 |bm f cs ys hl hi hq ih=>exact fun _=> .bm f cs ys hl hi fun q a y ha hy=>ih q a y ha hy (hi q a ha)
 |nc r z xs x hz h ih=>exact fun _=> .nc r z xs x hz (ih rfl)
 |fn f cap ys hl hq ih=>intro hi;exact .fn f cap ys hl fun q a y ha hy=>ih q a y ha hy (bj (by simpa[cm]using hi) q a ha)
 |agg cs ys hl hq ih=>intro hi;exact .agg cs ys hl fun q a y ha hy=>ih q a y ha hy (bj (by simpa[cm]using hi) q a ha)
 |fT cs ys hl hq ih=>intro hi;exact .fT cs ys hl fun q a y ha hy=>ih q a y ha hy (bj (by simpa[cm]using hi) q a ha)
theorem Hv{ρ d n:Nat}(hs:sg E d){F A:Nat→AV}(hF: ∀off,Cz (E.shut ρ d n) (F off) (.pointer (some ⟨E.m (.s d),off,none⟩)))
  (hA: ∀m c,m≤(E.len (.s d)).1→c=(E.len (.s d)).2→(E.len (.s d)).1≤c→c≤maxLen→Cz (E.shut ρ d n) (A m) (.slice (some ⟨E.m (.s d),0,none⟩) m c)){a:AV}{x:Value}(h:Cz E a x):Cz (E.shut ρ d n) (sb d F A a) x:=by
 induction h with
 |any x=>exact .any _
 |v x=>exact .v _
 |nA r A c=>exact .nA _ _ _
 |sl r xs z b o c u hp hc hm dV hz hr hi fY hu hq ih=>exact dT hs (.sl r xs z b o c u hp hc hm dV hz hr hi fY hu hq) rfl
 |sX r t=>exact .sX _ _
 |gs r t xs z b c e cells u hc hm h0 dV hz hr hb du ho fY hi hu hq ih=>
  have cM:b≠E.m (.s d):=fun e=>by rw[e,hs.own]at ho;cases ho
  exact Cz.gs (E:=E.shut ρ d n) r t xs z b c e cells u hc hm h0 dV hz (by simp only[Env.shut];rw[if_neg cM];exact hr) hb du (by simp only[Env.shut];rw[if_neg cM];exact ho)
   (fun o=>by simp only[Env.shut];rw[←fY o];exact⟨fun h=>h.resolve_right (fun h=>cM h.1),.inl⟩) hi hu (fun q a ha=>dT hs (hq q a ha) (hi q a ha))
 |aO r cs off b o u hr hi fY hu hq ih=>exact dT hs (.aO r cs off b o u hr hi fY hu hq) rfl
 |ptr k off hl=>
  cases k with
  |o i=>exact dT hs (.ptr _ _ hl) rfl
  |s e=>
   simp only[sb]
   by_cases h:e=d
   ·subst h;rw[eZ,cond_true];exact hF off
   ·rw[xZ h,cond_false];exact Cz.ptr (E:=E.shut ρ d n) (.s e) off ⟨fun hh=>h (by injection hh),hl⟩
 |ia k m hl hn hc hm=>
  cases k with
  |o i=>exact dT hs (.ia _ _ hl hn hc hm) rfl
  |s e=>
   simp only[sb]
   by_cases h:e=d
   ·subst h;rw[eZ,cond_true];exact hA m _ hn rfl hc hm
   ·rw[xZ h,cond_false];exact Cz.ia (E:=E.shut ρ d n) (.s e) m ⟨fun hh=>h (by injection hh),hl⟩ hn hc hm
 |cG k i off z hl=>
  cases k with
  |o i=>exact dT hs (.cG _ _ _ _ hl) rfl
  |s e=>
   simp only[sb]
   by_cases h:e=d
   ·subst h;rw[eZ,cond_true];exact .any _
   ·rw[xZ h,cond_false];exact Cz.cG (E:=E.shut ρ d n) (.s e) i off z ⟨fun hh=>h (by injection hh),hl⟩
 |mp k hl=>
  cases k with
  |o i=>exact dT hs (.mp _ hl) rfl
  |s e=>
   simp only[sb]
   by_cases h:e=d
   ·subst h;rw[eZ,cond_true];exact .any _
   ·rw[xZ h,cond_false];exact Cz.mp (E:=E.shut ρ d n) (.s e) ⟨fun hh=>h (by injection hh),hl⟩
 |pV k hl=>
  cases k with
  |o i=>exact dT hs (.pV _ hl) rfl
  |s e=>
   simp only[sb]
   by_cases h:e=d
   ·subst h;rw[eZ,cond_true];exact .any _
   ·rw[xZ h,cond_false];exact Cz.pV (E:=E.shut ρ d n) (.s e) ⟨fun hh=>h (by injection hh),hl⟩
 |ar n' z xs ys hn hz hl hi hq ih=>exact dT hs (.ar n' z xs ys hn hz hl hi hq) rfl
 |bm f cs ys hl hi hq ih=>exact dT hs (.bm f cs ys hl hi hq) rfl
 |nc r z xs x hz h ih=>exact dT hs (.nc r z xs x hz h) rfl
 |fn f cap ys hl hq ih=>
  simp only[sb]
  exact .fn f _ ys (by rw[fv];exact hl) fun q a y ha hy=>by
   rw[nS]at ha
   cases h:cap[q]? with
   |none=>simp[h]at ha
   |some a'=>simp[h]at ha;subst ha;exact ih q a' y h hy
 |agg cs ys hl hq ih=>
  simp only[sb]
  exact .agg _ ys (by rw[fv];exact hl) fun q a y ha hy=>by
   rw[nS]at ha
   cases h:cs[q]? with
   |none=>simp[h]at ha
   |some a'=>simp[h]at ha;subst ha;exact ih q a' y h hy
 |fT cs ys hl hq ih=>
  simp only[sb]
  exact .fT _ ys (by rw[fv];exact hl) fun q a y ha hy=>by
   rw[nS]at ha
   cases h:cs[q]? with
   |none=>simp[h]at ha
   |some a'=>simp[h]at ha;subst ha;exact ih q a' y h hy
def St.sb(d:Nat)(F A:Nat→AV)(s:St):St:={s with t:=L8 d F A s.t,b:=HA d F A (del d s.b),up:=Z0 d F A s.up}
theorem sA(d:Nat)(F A:Nat→AV)(hF: ∀o g,F o≠ .v (.bool g))(hA: ∀o g,A o≠ .v (.bool g)): ∀{p:Path},aY (s.sb d F A) p↔aY s p
 |[]=>Iff.rfl
 |(e,b)::r=>by
  have ih:=sA d F A hF hA (p:=r)
  simp only[aY,St.sb,sM]
  simp only[St.sb]at ih
  rw[ih]
  refine and_congr_left fun _=>?_
  cases look e s.t with
  |none=>rfl
  |some x=>
   have nb: ∀y:AV,(∀g,y≠ .v (.bool g))→(isB b (some y)↔False):=fun y hy=>by
    unfold isB
    split
    ·rename_i g hg;injection hg with hg;exact absurd hg (hy g)
    ·exact Iff.rfl
   cases x with
   |ptr k off=>
    cases k with
    |o i=>rfl
    |s e'=>
     simp only[Option.map_some,Ab.sb]
     cases cS e' d with
     |true=>rw[cond_true,nb _ (hF off)];rfl
     |false=>rfl
   |mp k=>
    cases k with
    |o i=>rfl
    |s e'=>
     simp only[Option.map_some,Ab.sb]
     cases cS e' d<;>rfl
   |ia k n=>
    cases k with
    |o i=>rfl
    |s e'=>
     simp only[Option.map_some,Ab.sb]
     cases cS e' d with
     |true=>rw[cond_true,nb _ (hA n)];rfl
     |false=>rfl
   |cG k i off z=>
    cases k with
    |o i=>rfl
    |s e'=>
     simp only[Option.map_some,Ab.sb]
     cases cS e' d<;>rfl
   |pV k=>
    cases k with
    |o i=>rfl
    |s e'=>
     simp only[Option.map_some,Ab.sb]
     cases cS e' d<;>rfl
   |_=>rfl
theorem Jv{ρ d n:Nat}(hs:sg E d){F A:Nat→AV}(hF: ∀off,Cz (E.shut ρ d n) (F off) (.pointer (some ⟨E.m (.s d),off,none⟩)))
  (hA: ∀m c,m≤(E.len (.s d)).1→c=(E.len (.s d)).2→(E.len (.s d)).1≤c→c≤maxLen→Cz (E.shut ρ d n) (A m) (.slice (some ⟨E.m (.s d),0,none⟩) m c)){t:List (Nat×AV)}{T:Array Value}(h: ∀e x,look e t=some x→Cz E x (T.getD e undef)):
  ∀e x,look e (L8 d F A t)=some x→Cz (E.shut ρ d n) x (T.getD e undef):=by
 intro e x hd
 rw[sM]at hd
 cases hh:look e t with
 |none=>rw[hh]at hd;simp at hd
 |some y=>rw[hh]at hd;simp at hd;subst hd;exact Hv hs hF hA (h e y hh)
theorem kS.sb{ρ d n:Nat}(hs:sg E d){F A:Nat→AV}(hF: ∀off,Cz (E.shut ρ d n) (F off) (.pointer (some ⟨E.m (.s d),off,none⟩)))
  (hA: ∀m c,m≤(E.len (.s d)).1→c=(E.len (.s d)).2→(E.len (.s d)).1≤c→c≤maxLen→Cz (E.shut ρ d n) (A m) (.slice (some ⟨E.m (.s d),0,none⟩) m c)): ∀{aa:List Act} {fs:List Fr},kS E aa fs→kS (E.shut ρ d n) aa (Z0 d F A fs)
 |[],[],_=>trivial
 |a::aa,f::fs,h=>⟨⟨h.1.1,Jv hs hF hA h.1.2⟩,kS.sb hs hF hA h.2⟩
 |[],_::_,h=>h.elim
 |_::_,[],h=>h.elim
theorem bq.sb(h:bq E0 E w0 w s a){ρ d n:Nat}(hs:sg E d)(hl:E.live (.s d))(hn: ∀c e fr,E.h[E.m (.s d)]? =some (.cells c e fr)→n≤c.size){F A:Nat→AV}(hF: ∀off,Cz (E.shut ρ d n) (F off) (.pointer (some ⟨E.m (.s d),off,none⟩)))
  (hA: ∀m c,m≤(E.len (.s d)).1→c=(E.len (.s d)).2→(E.len (.s d)).1≤c→c≤maxLen→Cz (E.shut ρ d n) (A m) (.slice (some ⟨E.m (.s d),0,none⟩) m c))(hF': ∀o g,F o≠ .v (.bool g))(hA': ∀o g,A o≠ .v (.bool g)):bq E0 (E.shut ρ d n) w0 w (s.sb d F A) a:=by
 have aU:E.m (.s d)<E.h.size:=h.wf.own _ (by rw[hs.own];simp)
 have pz:E0.h.size≤E.m (.s d):=by
  rcases Nat.lt_or_ge (E.m (.s d)) E0.h.size with hh|hh
  ·have:=h.xz _ hh;rw[hs.own]at this;simp[Own.loc,Key.loc]at this
  ·exact hh
 have obs: ∀k ob,k≠ .s d→ca E k ob→ca (E.shut ρ d n) k (RK d F A ob):=by
  intro k ob hk ho
  have hm: ∀o:Own,E.own (E.m k)= .key k→E.m k≠E.m (.s d):=fun _ ho e=>by rw[e,hs.own]at ho;injection ho with ho;exact hk ho.symm
  cases ob with
  |box cs=>
   obtain⟨g1,c,e,g2,g3,g4,g5,g6⟩:=ho
   have cM:=hm .Tu g3
   refine⟨⟨hk,g1⟩,c,e,g2,by simp only[Env.shut];rw[if_neg cM];exact g3,fun o hh=>?_,by rw[fv];exact g5,fun q a x ha hx=>?_⟩
   ·rcases hh with hh|hh
    ·exact g4 o hh
    ·exact cM hh.1
   ·rw[nS]at ha
    cases hc:cs[q]? with
    |none=>rw[hc]at ha;simp at ha
    |some a'=>rw[hc]at ha;simp at ha;subst ha;exact Hv hs hF hA (g6 q a' x hc hx)
  |arr z xs=>
   obtain⟨g1,gl,gz,gz',gm,c,e,g2,g3,g4,g5,g6,g7⟩:=ho
   have cM:=hm .Tu g3
   refine⟨⟨hk,g1⟩,gl,gz,gz',gm,c,e,g2,by simp only[Env.shut];rw[if_neg cM];exact g3,fun o hh=>?_,g5,g6,fun q a x ha hx=>dT hs (g7 q a x ha hx) (g6 q a ha)⟩
   rcases hh with hh|hh
   ·exact g4 o hh
   ·exact cM hh.1
  |ow p sN xs=>
   have ho0:=ho
   obtain⟨g1,g3,_⟩:=ho0
   have cM:=hm .Tu g3
   refine yZ (fun g1=>⟨hk,g1⟩) rfl rfl (fun g3=>⟨by simp only[Env.shut];rw[if_neg cM];exact g3,rfl,fun o hh=>hh.resolve_right fun hh=>cM hh.1⟩) (fun a x hi hc=>dT hs hc hi) (fun b hb aU=>?_) ho
   have X9:b≠E.m (.s d):=fun e=>by rw[e,hs.own]at hb;cases hb
   exact⟨by simp only[Env.shut];rw[if_neg X9];exact hb,rfl,fun o=>⟨fun hh=>hh.resolve_right fun hh=>X9 hh.1,.inl⟩,by simp only[Env.shut];rw[if_neg X9]⟩
  |lp n t ps nI body st=>
   obtain⟨g1,g3,g4,rec,g2,g5,g6,g7,g8,g9,Yd,gq⟩:=ho
   have cM:=hm .Tu g3
   refine⟨⟨hk,g1⟩,by simp only[Env.shut];rw[if_neg cM];exact g3,fun o hh=>?_,rec,g2,g5,g6,g7,g8,g9,Yd,Jv hs hF hA gq⟩
   rcases hh with hh|hh
   ·exact g4 o hh
   ·exact cM hh.1
 have hdf:Dfs E0.h.size (E.shut ρ d n) (QC a E0.up):=by
  obtain⟨Bs,q1,q2,q3⟩:=h.I8
  refine⟨Bs,q1,q2,fun B hB=>?_⟩
  obtain⟨q4,q5,q6⟩:=q3 B hB
  refine⟨q4,?_,q6⟩
  simp only[Env.shut]
  rw[if_neg (fun e=>by rw[e,hs.own]at q5;cases q5)]
  exact q5
 refine⟨h.heap,⟨fun b o hh=>?_,fun b hh=>?_,fun b o hh hr=>?_⟩,hdf,h.up.sb hs hF hA,h.sz,?_,?_,?_,?_,?_,?_,⟨h.ext.size,fun b o hh=>?_,fun k hk=>?_,fun b hb hg=>?_⟩,fun b hb=>?_,h.same,h.gk,h.nl,fun b=>by
  have:=h.ng b
  simp only[Env.shut]
  split
  ·simp[di,Own.di]
  ·exact this,h.lo⟩
 ·rcases hh with hh|⟨rfl,_⟩
  ·exact h.wf.aN b o hh
  ·exact aU
 ·simp only[Env.shut]at hh
  by_cases e:b=E.m (.s d)
  ·rw[e];exact aU
  ·rw[if_neg e]at hh;exact h.wf.own b hh
 ·rcases hh with hh|⟨rfl,_⟩
  ·have cM:b≠E.m (.s d):=fun e=>by subst e;exact hs.aN _ hh
   simp only[Env.shut]at hr
   rw[if_neg cM]at hr
   exact h.wf.fz b o hh hr
  ·exact hs.cell
 ·intro e x he hp
  have pA:look e (L8 d F A s.t)=some x:=he
  rw[sM]at pA
  cases hh:look e s.t with
  |none=>rw[hh]at pA;simp at pA
  |some y=>rw[hh]at pA;simp at pA;subst pA;exact Hv hs hF hA (h.tm e y hh ((sA d F A hF' hA').1 hp))
 ·intro e q he hp
  exact h.cu e q he (fun hh=>hp ((sA d F A hF' hA').2 hh))
 ·intro e ob he
  have pA:look e (HA d F A (del d s.b))=some ob:=he
  rw[mB,fQ]at pA
  by_cases hde:d=e
  ·rw[if_pos hde]at pA;simp at pA
  ·rw[if_neg hde]at pA
   cases hh:look e s.b with
   |none=>rw[hh]at pA;simp at pA
   |some y=>
    rw[hh]at pA;simp at pA;subst pA
    exact obs _ _ (fun hh=>hde (by injection hh with hh;exact hh.symm)) (h.bx e y hh)
 ·intro e he
  obtain⟨ob,ho⟩:=h.lv e he.2
  refine⟨RK d F A ob,?_⟩
  show look e (HA d F A (del d s.b))=_
  rw[mB,fQ,if_neg (fun hh=>he.1 (by rw[hh])),ho];rfl
 ·intro i ob hi
  have h1:=obs (.o i) ob (fun hh=>by cases hh) (h.gx i ob hi)
  have X6:=h.gk i ob hi
  cases ob with
  |arr z xs=>exact h1
  |lp=>exact X6.elim
  |ow=>exact X6.elim
  |box cs=>
   obtain⟨g1,c,e,g2,g3,g4,g5,g6⟩:=h1
   obtain⟨_,_,_,_,_,_,k5,_⟩:=h.gx i _ hi
   refine⟨g1,c,e,g2,g3,g4,by rw[g5,fv],fun q a x ha hx=>?_⟩
   have:=g6 q (Ab.sb d F A a) x (by rw[nS,ha];rfl) hx
   rwa [Nf (X6 q a ha)]at this
 ·intro i
  exact⟨fun hh=>(h.gl i).1 hh.2,fun hh=>⟨(fun e=>by cases e),(h.gl i).2 hh⟩⟩
 ·obtain⟨k1,k2,k3⟩:=h.ext.aN b o hh
  have cM:b≠E.m (.s d):=fun e=>by rw[e]at k1;exact hs.aN _ k1
  exact⟨.inl k1,k2,by simp only[Env.shut];rw[if_neg cM];exact k3⟩
 ·obtain⟨k1,k2,k3⟩:=h.ext.live k hk
  exact⟨⟨fun e=>by subst e;exact h.nl d hk,k1⟩,k2,k3⟩
 ·obtain⟨k1,k2,k3,k4⟩:=h.ext.bp b hb hg
  have cM:b≠E.m (.s d):=by omega
  exact⟨by simp only[Env.shut];rw[if_neg cM];exact k1,k2,fun o=>⟨fun hh=>(k3 o).1 (hh.resolve_right (fun hh=>cM hh.1)),fun hh=> .inl ((k3 o).2 hh)⟩,by simp only[Env.shut];rw[if_neg cM];exact k4⟩
 ·have cM:b≠E.m (.s d):=by omega
  simp only[Env.shut];rw[if_neg cM];exact h.xz b hb
theorem W4(h:bq E0 E w0 w s a){ρ d:Nat}{s':St}{p:OwK}{sN:Option (Nat×Nat)}{xs:List (List AV)}(hl:look d s.b=some (.ow p sN xs))(hs:Ab.shut ρ d s=some s'): ∃n F A,bq E0 (E.shut ρ d n) w0 w s' a∧s'=s.sb d F A∧sg E d:=by
 unfold Ab.shut at hs
 rw[hl]at hs
 cases p with
 |mp=>dsimp only at hs;cases hs
 |sl z=>
  dsimp only at hs
  cases hs
  obtain⟨g1,g2,g3,gi,u,⟨gz0,gz,gln,gle,gm,c,e,gh,gc,gu⟩,g6,_⟩:=h.bx d _ hl
  have jU:sg E d:=⟨g2,g3,c,e,gh⟩
  have fB:=aD gz
  have Nq:xs.length*z≤c.size:=by rw[gc,gln];exact Nat.mul_le_mul_right _ gle
  have hA: ∀m cc,m≤(E.len (.s d)).1→cc=(E.len (.s d)).2→(E.len (.s d)).1≤cc→cc≤maxLen→Cz (E.shut ρ d (xs.length*z)) (.sl ρ (xs.take m)) (.slice (some ⟨E.m (.s d),0,none⟩) m cc):=by
   intro m cc h1 h2 h3 h4
   have hlen:(xs.take m).length=m:=by rw[List.length_take];omega
   by_cases hm:m=0
   ·subst hm;simp only[List.take_zero];exact .nA _ _ _
   ·have get: ∀q a,(xs.take m).flatten[q]? =some a→xs.flatten[q]? =some a:=fun q a ha=>by
     have:xs.flatten=(xs.take m).flatten++(xs.drop m).flatten:=by rw[←List.flatten_append,List.take_append_drop]
     rw[this,List.getElem?_append_left (List.getElem?_eq_some_iff.1 ha).1];exact ha
    have:=Cz.sl (E:=E.shut ρ d (xs.length*z)) ρ (xs.take m) z (E.m (.s d)) 0 cc u (by omega) (by omega) h4 gz0 (fun l hl=>gz l (List.mem_of_mem_take hl)) (by simp[Env.shut]) (fun q a ha=>gi q a (get q a ha))
     (fun q a ha=> .inr ⟨rfl,by have:=(List.getElem?_eq_some_iff.1 (get q a ha)).1;omega⟩)
     (fun q a ha=>by simp[aR,Env.shut,gh,gu q a (get q a ha)])
     (fun q a ha=>dT jU (g6 q a (get q a ha)) (gi q a (get q a ha)))
    rw[hlen]at this
    exact this
  exact⟨xs.length*z,_,_,h.sb jU g1 (fun c' e' fr hh=>by rw[gh]at hh;cases hh;omega) (fun off=> .any _) hA (fun o g hh=>by cases hh) (fun o g hh=>by cases hh),rfl,jU⟩
theorem L5(h:bq E0 E w0 w s a){ρ d:Nat}{s':St}(hs:Ab.shut ρ d s=some s'): ∃n F A,bq E0 (E.shut ρ d n) w0 w s' a∧s'=s.sb d F A∧sg E d:=by
 have hs0:=hs
 unfold Ab.shut at hs
 cases hl:look d s.b with
 |none=>rw[hl]at hs;simp at hs
 |some ob=>
  rw[hl]at hs
  cases ob with
  |box cs=>
   dsimp only at hs
   cases hi:bZ (jX (fun _=>true) cs)with
   |false=>rw[hi]at hs;simp at hs
   |true=>
    rw[hi,cond_true]at hs
    cases hs
    obtain⟨g1,c,e,g2,g3,g4,g5,g6⟩:=h.bx d _ hl
    have jU:sg E d:=⟨g3,g4,c,e,g2⟩
    have hF: ∀off,Cz (E.shut ρ d cs.length) (.aO ρ (jX (fun _=>true) cs) off) (.pointer (some ⟨E.m (.s d),off,none⟩)):=by
     intro off
     have:=Cz.aO (E:=E.shut ρ d cs.length) ρ (jX (fun _=>true) cs) off (E.m (.s d)) 0 (fun q=>c[q]?.getD undef) (fun q a ha=>by simp[Env.shut]) (bj hi)
      (fun q a ha=> .inr ⟨rfl,by have:=(List.getElem?_eq_some_iff.1 ha).1;rw[da]at this;omega⟩)
      (fun q a ha=>by
       have hq:q<c.size:=by have:=(List.getElem?_eq_some_iff.1 ha).1;rw[da]at this;omega
       simp[aR,Env.shut,g2,hq])
      (fun q a ha=>by
       have hq:q<c.size:=by have:=(List.getElem?_eq_some_iff.1 ha).1;rw[da]at this;omega
       have hia:=bj hi q a ha
       rw[qc]at ha
       cases hc:cs[q]? with
       |none=>rw[hc]at ha;simp at ha
       |some a'=>
        rw[hc]at ha;simp at ha;subst ha
        refine dT jU ?_ hia
        exact(g6 q a' _ hc (by simp[hq])).giveUp h.wf _)
     simpa using this
    exact⟨cs.length,_,_,h.sb jU g1 (fun c' e' fr hh=>by rw[g2]at hh;cases hh;omega) hF (fun m c _ _ _ _=> .any _) (fun o g hh=>by cases hh) (fun o g hh=>by cases hh),rfl,jU⟩
  |lp=>dsimp only at hs;cases hs
  |ow p sN xs=>exact W4 h hl hs0
  |arr z xs=>
   dsimp only at hs
   cases hs
   obtain⟨g1,gl,gz0,gz,gm,c,e,g2,g3,g4,g5,gi,g6⟩:=h.bx d _ hl
   have jU:sg E d:=⟨g3,g4,c,e,g2⟩
   have fB:=aD gz
   have hA: ∀m cc,m≤(E.len (.s d)).1→cc=(E.len (.s d)).2→(E.len (.s d)).1≤cc→cc≤maxLen→Cz (E.shut ρ d (xs.length*z)) (.sl ρ (xs.take m)) (.slice (some ⟨E.m (.s d),0,none⟩) m cc):=by
    intro m cc h1 h2 h5 h3
    rw[gl]at h1 h2
    dsimp only at h1 h2
    have hlen:(xs.take m).length=m:=by rw[List.length_take];omega
    by_cases hm:m=0
    ·subst hm;simp only[List.take_zero];exact .nA _ _ _
    ·have get: ∀q a,(xs.take m).flatten[q]? =some a→xs.flatten[q]? =some a:=fun q a ha=>by
      have:xs.flatten=(xs.take m).flatten++(xs.drop m).flatten:=by rw[←List.flatten_append,List.take_append_drop]
      rw[this,List.getElem?_append_left (List.getElem?_eq_some_iff.1 ha).1];exact ha
     have:=Cz.sl (E:=E.shut ρ d (xs.length*z)) ρ (xs.take m) z (E.m (.s d)) 0 cc (fun q=>c[q]?.getD undef) (by omega) (by omega) h3 gz0 (fun l hl=>gz l (List.mem_of_mem_take hl)) (by simp[Env.shut]) (fun q a ha=>gi q a (get q a ha))
      (fun q a ha=> .inr ⟨rfl,by have:=(List.getElem?_eq_some_iff.1 (get q a ha)).1;omega⟩)
      (fun q a ha=>by
       have hq:q<c.size:=by have:=(List.getElem?_eq_some_iff.1 (get q a ha)).1;omega
       simp[aR,Env.shut,g2,hq])
      (fun q a ha=>by
       have hq:q<c.size:=by have:=(List.getElem?_eq_some_iff.1 (get q a ha)).1;omega
       exact dT jU (g6 q a _ (get q a ha) (by simp[hq])) (gi q a (get q a ha)))
     rw[hlen]at this
     exact this
   exact⟨xs.length*z,_,_,h.sb jU g1 (fun c' e' fr hh=>by rw[g2]at hh;cases hh;omega) (fun off=> .any _) hA (fun o g hh=>by cases hh) (fun o g hh=>by cases hh),rfl,jU⟩
theorem Hw{ρ d:Nat}{s':St}(hs:Ab.shut ρ d s=some s'): ∃F A,s'=s.sb d F A∧(∀o g,F o≠ .v (.bool g))∧(∀o g,A o≠ .v (.bool g)):=by
 unfold Ab.shut at hs
 cases hl:look d s.b with
 |none=>rw[hl]at hs;simp at hs
 |some ob=>
  rw[hl]at hs
  cases ob with
  |box cs=>
   dsimp only at hs
   cases hi:bZ (jX (fun _=>true) cs)with
   |false=>rw[hi]at hs;simp at hs
   |true=>rw[hi,cond_true]at hs;cases hs;exact⟨_,_,rfl,(fun o g hh=>by cases hh),(fun o g hh=>by cases hh)⟩
  |arr z xs=>dsimp only at hs;cases hs;exact⟨_,_,rfl,(fun o g hh=>by cases hh),(fun o g hh=>by cases hh)⟩
  |ow p sN xs=>cases p with
   |mp=>dsimp only at hs;cases hs
   |sl z=>dsimp only at hs;cases hs;exact⟨_,_,rfl,(fun o g hh=>by cases hh),(fun o g hh=>by cases hh)⟩
  |lp=>dsimp only at hs;cases hs
theorem ed{ρ:Nat}: ∀{l:List Nat} {E:Env} {s s':St},bq E0 E w0 w s a→jw ρ l s=some s'→ ∃E',bq E0 E' w0 w s' a∧(∀p,aY s' p↔aY s p)
 |[],E,s,s',h,hs=>by simp only[jw,Option.some.injEq]at hs;subst hs;exact⟨E,h,fun _=>Iff.rfl⟩
 |d::r,E,s,s',h,hs=>by
  simp only[jw]at hs
  cases hl:look d s.b with
  |none=>rw[hl]at hs;exact ed h hs
  |some ob=>
   rw[hl]at hs
   dsimp only at hs
   cases h1:Ab.shut ρ d s with
   |none=>rw[h1]at hs;simp at hs
   |some s1=>
    rw[h1]at hs
    obtain⟨n,F,A,g1,g2,g3⟩:=L5 h h1
    obtain⟨F',A',q1,q2,q3⟩:=Hw h1
    obtain⟨E',k1,k2⟩:=ed g1 hs
    exact⟨E',k1,fun p=>(k2 p).trans (by rw[q1];exact sA d F' A' q2 q3)⟩
def Ln(P:Program)(E0:Env)(w0 w:World)(a:Act)(o:Oper)(s:St)(p:Path)(K:bf):Prop:=
 ∃r s' E',K r s'∧bq E0 E' w0 w s' a∧(∀q,aY s' q↔aY s q)∧(aY s p→ ∃x,(execOp a.eval o).run P w= .ok (.value x) w∧Cz E' r x)
theorem CK(h:bq E0 E w0 w s a)(hp:aY s p)(T:Tok→Bool): ∀(l:List Operand) (q:Nat) (b:AV) (y:Value),(l.map fun x=>Ab.qd T (bL s p x))[q]? =some b→(l.map a.eval)[q]? =some y→Cz E b y:=by
 intro l q b y h1 h2
 rw[List.getElem?_map]at h1 h2
 cases hq:l[q]? with
 |none=>rw[hq]at h1;simp at h1
 |some x=>rw[hq]at h1 h2;simp at h1 h2;subst h1;subst h2;exact(h.ev hp x).giveUp h.wf T
theorem Bj(h:bq E0 E w0 w s a){o:Oper}{f:Fn}{first cap:Array Operand}(he:o.op= .makeFunc f first cap)(hf:first.toList=[]){K:bf}(hk:Rp C p f cap.toList s K):Ln P E0 w0 w a o s p K:=by
 unfold Rp at hk
 split at hk
 ·rename_i s1 zu
  obtain⟨E',g1,g2⟩:=ed h zu
  refine⟨_,s1,E',hk,g1,g2,fun hp=>⟨.func f #[] (cap.map a.eval),?_,?_⟩⟩
  ·have:first= #[]:=Array.toList_inj.1 hf
   simp only[execOp,he,this]
   simp[Instr.makeFunc]
  ·have:=Cz.fn (E:=E') f (cap.toList.map fun x=>rd (bL s1 p x)) (cap.toList.map a.eval) (by simp) (fun q b y h1 h2=>CK g1 ((g2 p).2 hp) _ cap.toList q b y h1 h2)
   have e:(cap.toList.map a.eval).toArray=cap.map a.eval:=Array.toList_inj.1 (by simp)
   rw[e]at this
   exact this
 ·exact hk.elim
theorem FY(h:bq E0 E w0 w s a){o:Oper}{f:Fn}{first cap:Array Operand}(he:o.op= .makeFunc f first cap)(hc:cap.toList=[])(hi:bZ (first.toList.map fun x=>rd (bL s p x))=true){K:bf}(hk:K (.bm f (first.toList.map fun x=>rd (bL s p x))) s):Ln P E0 w0 w a o s p K:=
 ⟨_,s,E,hk,h,fun _=>Iff.rfl,fun hp=>⟨.func f (first.map a.eval) #[],by
  have:cap= #[]:=Array.toList_inj.1 hc
  simp only[execOp,he,this]
  simp[Instr.makeFunc],by
  have:=Cz.bm (E:=E) f (first.toList.map fun x=>rd (bL s p x)) (first.toList.map a.eval) (by simp) (fun q b hq=>bj hi q b hq) (fun q b y h1 h2=>CK h hp _ first.toList q b y h1 h2)
  have e:(first.toList.map a.eval).toArray=first.map a.eval:=Array.toList_inj.1 (by simp)
  rw[e]at this
  exact this⟩⟩
end Ab
namespace Ab
open Go
variable{P:Program}{L:nO}{E0 E E':Env}{w0 w w':World}{s:St}{a:Act}{p:Path}{C:dj}
def Env.eT(E:Env)(t:Tok)(ρ n:Nat)(o:Obj):Env:=
 {E with h:=E.h.push o,aN:=fun b i=>E.aN b i∨(b=E.h.size∧i<n),dx:=fun b=>if b=E.h.size then ρ else E.dx b,own:=fun b=>if b=E.h.size then .tok t else E.own b}
theorem yy(hw:Wf E)(t:Tok)(ρ n:Nat)(o:Obj):Ext (fun _=>False) E (E.eT t ρ n o):=
 ⟨by simp[Env.eT],
  fun b i hs=>⟨.inl hs,yq _ _ (hw.aN b i hs) i,by have:=hw.aN b i hs;simp only[Env.eT];rw[if_neg (by omega)]⟩,
  fun q hq=>⟨hq,rfl,rfl⟩,
  fun b hb _=>⟨by simp only[Env.eT];rw[if_neg (by omega)],by simp only[Env.eT];rw[Array.getElem?_push,if_neg (by omega)],
   fun i=>⟨fun hh=>hh.resolve_right (fun hh=>by omega),.inl⟩,by simp only[Env.eT];rw[if_neg (by omega)]⟩⟩
theorem GP(hw:Wf E)(t:Tok)(ρ n:Nat)(o:Obj)(uh: ∃c e,o= .cells c e (0,0)):Wf (E.eT t ρ n o):=
 ⟨fun b i hs=>by
  rcases hs with hs|⟨rfl,_⟩
  ·have:=hw.aN b i hs;simp[Env.eT];omega
  ·simp[Env.eT],
  fun b hb=>by
  simp only[Env.eT]at hb ⊢
  by_cases h:b=E.h.size
  ·subst h;simp
  ·rw[if_neg h]at hb;have:=hw.own b hb;simp;omega,
  fun b i hs hr=>by
  simp only[Env.eT]at hr ⊢
  rcases hs with hs|⟨rfl,_⟩
  ·have:=hw.aN b i hs
   rw[if_neg (by omega)]at hr
   obtain⟨c,e,h⟩:=hw.fz b i hs hr
   exact⟨c,e,by rw[Array.getElem?_push,if_neg (by omega)];exact h⟩
  ·obtain⟨c,e,rfl⟩:=uh
   exact⟨c,e,by simp⟩⟩
theorem bq.anS(h:bq E0 E w0 w s a)(t:Tok)(ρ n:Nat)(c:Array Value)(e:Nat):bq E0 (E.eT t ρ n (.cells c e (0,0))) w0 (w.alloc (.cells c e)) s a:=by
 have hE:=yy h.wf t ρ n (.cells c e (0,0))
 have hs:=h.xW (T:=fun _=>false) hE (fun _ hf=>hf.elim) qs (GP h.wf _ _ _ _ ⟨_,_,rfl⟩) (w':=w.alloc (.cells c e)) (by show w.heap.push _=_;rw[h.heap];rfl) (tH _ _) (fun _ _ hf=>hf.elim)
  s.b s.g s.nx (fun d' DW h'=> .inl ⟨DW,h',(nY (fun _=>rfl) DW).symm,(fun hf=>hf),fun hf=>hf⟩) (fun d' hl=>h.lv d' hl)
  (fun i DW h'=> .inl ⟨h',fun hf=>hf⟩) (fun i=>h.gl i) h.gk (fun b=>by
   have:=h.ng b
   simp only[Env.eT]
   split
   ·cases t<;>simp[di,Own.di,Tok.loc]
   ·exact this)
 have:fG (fun _=>false) s.t=s.t:=kU (fun _=>rfl) _
 rw[this,pE (fun _=>rfl)]at hs
 exact hs
theorem Ot(h:bq E0 E w0 w s a){t:Tok}{ρ z n:Nat}{cs:List AV}{c:Array Value}{e cap:Nat}(hz:0<z)(hl:cs.length=n*z)(hi:bZ cs=true)(hr: ∀(q:Nat) (a:AV) (y:Value),cs[q]? =some a→c[q]? =some y→Cz E a y)
  (hc:c.size=cap*z)(hn:n≤cap)(hm:cap≤maxLen)(h0:n=0→cap=0):Cz (E.eT t ρ (n*z) (.cells c e (0,0))) (.gs ρ t (chunks z n cs)) (.slice (some ⟨w.heap.size,0,none⟩) n cap):=by
 obtain⟨f1,f2,f3⟩:=rM hl
 have hE:=yy h.wf t ρ (n*z) (.cells c e (0,0))
 have hle:n*z≤cap*z:=Nat.mul_le_mul_right _ hn
 have:=Cz.gs (E:=E.eT t ρ (n*z) (.cells c e (0,0))) ρ t (chunks z n cs) z E.h.size cap e c (fun q=>c[q]?.getD undef) (by rw[f2];exact hn) hm (by rw[f2];exact h0) hz f3 (by simp[Env.eT]) (by simp[Env.eT]) hc (by simp[Env.eT])
  (fun o=>by
   simp only[Env.eT,f2]
   exact⟨fun hh=>by rcases hh with hh|hh;(have:=h.wf.aN _ _ hh;omega);exact hh.2,fun hh=> .inr (by simpa using hh)⟩)
  (by rw[f1];exact bj hi)
  (by
   rw[f1];intro q a ha
   have hq:q<c.size:=by have:=(List.getElem?_eq_some_iff.1 ha).1;omega
   simp[aR,Env.eT,hq])
  (by
   rw[f1];intro q a ha
   have hq:q<c.size:=by have:=(List.getElem?_eq_some_iff.1 ha).1;omega
   have:=((hr q a (c[q]?.getD undef) ha (by simp[hq])).ext hE h.wf (fun _=>false) (fun _ hf=>hf.elim)).1
   rwa [jY (fun _=>rfl)]at this)
 rw[f2]at this
 rw[h.heap]
 exact this
theorem vZ{z:Nat}: ∀{ps:List (Nat×AV)} {vs:List (Nat×Value)} {cs cs':List AV} {c:Array Value},wD E ps vs→Row E cs c→om z cs ps=some cs'→ ∃c',Instr.fill (fun i=>some (i*z,z)) c vs=some c'∧Row E cs' c'
 |[],vs,cs,cs',c,h,hr,hf=>by
  have:vs=[]:=List.eq_nil_of_length_eq_zero (by have:=h.1;simp at this;omega)
  subst this
  simp only[om,Option.some.injEq]at hf;subst hf
  exact⟨c,by simp[Instr.fill],hr⟩
 |(i,a)::ps,vs,cs,cs',c,h,hr,hf=>by
  obtain⟨⟨i',y⟩,ys,rfl,h1,h2,h3⟩:=h.cons
  dsimp only at h1 h2
  subst h1
  simp only[om]at hf
  cases hk:zV a with
  |none=>rw[hk]at hf;simp at hf
  |some k=>
   rw[hk]at hf
   dsimp only at hf
   cases hb:cS k z&&lL (i*z+z) cs.length with
   |false=>rw[hb]at hf;simp at hf
   |true=>
    rw[hb,cond_true]at hf
    simp only[Bool.and_eq_true]at hb
    have hkz:k=z:=dg hb.1
    have hle:i*z+z≤cs.length:=by simpa using hb.2
    obtain⟨c1,c2,c3⟩:=oL h2 hk
    have mE:=hr.bD (o:=i*z) (vs:=cellsOf a) (ys:=y.cells.toList) (by omega) (by simp;omega) (fun q a' y' h1 h2=>c3 q a' y' h1 (by simpa using h2))
    obtain⟨c',g1,g2⟩:=vZ h3 mE hf
    refine⟨c',?_,g2⟩
    simp only[Instr.fill]
    rw[if_neg (by simp only[Bool.or_eq_true,bne_iff_ne,decide_eq_true_eq,ne_eq,not_or,Decidable.not_not];exact⟨by omega,by rw[hr.1];omega⟩)]
    rw[←g1]
    congr 1
    rw[←Array.foldl_toList]
    simp
theorem Oc{l:List AV}{z:Nat}(hl:l.length=z): ∀(n q:Nat),q<n*z→(List.replicate n l).flatten[q]? =l[q % z]?
 |0,q,h=>by simp at h
 |n+1,q,h=>by
  rw[Nat.succ_mul]at h
  rw[List.replicate_succ,List.flatten_cons]
  by_cases hq:q<z
  ·rw[List.getElem?_append_left (by omega),Nat.mod_eq_of_lt hq]
  ·rw[List.getElem?_append_right (by omega),hl,Oc hl n (q - z) (by omega),←Nat.mod_eq_sub_mod (by omega)]
theorem FP{z:Value}{l:List Value}(hz:z.cells.toList=l){k:Nat}(hl:l.length=k)(n:Nat):Row E (List.replicate n (l.map AV.v)).flatten ((Array.range (n*k)).map fun q=>z.cells[q % z.cells.size]!):=by
 have du:z.cells.size=k:=by rw[←hl,←hz];simp
 refine⟨by rw[aD (z:=k) (fun x hx=>by rw[(List.mem_replicate.1 hx).2];simp[hl])];simp,fun q a y ha hy=>?_⟩
 have aU:q<n*k:=by
  have:=(List.getElem?_eq_some_iff.1 ha).1
  rwa [aD (z:=k) (fun x hx=>by rw[(List.mem_replicate.1 hx).2];simp[hl]),List.length_replicate]at this
 rw[Oc (z:=k) (by simp[hl]) n q aU,List.getElem?_map,←hz,Array.getElem?_toList]at ha
 have hk:0<k:=by rcases Nat.eq_zero_or_pos k with h|h;(·subst h;simp at aU);(·exact h)
 have hm:q % k<z.cells.size:=by rw[du];exact Nat.mod_lt _ hk
 rw[Array.getElem?_eq_getElem hm]at ha
 simp at ha;subst ha
 simp only[Array.getElem?_map,du]at hy
 rw[Array.getElem?_range]at hy
 rw[if_pos aU]at hy
 simp only[Option.map_some,Option.some.injEq]at hy
 rw[getElem!_pos z.cells (q % k) hm]at hy
 subst hy;exact .v _
theorem ZA{av:AV}{k:Nat}(h:zV av=some k):(cellsOf av).length=k:=by
 cases av with
 |any=>simp[zV]at h
 |fT vs=>simp[zV]at h
 |ar n z xs=>simp[zV]at h
 |agg cs=>simp only[zV,Option.some.injEq]at h;exact h
 |v x=>
  simp only[zV,Option.some.injEq]at h
  subst h
  cases x<;>simp[cellsOf,Value.cells]
 |_=>simp only[zV,Option.some.injEq]at h;subst h;rfl
theorem A4{z:Nat}: ∀{ps:List (Nat×AV)} {cs cs':List AV},om z cs ps=some cs'→cs'.length=cs.length
 |[],cs,cs',hh=>by simp only[om,Option.some.injEq]at hh;rw[hh]
 |(j,b)::r,cs,cs',hh=>by
  simp only[om]at hh
  cases hk:zV b with
  |none=>rw[hk]at hh;simp at hh
  |some k=>
   rw[hk]at hh
   dsimp only at hh
   cases hb:cS k z&&lL (j*z+z) cs.length with
   |false=>rw[hb]at hh;simp at hh
   |true=>
    rw[hb,cond_true]at hh
    simp only[Bool.and_eq_true]at hb
    have hkz:k=z:=dg hb.1
    have hle:j*z+z≤cs.length:=by simpa using hb.2
    rw[A4 hh,kq (by rw[ZA hk,hkz];exact hle)]
theorem vm{t e:Nat}{i:TypeInfo}{zv:Value}(hu:P.underlying t=some (.slice e))(hi:P.info? e=some i)(hz:i.zero=some zv)(h1:1≤i.size){len:Nat}(hle:len*i.size≤16777216){vs:Array (Nat×Value)}{c':Array Value}
  (hf:Instr.fill (fun j=>some (j*i.size,i.size)) ((Array.range (len*i.size)).map fun q=>zv.cells[q % zv.cells.size]!) vs.toList=some c')(w:World):
  (Instr.buildSlice t len vs).run P w= .ok (.slice (some ⟨w.heap.size,0,none⟩) len len) (w.alloc (.cells c' e)):=by
 have h2: ∀w,(underlying t).run P w= .ok (.slice e) w:=eK hu
 have h3: ∀w,(Go.sizeOf e).run P w= .ok i.size w:=fun w=>kA hi w
 have h4: ∀w,(zeroValue e).run P w= .ok zv w:=fun w=>by simp[zeroValue,typeInfo,go_sem,hi,hz]
 unfold Instr.buildSlice
 by_cases h0:len=0
 ·subst h0
  have hr0:Array.range 0= #[]:=rfl
  simp only[Nat.zero_mul,hr0,List.map_toArray,List.map_nil]at hf
  simp[Sem.run_bind,h2,h3,Result.andThen,hr0,hf,gj]
 ·have h5: ¬(len*i.size > 2 ^ 24):=by omega
  have h6: ¬(len*i.size=0):=by
   intro hh;rcases Nat.mul_eq_zero.1 hh with hh|hh<;>omega
  simp only[Sem.run_bind,h2,h3,Result.andThen,if_neg h5,if_neg h6]
  simp[Sem.run_bind,h4,Result.andThen,hf,gj]
theorem rk(hL:bn P C.L)(h:bq E0 E w0 w s a){o:Oper}{t len:Nat}{parts:Array (Nat×Operand)}(he:o.op= .buildSlice t len parts){d:Nat}{K:bf}(hk:rm C p t len d parts.toList s K):
  ∃r s' E1 E2 w2,K r s'∧bq E0 E1 w0 w s' a∧(∀q,aY s' q↔aY s q)∧bq E0 E2 w0 w2 s' a∧(aY s p→ ∃x,(execOp a.eval o).run P w= .ok (.value x) w2∧Cz E2 r x):=by
 unfold rm at hk
 generalize C.base+d=d at hk
 cases sn:elemOf C.L t with
 |none=>rw[sn]at hk;exact hk.elim
 |some et=>
  obtain⟨e,ti⟩:=et
  rw[sn]at hk
  dsimp only at hk
  obtain⟨hu,KR,i,i1,i2,i3,zv,i4,i5⟩:=gA hL sn
  cases hsh:jw C.ρ (jT (parts.toList.map fun q=>bL s p q.2)) s with
  |none=>rw[hsh]at hk;exact hk.elim
  |some s1=>
   rw[hsh]at hk
   dsimp only at hk
   obtain⟨E1,g1,g2⟩:=ed h hsh
   cases hf:om ti.size ((List.replicate len (ti.zero.map AV.v)).flatten) (parts.toList.map fun q=>(q.1,rd (bL s1 p q.2)))with
   |none=>rw[hf]at hk;exact hk.elim
   |some cs=>
    rw[hf]at hk
    dsimp only at hk
    cases hb:bZ cs&&(lL 1 ti.size&&lL (len*ti.size) 16777216)with
    |false=>rw[hb]at hk;exact hk.elim
    |true=>
     rw[hb,cond_true]at hk
     simp only[Bool.and_eq_true]at hb
     have b2:1≤ti.size:=by simpa using hb.2.1
     have b3:len*ti.size≤16777216:=by simpa using hb.2.2
     have g1':=g1.giveUp (bh (.l d))
     have Af:=(hL.ok e ti KR).Lz
     by_cases hp:aY s p
     ·
      have Ni:wD E1 (parts.toList.map fun q=>(q.1,rd (bL s1 p q.2))) (parts.toList.map fun q=>(q.1,a.eval q.2)):=by
       refine⟨by simp,fun q x y hx hy=>?_⟩
       simp only[List.getElem?_map]at hx hy
       cases hq:parts.toList[q]? with
       |none=>rw[hq]at hx;simp at hx
       |some zz=>rw[hq]at hx hy;simp at hx hy;subst hx;subst hy;exact⟨rfl,(g1.ev ((g2 p).2 hp) _).giveUp g1.wf _⟩
      obtain⟨c',k1,k2⟩:=vZ Ni (FP i5 Af len) hf
      have hlen:cs.length=len*ti.size:=by
       rw[A4 hf,aD (z:=ti.size) (fun x hx=>by rw[(List.mem_replicate.1 hx).2];simp[Af])]
       simp
      refine⟨_,_,E1,_,_,hk,g1',fun q=>(ig _).trans (g2 q),g1'.anS (.l d) C.ρ (len*ti.size) c' e,fun _=>⟨.slice (some ⟨w.heap.size,0,none⟩) len len,?_,?_⟩⟩
      ·have eH:=vm (P:=P) hu i1 i4 (by omega) (len:=len) (by rw[i2];exact b3) (vs:=parts.map fun q=>(q.1,a.eval q.2)) (c':=c') (by rw[i2,←k1];congr 1;simp) w
       have Nj:(parts.map fun(i,x)=>(i,a.eval x))=parts.map fun q=>(q.1,a.eval q.2):=rfl
       simp only[execOp,he,Nj]
       simp[eH]
      ·exact Ot g1' b2 hlen hb.1 k2.2 (by rw[k2.1,hlen]) (Nat.le_refl _) (by
        have:len≤len*ti.size:=Nat.le_mul_of_pos_right _ b2
        unfold maxLen;omega) (fun hh=>hh)
     ·exact⟨_,_,E1,E1,w,hk,g1',fun q=>(ig _).trans (g2 q),g1',fun hh=>absurd hh hp⟩
theorem JG{l:List Value}{z:Nat}(hl:l.length=z): ∀(n q:Nat),q<n*z→(List.replicate n l).flatten[q]? =l[q % z]?
 |0,q,h=>by simp at h
 |n+1,q,h=>by
  rw[Nat.succ_mul]at h
  rw[List.replicate_succ,List.flatten_cons]
  by_cases hq:q<z
  ·rw[List.getElem?_append_left (by omega),Nat.mod_eq_of_lt hq]
  ·rw[List.getElem?_append_right (by omega),hl,JG hl n (q - z) (by omega),←Nat.mod_eq_sub_mod (by omega)]
theorem LB{z:Value}{l:List Value}(hz:z.cells.toList=l){k:Nat}(hl:l.length=k)(n:Nat):((Array.range (n*k)).map fun q=>z.cells[q % z.cells.size]!).toList=(List.replicate n l).flatten:=by
 have du:z.cells.size=k:=by rw[←hl,←hz];simp
 have hlen:(List.replicate n l).flatten.length=n*k:=by rw[aD (z:=k) (fun x hx=>by rw[(List.mem_replicate.1 hx).2];exact hl)];simp
 apply List.ext_getElem?
 intro q
 by_cases aU:q<n*k
 ·have hk:0<k:=by rcases Nat.eq_zero_or_pos k with h|h;(·subst h;simp at aU);(·exact h)
  have hm:q % k<z.cells.size:=by rw[du];exact Nat.mod_lt _ hk
  rw[JG hl n q aU,Array.getElem?_toList,Array.getElem?_map,Array.getElem?_range,if_pos aU,Option.map_some,du,getElem!_pos z.cells (q % k) hm,←hz,Array.getElem?_toList,Array.getElem?_eq_getElem hm]
 ·rw[List.getElem?_eq_none (l:=(List.replicate n l).flatten) (by omega),Array.getElem?_toList,Array.getElem?_map,Array.getElem?_range,if_neg aU];rfl
theorem run_makeSlice{t e:Nat}{i:TypeInfo}{zv:Value}(hu:P.underlying t=some (.slice e))(hi:P.info? e=some i)(hz:i.zero=some zv)(h1:1≤i.size){k k':IntKind}{n:Nat}(hn:n≤9223372036854775807)(hb:n*i.bytes≤140737488355328)(w:World):
  (Instr.makeSlice t (.int k n) (.int k' n)).run P w= .ok (.slice (some ⟨w.heap.size,0,none⟩) n n) (w.alloc (.cells ((Array.range (n*i.size)).map fun q=>zv.cells[q % zv.cells.size]!) e)):=by
 have h2: ∀w,(underlying t).run P w= .ok (.slice e) w:=eK hu
 have h3: ∀w,(Go.sizeOf e).run P w= .ok i.size w:=fun w=>kA hi w
 have h4: ∀w,(zeroValue e).run P w= .ok zv w:=fun w=>by simp[zeroValue,typeInfo,go_sem,hi,hz]
 have h5: ∀w,(typeInfo e).run P w= .ok i w:=fun w=>by simp[typeInfo,go_sem,hi]
 have hw:IntKind.i64.wrap (n:Int)=n:=IntWalk.i64_in _ (by omega)
 have e48:(2:Int) ^ 48=281474976710656:=by decide
 have eI:(i.bytes:Int)*(n:Int)≤140737488355328:=by
  have:((n*i.bytes:Nat):Int)≤((140737488355328:Nat):Int):=Int.ofNat_le.2 hb
  rw[Int.natCast_mul]at this
  rw[Int.mul_comm];exact this
 have c1: ¬((i.bytes:Int)*(n:Int) > 2 ^ 48):=by
  rw[e48];omega
 have c2: ¬((n:Int)<0):=by omega
 have c3: ¬((n:Int) > (n:Int)):=by omega
 have zw: ∀w,(askRoom (n*i.bytes)).run P w= .ok () w:=fun w=>by
  unfold askRoom
  rw[if_neg (by unfold roomBytes;omega)]
  simp[go_sem]
 have key: ∀w,(do
   let n:=n*(←Go.sizeOf e)
   let zero←if n=0 then pure #[]else do pure (←zeroValue e).cells
   newRow e ((Array.range n).map (zero[· % zero.size]!)):Sem Addr).run P w= .ok ⟨w.heap.size,0,none⟩ (w.alloc (.cells ((Array.range (n*i.size)).map fun q=>zv.cells[q % zv.cells.size]!) e)):=by
  intro w
  by_cases h0:n*i.size=0
  ·have hr0:Array.range 0= #[]:=rfl
   simp only[Sem.run_bind,h3,Result.andThen,h0,if_true,hr0]
   rw[show(pure #[]:Sem (Array Value)).run P w= .ok #[] w from rfl]
   simp[gj]
  ·simp only[Sem.run_bind,h3,Result.andThen,if_neg h0,h4]
   rfl
 have ha: ∀(k:IntKind) w,(asInt (.int k (n:Int))).run P w= .ok (n:Int) w:=fun _ _=>rfl
 have hc:(decide ((n:Int)<0)||decide ((i.bytes:Int)*(n:Int) > 2 ^ 48)||decide ((n:Int)<0)||decide ((n:Int) > (n:Int)))=false:=by
  simp only[decide_eq_false c1,decide_eq_false c2,decide_eq_false c3,Bool.or_false]
 have ht:(n:Int).toNat=n:=Int.toNat_natCast n
 unfold Instr.makeSlice
 simp only[Sem.run_bind,h2,ha,h5,Result.andThen,hw,hc,ht]
 simp only[Bool.false_eq_true,if_false,Sem.run_bind,zw,Result.andThen,h3]
 by_cases h0:n*i.size=0
 ·have hr0:Array.range 0= #[]:=rfl
  simp only[h0,if_true,hr0]
  simp[gj]
 ·simp only[if_neg h0,Sem.run_bind,h4,Result.andThen]
  simp[gj]
theorem Jl(hL:bn P C.L)(hI:C.I=al)(h:bq E0 E w0 w s a){o:Oper}{t:Nat}{x y:Operand}(he:o.op= .makeSlice t x y){d:Nat}{n m:Int}(hn:intOf (bL s [] x)=some n)(hm:intOf (bL s [] y)=some m){K:bf}{Q:Exit→Act→World→Prop}
  (hk:NY C t d n m s K):lj P o a w (fC E0 w0 o a K) Q:=by
 unfold NY at hk
 generalize C.base+d=d at hk
 cases sn:elemOf C.L t with
 |none=>rw[sn]at hk;exact hk.elim
 |some et=>
  obtain⟨e,ti⟩:=et
  rw[sn]at hk
  obtain⟨hu,KR,i,i1,i2,i3,zv,i4,i5⟩:=gA hL sn
  cases e8:look d s.b with
  |some _=>rw[e8]at hk;exact hk.elim
  |none=>
   rw[e8]at hk
   dsimp only at hk
   obtain⟨k1,k2,ai6,hk⟩:=hk
   rw[hI]at ai6
   obtain⟨k3,k4,k5⟩:0≤n∧n≤9223372036854775807∧n*ti.bytes≤140737488355328:=ai6
   subst k2
   rw[hI]at hk
   obtain⟨q1,e1⟩:=eG hn h trivial
   obtain⟨q2,e2⟩:=eG hm h trivial
   obtain⟨n',I5⟩:=Int.eq_ofNat_of_zero_le k3
   subst I5
   have hb:n'*i.bytes≤140737488355328:=by
    rw[i3]
    rw[←Int.natCast_mul]at k5
    exact Int.ofNat_le.1 k5
   have Af:=(hL.ok e ti KR).Lz
   have eH:=run_makeSlice (P:=P) hu i1 i4 (by omega) (k:=q1) (k':=q2) (n:=n') (by omega) hb w
   have zx: ¬E.live (.s d):=fun tz=>by obtain⟨ob,ho⟩:=h.lv d tz;rw[e8]at ho;cases ho
   have uh:=EO h (c:=(Array.range (n'*i.size)).map fun q=>zv.cells[q % zv.cells.size]!) (k:= .s d) zx (z:=ti.size) (n:=n') (l:=ti.zero) (by omega) Af (by unfold maxLen;omega) (by rw[i2];exact LB i5 Af n') e
   refine cP (x:= .slice (some ⟨w.heap.size,0,none⟩) n' n') (w':=w.alloc _) ?_ ⟨_,_,_,hk,h.Tw e8 uh,?_⟩
   ·simp only[execOp,he,e1,e2]
    simp[eH]
   ·have hmk:(E.addKey (.s d) (.cells ((Array.range (n'*i.size)).map fun q=>zv.cells[q % zv.cells.size]!) e (0,0)) n').m (.s d)=w.heap.size:=by simp[Env.addKey,h.heap]
    have:=Cz.ia (E:=E.addKey (.s d) (.cells ((Array.range (n'*i.size)).map fun q=>zv.cells[q % zv.cells.size]!) e (0,0)) n') (.s d) n' (.inl rfl) (by simp[Env.addKey]) (by simp[Env.addKey]) (by simp[Env.addKey];unfold maxLen;omega)
    rw[hmk]at this
    simpa[Env.addKey]using this
theorem tC(v:Value):rR v=v.oneCell':=by cases v<;>rfl
theorem chunks_flatten{z:Nat}: ∀{xs:List (List AV)},(∀l∈xs,l.length=z)→chunks z xs.length xs.flatten=xs
 |[],_=>rfl
 |l::r,h=>by
  have hl:=h l (by simp)
  simp only[List.length_cons,chunks,List.flatten_cons]
  rw[List.take_append_of_le_length (by omega),List.take_of_length_le (by omega),List.drop_append_of_le_length (by omega),List.drop_of_length_le (by omega),List.nil_append,chunks_flatten (fun x hx=>h x (by simp[hx]))]
theorem xX: ∀{xs:List (List AV)},dU xs=true→lf xs.flatten=true
 |[],_=>rfl
 |l::r,h=>by
  simp only[dU,Bool.and_eq_true]at h
  have ih:=xX h.2
  rw[List.flatten_cons]
  have: ∀{a b:List AV},lf a=true→lf b=true→lf (a++b)=true:=by
   intro a b ha hb
   induction a with
   |nil=>exact hb
   |cons x r ih=>simp only[lf,Bool.and_eq_true,List.cons_append]at ha ⊢;exact⟨ha.1,ih ha.2⟩
  exact this h.1 ih
theorem Cz.cells{r:Nat}{xs:List (List AV)}{v:Value}(hE:w.heap=E.h)(h:Cz E (.sl r xs) v)(hp:0<xs.length){z:Nat}(hz: ∀l∈xs,l.length=z):
  ∃b o c,v= .slice (some ⟨b,o,none⟩) xs.length c∧ ∃ns:List Value,ns.length=xs.length*z∧(∀(j:Nat) (u:Value),ns[j]? =some u→w.cell? ((⟨b,o,none⟩:Addr).add j)=some u)∧
   (∀(q:Nat) (a:AV),xs.flatten[q]? =some a→cm a=true)∧ ∀(q:Nat) (a:AV) (y:Value),xs.flatten[q]? =some a→ns[q]? =some y→Cz E a y:=by
 cases h with
 |nA=>simp at hp
 |sl _ _ z' b o c u hp hc hm dV KG hr hi hs hu hq=>
  have Qg:z'=z:=by
   cases xs with
   |nil=>simp at hp
   |cons x r=>rw[←KG x (by simp),hz x (by simp)]
  subst Qg
  have fB:=aD hz
  refine⟨b,o,c,rfl,(List.range (xs.length*z')).map u,by simp,fun j v hj=>?_,hi,fun q a y ha hy=>?_⟩
  ·have aU:j<xs.length*z':=by have:=(List.getElem?_eq_some_iff.1 hj).1;simpa using this
   have:v=u j:=by simp[aU]at hj;exact hj.symm
   subst this
   rw[dX,jr,hE]
   exact hu j (xs.flatten[j]'(by omega)) (by simp)
  ·have aU:q<xs.length*z':=by have:=(List.getElem?_eq_some_iff.1 ha).1;omega
   have:y=u q:=by simp[aU]at hy;exact hy.symm
   subst this
   exact hq q a ha
theorem AB{cs:List AV}{ns:List Value}(hl:ns.length=cs.length)(hq: ∀(q:Nat) (a:AV) (y:Value),cs[q]? =some a→ns[q]? =some y→Cz E a y)(h:lf cs=true): ∀u∈ns,u.oneCell'=true:=by
 intro u hu
 have:=DT (E:=E) (c:=ns.toArray) ⟨by simpa using hl,fun q a y h1 h2=>hq q a y h1 (by simpa using h2)⟩ h u (by simpa using hu)
 rw[←tC];exact this
structure App(P:Program)(E:Env)(w:World)(t:Nat)(ty:Nat)(x y:Value)(tk tk':Tok)(r:Nat)(zs:List (List AV))(x':Value)(w':World)(E':Env):Prop where
 run:(Builtin.append_ #[t,t] ty #[x,y]).run P w= .ok x' w'
 heap:w'.heap=E'.h
 wf:Wf E'
 same:iz w w'
 ext:Ext (fun o=>o= .tok tk) E E'
 cz:Cz E' (.gs r tk' zs) x'
 own: ∀b,b<E.h.size→E.own b= .tok tk→E'.own b= .tok tk∨E'.own b= .tok tk'
 live: ∀k,E'.live k↔E.live k
 ng:(∀b,¬di (E.own b))→ ∀b,¬di (E'.own b)
def Env.grow(E:Env)(b:Nat)(tk':Tok)(n:Nat)(o:Obj):Env:=
 {E with h:=E.h.setIfInBounds b o,aN:=fun b' i=>if b'=b then i<n else E.aN b' i,own:=fun b'=>if b'=b then .tok tk' else E.own b'}
theorem setRow_heap(w:World)(g:Nat)(cs:Array Value){c:Array Value}{e:Nat}{fr:Nat×Nat}(h:w.heap[g]? =some (.cells c e fr)):(w.setRow g cs).heap=w.heap.setIfInBounds g (.cells cs e fr):=by
 obtain⟨aU,hb⟩:=Array.getElem?_eq_some_iff.1 h
 apply Array.ext
 ·simp[World.setRow]
 ·intro i h1 h2
  simp only[World.setRow]
  by_cases hi:i=g
  ·subst hi
   rw[Array.getElem_modify_self,Array.getElem_setIfInBounds_self,hb]
  ·rw[Array.getElem_modify_of_ne (Ne.symm hi),Array.getElem_setIfInBounds_ne (by simpa[World.setRow]using h1) (Ne.symm hi)]
theorem Cc{t ty e:Nat}{i:TypeInfo}(hu:P.underlying t=some (.slice e))(hi:P.info? e=some i)(A B:Option Addr)(n c m:Nat)(hc:n≤c)(w:World):
  (Builtin.append_ #[t,t] ty #[.slice A n c,.slice B 0 m]).run P w= .ok (.slice A n c) w:=by
 have h2: ∀w,(underlying t).run P w= .ok (.slice e) w:=eK hu
 have h3: ∀w,(Go.sizeOf e).run P w= .ok i.size w:=fun w=>kA hi w
 cases A<;>cases B<;>
  simp[Builtin.append_,Sem.run_bind,h2,h3,Result.andThen,Builtin.lenOf,hc,Builtin.firstCells,loadCells,loadCellsFrom,storeCells]
theorem PK{r:Nat}{tk tk':Tok}{xs:List (List AV)}{x y:Value}{t ty:Nat}(hw:Wf E)(hh:w.heap=E.h)(hx:Cz E (.gs r tk xs) x)(eH:(Builtin.append_ #[t,t] ty #[x,y]).run P w= .ok x w):App P E w t ty x y tk tk' r xs x w (E.cV tk tk'):=
 ⟨eH,hh,JE hw _ _,iz.refl _,sw _ _,hx.cV hw,fun b _ ho=> .inr (by simp only[Env.cV];rw[ho];simp),fun _=>Iff.rfl,fun h=>JF h _ _⟩
theorem pU(z:Array Value)(n:Nat):(Builtin.zeroCells z n).size=n*z.size:=by simp[Builtin.zeroCells]
theorem Oq{e:Nat}{i:TypeInfo}{zv:Value}(h:bq E0 E w0 w s a)(Af:zv.cells.size=i.size)(h1:1≤i.size){r:Nat}{tk tk':Tok}{zs:List (List AV)}{x y:Value}{t ty:Nat}(Qg: ∀l∈zs,l.length=i.size)
  {ns:List Value}(hl:ns.length=zs.length*i.size)(lV: ∀(q:Nat) (a:AV),zs.flatten[q]? =some a→cm a=true)(hq: ∀(q:Nat) (a:AV) (y:Value),zs.flatten[q]? =some a→ns[q]? =some y→Cz E a y){cap:Nat}(hc:zs.length≤cap)(hm:cap≤maxLen)(cM:0<zs.length)
  (eH:(Builtin.append_ #[t,t] ty #[x,y]).run P w= .ok (.slice (some ⟨w.heap.size,0,none⟩) zs.length cap) (w.drew.alloc (.cells (ns.toArray++Builtin.zeroCells zv.cells (cap - zs.length)) e))):
  ∃x' w' E',App P E w t ty x y tk tk' r zs x' w' E':=by
 have hd:=h.draw (w':=w.drew) rfl ⟨rfl,rfl,rfl⟩
 have hgs:=Ot hd (t:=tk') (ρ:=r) (z:=i.size) (n:=zs.length) (cs:=zs.flatten) (c:=ns.toArray++Builtin.zeroCells zv.cells (cap - zs.length)) (e:=e) (cap:=cap) (by omega) (aD Qg) (wW lV)
  (fun q b y' g1 g2=>hq q b y' g1 (by
   have aU:q<ns.length:=by rw[hl,←aD Qg];exact(List.getElem?_eq_some_iff.1 g1).1
   rw[Array.getElem?_append_left (by simpa using aU)]at g2
   simpa using g2))
  (by simp only[Array.size_append,pU,Af];simp only[List.size_toArray,hl];rw[←Nat.add_mul];congr 1;omega) hc hm (fun hh=>by omega)
 rw[chunks_flatten Qg]at hgs
 refine⟨_,_,_,eH,?_,GP h.wf tk' r (zs.length*i.size) _ ⟨_,_,rfl⟩,⟨rfl,rfl,rfl⟩,(yy h.wf _ _ _ _).mono (fun _ hf=>hf.elim),hgs,fun b hb ho=> .inl ?_,fun _=>Iff.rfl,fun hg b=>(by
  have:=hg b
  simp only[Env.eT]
  split
  ·exact jg _
  ·exact this)⟩
 ·show w.heap.push _=_
  rw[h.heap];rfl
 ·simp only[Env.eT];rw[if_neg (by omega)];exact ho
theorem BY{t ty e:Nat}{i:TypeInfo}{zv:Value}(h:bq E0 E w0 w s a)(hu:P.underlying t=some (.slice e))(hi:P.info? e=some i)(hz:i.zero=some zv)(Af:zv.cells.size=i.size)(h1:1≤i.size)
  {r r2:Nat}{tk tk':Tok}{xs ys:List (List AV)}{x y:Value}(hx:Cz E (.gs r tk xs) x)(hy:Cz E (.sl r2 ys) y)(hxz: ∀l∈xs,l.length=i.size)(hyz: ∀l∈ys,l.length=i.size)(yg:lf ys.flatten=true)
  (hb:(xs.length+ys.length)*i.bytes≤70368744177664)(hn:xs.length+ys.length≤70368744177664): ∃x' w' E',App P E w t ty x y tk tk' r (xs++ys) x' w' E':=by
 by_cases hy0:ys.length=0
 ·have:ys=[]:=List.eq_nil_of_length_eq_zero hy0
  subst this
  obtain⟨B,m,QV⟩:=hy.len
  rw[List.append_nil]
  subst QV
  have hxv: ∃A c,x= .slice A xs.length c∧xs.length≤c:=by
   cases hx with
   |sX=>exact⟨_,_,rfl,Nat.zero_le _⟩
   |gs=>exact⟨_,_,rfl,by assumption⟩
  obtain⟨A,c,rfl,hc⟩:=hxv
  exact⟨_,_,_,PK h.wf h.heap hx (Cc hu hi A B xs.length c m hc w)⟩
 ·obtain⟨b2,o2,c2,rfl,ns,n1,n2,n3,n4⟩:=hy.cells h.heap (by omega) hyz
  have ajC:=AB (E:=E) (by rw[n1,aD hyz]) n4 yg
  cases hx with
  |sX=>
   have eH:=run_append_nil (P:=P) w t ty e i zv hu hi hz ⟨b2,o2,none⟩ ys.length c2 ns n1 n2 (by omega) (by omega) (by simp at hb;omega)
   rw[List.nil_append]
   exact Oq h Af h1 hyz n1 n3 n4 (grownCap_ge w ys.length 0 e) (grownCap_le_maxLen w ys.length 0 e (by unfold maxLen;omega)) (by omega) eH
  |gs _ _ _ z b c e' cells u hc hm h0 dV KG hr hbk du ho fY lV huq uV=>
   have GA:=aD hxz
   have QX:=aD hyz
   have XW: ∀l∈xs++ys,l.length=i.size:=fun l hl=>by
    rcases List.mem_append.1 hl with hl|hl
    ·exact hxz l hl
    ·exact hyz l hl
   have hlx:(xs++ys).length=xs.length+ys.length:=by simp
   have hold: ∀(j:Nat) (v:Value),((List.range (xs.length*i.size)).map u)[j]? =some v→w.cell? ((⟨b,0,none⟩:Addr).add j)=some v:=fun j v hj=>by
    have aU:j<xs.length*i.size:=by have:=(List.getElem?_eq_some_iff.1 hj).1;simpa using this
    have:v=u j:=by simp[aU]at hj;exact hj.symm
    subst this
    rw[dX,jr,h.heap]
    exact huq j (xs.flatten[j]'(by omega)) (by simp)
   have afd: ∀(q:Nat) (a:AV),(xs++ys).flatten[q]? =some a→cm a=true:=fun q a ha=>by
    rw[List.flatten_append]at ha
    by_cases aU:q<xs.flatten.length
    ·rw[List.getElem?_append_left aU]at ha;exact lV q a ha
    ·rw[List.getElem?_append_right (by omega)]at ha;exact n3 _ a ha
   by_cases zw:xs.length+ys.length≤c
   ·
    have hxp:0<xs.length:=by
     rcases Nat.eq_zero_or_pos xs.length with hh|hh
     ·have:=h0 hh;omega
     ·exact hh
    have Qg:z=i.size:=by
     cases xs with
     |nil=>simp at hxp
     |cons l r=>rw[←KG l (by simp),hxz l (by simp)]
    subst Qg
    have hmul:(xs.length+ys.length)*i.size≤c*i.size:=Nat.mul_le_mul_right _ zw
    rw[Nat.add_mul]at hmul
    obtain⟨w',g1,g2,g3⟩:=fH P b (xs.length*i.size) e' ns 0 w cells (by rw[h.heap];exact hbk) (by omega) (fun v hv=>by rw[tC];exact ajC v hv)
    obtain⟨f1,f2⟩:=pR (xs.length*i.size) ns 0 cells (by omega)
    generalize (ns.zipIdx.foldl (fun cs (x,j)=>cs.setIfInBounds (xs.length*i.size+j) x) cells)=F at g2 f1 f2
    have aU:b<E.h.size:=(Array.getElem?_eq_some_iff.1 hbk).1
    have eH:(Builtin.append_ #[t,t] ty #[.slice (some ⟨b,0,none⟩) xs.length c,.slice (some ⟨b2,o2,none⟩) ys.length c2]).run P w= .ok (.slice (some ⟨b,0,none⟩) (xs.length+ys.length) c) w':=by
     have h2: ∀w,(underlying t).run P w= .ok (.slice e) w:=eK hu
     have h3: ∀w,(Go.sizeOf e).run P w= .ok i.size w:=fun w=>kA hi w
     have hf:=run_firstCells_some (P:=P) w i.size ys.length ⟨b2,o2,none⟩ ys.length c2 ns n1 n2
     simp[Builtin.append_,Sem.run_bind,h2,h3,Result.andThen,Builtin.lenOf,zw,hf,dX,g1]
    have hEh:w'.heap=(E.grow b tk' ((xs.length+ys.length)*i.size) (.cells F e' (0,0))).h:=by rw[g2,h.heap];rfl
    have Qm:Ext (fun o=>o= .tok tk) E (E.grow b tk' ((xs.length+ys.length)*i.size) (.cells F e' (0,0))):=
     ⟨by simp[Env.grow],
      fun b' q hs=>by
      by_cases ui:b'=b
      ·subst ui
       have uV:=(fY q).1 hs
       refine⟨by simp only[Env.grow,if_true];rw[Nat.add_mul];omega,?_,rfl⟩
       simp only[Env.grow,aR]
       rw[Array.getElem?_setIfInBounds_self_of_lt aU,hbk]
       dsimp only
       rw[f2,if_neg (by omega)]
      ·refine⟨by simp only[Env.grow];rw[if_neg ui];exact hs,?_,rfl⟩
       simp only[Env.grow,aR]
       rw[Array.getElem?_setIfInBounds_ne (Ne.symm ui)],
      fun k hk=>⟨hk,rfl,rfl⟩,
      fun b' eI cM=>by
      have ui:b'≠b:=fun hh=>by subst hh;exact cM ho
      exact⟨by simp only[Env.grow];rw[if_neg ui],by simp only[Env.grow];rw[Array.getElem?_setIfInBounds_ne (Ne.symm ui)],fun q=>by simp only[Env.grow];rw[if_neg ui],rfl⟩⟩
    have hwf:Wf (E.grow b tk' ((xs.length+ys.length)*i.size) (.cells F e' (0,0))):=
     ⟨fun b' q hs=>by
      simp only[Env.grow]at hs ⊢
      by_cases ui:b'=b
      ·subst ui;simpa using aU
      ·rw[if_neg ui]at hs;simpa using h.wf.aN b' q hs,
      fun b' hs=>by
      simp only[Env.grow]at hs ⊢
      by_cases ui:b'=b
      ·subst ui;simpa using aU
      ·rw[if_neg ui]at hs;simpa using h.wf.own b' hs,
      fun b' q hs hr=>by
      simp only[Env.grow]at hs hr ⊢
      by_cases ui:b'=b
      ·subst ui;exact⟨F,e',by rw[Array.getElem?_setIfInBounds_self_of_lt aU]⟩
      ·rw[if_neg ui]at hs
       obtain⟨c',e'',hc⟩:=h.wf.fz b' q hs hr
       exact⟨c',e'',by rw[Array.getElem?_setIfInBounds_ne (Ne.symm ui)];exact hc⟩⟩
    refine⟨_,w',_,eH,hEh,hwf,g3,Qm,?_,fun b' _ uX=>?_,fun _=>Iff.rfl,fun hg b'=>(by
     have:=hg b'
     simp only[Env.grow]
     split
     ·exact jg _
     ·exact this)⟩
    ·have:=Cz.gs (E:=E.grow b tk' ((xs.length+ys.length)*i.size) (.cells F e' (0,0))) r tk' (xs++ys) i.size b c e' F (fun q=>F[q]?.getD undef) (by rw[hlx];exact zw) hm (by rw[hlx];omega) (by omega) XW hr
      (by simp[Env.grow,aU]) (by rw[f1];exact du) (by simp[Env.grow]) (fun q=>by simp[Env.grow]) afd
      (fun q a' ha=>by
       have hq:q<F.size:=by
        have:=(List.getElem?_eq_some_iff.1 ha).1
        rw[aD XW,hlx,Nat.add_mul]at this
        rw[f1,du];omega
       simp[aR,Env.grow,aU,hq])
      (fun q a' ha=>by
       have hq:q<(xs.length+ys.length)*i.size:=by
        have:=(List.getElem?_eq_some_iff.1 ha).1
        rwa [aD XW,hlx]at this
       rw[Nat.add_mul]at hq
       have hfq:=f2 q
       have aaE: ∀y',Cz E a' y'→F[q]? =some y'→Cz (E.grow b tk' ((xs.length+ys.length)*i.size) (.cells F e' (0,0))) a' (F[q]?.getD undef):=fun y' g1 g2=>by
        rw[g2]
        exact(g1.ext Qm h.wf (bh tk) (fun t ht=>(lq _ _).2 (by cases ht;rfl))).2 (afd q a' ha)
       rw[List.flatten_append]at ha
       by_cases Nk:q<xs.flatten.length
       ·rw[List.getElem?_append_left Nk]at ha
        rw[if_neg (by omega)]at hfq
        have h5:=huq q a' ha
        simp only[Nat.zero_add,aR,hbk]at h5
        exact aaE _ (uV q a' ha) (hfq.trans h5)
       ·rw[List.getElem?_append_right (by omega)]at ha
        rw[if_pos ⟨by omega,by omega⟩]at hfq
        have ae5:q - (xs.length*i.size+0)<ns.length:=by omega
        have h6:ns[q - (xs.length*i.size+0)]? =some ns[q - (xs.length*i.size+0)]:=by simp[ae5]
        exact aaE _ (n4 _ a' _ ha (by rw[GA];exact h6)) (hfq.trans h6))
     rw[hlx]at this
     exact this
    ·by_cases ui:b'=b
     ·subst ui;exact .inr (by simp[Env.grow])
     ·exact .inl (by simp only[Env.grow];rw[if_neg ui];exact uX)
   ·have eH:=run_append_grow (P:=P) w t ty e i zv hu hi hz ⟨b,0,none⟩ xs.length c ((List.range (xs.length*i.size)).map u) (by simp) hold ⟨b2,o2,none⟩ ys.length c2 ns n1 n2 (by omega) (by omega)
     (growslice_fits (by omega) (by omega))
    have apy:((List.range (xs.length*i.size)).map u).toArray++ns.toArray=(((List.range (xs.length*i.size)).map u)++ns).toArray:=by simp
    rw[apy]at eH
    rw[←hlx]at eH
    refine Oq h Af h1 XW (ns:=((List.range (xs.length*i.size)).map u)++ns) (by rw[hlx,List.length_append,n1,Nat.add_mul];simp) afd (fun q a' y' g1 g2=>?_) (by exact grownCap_ge w _ c e) (grownCap_le_maxLen w _ c e (by unfold maxLen;omega)) (by omega) eH
    rw[List.flatten_append]at g1
    by_cases aU:q<xs.flatten.length
    ·rw[List.getElem?_append_left aU]at g1
     rw[List.getElem?_append_left (by simp;omega)]at g2
     have:y'=u q:=by simp[show q<xs.length*i.size from by omega]at g2;exact g2.symm
     subst this
     exact uV q a' g1
    ·rw[List.getElem?_append_right (by omega)]at g1
     rw[List.getElem?_append_right (by simp;omega)]at g2
     exact n4 _ a' y' g1 (by simpa[GA]using g2)
theorem GM(hI:C.I=al){ti:TI}{n:Nat}{ys:List (List AV)}(h:Pc C ti n ys):(n+ys.length)*ti.bytes≤70368744177664∧n+ys.length≤70368744177664∧1≤ti.size∧lf ys.flatten=true∧ ∀l∈ys,l.length=ti.size:=by
 obtain⟨h12,h3,h4,h5⟩:=h
 rw[hI]at h12
 obtain⟨h1,h2⟩:(n+ys.length)*ti.bytes≤70368744177664∧n+ys.length≤70368744177664:=h12
 exact⟨h1,h2,by simpa using h3,xX h4,h5⟩
theorem RJ(d:Nat)(k:Tok): ∀t,(fun o=>o=Own.tok k) (.tok t)→(fun q=>bh (.l d) q||bh k q) t=true:=fun t ht=>by
 cases ht
 simp[(lq k k).2 rfl]
theorem Fg(hL:bn P C.L)(hI:C.I=al)(h:bq E0 E w0 w s a){o:Oper}{t t' d:Nat}{x y:Operand}{c:Call}(he:o.op= .call c)(hc:c.callee= .builtin .append)(cQ:c.args= #[x,y])(QW:c.argTypes= #[t,t'])(htt:t'=t){K:bf}{Q:Exit→Act→World→Prop}
  (hk:yJ C t d (bL s [] x) (bL s [] y) s K):lj P o a w (fC E0 w0 o a K) Q:=by
 subst htt
 unfold yJ at hk
 generalize C.base+d=d at hk
 have hx:=h.ev (p:=[]) trivial x
 have hy:=h.ev (p:=[]) trivial y
 have fin: ∀x' w',(Builtin.append_ #[t',t'] o.type #[a.eval x,a.eval y]).run P w= .ok x' w'→Out E0 w0 a K x' w'→lj P o a w (fC E0 w0 o a K) Q:=fun x' w' g1 g2=>by
  refine cP (x:=x') (w':=w') ?_ g2
  simp only[execOp,he,resolve,hc,invoke,builtin,cQ,QW]
  simp[Sem.run_bind,invoke,builtin,g1,Result.andThen]
 cases sn:elemOf C.L t' with
 |none=>rw[sn]at hk;exact hk.elim
 |some et=>
  obtain⟨e,ti⟩:=et
  rw[sn]at hk
  obtain⟨hu,KR,i,i1,i2,i3,zv,i4,i5⟩:=gA hL sn
  have Af:zv.cells.size=i.size:=by rw[i2,←(hL.ok e ti KR).Lz,←i5];simp
  cases OL:xy (bL s [] y)with
  |none=>rw[OL]at hk;exact hk.elim
  |some ry=>
   obtain⟨r2,ys⟩:=ry
   rw[OL]at hk
   dsimp only at hk
   have hy':=nZ OL hy
   split at hk
   ·rename_i r k xs dG
    obtain⟨OI,k1,k2,hk⟩:=hk
    rw[hI]at k1 hk
    obtain⟨q1,q2,q3,q4,q5⟩:=GM (C:=C) (ti:=ti) (n:=xs.length) (ys:=ys) hI k1
    rw[dG]at hx
    obtain⟨x',w',E',g⟩:=BY (P:=P) (t:=t') (ty:=o.type) (tk':= .l d) h hu i1 i4 Af (by omega) hx hy' (by rw[i2];exact k2) (by rw[i2];exact q5) q4 (by rw[i3];exact q1) q2
    refine fin x' w' g.run ⟨_,_,E',hk,?_,g.cz⟩
    refine h.xW g.ext (RJ d k) (fun o ho=>by subst ho;left;first|rfl|(cases k<;>rfl)) g.wf g.heap g.same (fun b hb hcc=>by have:=h.xz b hb;rw[hcc]at this;first|(simp[Own.loc,Tok.loc]at this;done)|(cases k<;>simp[Own.loc,Tok.loc]at this)) _ s.g s.nx (fun d' ob hd=>?_) (fun d' hl=>?_) (fun j ob hj=> .inl ⟨hj,fun hf=>by cases hf⟩)
     (fun j=>(g.live _).trans (h.gl j)) h.gk (g.ng h.ng)
    ·rw[cw]at hd
     cases hh:look d' s.b with
     |none=>rw[hh]at hd;simp at hd
     |some z=>rw[hh]at hd;simp at hd;exact .inl ⟨z,rfl,hd.symm,(fun hf=>by cases hf),fun hf=>by first|(cases hf;done)|(cases hf;cases OI)⟩
    ·obtain⟨ob,ho⟩:=h.lv d' ((g.live _).1 hl)
     exact⟨_,by rw[cw,ho];rfl⟩
   ·rename_i dG
    obtain⟨k1,hk⟩:=hk
    obtain⟨q1,q2,q3,q4,q5⟩:=GM (C:=C) (ti:=ti) (n:=0) (ys:=ys) hI k1
    rw[dG]at hx
    have ex:=bG hx
    have hgs:Cz E (.gs C.ρ (.l d) []) (a.eval x):=by rw[ex];exact .sX _ _
    obtain⟨x',w',E',g⟩:=BY (P:=P) (t:=t') (ty:=o.type) (tk':= .l d) h hu i1 i4 Af (by omega) hgs hy' (fun l hl=>by simp at hl) (by rw[i2];exact q5) q4 (by rw[i3];simpa using q1) (by simpa using q2)
    refine fin x' w' g.run ⟨_,_,E',hk,?_,by simpa using g.cz⟩
    have hT: ∀t,(fun o=>o=Own.tok (.l d)) (.tok t)→bh (.l d) t=true:=fun t ht=>(lq _ _).2 (by cases ht;rfl)
    refine h.xW g.ext hT (fun o ho=>by subst ho;left;first|rfl|(cases k<;>rfl)) g.wf g.heap g.same (fun b hb hcc=>by have:=h.xz b hb;rw[hcc]at this;first|(simp[Own.loc,Tok.loc]at this;done)|(cases k<;>simp[Own.loc,Tok.loc]at this)) _ s.g s.nx (fun d' ob hd=>?_) (fun d' hl=>?_) (fun j ob hj=> .inl ⟨hj,fun hf=>by cases hf⟩)
     (fun j=>(g.live _).trans (h.gl j)) h.gk (g.ng h.ng)
    ·rw[cw]at hd
     cases hh:look d' s.b with
     |none=>rw[hh]at hd;simp at hd
     |some z=>rw[hh]at hd;simp at hd;exact .inl ⟨z,rfl,hd.symm,(fun hf=>by cases hf),fun hf=>by first|(cases hf;done)|(cases hf;cases OI)⟩
    ·obtain⟨ob,ho⟩:=h.lv d' ((g.live _).1 hl)
     exact⟨_,by rw[cw,ho];rfl⟩
   ·exact hk.elim
theorem Row.of{cs:List AV}{c:Array Value}(h1:c.size=cs.length)(h2: ∀(q:Nat) (a:AV) (y:Value),cs[q]? =some a→c[q]? =some y→Cz E a y):Row E cs c:=⟨h1,h2⟩
theorem Js{a b:List AV}(h:b.length≤a.length):bD a 0 b=b++a.drop b.length:=by simp[bD]
theorem Jf(hL:bn P C.L)(hI:C.I=al)(h:bq E0 E w0 w s a){o:Oper}{t t':Nat}{x y:Operand}{c:Call}(he:o.op= .call c)(hc:c.callee= .builtin .copy)(cQ:c.args= #[x,y])(QW:c.argTypes= #[t,t']){K:bf}{Q:Exit→Act→World→Prop}
  (hk:Rf C t (bL s [] x) (bL s [] y) s K):lj P o a w (fC E0 w0 o a K) Q:=by
 unfold Rf at hk
 have hx:=h.ev (p:=[]) trivial x
 have hy:=h.ev (p:=[]) trivial y
 have fin: ∀x' w',(Builtin.copy_ #[t,t'] o.type #[a.eval x,a.eval y]).run P w= .ok x' w'→Out E0 w0 a K x' w'→lj P o a w (fC E0 w0 o a K) Q:=fun x' w' g1 g2=>by
  refine cP (x:=x') (w':=w') ?_ g2
  simp only[execOp,he,resolve,hc,invoke,builtin,cQ,QW]
  simp[Sem.run_bind,invoke,builtin,g1,Result.andThen]
 split at hk
 ·rename_i e ti d n r2 ys sn hxe OL
  obtain⟨hu,KR,i,i1,i2,i3,zv,i4,i5⟩:=gA hL sn
  have hy':=nZ OL hy
  rw[hxe]at hx
  generalize a.eval x=xv at hx fin
  generalize a.eval y=yv at hy' fin
  split at hk
  ·rename_i z xs e8
   obtain⟨zs,j,⟨e1,e2,e3,e4,e5⟩,hK⟩:=hk
   rw[hI]at e4 e5
   obtain⟨hl,ke,dV,hz,hm,cc,ce,hb,ho,hs,du,lV,hq⟩:=h.bx d _ e8
   have fB:=aD hz
   cases hx with
   |ia _ _ hlv hn Nq hmx=>
   rw[ke]at hn Nq hmx fin
   dsimp only at hn
   have hj:j=((min ys.length n:Nat):Int):=by
    rw[←e4];simp only[al];split<;>omega
   generalize hmm:min ys.length n=m at hj
   have hmy:m≤ys.length:=by omega
   have ajG:m≤xs.length:=by omega
   have hzs:zs=ys.take m++xs.drop m:=by rw[←e5,hj];simp[al]
   obtain⟨B,cy,QV⟩:=hy'.len
   have h2: ∀w,(underlying t).run P w= .ok (.slice e) w:=eK hu
   have h3: ∀w,(Go.sizeOf e).run P w= .ok i.size w:=fun w=>kA i1 w
   have hiz:i.size=z:=by rw[i2,e1]
   have OK: ∃ns:List Value,ns.length=m*z∧(Builtin.firstCells i.size m yv).run P w= .ok ns.toArray w∧(∀(q:Nat) (a:AV),(ys.take m).flatten[q]? =some a→cm a=true)∧
     (∀(q:Nat) (a:AV) (y:Value),(ys.take m).flatten[q]? =some a→ns[q]? =some y→Cz E a y)∧(∀v∈ns,rR v=true):=by
    by_cases OO:m=0
    ·refine⟨[],by rw[OO];simp,?_,fun q a ha=>by rw[OO]at ha;simp at ha,fun q a y ha=>by rw[OO]at ha;simp at ha,fun v hv=>by cases hv⟩
     rw[QV,OO]
     cases B<;>simp[Builtin.firstCells,loadCells,loadCellsFrom,go_sem]
    ·have hp:0<ys.length:=by omega
     obtain⟨b2,o2,c2,aoz,ns,n1,n2,n3,n4⟩:=hy'.cells h.heap hp (z:=z) (fun l hl=>by rw[e3 l hl,e1])
     have yg:=AB (E:=E) (cs:=ys.flatten) (by rw[n1,aD (z:=z) (fun l hl=>by rw[e3 l hl,e1])]) n4 (xX e2)
     have hmz:m*z≤ys.length*z:=Nat.mul_le_mul_right _ hmy
     have htf: ∀(q:Nat) (a:AV),(ys.take m).flatten[q]? =some a→ys.flatten[q]? =some a:=fun q a ha=>by
      have:ys.flatten=(ys.take m).flatten++(ys.drop m).flatten:=by rw[←List.flatten_append,List.take_append_drop]
      rw[this,List.getElem?_append_left (List.getElem?_eq_some_iff.1 ha).1];exact ha
     refine⟨ns.take (m*z),by simp;omega,?_,fun q a ha=>n3 q a (htf q a ha),fun q a y ha hy=>n4 q a y (htf q a ha) ?_,fun v hv=>by rw[tC];exact yg v (List.mem_of_mem_take hv)⟩
     ·rw[aoz,hiz]
      simp only[Builtin.firstCells,loadCells]
      have:=run_loadCells P w b2 o2 (m*z) 0 #[] (ns.take (m*z)) (by simp;omega) (fun q y hy=>by
       rw[List.getElem?_take]at hy
       split at hy
       ·have:=n2 q y hy;rw[dX,jr]at this;simpa using this
       ·cases hy)
      rw[this];simp
     ·rw[List.getElem?_take]at hy
      split at hy
      ·exact hy
      ·cases hy
   obtain⟨ns,n1,n2,n3,n4,n5⟩:=OK
   have aU:E.m (.s d)<E.h.size:=(Array.getElem?_eq_some_iff.1 hb).1
   have hxm:m*z≤xs.length*z:=Nat.mul_le_mul_right _ ajG
   obtain⟨w',g1,g2,g3⟩:=fH P (E.m (.s d)) 0 ce ns 0 w cc (by rw[h.heap];exact hb) (by omega) n5
   have hyt: ∀l∈ys.take m,l.length=z:=fun l hl=>by rw[e3 l (List.mem_of_mem_take hl),e1]
   have Vz:(ys.take m).flatten.length=m*z:=by rw[aD hyt,List.length_take,Nat.min_eq_left hmy]
   have aap:zs.length=xs.length:=by rw[hzs];simp;omega
   refine fin (.int .i64 j) w' ?_ ⟨_,_,_,hK,h.pX e8 (Ak h.wf hl (xs:=xs) (xs':=zs) (vs:=(ys.take m).flatten) (off:=0) (ys:=ns) (by rw[aap];exact ke) dV (by rw[aap];exact hm) ?_ hb ho hs ⟨by rw[du,fB],hq⟩ lV (wW n3) (by rw[fB,Vz];omega) ?_ (by rw[n1,Vz]) n4) g2 g3 ho hs,.v _⟩
   ·rw[QV]
    unfold Builtin.copy_
    simp[Sem.run_bind,h2,h3,Result.andThen,Builtin.lenOf]
    rw[show ys.length.min n=m from hmm,←QV,n2]
    simp[Sem.run_bind,Result.andThen,g1]
    rw[hj];rfl
   ·intro l hl
    rw[hzs]at hl
    rcases List.mem_append.1 hl with hl|hl
    ·exact hyt l hl
    ·exact hz l (List.mem_of_mem_drop hl)
   ·rw[Js (by rw[fB,Vz];omega),hzs,List.flatten_append,Vz]
    congr 1
    have:xs.flatten=(xs.take m).flatten++(xs.drop m).flatten:=by rw[←List.flatten_append,List.take_append_drop]
    have aU:(xs.take m).flatten.length=m*z:=by rw[aD (fun l hl=>hz l (List.mem_of_mem_take hl)),List.length_take,Nat.min_eq_left ajG]
    rw[this,←aU];simp
  ·exact hk.elim
 ·exact hk.elim
def bU(w w':World):Prop:= ∀b,b<w.heap.size→w'.heap[b]? =w.heap[b]?
theorem bU.refl(w:World):bU w w:=fun _ _=>rfl
theorem bU.get{b:Nat}{x:Obj}(h:bU w w')(hb:w.heap[b]? =some x):w'.heap[b]? =some x:=by
 rw[h b (Array.getElem?_eq_some_iff.1 hb).1];exact hb
theorem bU.trans{w1 w2 w3:World}(h:bU w1 w2)(k:bU w2 w3):bU w1 w3:=fun b hb=>by
 have h1:w1.heap[b]? =some w1.heap[b]:=Array.getElem?_eq_getElem hb
 rw[h1,k.get (h.get h1)]
structure wE(E:Env)(w:World)(g:Nat→Option Ob)(nx:Nat):Prop where
 heap:w.heap=E.h
 wf:Wf E
 nl: ∀d,¬E.live (.s d)
 gl: ∀i,E.live (.o i)↔i<nx
 own: ∀b,(E.own b).loc=false
 gk:GOk g
 gx: ∀i ob,g i=some ob→ca E (.o i) ob
 ng: ∀b,¬di (E.own b)
def km(P:Program)(f:Nat)(args:List AV)(g:Nat→Option Ob)(nx:Nat)(r:AV)(g':Nat→Option Ob)(gG:Nat):Prop:=
 bZ args=true→ ∀(E:Env) (w:World) (vs:List Value),wE E w g nx→vs.length=args.length→(∀(q:Nat) (a:AV) (y:Value),args[q]? =some a→vs[q]? =some y→Cz E a y)→
  Calls P f vs.toArray w fun e w'=> ∃x E',e= .returned x∧wE E' w' g' gG∧Ext di E E'∧iz w w'∧Cz E' r x∧cm r=true∧bU w w'
structure Tr(E E':Env):Prop where
 h:E'.h=E.h
 aN: ∀b o,E'.aN b o↔E.aN b o
 dx: ∀b,E'.dx b=E.dx b
 live: ∀i,E.live (.o i)→E'.live (.o i)∧E'.m (.o i)=E.m (.o i)∧E'.len (.o i)=E.len (.o i)
 tok: ∀b t,t.loc=false→E.own b= .tok t→E'.own b= .tok t
 key: ∀b i,E.own b= .key (.o i)→E'.own b= .key (.o i)
theorem Tr.cm(k:Tr E E'){av:AV}{x:Value}(h:Cz E av x):cm av=true→Cz E' av x:=by
 induction h with
 |any x=>exact fun _=> .any _
 |v x=>exact fun _=> .v _
 |nA r A c=>exact fun _=> .nA _ _ _
 |sl r xs z b o c u hp hc hm dV hz hr hi fY hu hq ih=>
  exact fun _=> .sl r xs z b o c u hp hc hm dV hz ((k.dx b).trans hr) hi (fun q a dh=>(k.aN _ _).2 (fY q a dh)) (fun q a dh=>by rw[k.h];exact hu q a dh) (fun q a dh=>ih q a dh (hi q a dh))
 |sX r t=>exact fun _=> .sX _ _
 |gs r t xs=>intro hi;simp[Ab.cm]at hi
 |aO r cs off b o u hr hi fY hu hq ih=>
  exact fun _=> .aO r cs off b o u (fun q a dh=>(k.dx b).trans (hr q a dh)) hi (fun q a dh=>(k.aN _ _).2 (fY q a dh)) (fun q a dh=>by rw[k.h];exact hu q a dh) (fun q a dh=>ih q a dh (hi q a dh))
 |ptr q off hl=>
  intro hi
  cases q with
  |s e=>simp[Ab.cm,Key.loc]at hi
  |o i=>obtain⟨h1,h2,_⟩:=k.live i hl;rw[←h2];exact .ptr _ _ h1
 |ia q n hl hn hc hm=>
  intro hi
  cases q with
  |s e=>simp[Ab.cm,Key.loc]at hi
  |o i=>obtain⟨h1,h2,h3⟩:=k.live i hl;rw[←h2,←h3];exact .ia _ _ h1 (by rw[h3];exact hn) (by rw[h3];exact hc) (by rw[h3];exact hm)
 |cG q i off z hl=>
  intro hi
  cases q with
  |s e=>simp[Ab.cm,Key.loc]at hi
  |o i=>obtain⟨h1,h2,_⟩:=k.live i hl;rw[←h2];exact .cG _ _ _ _ h1
 |mp q hl=>
  intro hi
  cases q with
  |s e=>simp[Ab.cm,Key.loc]at hi
  |o i=>obtain⟨h1,h2,_⟩:=k.live i hl;rw[←h2];exact .mp _ h1
 |pV q hl=>
  intro hi
  cases q with
  |s e=>simp[Ab.cm,Key.loc]at hi
  |o i=>obtain⟨h1,h2,_⟩:=k.live i hl;rw[←h2];exact .pV _ h1
 |ar n z xs ys hn hz hl hi hq ih=>exact fun _=> .ar n z xs ys hn hz hl hi fun q a y ha hy=>ih q a y ha hy (hi q a ha)
 |bm f cs ys hl hi hq ih=>exact fun _=> .bm f cs ys hl hi fun q a y ha hy=>ih q a y ha hy (hi q a ha)
 |nc r z xs x hz h ih=>exact fun _=> .nc r z xs x hz (ih rfl)
 |fn f cap ys hl hq ih=>intro hi;exact .fn f cap ys hl fun q a y ha hy=>ih q a y ha hy (bj (by simpa[Ab.cm]using hi) q a ha)
 |agg cs ys hl hq ih=>intro hi;exact .agg cs ys hl fun q a y ha hy=>ih q a y ha hy (bj (by simpa[Ab.cm]using hi) q a ha)
 |fT cs ys hl hq ih=>intro hi;exact .fT cs ys hl fun q a y ha hy=>ih q a y ha hy (bj (by simpa[Ab.cm]using hi) q a ha)
theorem Tr.gs(k:Tr E E'){r:Nat}{t:Tok}{xs:List (List AV)}{x:Value}(ht:t.loc=false)(h:Cz E (.gs r t xs) x):Cz E' (.gs r t xs) x:=by
 cases h with
 |sX=>exact .sX _ _
 |gs _ _ _ z b c e cells u hc hm h0 dV hz hr hb du ho fY hi hu hq=>
  exact .gs r t xs z b c e cells u hc hm h0 dV hz ((k.dx b).trans hr) (by rw[k.h];exact hb) du (k.tok b t ht ho) (fun o=>(k.aN b o).trans (fY o)) hi (fun q a dh=>by rw[k.h];exact hu q a dh) (fun q a dh=>k.cm (hq q a dh) (hi q a dh))
theorem Tr.ob(k:Tr E E'){i:Nat}{ob:Ob}(hg:match ob with
   | .box cs=> ∀(q:Nat) (a:AV),cs[q]? =some a→Ab.cm a=true
   | .arr _ _=>True
   | .ow .. =>False
   | .lp .. =>False)(h:ca E (.o i) ob):ca E' (.o i) ob:=by
 cases ob with
 |box cs=>
  obtain⟨hl,c,e,hb,ho,hs,du,hq⟩:=h
  obtain⟨l1,l2,l3⟩:=k.live i hl
  refine⟨l1,c,e,by rw[l2,k.h];exact hb,by rw[l2];exact k.key _ i ho,fun o hh=>hs o ((k.aN _ _).1 (by rw[l2]at hh;exact hh)),du,fun q a x ha hx=>?_⟩
  exact k.cm (hq q a x ha hx) (hg q a ha)
 |arr z xs=>
  obtain⟨hl,ke,dV,hz,hm,c,e,hb,ho,hs,du,hi,hq⟩:=h
  obtain⟨l1,l2,l3⟩:=k.live i hl
  exact⟨l1,l3.trans ke,dV,hz,hm,c,e,by rw[l2,k.h];exact hb,by rw[l2];exact k.key _ i ho,fun o hh=>hs o ((k.aN _ _).1 (by rw[l2]at hh;exact hh)),du,hi,fun q a x ha hx=>k.cm (hq q a x ha hx) (hi q a ha)⟩
 |ow=>exact hg.elim
 |lp=>exact hg.elim
def Env.mask(E:Env):Env:=
 {E with live:=fun k=>k.loc=false∧E.live k,own:=fun b=>if(E.own b).loc then .jF else E.own b}
theorem zj(E:Env):Tr E E.mask:=
 ⟨rfl,fun _ _=>Iff.rfl,fun _=>rfl,fun i h=>⟨⟨rfl,h⟩,rfl,rfl⟩,
  fun b t ht ho=>by simp only[Env.mask];rw[ho];simp[Own.loc,ht],fun b i ho=>by simp only[Env.mask];rw[ho];simp[Own.loc,Key.loc]⟩
theorem bq.mask(h:bq E0 E w0 w s a):wE E.mask w s.g s.nx where
 heap:=h.heap
 wf:=⟨h.wf.aN,fun b hb=>h.wf.own b (fun e=>hb (by simp only[Env.mask];rw[e];simp[Own.loc])),h.wf.fz⟩
 nl:=fun d hd=>by have:=hd.1;simp[Key.loc]at this
 gl:=fun i=>⟨fun hh=>(h.gl i).1 hh.2,fun hh=>⟨rfl,(h.gl i).2 hh⟩⟩
 own:=fun b=>by
  simp only[Env.mask]
  split
  ·rfl
  ·rename_i hh;simpa using hh
 gk:=h.gk
 gx:=fun i ob hi=>(zj E).ob (h.gk i ob hi) (h.gx i ob hi)
 ng:=fun b=>by
  have:=h.ng b
  simp only[Env.mask]
  split
  ·simp[di,Own.di]
  ·exact this
def Env.back(E E':Env):Env:=
 {E' with
  m:=fun k=>if k.loc then E.m k else E'.m k
  len:=fun k=>if k.loc then E.len k else E'.len k
  live:=fun k=>if k.loc then E.live k else E'.live k
  own:=fun b=>if b<E.h.size∧(E.own b).loc=true then E.own b else E'.own b}
theorem C4{g':Nat→Option Ob}{gG:Nat}(hE:Ext di E.mask E')(hG:wE E' w' g' gG):Tr E' (E.back E'):=by
 have key: ∀b,b<E.h.size→(E.own b).loc=true→E'.own b= .jF:=fun b hb ho=>by
  have:=(hE.bp b hb (by simp only[Env.mask];rw[if_pos ho];simp[di,Own.di])).1
  rw[this];simp only[Env.mask];rw[if_pos ho]
 refine⟨rfl,fun _ _=>Iff.rfl,fun _=>rfl,fun i hi=>⟨by simpa[Env.back,Key.loc]using hi,by simp[Env.back,Key.loc],by simp[Env.back,Key.loc]⟩,fun b t ht ho=>?_,fun b i ho=>?_⟩
 ·simp only[Env.back]
  by_cases hh:b<E.h.size∧(E.own b).loc=true
  ·rw[key b hh.1 hh.2]at ho;cases ho
  ·rw[if_neg hh];exact ho
 ·simp only[Env.back]
  by_cases hh:b<E.h.size∧(E.own b).loc=true
  ·rw[key b hh.1 hh.2]at ho;cases ho
  ·rw[if_neg hh];exact ho
theorem bq.call(h:bq E0 E w0 w s a){g':Nat→Option Ob}{gG:Nat}(hE:Ext di E.mask E')(hG:wE E' w' g' gG)(hs:iz w w'):
  bq E0 (E.back E') w0 w' {s with t:=fG lT s.t,b:=eN lT s.b,g:=g',nx:=gG,up:=mg lT s.up} a:=by
 have Lv:=C4 hE hG
 have Qm:Ext di E (E.back E'):=by
  refine⟨hE.size,fun b o hh=>hE.aN b o hh,fun k hk=>?_,fun b hb hn=>?_⟩
  ·cases k with
   |s d=>exact⟨by simpa[Env.back,Key.loc]using hk,by simp[Env.back,Key.loc],by simp[Env.back,Key.loc]⟩
   |o i=>
    obtain⟨k1,k2,k3⟩:=hE.live (.o i) ⟨rfl,hk⟩
    exact⟨by simpa[Env.back,Key.loc]using k1,by simp only[Env.back,Key.loc];exact k2,by simp only[Env.back,Key.loc];exact k3⟩
  ·have hm: ¬di (E.mask.own b):=by
    simp only[Env.mask]
    split
    ·simp[di,Own.di]
    ·exact hn
   obtain⟨k1,k2,k3,k4⟩:=hE.bp b hb hm
   refine⟨?_,k2,k3,k4⟩
   simp only[Env.back]
   by_cases hh:(E.own b).loc=true
   ·rw[if_pos ⟨hb,hh⟩]
   ·rw[if_neg (fun h2=>hh h2.2),k1];simp only[Env.mask];rw[if_neg hh]
 refine h.xW (T:=lT) Qm (fun t ht=>absurd ht (jg t)) (fun o ho=> .inr ho) ⟨hG.wf.aN,fun b hb=>?_,hG.wf.fz⟩ hG.heap hs (fun b hb hg=>?_) _ g' gG (fun d ob hd=>?_) (fun d hl=>?_) (fun i ob hi=> .inr (Lv.ob (hG.gk i ob hi) (hG.gx i ob hi))) (fun i=>?_) hG.gk (fun b=>by
  have h1:=h.ng b
  have h2:=hG.ng b
  simp only[Env.back]
  split
  ·exact h1
  ·exact h2)
 ·simp only[Env.back]at hb
  by_cases hh:b<E.h.size∧(E.own b).loc=true
  ·exact Nat.lt_of_lt_of_le hh.1 hE.size
  ·rw[if_neg hh]at hb;exact hG.wf.own b hb
 ·have zx: ¬(E.own b).loc=true:=fun hh=>by have:=h.xz b hb;rw[this]at hh;cases hh
  simp only[Env.back];rw[if_neg (fun h2=>zx h2.2)];exact hG.own b
 ·rw[cw]at hd
  cases hh:look d s.b with
  |none=>rw[hh]at hd;simp at hd
  |some z=>rw[hh]at hd;simp at hd;exact .inl ⟨z,rfl,hd.symm,(fun hf=>by simp[di,Own.di,Key.loc]at hf),jg _⟩
 ·have tz:E.live (.s d):=by simpa[Env.back,Key.loc]using hl
  obtain⟨ob,ho⟩:=h.lv d tz
  exact⟨_,by rw[cw,ho];rfl⟩
 ·rw[←hG.gl i];simp[Env.back,Key.loc]
theorem HD{f:Nat}{fn:Func}{c:Code}(hf:P.funcs[f]? =some fn)(hb:fn.body=some c)(hn:fn.name≠ "runtime.NumGoroutine")(args:Array Value)(w:World):(callFunc f args).run P w= .ok (.enter f args) w:=by
 unfold callFunc
 simp[Sem.run_bind,program,Sem.run,Result.andThen,hf,hb,hn]
def nP(P:Program)(f:Nat):Prop:= ∀args w,(callFunc f args).run P w= .ok (.enter f args) w
def QE(P:Program)(yl:YH):Prop:=
 ∀{d:Nat} {args:List AV} {s:St} {K:bf} {E0 E:Env} {w0 w:World} {a:Act} {vs:List Value},yl d args s K→bq E0 E w0 w s a→vs.length=args.length→(∀(q:Nat) (b:AV) (y:Value),args[q]? =some b→vs[q]? =some y→Cz E b y)→
  YieldAt Fence.wide 0 P (E.m (.s d)) vs.toArray w fun e w'=> ∃x,e= .returned x∧ ∃r s' E',K r s'∧bq E0 E' w0 w' s' a∧Cz E' r x
def zY(P:Program)(C:dj):Prop:=
 ∀yl:YH,QE P yl→ ∀{k:Nat} {args:List AV} {s:St} {K:bf} {E0 E:Env} {w0 w:World} {a:Act} {vs:List Value},C.inl yl k args s K→bq E0 E w0 w s a→vs.length=args.length→(∀(q:Nat) (b:AV) (y:Value),args[q]? =some b→vs[q]? =some y→Cz E b y)→
  nP P k∧Calls P k vs.toArray w fun e w'=> ∃x,e= .returned x∧ ∃r s' E',K r s'∧bq E0 E' w0 w' s' a∧Cz E' r x
def yz(P:Program)(C:dj):Prop:= ∀ρ f args g nx r g' gG,C.call ρ f args g nx r g' gG→nP P f∧km P f args g nx r g' gG
 mutual
def rZ:AV→Nat
  | .sl r xs=>max r (qu xs)
  | .gs r _ xs=>max r (qu xs)
  | .aO r cs _=>max r (od cs)
  | .ar _ _ xs=>qu xs
  | .fn _ cs=>od cs
  | .bm _ cs=>od cs
  | .nc r _ xs=>max r (qu xs)
  | .agg cs=>od cs
  | .fT cs=>od cs
  |_=>0
def od:List AV→Nat
  |[]=>0
  |a::r=>max (rZ a) (od r)
def qu:List (List AV)→Nat
  |[]=>0
  |l::r=>max (od l) (qu r)
end
theorem lJ: ∀{cs:List AV} {q:Nat} {a:AV},cs[q]? =some a→rZ a≤od cs
 |[],q,a,h=>by simp at h
 |x::r,q,a,h=>by
  simp only[od]
  cases q with
  |zero=>simp at h;subst h;omega
  |succ q=>have:=lJ (cs:=r) (q:=q) (a:=a) (by simpa using h);omega
theorem qt: ∀{xs:List (List AV)} {q:Nat} {a:AV},xs.flatten[q]? =some a→rZ a≤qu xs
 |[],q,a,h=>by simp at h
 |l::r,q,a,h=>by
  simp only[qu]
  rw[List.flatten_cons]at h
  by_cases aU:q<l.length
  ·rw[List.getElem?_append_left aU]at h;have:=lJ h;omega
  ·rw[List.getElem?_append_right (by omega)]at h;have:=qt h;omega
theorem Gq: ∀l m:List AV,od (l++m)=max (od l) (od m)
 |[],m=>by simp[od]
 |a::r,m=>by simp only[List.cons_append,od,Gq r m];omega
theorem D2: ∀xs:List (List AV),od xs.flatten≤qu xs
 |[]=>by simp[od,qu]
 |l::r=>by simp only[List.flatten_cons,Gq,qu];have:=D2 r;omega
def Kl:Ob→Nat
 | .box cs=>od cs
 | .arr _ xs=>qu xs
 | .ow .. =>0
 | .lp .. =>0
structure TrG(ρ:Nat)(E E':Env):Prop where
 h:E'.h=E.h
 st: ∀b o,E.aN b o→E.dx b<ρ→E'.aN b o∧E'.dx b=E.dx b
 live: ∀i,E.live (.o i)→E'.live (.o i)∧E'.m (.o i)=E.m (.o i)∧E'.len (.o i)=E.len (.o i)
 tok: ∀b t,t.loc=false→E.own b= .tok t→E.dx b<ρ→E'.own b= .tok t∧E'.dx b=E.dx b∧ ∀o,E'.aN b o→E.aN b o
 key: ∀b i,E.own b= .key (.o i)→E'.own b= .key (.o i)∧ ∀o,E'.aN b o→E.aN b o
theorem TrG.cm{ρ:Nat}(k:TrG ρ E E'){av:AV}{x:Value}(h:Cz E av x):cm av=true→rZ av<ρ→Cz E' av x:=by
 induction h with
 |any x=>exact fun _ _=> .any _
 |v x=>exact fun _ _=> .v _
 |nA r A c=>exact fun _ _=> .nA _ _ _
 |sl r xs z b o c u hp hc hm dV hz hr hi fY hu hq ih=>
  intro _ Ed
  simp only[rZ]at Ed
  have hf:=aD hz
  obtain⟨a0,Yb⟩:=qq (l:=xs.flatten) (by rw[hf];exact Nat.mul_pos hp dV)
  have hrg:E.dx b<ρ:=by rw[hr];omega
  exact .sl r xs z b o c u hp hc hm dV hz ((k.st _ _ (fY 0 a0 Yb) hrg).2.trans hr) hi (fun q a dh=>(k.st _ _ (fY q a dh) hrg).1) (fun q a dh=>by rw[k.h];exact hu q a dh) (fun q a dh=>ih q a dh (hi q a dh) (by have:=qt dh;omega))
 |sX r t=>exact fun _ _=> .sX _ _
 |gs r t xs=>intro hi;simp[Ab.cm]at hi
 |aO r cs off b o u hr hi fY hu hq ih=>
  intro _ Ed
  simp only[rZ]at Ed
  exact .aO r cs off b o u (fun q a dh=>(k.st _ _ (fY q a dh) (by rw[hr q a dh];omega)).2.trans (hr q a dh)) hi (fun q a dh=>(k.st _ _ (fY q a dh) (by rw[hr q a dh];omega)).1) (fun q a dh=>by rw[k.h];exact hu q a dh) (fun q a dh=>ih q a dh (hi q a dh) (by have:=lJ dh;omega))
 |ptr q off hl=>
  intro hi
  cases q with
  |s e=>simp[Ab.cm,Key.loc]at hi
  |o i=>obtain⟨h1,h2,_⟩:=k.live i hl;rw[←h2];exact fun _=> .ptr _ _ h1
 |ia q n hl hn hc hm=>
  intro hi
  cases q with
  |s e=>simp[Ab.cm,Key.loc]at hi
  |o i=>obtain⟨h1,h2,h3⟩:=k.live i hl;rw[←h2,←h3];exact fun _=> .ia _ _ h1 (by rw[h3];exact hn) (by rw[h3];exact hc) (by rw[h3];exact hm)
 |cG q i off z hl=>
  intro hi
  cases q with
  |s e=>simp[Ab.cm,Key.loc]at hi
  |o i=>obtain⟨h1,h2,_⟩:=k.live i hl;rw[←h2];exact fun _=> .cG _ _ _ _ h1
 |mp q hl=>
  intro hi
  cases q with
  |s e=>simp[Ab.cm,Key.loc]at hi
  |o i=>obtain⟨h1,h2,_⟩:=k.live i hl;rw[←h2];exact fun _=> .mp _ h1
 |pV q hl=>
  intro hi
  cases q with
  |s e=>simp[Ab.cm,Key.loc]at hi
  |o i=>obtain⟨h1,h2,_⟩:=k.live i hl;rw[←h2];exact fun _=> .pV _ h1
 |ar n z xs ys hn hz hl hi hq ih=>intro _ Ed;simp only[rZ]at Ed;exact .ar n z xs ys hn hz hl hi fun q a y ha hy=>ih q a y ha hy (hi q a ha) (by have:=qt ha;omega)
 |bm f cs ys hl hi hq ih=>intro _ Ed;simp only[rZ]at Ed;exact .bm f cs ys hl hi fun q a y ha hy=>ih q a y ha hy (hi q a ha) (by have:=lJ ha;omega)
 |nc r z xs x hz h ih=>
  intro _ Ed
  simp only[rZ]at Ed
  exact .nc r z xs x hz (ih rfl (by simp only[rZ];have:=D2 xs;omega))
 |fn f cap ys hl hq ih=>intro hi Ed;simp only[rZ]at Ed;exact .fn f cap ys hl fun q a y ha hy=>ih q a y ha hy (bj (by simpa[Ab.cm]using hi) q a ha) (by have:=lJ ha;omega)
 |agg cs ys hl hq ih=>intro hi Ed;simp only[rZ]at Ed;exact .agg cs ys hl fun q a y ha hy=>ih q a y ha hy (bj (by simpa[Ab.cm]using hi) q a ha) (by have:=lJ ha;omega)
 |fT cs ys hl hq ih=>intro hi Ed;simp only[rZ]at Ed;exact .fT cs ys hl fun q a y ha hy=>ih q a y ha hy (bj (by simpa[Ab.cm]using hi) q a ha) (by have:=lJ ha;omega)
theorem TrG.gs{ρ:Nat}(k:TrG ρ E E'){r:Nat}{t:Tok}{xs:List (List AV)}{x:Value}(ht:t.loc=false)(h:Cz E (.gs r t xs) x)(Ed:rZ (.gs r t xs)<ρ):Cz E' (.gs r t xs) x:=by
 simp only[rZ]at Ed
 cases h with
 |sX=>exact .sX _ _
 |gs _ _ _ z b c e cells u hc hm h0 dV hz hr hb du ho fY hi hu hq=>
  have hrg:E.dx b<ρ:=by rw[hr];omega
  obtain⟨k1,k2,k3⟩:=k.tok b t ht ho hrg
  exact .gs r t xs z b c e cells u hc hm h0 dV hz (k2.trans hr) (by rw[k.h];exact hb) du k1 (fun o=>⟨fun hh=>(fY o).1 (k3 o hh),fun hh=>(k.st b o ((fY o).2 hh) hrg).1⟩) hi (fun q a dh=>by rw[k.h];exact hu q a dh) (fun q a dh=>k.cm (hq q a dh) (hi q a dh) (by have:=qt dh;omega))
theorem TrG.ob{ρ:Nat}(k:TrG ρ E E'){i:Nat}{ob:Ob}(hg:match ob with
   | .box cs=> ∀(q:Nat) (a:AV),cs[q]? =some a→Ab.cm a=true
   | .arr _ _=>True
   | .ow .. =>False
   | .lp .. =>False)(h:ca E (.o i) ob)(Ed:Kl ob<ρ):ca E' (.o i) ob:=by
 cases ob with
 |box cs=>
  obtain⟨hl,c,e,hb,ho,hs,du,hq⟩:=h
  obtain⟨l1,l2,l3⟩:=k.live i hl
  obtain⟨k1,k2⟩:=k.key _ i ho
  simp only[Kl]at Ed
  refine⟨l1,c,e,by rw[l2,k.h];exact hb,by rw[l2];exact k1,fun o hh=>hs o (k2 o (by rw[l2]at hh;exact hh)),du,fun q a x ha hx=>?_⟩
  have:=lJ ha
  exact k.cm (hq q a x ha hx) (hg q a ha) (by omega)
 |arr z xs=>
  obtain⟨hl,ke,dV,hz,hm,c,e,hb,ho,hs,du,hi,hq⟩:=h
  obtain⟨l1,l2,l3⟩:=k.live i hl
  obtain⟨k1,k2⟩:=k.key _ i ho
  simp only[Kl]at Ed
  exact⟨l1,l3.trans ke,dV,hz,hm,c,e,by rw[l2,k.h];exact hb,by rw[l2];exact k1,fun o hh=>hs o (k2 o (by rw[l2]at hh;exact hh)),du,hi,fun q a x ha hx=>k.cm (hq q a x ha hx) (hi q a ha) (by have:=qt ha;omega)⟩
 |ow=>exact hg.elim
 |lp=>exact hg.elim
def fp(E:Env)(s:St)(b:Nat):Prop:= ∃d ob,look d s.b=some ob∧b=E.m (.s d)∧ ∃c e,E.h[b]? =some (.cells c e (0,0))
open Classical in
noncomputable def Env.lS(E:Env)(B:Nat→Prop)(ρ:Nat):Env:=
 {E.mask with aN:=fun b o=>E.aN b o∨(B b∧b<E.h.size),dx:=fun b=>if B b then ρ else E.dx b}
open Classical in
noncomputable def Env.ny(E E':Env)(B:Nat→Prop):Env:=
 {E.back E' with aN:=fun b o=>E'.aN b o∧ ¬B b,dx:=fun b=>if B b then E.dx b else E'.dx b}
theorem kK(h:bq E0 E w0 w s a){b:Nat}(hb:fp E s b):b<E.h.size∧(∃d,E.own b= .key (.s d))∧ ∀o,¬E.aN b o:=by
 obtain⟨d,ob,hd,rfl,_⟩:=hb
 have h1:=h.bx d ob hd
 cases ob with
 |box cs=>obtain⟨hl,c,e,eI,ho,hs,_⟩:=h1;exact⟨(Array.getElem?_eq_some_iff.1 eI).1,⟨d,ho⟩,hs⟩
 |arr z xs=>obtain⟨hl,_,_,_,_,c,e,eI,ho,hs,_⟩:=h1;exact⟨(Array.getElem?_eq_some_iff.1 eI).1,⟨d,ho⟩,hs⟩
 |ow=>obtain⟨hl,ho,hs,_⟩:=h1;exact⟨h.wf.own _ (by rw[ho];simp),⟨d,ho⟩,hs⟩
 |lp=>obtain⟨hl,ho,hs,rec,eI,_⟩:=h1;exact⟨(Array.getElem?_eq_some_iff.1 eI).1,⟨d,ho⟩,hs⟩
theorem zm(h:bq E0 E w0 w s a)(ρ ρ':Nat):TrG ρ' E (E.lS (fp E s) ρ) where
 h:=rfl
 st:=fun b o hs _=>⟨.inl hs,by
  simp only[Env.lS]
  rw[if_neg fun hB=>(kK h hB).2.2 o hs]⟩
 live:=fun i hi=>⟨⟨rfl,hi⟩,rfl,rfl⟩
 tok:=fun b t ht ho _=>by
  have VD: ¬fp E s b:=fun hB=>by obtain⟨d,hd⟩:=(kK h hB).2.1;rw[hd]at ho;cases ho
  refine⟨by simp only[Env.lS,Env.mask];rw[ho];simp[Own.loc,ht],by simp only[Env.lS];rw[if_neg VD],fun o hh=>?_⟩
  rcases hh with hh|hh
  ·exact hh
  ·exact absurd hh.1 VD
 key:=fun b i ho=>by
  have VD: ¬fp E s b:=fun hB=>by obtain⟨d,hd⟩:=(kK h hB).2.1;rw[hd]at ho;cases ho
  refine⟨by simp only[Env.lS,Env.mask];rw[ho];simp[Own.loc,Key.loc],fun o hh=>?_⟩
  rcases hh with hh|hh
  ·exact hh
  ·exact absurd hh.1 VD
theorem bq.lS(h:bq E0 E w0 w s a)(ρ:Nat):wE (E.lS (fp E s) ρ) w s.g s.nx where
 heap:=h.heap
 wf:=⟨fun b o hs=>hs.elim (h.wf.aN b o) fun hs=>hs.2,h.mask.wf.own,fun b o hs hr=>by
  rcases hs with hs|hs
  ·have VD: ¬fp E s b:=fun hB=>(kK h hB).2.2 o hs
   simp only[Env.lS]at hr
   rw[if_neg VD]at hr
   exact h.wf.fz b o hs hr
  ·obtain⟨⟨d,ob,_,_,hc⟩,_⟩:=hs
   exact hc⟩
 nl:=h.mask.nl
 gl:=h.mask.gl
 own:=h.mask.own
 gk:=h.gk
 ng:=h.mask.ng
 gx:=fun i ob hi=>(zm h ρ (Kl ob+1)).ob (h.gk i ob hi) (h.gx i ob hi) (Nat.lt_succ_self _)
theorem N6(h:bq E0 E w0 w s a){ρ:Nat}{g':Nat→Option Ob}{gG:Nat}(hE:Ext di (E.lS (fp E s) ρ) E')(hG:wE E' w' g' gG):TrG ρ E' (E.ny E' (fp E s)):=by
 have key: ∀b,b<E.h.size→(E.own b).loc=true→E'.own b= .jF∧E'.dx b=(E.lS (fp E s) ρ).dx b:=fun b hb ho=>by
  have hm:(E.lS (fp E s) ρ).own b= .jF:=by simp only[Env.lS,Env.mask];rw[if_pos ho]
  have:=hE.bp b hb (by rw[hm];simp[di,Own.di])
  exact⟨this.1.trans hm,this.2.2.2⟩
 have pz: ∀b,fp E s b→E'.own b= .jF∧E'.dx b=ρ:=fun b hB=>by
  obtain⟨h1,⟨d,h2⟩,_⟩:=kK h hB
  obtain⟨h3,h4⟩:=key b h1 (by rw[h2];rfl)
  exact⟨h3,h4.trans (by simp only[Env.lS];rw[if_pos hB])⟩
 have Fx: ∀b,E'.dx b<ρ→ ¬fp E s b:=fun b hr hB=>by rw[(pz b hB).2]at hr;omega
 refine⟨rfl,fun b o hs hr=>⟨⟨hs,Fx b hr⟩,by simp only[Env.ny];rw[if_neg (Fx b hr)]⟩,fun i hi=>⟨by simpa[Env.ny,Env.back,Key.loc]using hi,by simp[Env.ny,Env.back,Key.loc],by simp[Env.ny,Env.back,Key.loc]⟩,fun b t ht ho hr=>⟨?_,by simp only[Env.ny];rw[if_neg (Fx b hr)],fun o hh=>hh.1⟩,fun b i ho=>⟨?_,fun o hh=>hh.1⟩⟩
 ·simp only[Env.ny,Env.back]
  by_cases hh:b<E.h.size∧(E.own b).loc=true
  ·rw[(key b hh.1 hh.2).1]at ho;cases ho
  ·rw[if_neg hh];exact ho
 ·simp only[Env.ny,Env.back]
  by_cases hh:b<E.h.size∧(E.own b).loc=true
  ·rw[(key b hh.1 hh.2).1]at ho;cases ho
  ·rw[if_neg hh];exact ho
theorem bq.ny(h:bq E0 E w0 w s a){ρ:Nat}{g':Nat→Option Ob}{gG:Nat}(hE:Ext di (E.lS (fp E s) ρ) E')(hG:wE E' w' g' gG)(hs:iz w w')(hρ: ∀i ob,g' i=some ob→Kl ob<ρ):
  bq E0 (E.ny E' (fp E s)) w0 w' {s with t:=fG lT s.t,b:=eN lT s.b,g:=g',nx:=gG,up:=mg lT s.up} a:=by
 have Lv:=N6 h hE hG
 have Qm:Ext di E (E.ny E' (fp E s)):=by
  refine⟨hE.size,fun b o hh=>?_,fun k hk=>?_,fun b hb hn=>?_⟩
  ·have VD: ¬fp E s b:=fun hB=>(kK h hB).2.2 o hh
   obtain⟨k1,k2,k3⟩:=hE.aN b o (.inl hh)
   refine⟨⟨k1,VD⟩,k2,?_⟩
   simp only[Env.ny];rw[if_neg VD]
   exact k3.trans (by simp only[Env.lS];rw[if_neg VD])
  ·cases k with
   |s d=>exact⟨by simpa[Env.ny,Env.back,Key.loc]using hk,by simp[Env.ny,Env.back,Key.loc],by simp[Env.ny,Env.back,Key.loc]⟩
   |o i=>
    obtain⟨k1,k2,k3⟩:=hE.live (.o i) ⟨rfl,hk⟩
    exact⟨by simpa[Env.ny,Env.back,Key.loc]using k1,by simp only[Env.ny,Env.back,Key.loc];exact k2,by simp only[Env.ny,Env.back,Key.loc];exact k3⟩
  ·have hm: ¬di ((E.lS (fp E s) ρ).own b):=by
    simp only[Env.lS,Env.mask]
    split
    ·simp[di,Own.di]
    ·exact hn
   obtain⟨k1,k2,k3,k4⟩:=hE.bp b hb hm
   refine⟨?_,k2,fun o=>?_,?_⟩
   ·simp only[Env.ny,Env.back]
    by_cases hh:(E.own b).loc=true
    ·rw[if_pos ⟨hb,hh⟩]
    ·rw[if_neg (fun h2=>hh h2.2),k1];simp only[Env.lS,Env.mask];rw[if_neg hh]
   ·by_cases hB:fp E s b
    ·exact⟨fun hh=>absurd hB hh.2,fun hh=>absurd hh ((kK h hB).2.2 o)⟩
    ·refine⟨fun hh=>?_,fun hh=>⟨(k3 o).2 (.inl hh),hB⟩⟩
     rcases(k3 o).1 hh.1 with h2|h2
     ·exact h2
     ·exact absurd h2.1 hB
   ·simp only[Env.ny]
    by_cases hB:fp E s b
    ·rw[if_pos hB]
    ·rw[if_neg hB];exact k4.trans (by simp only[Env.lS];rw[if_neg hB])
 refine h.xW (T:=lT) Qm (fun t ht=>absurd ht (jg t)) (fun o ho=> .inr ho) ⟨fun b o hh=>hG.wf.aN b o hh.1,fun b hb=>?_,fun b o hh hr=>hG.wf.fz b o hh.1 (by simp only[Env.ny]at hr;rwa [if_neg hh.2]at hr)⟩ hG.heap hs (fun b hb hg=>?_) _ g' gG (fun d ob hd=>?_) (fun d hl=>?_) (fun i ob hi=> .inr (Lv.ob (hG.gk i ob hi) (hG.gx i ob hi) (hρ i ob hi))) (fun i=>?_) hG.gk (fun b=>by
  have h1:=h.ng b
  have h2:=hG.ng b
  simp only[Env.ny,Env.back]
  split
  ·exact h1
  ·exact h2)
 ·simp only[Env.ny,Env.back]at hb
  by_cases hh:b<E.h.size∧(E.own b).loc=true
  ·exact Nat.lt_of_lt_of_le hh.1 hE.size
  ·rw[if_neg hh]at hb;exact hG.wf.own b hb
 ·have zx: ¬(E.own b).loc=true:=fun hh=>by have:=h.xz b hb;rw[this]at hh;cases hh
  simp only[Env.ny,Env.back];rw[if_neg (fun h2=>zx h2.2)];exact hG.own b
 ·rw[cw]at hd
  cases hh:look d s.b with
  |none=>rw[hh]at hd;simp at hd
  |some z=>rw[hh]at hd;simp at hd;exact .inl ⟨z,rfl,hd.symm,(fun hf=>by simp[di,Own.di,Key.loc]at hf),jg _⟩
 ·have tz:E.live (.s d):=by simpa[Env.ny,Env.back,Key.loc]using hl
  obtain⟨ob,ho⟩:=h.lv d tz
  exact⟨_,by rw[cw,ho];rfl⟩
 ·rw[←hG.gl i];simp[Env.ny,Env.back,Key.loc]
theorem O8{g':Nat→Option Ob}: ∀n:Nat,∃N,∀i ob,i<n→g' i=some ob→Kl ob<N
 |0=>⟨0,fun i ob hi=>by omega⟩
 |n+1=>by
  obtain⟨N,hN⟩:=O8 (g':=g') n
  cases hg:g' n with
  |none=>exact⟨N,fun i ob hi KN=>by
    by_cases h:i=n
    ·subst h;rw[hg]at KN;cases KN
    ·exact hN i ob (by omega) KN⟩
  |some o=>exact⟨N+Kl o+1,fun i ob hi KN=>by
    by_cases h:i=n
    ·subst h;rw[hg]at KN;cases KN;omega
    ·have:=hN i ob (by omega) KN;omega⟩
theorem Ht(h:bq E0 E w0 w s a)(ρ:Nat){av:AV}{x:Value}(hx:Cz E av x)(hi:Ab.cm (snap ρ s.b av)=true):Cz (E.lS (fp E s) ρ) (snap ρ s.b av) x:=by
 have plain: ∀{av:AV},Ab.cm av=true→Cz E av x→Cz (E.lS (fp E s) ρ) av x:=fun{av} hi hx=>(zm h ρ (rZ av+1)).cm hx hi (Nat.lt_succ_self _)
 unfold snap at hi ⊢
 split at hi
 ·rename_i d n
  cases hl:look d s.b with
  |none=>rw[hl]at hi;simp[Ab.cm,Key.loc]at hi
  |some ob=>cases ob with
   |box cs=>rw[hl]at hi;simp[Ab.cm,Key.loc]at hi
   |ow=>rw[hl]at hi;simp[Ab.cm,Key.loc]at hi
   |lp=>rw[hl]at hi;simp[Ab.cm,Key.loc]at hi
   |arr z xs=>
    obtain⟨_,ke,dV,hz,hm,c,e,eI,ho,hs,du,lV,hq⟩:=h.bx d _ hl
    cases hx
    rename_i hlv I4 hn2 hn3
    rw[ke]at I4 hn2 hn3
    dsimp only at I4 hn2 hn3
    rw[ke]
    dsimp only
    have pz:fp E s (E.m (.s d)):=⟨d,_,hl,rfl,c,e,eI⟩
    have hbs:=(kK h pz).1
    have zx:(xs.take n).length=n:=by rw[List.length_take];omega
    by_cases hn0:n=0
    ·subst hn0;exact .nA _ _ _
    ·have OP: ∀(q:Nat) (b:AV),(xs.take n).flatten[q]? =some b→xs.flatten[q]? =some b:=fun q b qR=>by
      have:=List.take_append_drop n xs
      rw[←this,List.flatten_append,List.getElem?_append_left (List.getElem?_eq_some_iff.1 qR).1]
      exact qR
     have sU: ∀(q:Nat) (b:AV),xs.flatten[q]? =some b→ ∃y,c[q]? =some y∧Cz E b y:=fun q b qR=>by
      have aU:q<c.size:=by rw[du,←aD hz];exact(List.getElem?_eq_some_iff.1 qR).1
      exact⟨c[q],by simp[aU],hq q b _ qR (by simp[aU])⟩
     have:=Cz.sl (E:=E.lS (fp E s) ρ) ρ (xs.take n) z (E.m (.s d)) 0 xs.length (fun q=>c.getD q undef) (by rw[zx];omega) (by rw[zx];omega) hm dV (fun l tz=>hz l (List.mem_of_mem_take tz)) (by simp only[Env.lS];rw[if_pos pz])
      (fun q b qR=>lV q b (OP q b qR)) (fun q b qR=> .inr ⟨pz,hbs⟩) (fun q b qR=>by
       obtain⟨y,h1,h2⟩:=sU q b (OP q b qR)
       show aR E.h _ _=_
       simp only[aR,eI,Nat.zero_add]
       simp[Array.getD_eq_getD_getElem?,h1])
      (fun q b qR=>by
       obtain⟨y,h1,h2⟩:=sU q b (OP q b qR)
       have e:c.getD q undef=y:=by simp[Array.getD_eq_getD_getElem?,h1]
       rw[e]
       exact(zm h ρ (rZ b+1)).cm h2 (lV q b (OP q b qR)) (Nat.lt_succ_self _))
     rw[zx]at this
     exact this
 ·rename_i d off
  cases hl:look d s.b with
  |none=>rw[hl]at hi;simp[Ab.cm,Key.loc]at hi
  |some ob=>cases ob with
   |arr z xs=>
    rw[hl]at hi
    dsimp only at hi ⊢
    cases hof:cS off 0 with
    |false=>rw[hof]at hi;simp[Ab.cm,Key.loc]at hi
    |true=>
    rw[cond_true]
    have:=dg hof
    subst this
    obtain⟨_,ke,dV,hz,hm,c,e,eI,ho,hs,du,lV,hq⟩:=h.bx d _ hl
    cases hx
    rename_i Ee
    have pz:fp E s (E.m (.s d)):=⟨d,_,hl,rfl,c,e,eI⟩
    have hbs:=(kK h pz).1
    have sU: ∀(q:Nat) (b:AV),xs.flatten[q]? =some b→ ∃y,c[q]? =some y∧Cz E b y:=fun q b qR=>by
     have aU:q<c.size:=by rw[du,←aD hz];exact(List.getElem?_eq_some_iff.1 qR).1
     exact⟨c[q],by simp[aU],hq q b _ qR (by simp[aU])⟩
    refine .nc ρ z xs _ hz (Cz.aO (E:=E.lS (fp E s) ρ) ρ xs.flatten 0 (E.m (.s d)) 0 (fun q=>c.getD q undef) (fun q b qR=>by simp only[Env.lS];rw[if_pos pz]) (fun q b qR=>lV q b qR) (fun q b qR=> .inr ⟨pz,hbs⟩) (fun q b qR=>?_) (fun q b qR=>?_))
    ·obtain⟨y,h1,h2⟩:=sU q b qR
     show aR E.h _ _=_
     simp only[aR,eI,Nat.zero_add]
     simp[Array.getD_eq_getD_getElem?,h1]
    ·obtain⟨y,h1,h2⟩:=sU q b qR
     have e:c.getD q undef=y:=by simp[Array.getD_eq_getD_getElem?,h1]
     rw[e]
     exact(zm h ρ (rZ b+1)).cm h2 (lV q b qR) (Nat.lt_succ_self _)
   |ow=>rw[hl]at hi;simp[Ab.cm,Key.loc]at hi
   |lp=>rw[hl]at hi;simp[Ab.cm,Key.loc]at hi
   |box cs=>
    rw[hl]at hi
    dsimp only at hi ⊢
    cases hic:bZ (jX (fun _=>true) cs)with
    |false=>rw[hic]at hi;simp[Ab.cm,Key.loc]at hi
    |true=>
     rw[cond_true]
     obtain⟨_,c,e,eI,ho,hs,du,hq⟩:=h.bx d _ hl
     cases hx
     rename_i Ee
     have pz:fp E s (E.m (.s d)):=⟨d,_,hl,rfl,c,e,eI⟩
     have hbs:=(kK h pz).1
     have sU: ∀(q:Nat) (b:AV),(jX (fun _=>true) cs)[q]? =some b→ ∃y,c[q]? =some y∧Cz E b y:=fun q b qR=>by
      have aU:q<c.size:=by rw[du,←da (fun _=>true) cs];exact(List.getElem?_eq_some_iff.1 qR).1
      rw[qc]at qR
      cases hcq:cs[q]? with
      |none=>rw[hcq]at qR;cases qR
      |some b0=>rw[hcq]at qR;cases qR;exact⟨c[q],by simp[aU],(hq q b0 _ hcq (by simp[aU])).giveUp h.wf _⟩
     have:=Cz.aO (E:=E.lS (fp E s) ρ) ρ (jX (fun _=>true) cs) off (E.m (.s d)) 0 (fun q=>c.getD q undef) (fun q b _=>by simp only[Env.lS];rw[if_pos pz])
      (fun q b qR=>bj hic q b qR) (fun q b qR=> .inr ⟨pz,hbs⟩) (fun q b qR=>by
       obtain⟨y,h1,h2⟩:=sU q b qR
       show aR E.h _ _=_
       simp only[aR,eI,Nat.zero_add]
       simp[Array.getD_eq_getD_getElem?,h1])
      (fun q b qR=>by
       obtain⟨y,h1,h2⟩:=sU q b qR
       have e:c.getD q undef=y:=by simp[Array.getD_eq_getD_getElem?,h1]
       rw[e]
       exact(zm h ρ (rZ b+1)).cm h2 (bj hic q b qR) (Nat.lt_succ_self _))
     rw[Nat.zero_add]at this
     exact this
 ·exact plain hi hx
theorem RG(h:bq E0 E w0 w s a)(ρ:Nat){av:AV}{x:Value}(hx:Cz E av x)(hi:Ab.cm (yL ρ s.b av)=true):Cz (E.lS (fp E s) ρ) (yL ρ s.b av) x:=by
 unfold yL at hi ⊢
 split at hi
 ·rename_i f cs
  cases hx with
  |fn _ _ ys hl hq=>
   refine .fn f _ ys (by simp[hl]) fun q b y hb hy=>?_
   have hbi:=bj (by simpa[cm]using hi) q b hb
   rw[List.getElem?_map]at hb
   cases hc:cs[q]? with
   |none=>rw[hc]at hb;cases hb
   |some b0=>rw[hc]at hb;cases hb;exact Ht h ρ (hq q b0 y hc hy) hbi
 ·rename_i cs
  cases hx with
  |agg _ ys hl hq=>
   refine .agg _ ys (by simp[hl]) fun q b y hb hy=>?_
   have hbi:=bj (by simpa[cm]using hi) q b hb
   rw[List.getElem?_map]at hb
   cases hc:cs[q]? with
   |none=>rw[hc]at hb;cases hb
   |some b0=>rw[hc]at hb;cases hb;exact Ht h ρ (hq q b0 y hc hy) hbi
 ·exact Ht h ρ hx hi
def lR(cl:Nat→Bool):Op→Bool
 | .call c=>match c.callee with
  | .value (.func k)=>cl k
  |_=>false
 |_=>false
theorem wM(iH: ∀k,C.cl k=true→C.sR k=false)(hC:yz P C)(apH:zY P C)(hYl:QE P C.yl)(h:bq E0 E w0 w s a)(hp:aY s p){o:Oper}{c:Call}{f:Operand}(he:o.op= .call c)(hc:c.callee= .value f){K:bf}{Q:Exit→Act→World→Prop}
  (hk:ZX C p (bL s p f) (c.args.toList.map fun x=>rd (bL s p x)) s K):lj P o a w (fun a' w'=>fC E0 w0 o a K a' w'∧(lR C.cl o.op=true→bU w w')) Q:=by
 unfold ZX at hk
 have X7:=h.ev hp f
 have C5: ∀{cap:List AV} {ys:List Value},ys.length=cap.length→(∀(q:Nat) (a:AV) (y:Value),cap[q]? =some a→ys[q]? =some y→Cz E a y)→
   ((c.args.toList.map a.eval)++ys).length=((c.args.toList.map fun x=>rd (bL s p x))++cap).length∧ ∀(q:Nat) (b:AV) (y:Value),((c.args.toList.map fun x=>rd (bL s p x))++cap)[q]? =some b→((c.args.toList.map a.eval)++ys)[q]? =some y→Cz E b y:=by
  intro cap ys hl hq
  refine⟨by simp[hl],fun q b y h1 h2=>?_⟩
  by_cases aU:q<(c.args.toList.map a.eval).length
  ·rw[List.getElem?_append_left aU]at h2
   rw[List.getElem?_append_left (by simpa using aU)]at h1
   exact CK h hp _ c.args.toList q b y h1 h2
  ·rw[List.getElem?_append_right (by omega)]at h2
   rw[List.getElem?_append_right (by simp at aU ⊢;omega)]at h1
   simp only[List.length_map]at h1 h2
   exact hq _ b y h1 h2
 have Vc: ∀{cap:List AV} {ys:List Value},ys.length=cap.length→(∀(q:Nat) (a:AV) (y:Value),cap[q]? =some a→ys[q]? =some y→Cz E a y)→bZ ((c.args.toList.map fun x=>rd (bL s p x))++cap)=true→
   ((c.args.toList.map a.eval)++ys).length=((c.args.toList.map fun x=>rd (bL s p x))++cap).length∧ ∀(q:Nat) (b:AV) (y:Value),((c.args.toList.map fun x=>rd (bL s p x))++cap)[q]? =some b→((c.args.toList.map a.eval)++ys)[q]? =some y→Cz E.mask b y:=by
  intro cap ys hl hq hi
  obtain⟨h1,h2⟩:=C5 hl hq
  exact⟨h1,fun q b y h3 h4=>(zj E).cm (h2 q b y h3 h4) (bj hi q b h3)⟩
 split at hk
 ·rename_i k cap dG
  rw[dG]at X7
  cases hfe:a.eval f<;>rw[hfe]at X7<;>cases X7
  rename_i ys hl hq
  have hwp: ∀{R:Ending→World→Prop},nP P k→Calls P k ((c.args.toList.map a.eval)++ys).toArray w R→(∀e w',R e w'→ ∃x,e= .returned x∧fC E0 w0 o a K (a.put o.dst x) w'∧(lR C.cl o.op=true→bU w w'))→lj P o a w (fun a' w'=>fC E0 w0 o a K a' w'∧(lR C.cl o.op=true→bU w w')) Q:=by
   intro R vW AT hR
   unfold lj
   have eH:(execOp a.eval o).run P w= .ok (.enter k ((c.args.toList.map a.eval)++ys).toArray) w:=by
    have e1:((c.args.toList.map a.eval)++ys).toArray=c.args.map a.eval++ys.toArray:=Array.toList_inj.1 (by simp)
    rw[e1]
    simp only[execOp,he,resolve,hc,hfe]
    simp[Deferred.ofValue,Sem.run_bind,invoke,Result.andThen,vW _ w]
   rw[eH]
   exact AT.mono fun e w' hr=>hR e w' hr
  have aaG: ∀{r:AV} {g':Nat→Option Ob} {gG:Nat},ys.length=cap.length→(∀(q:Nat) (a:AV) (y:Value),cap[q]? =some a→ys[q]? =some y→Cz E a y)→(∀ρ,bZ (((c.args.toList.map fun x=>rd (bL s p x))++cap).map (yL ρ s.b))=true)→
    (∀ρ,C.call C.ρ k (((c.args.toList.map fun x=>rd (bL s p x))++cap).map (yL ρ s.b)) s.g s.nx r g' gG)→K r {s with t:=fG lT s.t,b:=eN lT s.b,up:=mg lT s.up,g:=g',nx:=gG}→
    lj P o a w (fun a' w'=>fC E0 w0 o a K a' w'∧(lR C.cl o.op=true→bU w w')) Q:=by
   intro r g' gG hl hq KL mF hk
   obtain⟨N,hN⟩:=O8 (g':=g') gG
   obtain⟨ρ,hρ1,hρ2⟩: ∃ρ,N≤ρ∧rZ r<ρ:=⟨N+rZ r+1,by omega,by omega⟩
   obtain⟨vW,Nn⟩:=hC _ _ _ _ _ _ _ _ (mF ρ)
   refine hwp vW (Nn (KL ρ) (E.lS (fp E s) ρ) w _ (h.lS ρ) (by simp[hl]) fun q b y h1 h2=>?_) fun e w' hr=>?_
   ·rw[List.getElem?_map]at h1
    cases h3:((c.args.toList.map fun x=>rd (bL s p x))++cap)[q]? with
    |none=>rw[h3]at h1;cases h1
    |some b0=>
     rw[h3]at h1
     have hbi:=bj (KL ρ) q b (by rw[List.getElem?_map,h3];exact h1)
     cases h1
     exact RG h ρ ((C5 hl hq).2 q b0 y h3 h2) hbi
   ·obtain⟨x,E',rfl,hG,hE,hs,Np,VA,KP⟩:=hr
    have hgl: ∀i ob,g' i=some ob→Kl ob<ρ:=fun i ob hi=>by
     have Ee:E'.live (.o i):=by
      have:=hG.gx i ob hi
      cases ob with
      |box cs=>exact this.1
      |arr z xs=>exact this.1
      |ow=>exact this.1
      |lp=>exact this.1
     have:=hN i ob ((hG.gl i).1 Ee) hi
     omega
    exact⟨x,rfl,⟨x,rfl,r,_,_,hk,h.ny hE hG hs hgl,(N6 h hE hG).cm Np VA hρ2⟩,fun _=>KP⟩
  split at hk
  ·cases Fy:C.sR k with
   |true=>
    rw[Fy,cond_true]at hk
    obtain⟨VI,Ya⟩:=C5 hl hq
    obtain⟨vW,AT⟩:=apH C.yl hYl hk h VI Ya
    refine hwp vW AT fun e w' hr=>?_
    obtain⟨x,rfl,r,s',E',jt,hs',Nr⟩:=hr
    refine⟨x,rfl,⟨x,rfl,r,s',E',jt,hs',Nr⟩,fun Lx=>?_⟩
    exfalso
    unfold lR at Lx
    rw[he]at Lx
    dsimp only at Lx
    rw[hc]at Lx
    split at Lx
    ·rename_i k' jt
     cases jt
     have:k'=k:=by simp only[bL]at dG;injection dG with e1 _;injection e1
     subst this
     rw[iH _ Lx]at Fy;cases Fy
    ·cases Lx
   |false=>
   rw[Fy,cond_false]at hk
   cases hi:bZ ((c.args.toList.map fun x=>rd (bL s [] x))++cap)with
   |false=>
    rw[hi,cond_false]at hk
    obtain⟨KL,r,g',gG,mF,hk⟩:=hk
    exact aaG hl hq KL mF hk
   |true=>
   rw[hi,cond_true]at hk
   obtain⟨r,g',gG,mF,hk⟩:=hk
   obtain⟨vW,Nn⟩:=hC _ _ _ _ _ _ _ _ mF
   obtain⟨VI,Ya⟩:=Vc hl hq hi
   refine hwp vW (Nn hi E.mask w _ h.mask VI Ya) fun e w' hr=>?_
   obtain⟨x,E',rfl,hG,hE,hs,Np,VA,KP⟩:=hr
   exact⟨x,rfl,⟨x,rfl,r,_,_,hk,h.call hE hG hs,(C4 hE hG).cm Np VA⟩,fun _=>KP⟩
  ·cases hi:bZ ((c.args.toList.map fun x=>rd (bL s p x))++cap)with
   |false=>
    rw[hi,cond_false]at hk
    obtain⟨KL,r,mF,hk⟩:=hk
    exact aaG hl hq KL (mF hp) hk
   |true=>
   rw[hi,cond_true]at hk
   obtain⟨r,mF,hk⟩:=hk
   obtain⟨vW,Nn⟩:=hC _ _ _ _ _ _ _ _ (mF hp)
   obtain⟨VI,Ya⟩:=Vc hl hq hi
   refine hwp vW (Nn hi E.mask w _ h.mask VI Ya) fun e w' hr=>?_
   obtain⟨x,E',rfl,hG,hE,hs,Np,VA,KP⟩:=hr
   exact⟨x,rfl,⟨x,rfl,r,_,_,hk,h.call hE hG hs,(C4 hE hG).cm Np VA⟩,fun _=>KP⟩
 ·rename_i d dG
  rw[dG]at X7
  cases hfe:a.eval f<;>rw[hfe]at X7<;>cases X7
  rename_i Ee
  split at hk
  ·obtain⟨VI,Ya⟩:=C5 (cap:=[]) (ys:=[]) rfl (fun q a y hq _=>by simp at hq)
   simp only[List.append_nil]at VI Ya
   obtain⟨fn,tmps,nI,body,hy,hR⟩:=hYl hk h VI Ya
   unfold lj
   have eH:(execOp a.eval o).run P w= .ok (.round (E.m (.s d)) fn tmps nI body) w:=by
    have e1:(c.args.toList.map a.eval).toArray=c.args.map a.eval:=Array.toList_inj.1 (by simp)
    rw[e1]at hy
    simp only[execOp,he,resolve,hc,hfe]
    simp[Deferred.ofValue,Sem.run_bind,invoke,Result.andThen,hy]
   rw[eH]
   refine hR.mono fun e w' hr=>?_
   obtain⟨x,rfl,r,s',E',jt,hs',Nr⟩:=hr
   refine⟨x,rfl,⟨x,rfl,r,s',E',jt,hs',Nr⟩,fun Lx=>?_⟩
   exfalso
   unfold lR at Lx
   rw[he]at Lx
   dsimp only at Lx
   rw[hc]at Lx
   split at Lx
   ·rename_i k' jt
    cases jt
    simp[bL]at dG
   ·cases Lx
  ·exact hk.elim
 ·rename_i k cs dG
  rw[dG]at X7
  cases hfe:a.eval f<;>rw[hfe]at X7<;>cases X7
  rename_i ys hl lV hq
  split at hk
  ·cases hi:bZ (cs++(c.args.toList.map fun x=>rd (bL s [] x)))with
   |false=>rw[hi]at hk;exact hk.elim
   |true=>
   rw[hi,cond_true]at hk
   obtain⟨r,g',gG,mF,hk⟩:=hk
   obtain⟨vW,Nn⟩:=hC _ _ _ _ _ _ _ _ mF
   have eH:(execOp a.eval o).run P w= .ok (.enter k (ys++(c.args.toList.map a.eval)).toArray) w:=by
    have e1:(ys++(c.args.toList.map a.eval)).toArray=ys.toArray++c.args.map a.eval:=Array.toList_inj.1 (by simp)
    rw[e1]
    simp only[execOp,he,resolve,hc,hfe]
    simp[Deferred.ofValue,Sem.run_bind,invoke,Result.andThen,vW _ w]
   unfold lj
   rw[eH]
   refine Calls.mono (Nn hi E.mask w _ h.mask (by simp[hl]) fun q b y h1 h2=>?_) fun e w' hr=>?_
   ·have hbi:=bj hi q b h1
    refine(zj E).cm ?_ hbi
    by_cases aU:q<ys.length
    ·rw[List.getElem?_append_left aU]at h2
     rw[List.getElem?_append_left (by omega)]at h1
     exact hq q b y h1 h2
    ·rw[List.getElem?_append_right (by omega)]at h2
     rw[List.getElem?_append_right (by omega),←hl]at h1
     exact CK h hp _ c.args.toList (q - ys.length) b y h1 h2
   ·obtain⟨x,E',rfl,hG,hE,hs,Np,VA,KP⟩:=hr
    exact⟨x,rfl,⟨x,rfl,r,_,_,hk,h.call hE hG hs,(C4 hE hG).cm Np VA⟩,fun _=>KP⟩
  ·exact hk.elim
 ·exact hk.elim
end Ab
