/- PassesAll holds of all pairs of cores (no condition): a part of the proof: an abstract interpreter of the code that is proved sound, models of the functions, and laws of these models. -/
import Derived.WalkKit
import Derived.RangeFuncSeq
import Derived.RangeFuncLeaves
set_option linter.unusedVariables false
set_option linter.unusedSimpArgs false
set_option linter.unusedSectionVars false
namespace Ab
open Go
theorem au{α:Type _}{β:Type _}(a:α)(f:α→Option β):(some a).bind f=f a:=rfl
theorem az{α:Sort _}{a b:α}:cond true a b=a:=rfl
theorem aC{α:Sort _}{a b:α}:cond false a b=b:=rfl
theorem bP{p:Prop}[Decidable p](h:p):decide p=true:=decide_eq_true h
theorem bI{p:Prop}[Decidable p](h: ¬p):decide p=false:=decide_eq_false h
theorem bq{α:Type _}{l:List α}{i:Nat}{a:α}:l[i]? =some a↔ ∃h:i<l.length,l[i]=a:=List.getElem?_eq_some_iff
theorem eH{α:Type _}{l:List α}{i:Nat}(h:i<l.length):l[i]? =some l[i]:=List.getElem?_eq_getElem h
theorem gg{α:Type _}{l m:List α}{i:Nat}(h:i<l.length):(l++m)[i]? =l[i]? :=List.getElem?_append_left h
theorem iY{α:Type _}{l m:List α}{i:Nat}(h:l.length≤i):(l++m)[i]? =m[i - l.length]? :=List.getElem?_append_right h
theorem fU{α:Type _}{l:List α}{i:Nat}{a:α}(h:l[i]? =some a):a∈l:=List.mem_of_getElem? h
theorem Fv{a:Int}(h:0≤a):(a.toNat:Int)=a:=Int.toNat_of_nonneg h
theorem o5{α:Type _}{a b:α}(h:some a=some b):a=b:=Option.some.inj h
def dy(a b:Nat):Bool:=decide (a=b)
def oZ(a b:Nat):Bool:=decide (a≤b)
def tZ(a b:Nat):Bool:=decide (a<b)
 @[simp] theorem eqN_eq (a b:Nat):(dy a b=true)=(a=b):=by simp[dy]
 @[simp] theorem Af (a b:Nat):(oZ a b=true)=(a≤b):=by simp[oZ]
 @[simp] theorem ltN_eq (a b:Nat):(tZ a b=true)=(a<b):=by simp[tZ]
 @[simp] theorem X3 (a:Nat):dy a a=true:=by simp
theorem dK{a b:Nat}(h:dy a b=true):a=b:=by simpa using h
theorem Gn{a b:Nat}(h:oZ a b=true):a≤b:=by simpa using h
inductive Key where
 |s (d:Nat)
 |o (id:Nat)
 deriving DecidableEq
inductive Tok where
 |l (d:Nat)
 |c (id off:Nat)
 |n (d:Nat)
 deriving DecidableEq
inductive AV where
 |any
 |v (x:Value)
 |sl (r:Nat) (xs:List (List AV))
 |gs (r:Nat) (t:Tok) (xs:List (List AV))
 |aX (r:Nat) (cs:List AV) (off:Nat)
 |ptr (k:Key) (off:Nat)
 |jB (k:Key) (n:Nat)
 |dc (k:Key) (i off z:Nat)
 |mp (k:Key)
 |rQ (k:Key)
 |ar (n z:Nat) (xs:List (List AV))
 |fn (f:Fn) (cap:List AV)
 |bm (f:Fn) (cs:List AV)
 |nG (r z:Nat) (xs:List (List AV))
 |agg (cs:List AV)
 |gY (vs:List AV)
 deriving Inhabited
inductive Own where
 |WR
 |lh
 |key (k:Key)
 |tok (t:Tok)
structure Env where
 h:Array Obj
 aR:Nat→Nat→Prop
 eo:Nat→Nat
 m:Key→Nat
 live:Key→Prop
 len:Key→Nat×Nat
 own:Nat→Own
 up:List Act:=[]
def aW(h:Array Obj)(b o:Nat):Option Value:=
 match h[b]? with
 |some (.cells c _ _)=>c[o]?
 |_=>none
theorem kP(w:World)(b o:Nat):w.cell? ⟨b,o,none⟩=aW w.heap b o:=by
 unfold World.cell? aW;cases w.heap[b]? with
 |none=>rfl
 |some x=>cases x<;>rfl
def Key.loc:Key→Bool
 | .s _=>true
 | .o _=>false
def Tok.loc:Tok→Bool
 | .l _=>true
 | .c _ _=>true
 | .n _=>true
def Own.loc:Own→Bool
 | .key k=>k.loc
 | .tok t=>t.loc
 |_=>false
def Own.dW:Own→Bool
 | .key k=> !k.loc
 | .tok t=> !t.loc
 |_=>false
 mutual
def cH:AV→Bool
  | .gs .. =>false
  | .ptr k _=> !k.loc
  | .jB k _=> !k.loc
  | .mp k=> !k.loc
  | .dc k _ _ _=> !k.loc
  | .rQ k=> !k.loc
  | .fn _ cs=>cw cs
  | .agg cs=>cw cs
  | .gY cs=>cw cs
  |_=>true
def cw:List AV→Bool
  |[]=>true
  |a::r=>cH a&&cw r
end
theorem bD{cs:List AV}(h:cw cs=true): ∀(q:Nat) (a:AV),cs[q]? =some a→cH a=true:=by
 induction cs with
 |nil=>intro q a hq;simp at hq
 |cons x r ih=>
  simp only[cw,Bool.and_eq_true]at h;intro q a hq;cases q with
  |zero=>simp at hq;subst hq;exact h.1
  |succ q=>exact ih h.2 q a (by simpa using hq)
theorem yK{cs:List AV}(h: ∀(q:Nat) (a:AV),cs[q]? =some a→cH a=true):cw cs=true:=by
 induction cs with
 |nil=>rfl
 |cons x r ih=>simp only[cw,Bool.and_eq_true];exact⟨h 0 x (by simp),ih fun q a hq=>h (q+1) a (by simpa using hq)⟩
inductive Cz(E:Env):AV→Value→Prop where
 |any (x:Value):Cz E .any x
 |v (x:Value):Cz E (.v x) x
 |pd (r:Nat) (A:Option Addr) (c:Nat):Cz E (.sl r []) (.slice A 0 c)
 |sl (r:Nat) (xs:List (List AV)) (z b o c:Nat) (u:Nat→Value) (hp:0<xs.length) (hc:xs.length≤c) (hm:c≤maxLen) (ew:0<z) (hz: ∀l∈xs,l.length=z) (hr:E.eo b=r)
   (hi: ∀(q:Nat) (a:AV),xs.flatten[q]? =some a→cH a=true) (hs: ∀(q:Nat) (a:AV),xs.flatten[q]? =some a→E.aR b (o+q)) (hu: ∀(q:Nat) (a:AV),xs.flatten[q]? =some a→aW E.h b (o+q)=some (u q))
   (hq: ∀(q:Nat) (a:AV),xs.flatten[q]? =some a→Cz E a (u q)):Cz E (.sl r xs) (.slice (some ⟨b,o,none⟩) xs.length c)
 |vk (r:Nat) (t:Tok):Cz E (.gs r t []) (.slice none 0 0)
 |gs (r:Nat) (t:Tok) (xs:List (List AV)) (z b c e:Nat) (cells:Array Value) (u:Nat→Value) (hc:xs.length≤c) (hm:c≤maxLen) (h0:xs.length=0→c=0) (ew:0<z) (hz: ∀l∈xs,l.length=z) (hr:E.eo b=r)
   (hb:E.h[b]? =some (.cells cells e (0,0))) (ef:cells.size=c*z) (ho:E.own b= .tok t) (gZ: ∀o,E.aR b o↔o<xs.length*z)
   (hi: ∀(q:Nat) (a:AV),xs.flatten[q]? =some a→cH a=true) (hu: ∀(q:Nat) (a:AV),xs.flatten[q]? =some a→aW E.h b (0+q)=some (u q))
   (hq: ∀(q:Nat) (a:AV),xs.flatten[q]? =some a→Cz E a (u q)):Cz E (.gs r t xs) (.slice (some ⟨b,0,none⟩) xs.length c)
 |aX (r:Nat) (cs:List AV) (off b o:Nat) (u:Nat→Value) (hr: ∀(q:Nat) (a:AV),cs[q]? =some a→E.eo b=r)
   (hi: ∀(q:Nat) (a:AV),cs[q]? =some a→cH a=true) (hs: ∀(q:Nat) (a:AV),cs[q]? =some a→E.aR b (o+q)) (hu: ∀(q:Nat) (a:AV),cs[q]? =some a→aW E.h b (o+q)=some (u q))
   (hq: ∀(q:Nat) (a:AV),cs[q]? =some a→Cz E a (u q)):Cz E (.aX r cs off) (.pointer (some ⟨b,o+off,none⟩))
 |ptr (k:Key) (off:Nat) (hl:E.live k):Cz E (.ptr k off) (.pointer (some ⟨E.m k,off,none⟩))
 |jB (k:Key) (n:Nat) (hl:E.live k) (hn:n≤(E.len k).1) (hc:(E.len k).1≤(E.len k).2) (hm:(E.len k).2≤maxLen):Cz E (.jB k n) (.slice (some ⟨E.m k,0,none⟩) n (E.len k).2)
 |dc (k:Key) (i off z:Nat) (hl:E.live k):Cz E (.dc k i off z) (.pointer (some ⟨E.m k,i*z+off,none⟩))
 |mp (k:Key) (hl:E.live k):Cz E (.mp k) (.map (some (E.m k)))
 |rQ (k:Key) (hl:E.live k):Cz E (.rQ k) (.func (.yield (E.m k)) #[] #[])
 |ar (n z:Nat) (xs:List (List AV)) (ys:List Value) (hn:xs.length=n) (hz: ∀l∈xs,l.length=z) (hl:ys.length=n*z) (hi: ∀(q:Nat) (a:AV),xs.flatten[q]? =some a→cH a=true)
   (hq: ∀(q:Nat) (a:AV) (y:Value),xs.flatten[q]? =some a→ys[q]? =some y→Cz E a y):Cz E (.ar n z xs) (.agg ys.toArray)
 |fn (f:Fn) (cap:List AV) (ys:List Value) (hl:ys.length=cap.length) (hq: ∀(q:Nat) (a:AV) (y:Value),cap[q]? =some a→ys[q]? =some y→Cz E a y):Cz E (.fn f cap) (.func f #[] ys.toArray)
 |bm (f:Fn) (cs:List AV) (ys:List Value) (hl:ys.length=cs.length) (hi: ∀(q:Nat) (a:AV),cs[q]? =some a→cH a=true) (hq: ∀(q:Nat) (a:AV) (y:Value),cs[q]? =some a→ys[q]? =some y→Cz E a y):Cz E (.bm f cs) (.func f ys.toArray #[])
 |nG (r z:Nat) (xs:List (List AV)) (x:Value) (hz: ∀l∈xs,l.length=z) (h:Cz E (.aX r xs.flatten 0) x):Cz E (.nG r z xs) x
 |agg (cs:List AV) (ys:List Value) (hl:ys.length=cs.length) (hq: ∀(q:Nat) (a:AV) (y:Value),cs[q]? =some a→ys[q]? =some y→Cz E a y):Cz E (.agg cs) (.agg ys.toArray)
 |gY (cs:List AV) (ys:List Value) (hl:ys.length=cs.length) (hq: ∀(q:Nat) (a:AV) (y:Value),cs[q]? =some a→ys[q]? =some y→Cz E a y):Cz E (.gY cs) (.tuple ys.toArray)
structure Ext(C:Own→Prop)(E E':Env):Prop where
 size:E.h.size≤E'.h.size
 aR: ∀b o,E.aR b o→E'.aR b o∧aW E'.h b o=aW E.h b o∧E'.eo b=E.eo b
 live: ∀k,E.live k→E'.live k∧E'.m k=E.m k∧E'.len k=E.len k
 bH: ∀b,b<E.h.size→ ¬C (E.own b)→E'.own b=E.own b∧E'.h[b]? =E.h[b]? ∧(∀o,E'.aR b o↔E.aR b o)∧E'.eo b=E.eo b
theorem Ext.refl(C:Own→Prop)(E:Env):Ext C E E:=
 ⟨Nat.le_refl _,fun _ _ h=>⟨h,rfl,rfl⟩,fun _ h=>⟨h,rfl,rfl⟩,fun _ _ _=>⟨rfl,rfl,fun _=>Iff.rfl,rfl⟩⟩
theorem Ext.mono{C C':Own→Prop}{E E':Env}(h:Ext C E E')(hC: ∀o,C o→C' o):Ext C' E E':=
 ⟨h.size,h.aR,h.live,fun b hb hn=>h.bH b hb fun hc=>hn (hC _ hc)⟩
 mutual
def sR(T:Tok→Bool):AV→AV
  | .gs r t xs=>if T t then .sl r xs else .gs r t xs
  | .fn f cs=> .fn f (mP T cs)
  | .agg cs=> .agg (mP T cs)
  | .gY cs=> .gY (mP T cs)
  |a=>a
def mP(T:Tok→Bool):List AV→List AV
  |[]=>[]
  |a::r=>sR T a::mP T r
end
theorem rZ(T:Tok→Bool)(cs:List AV)(q:Nat):(mP T cs)[q]? =(cs[q]?).map (sR T):=by
 induction cs generalizing q with
 |nil=>simp[mP]
 |cons a r ih=>cases q<;>simp[mP,ih]
theorem dR(T:Tok→Bool)(cs:List AV):(mP T cs).length=cs.length:=by
 induction cs with
 |nil=>rfl
 |cons a r ih=>simp[mP,ih]
theorem aH{α:Type}{z:Nat}: ∀{xs:List (List α)},(∀l∈xs,l.length=z)→xs.flatten.length=xs.length*z
 |[],_=>by simp
 |l::r,h=>by
  have:=aH (xs:=r) (fun l' tG=>h l' (by simp[tG]))
  simp only[List.flatten_cons,List.length_append,List.length_cons,h l (by simp),this,Nat.succ_mul];omega
structure Wf(E:Env):Prop where
 aR: ∀b o,E.aR b o→b<E.h.size
 own: ∀b,E.own b≠ .WR→b<E.h.size
 fz: ∀b o,E.aR b o→1000000≤E.eo b→ ∃c e,E.h[b]? =some (.cells c e (0,0))
theorem sn{α:Type}{l:List α}(h:0<l.length): ∃a,l[0]? =some a:=⟨l[0],by simp⟩
theorem Cz.ext{C:Own→Prop}{E E':Env}(hE:Ext C E E')(hw:Wf E)(T:Tok→Bool)(hT: ∀t,C (.tok t)→T t=true){a:AV}{x:Value}(h:Cz E a x):
  Cz E' (sR T a) x∧(cH a=true→Cz E' a x):=by
 induction h with
 |any x=>exact⟨.any _,fun _=> .any _⟩
 |v x=>exact⟨.v _,fun _=> .v _⟩
 |pd r A c=>exact⟨.pd _ _ _,fun _=> .pd _ _ _⟩
 |sl r xs z b o c u hp hc hm ew hz hr hi hs hu hq ih=>
  have hf:=aH hz
  obtain⟨a0,XK⟩:=sn (l:=xs.flatten) (by rw[hf];exact Nat.mul_pos hp ew);have:Cz E' (.sl r xs) (.slice (some ⟨b,o,none⟩) xs.length c):=
   .sl r xs z b o c u hp hc hm ew hz ((hE.aR _ _ (hs 0 a0 XK)).2.2.trans hr) hi (fun q a dx=>(hE.aR _ _ (hs q a dx)).1) (fun q a dx=>(hE.aR _ _ (hs q a dx)).2.1.trans (hu q a dx))
    (fun q a dx=>(ih q a dx).2 (hi q a dx))
  exact⟨this,fun _=>this⟩
 |vk r t=>exact⟨by simp only[sR];split;exact .pd _ _ _;exact .vk _ _,fun hi=>by simp[cH]at hi⟩
 |gs r t xs z b c e cells u hc hm h0 ew hz hr hb ef ho gZ hi hu hq ih=>
  refine⟨?_,fun hi=>by simp[cH]at hi⟩;simp only[sR];have hf:=aH hz
  have hs: ∀(q:Nat) (a:AV),xs.flatten[q]? =some a→E.aR b (0+q):=fun q a dx=>(gZ _).2 (by have:=(bq.1 dx).1;omega)
  by_cases ht:T t=true
  ·rw[if_pos ht];by_cases hp:0<xs.length
   ·obtain⟨a0,XK⟩:=sn (l:=xs.flatten) (by rw[hf];exact Nat.mul_pos hp ew);exact .sl r xs z b 0 c u hp hc hm ew hz ((hE.aR _ _ (hs 0 a0 XK)).2.2.trans hr) hi (fun q a dx=>(hE.aR _ _ (hs q a dx)).1) (fun q a dx=>(hE.aR _ _ (hs q a dx)).2.1.trans (hu q a dx))
     (fun q a dx=>(ih q a dx).2 (hi q a dx))
   ·have h0:xs=[]:=List.eq_nil_of_length_eq_zero (by omega)
    subst h0;exact .pd _ _ _
  ·rw[if_neg ht];obtain⟨k1,k2,k3,k4⟩:=hE.bH b (hw.own b (by rw[ho];simp)) (by rw[ho];exact fun hc=>ht (hT _ hc));exact .gs r t xs z b c e cells u hc hm h0 ew hz (k4.trans hr) (k2.trans hb) ef (k1.trans ho) (fun o=>(k3 o).trans (gZ o)) hi (fun q a dx=>(hE.aR _ _ (hs q a dx)).2.1.trans (hu q a dx))
    (fun q a dx=>(ih q a dx).2 (hi q a dx))
 |aX r cs off b o u hr hi hs hu hq ih=>
  have:Cz E' (.aX r cs off) (.pointer (some ⟨b,o+off,none⟩)):=
   .aX r cs off b o u (fun q a dx=>(hE.aR _ _ (hs q a dx)).2.2.trans (hr q a dx)) hi (fun q a dx=>(hE.aR _ _ (hs q a dx)).1) (fun q a dx=>(hE.aR _ _ (hs q a dx)).2.1.trans (hu q a dx))
    (fun q a dx=>(ih q a dx).2 (hi q a dx))
  exact⟨this,fun _=>this⟩
 |ptr k off hl=>
  have:Cz E' (.ptr k off) (.pointer (some ⟨E.m k,off,none⟩)):=by rw[←(hE.live k hl).2.1];exact .ptr k off (hE.live k hl).1
  exact⟨this,fun _=>this⟩
 |jB k n hl hn hc hm=>
  have:Cz E' (.jB k n) (.slice (some ⟨E.m k,0,none⟩) n (E.len k).2):=by rw[←(hE.live k hl).2.1,←(hE.live k hl).2.2];exact .jB k n (hE.live k hl).1 (by rw[(hE.live k hl).2.2];exact hn) (by rw[(hE.live k hl).2.2];exact hc) (by rw[(hE.live k hl).2.2];exact hm)
  exact⟨this,fun _=>this⟩
 |dc k i off z hl=>
  have:Cz E' (.dc k i off z) (.pointer (some ⟨E.m k,i*z+off,none⟩)):=by rw[←(hE.live k hl).2.1];exact .dc k i off z (hE.live k hl).1
  exact⟨this,fun _=>this⟩
 |mp k hl=>
  have:Cz E' (.mp k) (.map (some (E.m k))):=by rw[←(hE.live k hl).2.1];exact .mp k (hE.live k hl).1
  exact⟨this,fun _=>this⟩
 |rQ k hl=>
  have:Cz E' (.rQ k) (.func (.yield (E.m k)) #[] #[]):=by rw[←(hE.live k hl).2.1];exact .rQ k (hE.live k hl).1
  exact⟨this,fun _=>this⟩
 |ar n z xs ys hn hz hl hi hq ih=>
  have:Cz E' (.ar n z xs) (.agg ys.toArray):= .ar n z xs ys hn hz hl hi fun q a y ha hy=>(ih q a y ha hy).2 (hi q a ha)
  exact⟨this,fun _=>this⟩
 |bm f cs ys hl hi hq ih=>
  have:=Cz.bm (E:=E') f cs ys hl hi (fun q a y ha hy=>(ih q a y ha hy).2 (hi q a ha))
  exact⟨this,fun _=>this⟩
 |nG r z xs x hz h ih=>exact⟨.nG r z xs x hz (ih.2 rfl),fun _=> .nG r z xs x hz (ih.2 rfl)⟩
 |fn f cap ys hl hq ih=>
  refine⟨?_,fun hi=> .fn f cap ys hl fun q a y ha hy=>(ih q a y ha hy).2 (bD (by simpa[cH]using hi) q a ha)⟩;simp only[sR];exact .fn f _ ys (by rw[dR];exact hl) fun q a y ha hy=>by
   rw[rZ]at ha;cases h:cap[q]? with
   |none=>simp[h]at ha
   |some a'=>simp[h]at ha;subst ha;exact(ih q a' y h hy).1
 |agg cs ys hl hq ih=>
  refine⟨?_,fun hi=> .agg cs ys hl fun q a y ha hy=>(ih q a y ha hy).2 (bD (by simpa[cH]using hi) q a ha)⟩;simp only[sR];exact .agg _ ys (by rw[dR];exact hl) fun q a y ha hy=>by
   rw[rZ]at ha;cases h:cs[q]? with
   |none=>simp[h]at ha
   |some a'=>simp[h]at ha;subst ha;exact(ih q a' y h hy).1
 |gY cs ys hl hq ih=>
  refine⟨?_,fun hi=> .gY cs ys hl fun q a y ha hy=>(ih q a y ha hy).2 (bD (by simpa[cH]using hi) q a ha)⟩;simp only[sR];exact .gY _ ys (by rw[dR];exact hl) fun q a y ha hy=>by
   rw[rZ]at ha;cases h:cs[q]? with
   |none=>simp[h]at ha
   |some a'=>simp[h]at ha;subst ha;exact(ih q a' y h hy).1
theorem Cz.read{E:Env}{r:Nat}{t:Tok}{xs:List (List AV)}{x:Value}(h:Cz E (.gs r t xs) x):Cz E (.sl r xs) x:=by
 cases h with
 |vk=>exact .pd _ _ _
 |gs _ _ _ z b c e cells u hc hm h0 ew hz hr hb ef ho gZ hi hu hq=>
  by_cases hp:0<xs.length
  ·have hf:=aH hz
   exact .sl r xs z b 0 c u hp hc hm ew hz hr hi (fun q a dx=>(gZ _).2 (by have:=(bq.1 dx).1;omega)) hu hq
  ·have h0:xs=[]:=List.eq_nil_of_length_eq_zero (by omega)
   subst h0;exact .pd _ _ _
end Ab
namespace Ab
open Go
def look{α:Type}(d:Nat):List (Nat×α)→Option α
 |[]=>none
 |(k,x)::r=>bif dy k d then some x else look d r
def dt{α:Type}(d:Nat)(x:α):List (Nat×α)→List (Nat×α)
 |[]=>[(d,x)]
 |(k,y)::r=>bif dy k d then(d,x)::r else bif tZ d k then(d,x)::(k,y)::r else(k,y)::dt d x r
def del{α:Type}(d:Nat):List (Nat×α)→List (Nat×α)
 |[]=>[]
 |(k,y)::r=>bif dy k d then del d r else(k,y)::del d r
inductive TK where
 |sc|str|int (k:IntKind)|bool
 |slice (e:Nat)
 |dB (fs:List (Nat×Nat))
 |arr (n e:Nat)
 |map (k e:Nat)
structure TI where
 k:TK
 size:Nat
 bytes:Nat
 zero:List Value
 ft:List Nat
abbrev pN:=Nat→Option TI
def TI.agg(i:TI):Bool:=match i.k with| .dB _=>true| .arr _ _=>true|_=>false
structure Pr where
 wrap:IntKind→Int→Int
 add:Int→Int→Int
 sub:Int→Int→Int
 mul:Int→Int→Int
 aS:Int→Int→Bool
 bf:Int→Int→Bool
 rL:Int→Int→Bool
 seq:ByteArray→ByteArray→Bool
 cat:ByteArray→ByteArray→ByteArray
 beq:Bool→Bool→Bool
 not:Bool→Bool
 pick:Bool→Bool→Bool→Bool
 Ts:Int→Int→Int
 imax:Int→Int→Int
 fV:List (List AV)→Nat
 Qp:ByteArray→Nat
 app:List (List AV)→List (List AV)→List (List AV)
 CZ:List (List AV)→Int→Int→List (List AV)
 K8:ByteArray→Int→Int→ByteArray
 flat:List (List AV)→List AV
 chunk:Nat→Nat→List AV→List (List AV)
 rep:Nat→List AV→List (List AV)
 set:List (List AV)→Nat→List AV→List (List AV)
 room:Nat→Nat→Nat→Prop
 within:Int→Int→Prop
 nat:Int→Nat
 Ge:Int→Nat→Prop
 nz:Int→Int→Int→Prop
 nr:Nat→List (List AV)→Prop
 mutual
def uu(r:Nat):AV→Prop
  | .sl q xs=>q≠r∧pA r xs
  | .gs q _ xs=>q≠r∧pA r xs
  | .aX q cs _=>q≠r∧DF r cs
  | .nG q _ xs=>q≠r∧pA r xs
  | .ar _ _ xs=>pA r xs
  | .fn _ cs=>DF r cs
  | .bm _ cs=>DF r cs
  | .agg cs=>DF r cs
  | .gY cs=>DF r cs
  |_=>True
def DF(r:Nat):List AV→Prop
  |[]=>True
  |a::l=>uu r a∧DF r l
def pA(r:Nat):List (List AV)→Prop
  |[]=>True
  |a::l=>DF r a∧pA r l
end
def chunks(z:Nat):Nat→List AV→List (List AV)
 |0,_=>[]
 |n+1,l=>l.take z::chunks z n (l.drop z)
def ak:Pr where
 wrap:=IntKind.wrap
 add:=(· + ·)
 sub:=(· - ·)
 mul:=(· * ·)
 aS:=fun a b=>decide (a=b)
 bf:=fun a b=>decide (a<b)
 rL:=fun a b=>decide (a≤b)
 seq:=fun a b=>decide (a=b)
 cat:=(· ++ ·)
 beq:=fun a b=>a==b
 not:=fun a=> !a
 pick:=fun c a b=>bif c then a else b
 Ts:=fun a b=>if a≤b then a else b
 imax:=fun a b=>if a≤b then b else a
 fV:=List.length
 Qp:=ByteArray.size
 app:=(· ++ ·)
 CZ:=fun xs l h=>(xs.take h.toNat).drop l.toNat
 K8:=fun b l h=>b.extract l.toNat h.toNat
 flat:=List.flatten
 chunk:=chunks
 rep:=List.replicate
 set:=List.set
 room:=fun n m b=>(n+m)*b≤70368744177664∧n+m≤70368744177664
 within:=fun n m=>0≤n∧n<m
 nat:=Int.toNat
 Ge:=fun n b=>0≤n∧n≤9223372036854775807∧n*b≤140737488355328
 nz:=fun l h n=>0≤l∧l≤h∧h≤n
 nr:=pA
inductive Ex where
 |normal
 |exit (id:Nat)
 |ret
inductive LS where
 |rdy
 |busy
 |dn (e:Ex)
 |exh
inductive VK where
 |int (k:IntKind)
 |str
 |bool
inductive OwK where
 |sl (z:Nat)
 |mp (ks:List VK) (st:Option (Nat×Int))
def OwK.z:OwK→Nat
 | .sl z=>z
 | .mp ks _=>ks.length+1
inductive Ob where
 |box (cs:List AV)
 |arr (z:Nat) (xs:List (List AV))
 |ow (p:OwK) (uQ:Option (Nat×Nat)) (xs:List (List AV))
 |lp (n:Nat×Nat) (t:List (Nat×AV)) (ps:List Nat) (pH body:Unit→Code) (st:LS)
structure Fr where
 n:Nat
 t:List (Nat×AV)
abbrev Path:=List (Nat×Bool)
structure St where
 n:Nat
 t:List (Nat×AV)
 b:List (Nat×Ob)
 c:List (Nat×Path)
 g:Nat→Option Ob
 nx:Nat
 up:List Fr:=[]
 fl:Bool:=false
def vU:Path→Path→Bool
 |[],_=>true
 |(d,w)::r,(e,v)::q=>dy d e&&(w==v)&&vU r q
 |_::_,[]=>false
def isB(w:Bool):Option AV→Prop
 |some (.v (.bool g))=>g=w
 |_=>False
def bp(s:St):Path→Prop
 |[]=>True
 |(d,w)::r=>isB w (look d s.t)∧bp s r
def under(s:St)(p:Path)(X:Prop):Prop:=
 match p with
 |[]=>X
 |_=>bp s p→X
def FM(s:St)(p:Path)(d:Nat):AV:=
 match look d s.t with
 |none=> .any
 |some a=>match look d s.c with
  |none=>a
  |some q=>bif vU q p then a else .any
def cd(s:St)(p:Path):Operand→AV
 | .tmp d=>FM s p d
 | .const x=> .v x
 | .func f=> .fn (.func f) []
 | .global _=> .any
def St.put(s:St)(p:Path)(dst:Option Nat)(a:AV):St:=
 match dst with
 |none=>s
 |some d=>{s with t:=dt d a s.t,c:=match p with|[]=>del d s.c|_=>dt d p s.c}
def KM(d:Nat):Path→Bool
 |[]=>false
 |(e,_)::r=>dy e d||KM d r
def Tq(d:Nat):List (Nat×Path)→Bool
 |[]=>false
 |(_,q)::r=>KM d q||Tq d r
def yj(s:St):Option Nat→Bool
 |none=>true
 |some d=>tZ d s.n&& !Tq d s.c
def isBool:Option AV→Bool
 |some (.v (.bool _))=>true
 |_=>false
def cellsOf:AV→List AV
 | .agg cs=>cs
 | .v (.agg cs)=>cs.toList.map .v
 |x=>[x]
def cut(l:List AV)(o n:Nat):List AV:=(l.drop o).take n
def bV(l:List AV)(o:Nat)(cs:List AV):List AV:=l.take o++cs++l.drop (o+cs.length)
def part(i:TI)(cs:List AV)(o:Nat):Option AV:=
 bif oZ (o+i.size) cs.length then
  (bif i.agg then some (.agg (cut cs o i.size))else match cs[o]? with|some a=>some a|none=>none)
 else none
def rd(a:AV):AV:=sR (fun _=>true) a
def gQ:Value:= .slice none 0 0
def iv(T:Tok→Bool):List (Nat×AV)→List (Nat×AV)
 |[]=>[]
 |(d,a)::r=>(d,sR T a)::iv T r
def zo(T:Tok→Bool):Ob→Ob
 | .box cs=> .box (mP T cs)
 | .arr z xs=> .arr z xs
 | .ow p l xs=> .ow p l xs
 | .lp n t ps pH body st=> .lp n (iv T t) ps pH body st
def nU(T:Tok→Bool):List Fr→List Fr
 |[]=>[]
 |f::r=>{n:=f.n,t:=iv T f.t}::nU T r
def gd(T:Tok→Bool):List (Nat×Ob)→List (Nat×Ob)
 |[]=>[]
 |(d,a)::r=>(d,zo T a)::gd T r
def S6:Tok→Bool
 | .n _=>false
 |_=>true
def bC:Tok→Tok→Bool
 | .l d,.l e=>dy d e
 | .c i o,.c j q=>dy i j&&dy o q
 | .n d,.n e=>dy d e
 |_,_=>false
def bin(I:Pr):BinOp→Value→Value→Option Value
 | .add,.int k a,.int k' b=>bif k==k' then some (.int k (I.wrap k (I.add a b)))else none
 | .sub,.int k a,.int k' b=>bif k==k' then some (.int k (I.wrap k (I.sub a b)))else none
 | .mul,.int k a,.int k' b=>bif k==k' then some (.int k (I.wrap k (I.mul a b)))else none
 | .eql,.int k a,.int k' b=>bif k==k' then some (.bool (I.aS a b))else none
 | .neq,.int k a,.int k' b=>bif k==k' then some (.bool (I.not (I.aS a b)))else none
 | .lss,.int k a,.int k' b=>bif k==k' then some (.bool (I.bf a b))else none
 | .gtr,.int k a,.int k' b=>bif k==k' then some (.bool (I.bf b a))else none
 | .leq,.int k a,.int k' b=>bif k==k' then some (.bool (I.rL a b))else none
 | .geq,.int k a,.int k' b=>bif k==k' then some (.bool (I.rL b a))else none
 | .eql,.string a,.string b=>some (.bool (I.seq a b))
 | .neq,.string a,.string b=>some (.bool (I.not (I.seq a b)))
 |_,_,_=>none
def BS:AV→Option Nat
 | .any=>none
 | .ar .. =>none
 | .v x=>some x.cells.size
 | .agg cs=>some cs.length
 | .gY _=>none
 |_=>some 1
def tT:Value→Bool
 | .agg _=>false
 | .tuple _=>false
 |_=>true
def WN:AV→Bool
 | .any=>false
 | .ar .. =>false
 | .v x=>tT x
 | .agg _=>false
 | .gY _=>false
 |_=>true
def rC:List AV→Bool
 |[]=>true
 |a::r=>WN a&&rC r
def cR:List (List AV)→Bool
 |[]=>true
 |l::r=>rC l&&cR r
def IZ(fs:List (Nat×Nat)):List AV→List (Nat×AV)→Option (List AV)
 |cells,[]=>some cells
 |cells,(i,a)::r=>match fs[i]? with
  |none=>none
  |some (o,z)=>match BS a with
   |none=>none
   |some k=>bif dy k z&&oZ (o+z) cells.length then IZ fs (bV cells o (cellsOf a)) r else none
def qi(z:Nat):List AV→List (Nat×AV)→Option (List AV)
 |cells,[]=>some cells
 |cells,(i,a)::r=>match BS a with
   |none=>none
   |some k=>bif dy k z&&oZ (i*z+z) cells.length then qi z (bV cells (i*z) (cellsOf a)) r else none
def iJ(L:pN)(t f:Nat):Option Nat:=
 match L t with
 |some {k:= .dB fs,..}=>match fs[f]? with
  |some (o,z)=>bif dy z 0 then none else some o
  |none=>none
 |_=>none
def amM:AV→Option AV
 | .ptr k off=>some (.ptr k off)
 | .aX r cs off=>some (.aX r cs off)
 | .dc k i off z=>some (.dc k i off z)
 | .nG r z xs=>some (.nG r z xs)
 |_=>none
def WI(o:Nat):AV→Option AV
 | .ptr k off=>some (.ptr k (off+o))
 | .aX r cs off=>some (.aX r cs (off+o))
 | .dc k i off z=>some (.dc k i (off+o) z)
 |_=>none
def WH(s:St)(ti:TI):AV→Option AV
 | .ptr (.s d) off=>match look d s.b with
  |some (.box cs)=>part ti cs off
  |_=>none
 | .aX _ cs off=>part ti cs off
 |_=>none
def amO(I:Pr)(op:BinOp):AV→AV→Option AV
 | .v a,.v b=>match bin I op a b with|some v=>some (.v v)|none=>none
 |_,_=>none
def pUn(I:Pr):UnOp→AV→Option AV
 | .not,.v (.bool b)=>some (.v (.bool (I.not b)))
 |_,_=>none
def MB(i:Nat):AV→Option AV
 | .gY vs=>vs[i]?
 |_=>none
def Pv(L:pN)(t:Nat)(ps:List (Nat×AV)):Option AV:=
 match L t with
 |some {k:= .dB fs,zero,..}=>match IZ fs (zero.map .v) ps with
  |some cs=>some (.agg cs)
  |none=>none
 |some {k:= .arr _ e,zero,..}=>match L e with
  |some ti=>match qi ti.size (zero.map .v) ps with
   |some cs=>some (.agg cs)
   |none=>none
  |none=>none
 |_=>none
def amN(I:Pr):TK→AV→Option AV
 | .slice _,.sl _ xs=>some (.v (.int .i64 (I.fV xs)))
 | .slice _,.gs _ _ xs=>some (.v (.int .i64 (I.fV xs)))
 | .slice _,.jB _ n=>some (.v (.int .i64 n))
 | .str,.v (.string b)=>some (.v (.int .i64 (I.Qp b)))
 | .slice _,.v (.slice _ n _)=>some (.v (.int .i64 n))
 | .arr n _,_=>some (.v (.int .i64 n))
 |_,_=>none
def WG(L:pN)(t f:Nat)(x:AV):Option AV:=
 match L t with
 |some {k:= .dB fs,ft,..}=>(match fs[f]?,ft[f]? with
  |some (o,_),some t'=>(match L t',x with
   |some tj,.agg cs=>part tj cs o
   |_,_=>none)
  |_,_=>none)
 |_=>none
def MC(I:Pr)(L:pN)(b:Builtin)(ts:List Nat)(args:List AV):Option AV:=
 match b,ts,args with
 | .len,[t],[x]=>match L t with
  |some ti=>amN I ti.k x
  |none=>none
 |_,_,_=>none
def tW(I:Pr)(L:pN)(s:St)(p:Path):Op→Option AV
 | .move x=>some (cd s p x)
 | .assign x=>some (cd s p x)
 | .nilCheck x=>amM (cd s p x)
 | .fieldAddr t x f=>match iJ L t f with
  |none=>none
  |some o=>WI o (cd s p x)
 | .load t x=>match L t with
  |none=>none
  |some ti=>WH s ti (cd s p x)
 | .binOp op _ x y _=>amO I op (cd s p x) (cd s p y)
 | .unOp op _ x=>pUn I op (cd s p x)
 | .extract x i=>MB i (cd s p x)
 | .build t parts=>Pv L t (parts.toList.map fun q=>(q.1,cd s p q.2))
 | .field t x f=>WG L t f (cd s p x)
 | .call c=>match c.callee with
  | .builtin b=>MC I L b c.argTypes.toList (c.args.toList.map (cd s p))
  |_=>none
 |_=>none
 mutual
def sb(d:Nat)(F:Nat→AV)(A:Nat→AV):AV→AV
  | .ptr (.s e) off=>bif dy e d then F off else .ptr (.s e) off
  | .jB (.s e) n=>bif dy e d then A n else .jB (.s e) n
  | .dc (.s e) i off z=>bif dy e d then .any else .dc (.s e) i off z
  | .rQ (.s e)=>bif dy e d then .any else .rQ (.s e)
  | .mp (.s e)=>bif dy e d then .any else .mp (.s e)
  | .fn f cs=> .fn f (Sx d F A cs)
  | .agg cs=> .agg (Sx d F A cs)
  | .gY cs=> .gY (Sx d F A cs)
  |a=>a
def Sx(d:Nat)(F:Nat→AV)(A:Nat→AV):List AV→List AV
  |[]=>[]
  |a::r=>sb d F A a::Sx d F A r
end
def OM(d:Nat)(F:Nat→AV)(A:Nat→AV):List (Nat×AV)→List (Nat×AV)
 |[]=>[]
 |(k,a)::r=>(k,sb d F A a)::OM d F A r
def JW(d:Nat)(F:Nat→AV)(A:Nat→AV):List (Nat×Ob)→List (Nat×Ob)
 |[]=>[]
 |(k,.box cs)::r=>(k,.box (Sx d F A cs))::JW d F A r
 |(k,.arr z xs)::r=>(k,.arr z xs)::JW d F A r
 |(k,.ow p l xs)::r=>(k,.ow p l xs)::JW d F A r
 |(k,.lp n t ps pH body st)::r=>(k,.lp n (OM d F A t) ps pH body st)::JW d F A r
def sbU(d:Nat)(F:Nat→AV)(A:Nat→AV):List Fr→List Fr
 |[]=>[]
 |f::r=>{n:=f.n,t:=OM d F A f.t}::sbU d F A r
def shut(ρ d:Nat)(s:St):Option St:=
 match look d s.b with
 |some (.box cs)=>
  let cs':=mP (fun _=>true) cs
  bif cw cs' then
   let F:=fun off=>AV.aX ρ cs' off;let A:=fun _=>AV.any
   some {s with t:=OM d F A s.t,b:=JW d F A (del d s.b),up:=sbU d F A s.up}
  else none
 |some (.arr z xs)=>
   let F:=fun off=>bif dy off 0 then AV.nG ρ z xs else AV.any;let A:=fun n=>AV.sl ρ (xs.take n)
   some {s with t:=OM d F A s.t,b:=JW d F A (del d s.b),up:=sbU d F A s.up}
 |some (.ow (.sl _) _ xs)=>
   let F:=fun _=>AV.any;let A:=fun n=>AV.sl ρ (xs.take n)
   some {s with t:=OM d F A s.t,b:=JW d F A (del d s.b),up:=sbU d F A s.up}
 |some (.ow (.mp ..) ..)=>none
 |some (.lp ..)=>none
 |none=>none
 mutual
def Bk:AV→List Nat
  | .ptr (.s d) _=>[d]
  | .jB (.s d) _=>[d]
  | .dc (.s d) _ _ _=>[d]
  | .rQ (.s d)=>[d]
  | .mp (.s d)=>[d]
  | .fn _ cs=>lB cs
  | .agg cs=>lB cs
  | .gY cs=>lB cs
  |_=>[]
def lB:List AV→List Nat
  |[]=>[]
  |a::r=>Bk a++lB r
end
def kV(ρ:Nat):List Nat→St→Option St
 |[],s=>some s
 |d::r,s=>match look d s.b with
  |none=>kV ρ r s
  |some _=>match shut ρ d s with
   |some s'=>kV ρ r s'
   |none=>none
abbrev bB:=AV→St→Prop
abbrev YH:=Nat→List AV→St→bB→Prop
abbrev qH:=(ρ:Nat)→(f:Nat)→(args:List AV)→(g:Nat→Option Ob)→(nx:Nat)→(r:AV)→(g':Nat→Option Ob)→(jf:Nat)→Prop
inductive Tree where
 |done
 |one (i:Nat) (t:Tree)
 |al (i:Nat) (t:Tree) (more:Tree)
 |nil
structure ey where
 I:Pr
 L:pN
 ρ:Nat
 sh:List Nat
 tree:Nat→Tree
 call:qH
 base:Nat:=0
 op:List Nat:=[]
 uU:Nat→Bool:=fun _=>false
 inl:YH→Nat→List AV→St→bB→Prop:=fun _ _ _ _ _=>False
 CI:YH→Nat→List AV→St→bB→Prop:=fun _ _ _ _ _=>False
 yl:YH:=fun _ _ _ _=>False
 dead:Nat→List Nat:=fun _=>[]
 cl:Nat→Bool:=fun _=>false
 keys:Nat→Option (List VK):=fun _=>none
 eqs:Nat→Option (List VK):=fun _=>none
def N3(d:Nat):List Nat→Bool
 |[]=>false
 |k::r=>dy k d||N3 d r
def I6(op:List Nat):List (Nat×Ob)→List Nat
 |[]=>[]
 |(d,.arr _ _)::r=>bif N3 (d+6000) op then I6 op r else d::I6 op r
 |_::r=>I6 op r
def zq:AV→Option (Nat×List (List AV))
 | .sl r xs=>some (r,xs)
 | .gs r _ xs=>some (r,xs)
 | .v (.slice none 0 0)=>some (0,[])
 |_=>none
def elemOf(L:pN)(t:Nat):Option (Nat×TI):=
 match L t with
 |some {k:= .slice e,..}=>match L e with
  |some ti=>some (e,ti)
  |none=>none
 |_=>none
def adU(I:Pr)(c:AV)(a b:AV):Option AV:=
 match c,a,b with
 | .v (.bool g),.v (.bool x),.v (.bool y)=>some (.v (.bool (I.pick g x y)))
 |_,_,_=>none
def U5:Operand→Option Nat
 | .tmp d=>some d
 |_=>none
def Kw(C:ey)(s:St)(d:Nat)(cs:List AV)(K:AV→St→Prop):Prop:=
 bif N3 d C.sh then
  False
 else
  match look (C.base+d) s.b with
  |none=>K (.ptr (.s (C.base+d)) 0) {s with b:=dt (C.base+d) (.box cs) s.b}
  |some _=>False
def UI(C:ey)(p:Path)(c a b:Operand)(s:St)(K:bB):Prop:=
 match U5 c with
 |none=>False
 |some d=>match adU C.I (cd s p c) (cd s (p++[(d,true)]) a) (cd s (p++[(d,false)]) b)with
  |some x=>K x s
  |none=>False
def afe(C:ey)(d:Nat)(a:AV)(s:St)(K:bB):Prop:=
 match BS a with
 |some _=>Kw C s d (cellsOf a) K
 |none=>False
def Ou(C:ey)(d e:Nat)(s:St)(K:bB):Prop:=
 match C.L e with
 |some ti=>match ti.k with
  | .arr n e'=>match C.L e',look (C.base+d) s.b with
   |some Oz,none=>bif dy (n*Oz.size) ti.size&&(oZ 1 Oz.size&&oZ n 1048576)then∃zs,(ti.zero=(List.replicate n Oz.zero).flatten∧C.I.rep n (Oz.zero.map .v)=zs)∧K (.ptr (.s (C.base+d)) 0) {s with b:=dt (C.base+d) (.arr Oz.size zs) s.b}else False
   |_,_=>False
  |_=>Kw C s d (ti.zero.map .v) K
 |none=>False
def rn(I:Pr)(ti:TI)(d off:Nat)(a:AV)(s:St)(K:bB):Prop:=
 match look d s.b with
 |some (.box cs)=>bif oZ (off+ti.size) cs.length then(match a with
  | .gs r t xs=>S6 t=true∧K .any {s with t:=iv (bC t) s.t,up:=nU (bC t) s.up,b:=dt d (.box (bV (mP (bC t) cs) off [.gs r (.c d off) xs])) (gd (bC t) s.b)}
  |a=>K .any {s with b:=dt d (.box (bV cs off (cellsOf a))) s.b})else False
 |some (.arr z xs)=>match ti.k with
  | .arr n _=>off=0∧I.fV xs=n∧n*z=ti.size∧cw (cellsOf (rd a))=true∧K .any {s with b:=dt d (.arr z (I.chunk z n (cellsOf (rd a)))) s.b}
  |_=>False
 |_=>False
def AL(I:Pr)(ti:TI)(d i off z:Nat)(a:AV)(s:St)(K:bB):Prop:=
 match look d s.b with
 |some (.arr z' xs)=> ∃cs,z=z'∧xs[i]? =some cs∧off+ti.size≤z∧cw (cellsOf (rd a))=true∧K .any {s with b:=dt d (.arr z (I.set xs i (bV cs off (cellsOf (rd a))))) s.b}
 |_=>False
def JA(C:ey)(t:Nat)(x a:AV)(s:St)(K:bB):Prop:=
 match C.L t,BS a with
 |some ti,some k=>k=ti.size∧rC (cellsOf a)=true∧
   (match x with
   | .ptr (.s d) off=>rn C.I ti d off a s K
   | .dc (.s d) i off z=>AL C.I ti d i off z a s K
   |_=>False)
 |_,_=>False
def QO(C:ey)(p:Path)(t:Nat)(x:AV)(s:St)(K:bB):Prop:=
 match C.L t with
 |none=>False
 |some ti=>match x with
  | .nG _ z xs=>match ti.k with
   | .arr n _=>(C.I.fV xs=n∧n*z=ti.size)∧K (.ar n z xs) s
   |_=>False
  | .ptr (.o i) off=> ∃cs a,under s p (s.g i=some (.box cs))∧part ti cs off=some a∧K a s
  | .ptr (.s d) off=>match look d s.b with
   |some (.arr z xs)=>match ti.k with
    | .arr n _=>(off=0∧under s p (C.I.fV xs=n)∧n*z=ti.size)∧K (.ar n z xs) s
    |_=>False
   |_=>False
  | .dc (.s d) i off z=>match look d s.b with
   |some (.arr z' xs)=> ∃cs a,z=z'∧under s p (xs[i]? =some cs)∧part ti cs off=some a∧K a s
   |some (.ow (.sl z') _ xs)=> ∃cs a,z=z'∧under s p (xs[i]? =some cs)∧part ti cs off=some a∧K a s
   |_=>False
  |_=>False
def UJ(C:ey)(p:Path)(t:Nat)(n:Int)(x:AV)(s:St)(K:bB):Prop:=
 match x with
 | .jB k m=>match elemOf C.L t with
  |some (_,ti)=>under s p (C.I.within n m)∧K (.dc k (C.I.nat n) 0 ti.size) s
  |none=>False
 | .ptr (.s d) off=>match C.L t,look d s.b with
  |some ti,some (.arr z xs)=>match ti.k with
   | .arr m e=>match C.L e with
    |some tj=>off=0∧z=tj.size∧under s p (C.I.within n m)∧K (.dc (.s d) (C.I.nat n) 0 z) s
    |none=>False
   |_=>False
  |_,_=>False
 |a=>match zq a,elemOf C.L t with
  |some (r,xs),some (_,ti)=> ∃cs,under s p (0≤n∧xs[n.toNat]? =some cs∧cs.length=ti.size)∧K (.aX r cs 0) s
  |_,_=>False
def intOf:AV→Option Int
 | .v (.int _ n)=>some n
 |_=>none
def isStr(L:pN)(t:Nat):Bool:=match L t with|some ti=>(match ti.k with| .str=>true|_=>false)|none=>false
def JD(C:ey)(p:Path)(t:Nat)(n:Int)(x:AV)(s:St)(K:bB):Prop:=
 match x with
 | .v (.string b)=>bif isStr C.L t then∃c:UInt8,under s p (0≤n∧b[n.toNat]? =some c)∧K (.v (.int .u8 c.toNat)) s else False
 | .agg cs=>match C.L t with
  |some ti=>match ti.k with
   | .arr m e=>match C.L e with
    |some tj=>bif dy tj.size 1&& !tj.agg then∃a,under s p (0≤n∧n<m∧cs[n.toNat]? =some a)∧K a s else False
    |none=>False
   |_=>False
  |none=>False
 |_=>False
def tl(C:ey)(p:Path)(t len d:Nat)(parts:List (Nat×Operand))(s:St)(K:bB):Prop:=
 match elemOf C.L t with
 |some (_,ti)=>match kV C.ρ (lB (parts.map fun q=>cd s p q.2)) s with
  |some s1=>match qi ti.size ((List.replicate len (ti.zero.map AV.v)).flatten) (parts.map fun q=>(q.1,rd (cd s1 p q.2)))with
   |some cs=>bif cw cs&&(oZ 1 ti.size&&oZ (len*ti.size) 16777216)then K (.gs C.ρ (.l (C.base+d)) (chunks ti.size len cs)) {s1 with t:=iv (bC (.l (C.base+d))) s1.t,b:=gd (bC (.l (C.base+d))) s1.b,up:=nU (bC (.l (C.base+d))) s1.up}else False
   |none=>False
  |none=>False
 |none=>False
def closed(base:Nat)(op:List Nat):List Nat→List Nat
 |[]=>[]
 |d::r=>bif oZ base d&& !N3 (d - base) op then d::closed base op r else closed base op r
def UK(C:ey)(p:Path)(f:Fn)(cap:List Operand)(s:St)(K:bB):Prop:=
 match kV C.ρ (closed C.base C.op (lB (cap.map (cd s p)))) s with
 |some s1=>K (.fn f (cap.map fun x=>rd (cd s1 p x))) s1
 |none=>False
def QN(C:ey)(t d:Nat)(n m:Int)(s:St)(K:bB):Prop:=
 match elemOf C.L t,look (C.base+d) s.b with
 |some (_,ti),none=>1≤ti.size∧n=m∧C.I.Ge n ti.bytes∧K (.jB (.s (C.base+d)) n.toNat) {s with b:=dt (C.base+d) (.arr ti.size (C.I.rep n.toNat (ti.zero.map .v))) s.b}
 |_,_=>False
def kE(s:St)(p:Path)(au8:Int):Option Operand→Option Int
 |none=>some au8
 |some y=>intOf (cd s p y)
def Cc(C:ey)(p:Path)(t:Nat)(lo hi:Option Operand)(x:AV)(s:St)(K:bB):Prop:=
 match x with
 | .v (.string b)=>bif isStr C.L t then
   (match kE s p 0 lo,kE s p (C.I.Qp b) hi with
   |some l,some h=>under s p (C.I.nz l h (C.I.Qp b))∧K (.v (.string (C.I.K8 b l h))) s
   |_,_=>False)
  else False
 | .jB k m=>match elemOf C.L t,lo,kE s p m hi with
  |some _,none,some h=>under s p (C.I.nz 0 h m)∧K (.jB k h.toNat) s
  |_,_,_=>False
 | .ptr (.s d) off=>match C.L t,look d s.b with
  |some ti,some (.arr z xs)=>match ti.k with
   | .arr m e=>match C.L e,lo,kE s p m hi with
    |some _,none,some h=>off=0∧C.I.fV xs=m∧m≤1048576∧under s p (C.I.nz 0 h m)∧K (.jB (.s d) h.toNat) s
    |_,_,_=>False
   |_=>False
  |_,_=>False
 |a=>match zq a,elemOf C.L t with
  |some (r,xs),some (_,ti)=>match kE s p 0 lo,kE s p (C.I.fV xs) hi with
   |some l,some h=>under s p (C.I.nz l h (C.I.fV xs)∧ ∀cs∈xs,cs.length=ti.size)∧K (.sl r (C.I.CZ xs l h)) s
   |_,_=>False
  |_,_=>False
def nN(_:Tok):Bool:=false
def snap(ρ:Nat)(b:List (Nat×Ob)):AV→AV
 | .jB (.s d) n=>match look d b with
  |some (.arr _ xs)=> .sl ρ (xs.take n)
  |_=> .jB (.s d) n
 | .ptr (.s d) off=>match look d b with
  |some (.box cs)=>bif cw (mP (fun _=>true) cs)then .aX ρ (mP (fun _=>true) cs) off else .ptr (.s d) off
  |some (.arr z xs)=>bif dy off 0 then .nG ρ z xs else .ptr (.s d) off
  |_=> .ptr (.s d) off
 |a=>a
def AN(ρ:Nat)(b:List (Nat×Ob)):AV→AV
 | .fn f cs=> .fn f (cs.map (snap ρ b))
 | .agg cs=> .agg (cs.map (snap ρ b))
 |a=>snap ρ b a
def wFn(C:ey)(p:Path)(f:AV)(args:List AV)(s:St)(K:bB):Prop:=
 match f with
 | .fn (.func k) cap=>match p with
  |[]=>bif C.uU k then C.inl C.yl k (args++cap) s K
   else bif cw (args++cap)then∃r g' jf,C.call C.ρ k (args++cap) s.g s.nx r g' jf∧K r {s with t:=iv nN s.t,b:=gd nN s.b,up:=nU nN s.up,g:=g',nx:=jf}
   else(∀ρ,cw ((args++cap).map (AN ρ s.b))=true)∧ ∃r g' jf,(∀ρ,C.call C.ρ k ((args++cap).map (AN ρ s.b)) s.g s.nx r g' jf)∧K r {s with t:=iv nN s.t,b:=gd nN s.b,up:=nU nN s.up,g:=g',nx:=jf}
  |_=>bif cw (args++cap)then∃r,(bp s p→C.call C.ρ k (args++cap) s.g s.nx r s.g s.nx)∧K r {s with t:=iv nN s.t,b:=gd nN s.b,up:=nU nN s.up}
   else(∀ρ,cw ((args++cap).map (AN ρ s.b))=true)∧ ∃r,(bp s p→ ∀ρ,C.call C.ρ k ((args++cap).map (AN ρ s.b)) s.g s.nx r s.g s.nx)∧K r {s with t:=iv nN s.t,b:=gd nN s.b,up:=nU nN s.up}
 | .rQ (.s d)=>match p with
  |[]=>C.yl d args s K
  |_=>False
 | .bm (.func k) cs=>match p with
  |[]=>bif cw (cs++args)then∃r g' jf,C.call C.ρ k (cs++args) s.g s.nx r g' jf∧K r {s with t:=iv nN s.t,b:=gd nN s.b,up:=nU nN s.up,g:=g',nx:=jf}else False
  |_=>False
 |_=>False
def RX(C:ey)(ti:TI)(n:Nat)(ys:List (List AV)):Prop:=C.I.room n (C.I.fV ys) ti.bytes∧oZ 1 ti.size=true∧cR ys=true∧ ∀l∈ys,l.length=ti.size
def EJ(C:ey)(t d:Nat)(x y:AV)(s:St)(K:bB):Prop:=
 match elemOf C.L t,zq y with
 |some (_,ti),some (_,ys)=>match x with
  | .gs r k xs=>S6 k=true∧RX C ti (C.I.fV xs) ys∧(∀l∈xs,l.length=ti.size)∧
    K (.gs r (.l (C.base+d)) (C.I.app xs ys)) {s with t:=iv (fun q=>bC (.l (C.base+d)) q||bC k q) s.t,b:=gd (fun q=>bC (.l (C.base+d)) q||bC k q) s.b,up:=nU (fun q=>bC (.l (C.base+d)) q||bC k q) s.up}
  | .v (.slice none 0 0)=>RX C ti 0 ys∧K (.gs C.ρ (.l (C.base+d)) ys) {s with t:=iv (bC (.l (C.base+d))) s.t,b:=gd (bC (.l (C.base+d))) s.b,up:=nU (bC (.l (C.base+d))) s.up}
  |_=>False
 |_,_=>False
def xIdx(C:ey)(p:Path)(t:Nat)(n:Int)(x:AV)(s:St)(K:bB):Prop:=
 match x with
 | .jB k m=>match elemOf C.L t with
  |some (_,ti)=> ∃j,under s p (C.I.within n m∧C.I.nat n=j)∧K (.dc k j 0 ti.size) s
  |none=>False
 | .ptr (.s d) off=>match C.L t,look d s.b with
  |some ti,some (.arr z xs)=>match ti.k with
   | .arr m e=>match C.L e with
    |some tj=> ∃j,(off=0∧z=tj.size∧under s p (C.I.within n m∧C.I.nat n=j))∧K (.dc (.s d) j 0 z) s
    |none=>False
   |_=>False
  |_,_=>False
 | .nG r z xs=>match C.L t with
  |some ti=>match ti.k with
   | .arr m e=>match C.L e with
    |some tj=> ∃cs,(C.I.fV xs=m∧z=tj.size∧under s p (0≤n∧xs[n.toNat]? =some cs))∧K (.aX r cs 0) s
    |none=>False
   |_=>False
  |none=>False
 |a=>UJ C p t n a s K
def alZ(I:Pr)(ti:TI)(xs:List (List AV))(i off z z':Nat)(cs1:List AV)(zs:List (List AV)):Prop:=
 ∃cs,z=z'∧xs[i]? =some cs∧off+ti.size≤z∧cw cs1=true∧I.set xs i (bV cs off cs1)=zs
def Jk(I:Pr)(ti:TI)(d off:Nat)(a:AV)(s:St)(K:bB):Prop:=
 match look d s.b with
 |some (.arr z xs)=>match ti.k with
  | .arr n _=> ∃zs,(off=0∧I.fV xs=n∧n*z=ti.size∧cw (cellsOf (rd a))=true∧I.chunk z n (cellsOf (rd a))=zs)∧K .any {s with b:=dt d (.arr z zs) s.b}
  |_=>False
 |_=>rn I ti d off a s K
def Jl(I:Pr)(ti:TI)(d i off z:Nat)(a:AV)(s:St)(K:bB):Prop:=
 match look d s.b with
 |some (.arr z' xs)=> ∃zs,alZ I ti xs i off z z' (cellsOf (rd a)) zs∧K .any {s with b:=dt d (.arr z zs) s.b}
 |_=>False
def Jm(C:ey)(t:Nat)(x a:AV)(s:St)(K:bB):Prop:=
 match C.L t,BS a with
 |some ti,some k=>k=ti.size∧rC (cellsOf a)=true∧
   (match x with
   | .ptr (.s d) off=>Jk C.I ti d off a s K
   | .dc (.s d) i off z=>Jl C.I ti d i off z a s K
   |_=>False)
 |_,_=>False
def Fc(C:ey)(t:Nat)(x:AV)(n z:Nat)(ys:List (List AV))(s:St)(K:bB):Prop:=
 match C.L t,x with
 |some ti,.ptr (.s d) off=>match ti.k,look d s.b with
  | .arr m _,some (.arr z' xs)=>(off=0∧z'=z∧n=m∧C.I.fV xs=m∧m*z=ti.size∧cR ys=true)∧K .any {s with b:=dt d (.arr z ys) s.b}
  |_,_=>False
 |_,_=>False
def aiB:Option Ob→Bool
 |some (.ow ..)=>true
 |_=>false
def Jn(C:ey)(t:Nat)(x a:AV)(s:St)(K:bB):Prop:=
 match a with
 | .ar n z ys=>Fc C t x n z ys s K
 |a=>Jm C t x a s K
def ae1(C:ey)(d:Nat)(a:AV)(s:St)(K:bB):Prop:=
 match a with
 | .ar n z xs=>match look (C.base+d) s.b with
  |none=>(1≤z∧n≤1048576)∧K (.ptr (.s (C.base+d)) 0) {s with b:=dt (C.base+d) (.arr z xs) s.b}
  |some _=>False
 |a=>afe C d a s K
def QM:AV→AV→Prop
 |_,.any=>True
 | .v (.slice none 0 0),.gs _ _ xs=>xs=[]
 | .v (.slice none 0 0),.sl _ xs=>xs=[]
 | .gs r _ xs,.sl r' xs'=>r=r'∧xs=xs'
 |a,b=>a=b
def wks:List AV→List AV→Prop
 |[],[]=>True
 |a::r,b::q=>QM a b∧wks r q
 |_,_=>False
def wkL:List (List AV)→List (List AV)→Prop
 |[],[]=>True
 |a::r,b::q=>(wks a b∧cw b=true)∧wkL r q
 |_,_=>False
def Qq(xs zs:List (List AV)):Prop:= ∃ws,wkL xs ws∧ws=zs
def xk(C:ey)(p:Path)(t len d:Nat)(parts:List (Nat×Operand))(s:St)(K:bB):Prop:=
 match elemOf C.L t with
 |some (_,ti)=>match kV C.ρ (lB (parts.map fun q=>cd s p q.2)) s with
  |some s1=>match qi ti.size ((List.replicate len (ti.zero.map AV.v)).flatten) (parts.map fun q=>(q.1,rd (cd s1 p q.2)))with
   |some cs=>bif cw cs&&(oZ 1 ti.size&&oZ (len*ti.size) 16777216)then∃zs,Qq (chunks ti.size len cs) zs∧K (.gs C.ρ (.l (C.base+d)) zs) {s1 with t:=iv (bC (.l (C.base+d))) s1.t,b:=gd (bC (.l (C.base+d))) s1.b,up:=nU (bC (.l (C.base+d))) s1.up}else False
   |none=>False
  |none=>False
 |none=>False
def Js(C:ey)(t len d:Nat)(parts:List (Nat×Operand))(s:St)(K:bB):Prop:=
 match elemOf C.L t,look (C.base+d) s.b with
 |some (_,ti),none=>match qi ti.size ((List.replicate len (ti.zero.map AV.v)).flatten) (parts.map fun q=>(q.1,rd (cd s [] q.2)))with
   |some cs=>bif cw cs&&(oZ 1 ti.size&&oZ (len*ti.size) 16777216)then∃zs,Qq (chunks ti.size len cs) zs∧K (.jB (.s (C.base+d)) len) {s with b:=dt (C.base+d) (.arr ti.size zs) s.b}else False
   |none=>False
 |_,_=>False
def am6(C:ey)(ti:TI)(n m:Int)(xs:List (List AV))(j:Nat):Prop:=1≤ti.size∧n=m∧C.I.Ge n ti.bytes∧C.I.rep n.toNat (ti.zero.map .v)=xs∧n.toNat=j
def Ux(C:ey)(t d:Nat)(n m:Int)(s:St)(K:bB):Prop:=
 match elemOf C.L t,look (C.base+d) s.b with
 |some (_,ti),none=> ∃xs j,am6 C ti n m xs j∧K (.jB (.s (C.base+d)) j) {s with b:=dt (C.base+d) (.arr ti.size xs) s.b}
 |_,_=>False
def Of(C:ey)(p:Path)(t:Nat)(lo hi:Option Operand)(x:AV)(s:St)(K:bB):Prop:=
 match x with
 | .v (.string b)=>bif isStr C.L t then
   (match kE s p 0 lo,kE s p (C.I.Qp b) hi with
   |some l,some h=> ∃b',under s p (C.I.nz l h (C.I.Qp b)∧C.I.K8 b l h=b')∧K (.v (.string b')) s
   |_,_=>False)
  else False
 | .jB k m=>match elemOf C.L t,lo,kE s p m hi with
  |some _,none,some h=> ∃j,under s p (C.I.nz 0 h m∧h.toNat=j)∧K (.jB k j) s
  |_,_,_=>False
 | .ptr (.s d) off=>match C.L t,look d s.b with
  |some ti,some (.arr z xs)=>match ti.k with
   | .arr m e=>match C.L e,lo,kE s p m hi with
    |some _,none,some h=> ∃j,(off=0∧C.I.fV xs=m∧m≤1048576∧under s p (C.I.nz 0 h m∧h.toNat=j))∧K (.jB (.s d) j) s
    |_,_,_=>False
   |_=>False
  |_,_=>False
 | .nG r z xs=>match C.L t with
  |some ti=>match ti.k with
   | .arr m e=>match C.L e,kE s p 0 lo,kE s p m hi with
    |some tj,some l,some h=> ∃zs,((C.I.fV xs=m∧m≤1048576∧z=tj.size)∧oZ 1 z=true∧under s p (C.I.nz l h m∧C.I.CZ xs l h=zs))∧K (.sl r zs) s
    |_,_,_=>False
   |_=>False
  |none=>False
 |a=>match zq a,elemOf C.L t with
  |some (r,xs),some (_,ti)=>match kE s p 0 lo,kE s p (C.I.fV xs) hi with
   |some l,some h=> ∃zs,under s p ((C.I.nz l h (C.I.fV xs)∧ ∀cs∈xs,cs.length=ti.size)∧C.I.CZ xs l h=zs)∧K (.sl r zs) s
   |_,_=>False
  |_,_=>False
def YB(C:ey)(ti:TI)(xs ys zs:List (List AV)):Prop:=RX C ti (C.I.fV xs) ys∧(∀l∈xs,l.length=ti.size)∧C.I.app xs ys=zs
def Jt(C:ey)(t d:Nat)(x y:AV)(s:St)(K:bB):Prop:=
 match elemOf C.L t,zq y with
 |some (_,ti),some (_,ys)=>match x with
  | .gs r k xs=>S6 k=true∧ ∃zs,YB C ti xs ys zs∧
    K (.gs r (.l (C.base+d)) zs) {s with t:=iv (fun q=>bC (.l (C.base+d)) q||bC k q) s.t,b:=gd (fun q=>bC (.l (C.base+d)) q||bC k q) s.b,up:=nU (fun q=>bC (.l (C.base+d)) q||bC k q) s.up}
  | .v (.slice none 0 0)=> ∃zs,YB C ti [] ys zs∧K (.gs C.ρ (.l (C.base+d)) zs) {s with t:=iv (bC (.l (C.base+d))) s.t,b:=gd (bC (.l (C.base+d))) s.b,up:=nU (bC (.l (C.base+d))) s.up}
  |_=>False
 |_,_=>False
def eJ(ρ:Nat):AV→AV
 | .v (.slice none 0 0)=> .sl ρ []
 |a=>a
def cv(ρ:Nat):List AV→List AV
 |[]=>[]
 |a::r=>eJ ρ a::cv ρ r
def isV:AV→Bool
 | .v _=>true
 |_=>false
def TX:List AV→Bool
 |[]=>true
 |a::r=>isV a&&TX r
def lP:Nat→AV:=fun _=> .any
def goO(r n:Nat)(b:Nat)(xs:List (List AV))(row:List AV)(C:ey)(zs:List (List AV))(n':Nat):Prop:=
 C.I.room n 1 b∧C.I.fV xs=n∧C.I.app xs [row]=zs∧C.I.fV zs=n'
def UA(C:ey)(t d:Nat)(x y:AV)(s:St)(K:bB):Prop:=
 match elemOf C.L t,zq y with
 |some (_,ti),some (r,[cs])=>bif TX cs&&(dy cs.length ti.size&&(oZ 1 ti.size&&rC cs))then
   (match x with
   | .v (.slice none 0 0)=>(match look (C.base+d) s.b with
    |none=>C.I.room 0 1 ti.bytes∧ ∃zs n',([cv r cs]=zs∧C.I.fV zs=n')∧K (.jB (.s (C.base+d)) n') {s with b:=dt (C.base+d) (.ow (.sl ti.size) none zs) s.b}
    |some _=>False)
   | .jB (.s k) n=>bif dy k (C.base+d)then
    (match look k s.b with
    |some (.ow (.sl z) none xs)=>z=ti.size∧ ∃zs n',goO r n ti.bytes xs (cv r cs) C zs n'∧
      K (.jB (.s k) n') {s with t:=OM k lP lP s.t,b:=dt k (.ow (.sl z) none zs) (JW k lP lP (del k s.b)),up:=sbU k lP lP s.up}
    |_=>False)else False
   |_=>False)else False
 |_,_=>False
def Uy(C:ey)(t d:Nat)(x:AV)(s:St)(K:bB):Prop:=
 match C.L t,x with
 |some ti,.dc (.s k) i off z=>match ti.k,look k s.b with
  | .slice _,some (.ow (.sl z') none xs)=> ∃cs r ys,(z=z'∧xs[i]? =some cs∧cs[off]? =some (.sl r ys)∧ti.size=1)∧
    K (.gs r (.l (C.base+d)) ys) {s with t:=iv (bC (.n k)) s.t,b:=dt k (.ow (.sl z') (some (i,off)) xs) (gd (bC (.n k)) s.b),up:=nU (bC (.n k)) s.up}
  |_,_=>False
 |_,_=>False
def apm(C:ey)(xs:List (List AV))(i j off aaY r:Nat)(ys zs:List (List AV)):Prop:=
 i=j∧off=aaY∧ ∃cs,xs[i]? =some cs∧off<cs.length∧C.I.set xs i (bV cs off [.sl r ys])=zs
def QJ(C:ey)(d i off z r:Nat)(t:Tok)(ys:List (List AV))(s:St)(K:bB):Prop:=
 match look d s.b with
 |some (.ow (.sl z') (some (j,aaY)) xs)=>S6 t=true∧z=z'∧ ∃zs,apm C xs i j off aaY r ys zs∧
   K .any {s with t:=iv (bC t) s.t,b:=dt d (.ow (.sl z') none zs) (gd (bC t) s.b),up:=nU (bC t) s.up}
 |_=>False
def pj:List VK→List AV→Bool
 |[],[]=>true
 | .int k::r,.v (.int k' _)::q=>(k==k')&&pj r q
 | .str::r,.v (.string _)::q=>pj r q
 | .bool::r,.v (.bool _)::q=>pj r q
 |_,_=>false
def M4:AV→Bool
 | .v x=>tT x
 | .agg cs=>oZ 2 cs.length
 |_=>false
def DR(ks:List VK)(k:AV):Bool:=M4 k&&pj ks (cellsOf k)
def zE(xs:List (List AV))(kc:List AV):Option Nat→Prop
 |some i=> ∃row,xs[i]? =some row∧row.take kc.length=kc∧ ∀j SB,j<i→xs[j]? =some SB→SB.take kc.length≠kc
 |none=> ∀row∈xs,row.take kc.length≠kc
def CF(C:ey)(t:Nat):Option (List VK×Nat×Nat×TI):=
 match C.L t with
 |some {k:= .map k e,..}=>match C.keys k,C.L e with
  |some ks,some ti=>some (ks,k,e,ti)
  |_,_=>none
 |_=>none
def am9(xs:List (List AV))(kc:List AV)(z a:AV):Prop:=
 (∃i row a0,zE xs kc (some i)∧xs[i]? =some row∧row[kc.length]? =some a0∧QM a0 a)∨(zE xs kc none∧QM z a)
def Jo(C:ey)(p:Path)(t:Nat)(m k:AV)(s:St)(K:bB):Prop:=
 match CF C t,m with
 |some (ks,_,_,ti),.mp (.s d)=>match look d s.b,ti.zero with
  |some (.ow (.mp Uf none) none xs),[z]=>bif DR ks k&&(!ti.agg&&tT z)then
    ∃a,(ks=Uf∧ti.size=1∧cH a=true∧under s p (am9 xs (cellsOf k) (.v z) a))∧K a s else False
  |_,_=>False
 |_,_=>False
def Ff(C:ey)(t d:Nat)(s:St)(K:bB):Prop:=
 match CF C t,look (C.base+d) s.b with
 |some (ks,_,_,_),none=> ∃zs,([]:List (List AV))=zs∧K (.mp (.s (C.base+d))) {s with b:=dt (C.base+d) (.ow (.mp ks none) none zs) s.b}
 |_,_=>False
def Jp(C:ey)(t:Nat)(m k v:AV)(s:St)(K:bB):Prop:=
 match CF C t,m with
 |some (ks,_,_,ti),.mp (.s d)=>match look d s.b with
  |some (.ow (.mp Uf none) none xs)=>bif DR ks k&&(isV v&&WN v)then
    ∃zs,(ks=Uf∧zE xs (cellsOf k) none∧C.I.app xs [cellsOf k++[v]]=zs)∧K .any {s with b:=dt d (.ow (.mp Uf none) none zs) s.b}else False
  |_=>False
 |_,_=>False
def aoO(C:ey)(r0:Nat)(xs:List (List AV))(kc:List AV)(zs:List (List AV))(i r:Nat)(ys:List (List AV)):Prop:=
 (zE xs kc (some i)∧xs=zs∧ ∃row,xs[i]? =some row∧row[kc.length]? =some (.sl r ys))∨(zE xs kc none∧C.I.app xs [kc++[.sl r0 []]]=zs∧C.I.fV xs=i∧r=r0∧ys=[])
def Oh(C:ey)(t d:Nat)(m k:AV)(s:St)(K:bB):Prop:=
 match CF C t,m with
 |some (ks,_,_,ti),.mp (.s q)=>match ti.k,look q s.b with
  | .slice _,some (.ow (.mp Uf none) none xs)=>bif DR ks k then
    ∃zs i r ys,(ks=Uf∧ti.size=1∧ti.zero=[gQ]∧aoO C C.ρ xs (cellsOf k) zs i r ys)∧ ∀z:Int,
     K (.gY [.gs r (.l (C.base+d)) ys,.v (.int .i64 z)]) {s with t:=iv (bC (.n q)) s.t,b:=dt q (.ow (.mp Uf (some (i,z))) (some (i,Uf.length)) zs) (gd (bC (.n q)) s.b),up:=nU (bC (.n q)) s.up}else False
  |_,_=>False
 |_,_=>False
def aoQ(C:ey)(kz:Nat)(xs:List (List AV))(i j:Nat)(z z':Int)(r:Nat)(ys zs:List (List AV)):Prop:=
 i=j∧z=z'∧ ∃cs,xs[i]? =some cs∧C.I.set xs i (bV cs kz [.sl r ys])=zs
def zJ(C:ey)(m st v:AV)(s:St)(K:bB):Prop:=
 match m,st,v with
 | .mp (.s q),.v (.int .i64 z),.gs r t ys=>match look q s.b with
  |some (.ow (.mp ks (some (i,z'))) (some (j,off)) xs)=>S6 t=true∧off=ks.length∧ ∃zs,aoQ C ks.length xs i j z z' r ys zs∧
    K .any {s with t:=iv (bC t) s.t,b:=dt q (.ow (.mp ks none) none zs) (gd (bC t) s.b),up:=nU (bC t) s.up}
  |_=>False
 |_,_,_=>False
def Dm:AV→Option (List AV)
 | .agg cs=>some cs
 | .ar _ _ xs=>some xs.flatten
 |_=>none
def ajr(x y:AV)(b:Bool):Prop:= ∃xs ys,Dm x=some xs∧Dm y=some ys∧(b=true↔xs=ys)
def tI(C:ey)(t:Nat)(x:AV):Prop:=
 match C.eqs t,x with
 |some ks,.agg cs=>pj ks cs=true
 |some ks,.ar _ _ xs=>pj ks xs.flatten=true
 |_,_=>False
def xEq(C:ey)(p:Path)(neg:Bool)(t:Nat)(x y:AV)(s:St)(K:bB):Prop:=
 ∃b:Bool,under s p (tI C t x∧tI C t y∧ajr x y b)∧K (.v (.bool (bif neg then C.I.not b else b))) s
def yJ(L:pN)(t:Nat):Bool:=match L t with
 |some ti=>(match ti.k with| .bool=>true|_=>false)
 |none=>false
def uT(L:pN)(t:Nat):Bool:=match L t with
 |some ti=>(match ti.k with| .slice _=>true|_=>false)
 |none=>false
def Sa(C:ey)(p:Path)(neg:Bool)(t:Nat)(x y:AV)(s:St)(K:bB):Prop:=
 match x,y with
 | .v (.bool a),.v (.bool b)=>bif yJ C.L t then K (.v (.bool (bif neg then C.I.not (C.I.beq a b)else C.I.beq a b))) s else False
 | .sl _ xs,.v (.slice none 0 0)=>bif uT C.L t then∀b:Bool,under s p (b=true→C.I.fV xs=0)→K (.v (.bool (bif neg then C.I.not b else b))) s else False
 |x,y=>xEq C p neg t x y s K
def Jj(C:ey)(t:Nat)(x a:AV)(s:St)(K:bB):Prop:=
 match x,a with
 | .dc (.s d) i off z,.gs r tk ys=>bif aiB (look d s.b)then(match C.L t with
   |some ti=>ti.size=1∧QJ C d i off z r tk ys s K
   |none=>False)else Jn C t x a s K
 |_,_=>Jn C t x a s K
def aoX(I:Pr)(ti:TI)(z n:Nat)(xs ys zs:List (List AV))(j:Int):Prop:=
 z=ti.size∧cR ys=true∧(∀l∈ys,l.length=ti.size)∧I.Ts (I.fV ys) n=j∧I.app (I.CZ ys 0 j) (I.CZ xs j (I.fV xs))=zs
def Uz(C:ey)(t:Nat)(x y:AV)(s:St)(K:bB):Prop:=
 match elemOf C.L t,x,zq y with
 |some (_,ti),.jB (.s d) n,some (_,ys)=>match look d s.b with
  |some (.arr z xs)=> ∃zs j,aoX C.I ti z n xs ys zs j∧K (.v (.int .i64 j)) {s with b:=dt d (.arr z zs) s.b}
  |_=>False
 |_,_,_=>False
def Bz(C:ey)(k:Nat):Option Nat→Bool
 |some d=>N3 (d+k) C.op
 |none=>false
def noI(C:ey)(d:Option Nat):ey:=bif Bz C 4000 d then{C with uU:=fun _=>false}else C
def AJ(C:ey)(p:Path)(b:Builtin)(dst:Option Nat)(ts:List Nat)(args:List AV)(s:St)(K:bB):Prop:=
 match b,p,dst,ts,args with
 | .append,[],some d,[t,t'],[x,y]=>bif dy t t' then(bif Bz C 1000 (some d)then UA C t d x y s K else Jt C t d x y s K)else False
 | .copy,[],_,[t,_],[x,y]=>Uz C t x y s K
 | .len,_,_,_,_=>match MC C.I C.L .len ts args with
  |some (.v (.int k m))=> ∃z,m=z∧K (.v (.int k z)) s
  |_=>False
 |_,_,_,_,_=>False
def Jq(C:ey)(p:Path)(t:Nat)(n:Int)(x:AV)(s:St)(K:bB):Prop:=
 match x with
 | .v (.string b)=>bif isStr C.L t then∃z:Int,under s p (0≤n∧ ∃c:UInt8,b[n.toNat]? =some c∧(c.toNat:Int)=z)∧K (.v (.int .u8 z)) s else False
 | .ar m z xs=>match C.L t with
  |some ti=>match ti.k with
   | .arr m' e=>match C.L e with
    |some tj=>bif dy tj.size 1&&(!tj.agg&&(dy m m'&&dy z 1))then∃a,under s p (0≤n∧xs[n.toNat]? =some [a])∧K a s else False
    |none=>False
   |_=>False
  |none=>False
 |a=>JD C p t n a s K
def isLen:Op→Bool
 | .call {callee:= .builtin .len,..}=>true
 |_=>false
def DC(I:Pr)(L:pN)(s:St)(p:Path)(o:Op):Option AV:=bif isLen o then none else tW I L s p o
def YX(C:ey)(p:Path)(o:Oper)(s:St)(K:bB):Prop:=
 match o.op with
 | .makeMap t none=>match o.dst,p with
  |some d,[]=>Ff C t d s K
  |_,_=>False
 | .insert t m k v=>match p with
  |[]=>Jp C t (cd s p m) (cd s p k) (cd s p v) s K
  |_=>False
 | .lookup t m k false=>Jo C p t (cd s p m) (cd s p k) s K
 | .mapEntry t m k=>match o.dst,p with
  |some d,[]=>Oh C t d (cd s p m) (cd s p k) s K
  |_,_=>False
 | .entryStore _ m st v=>match p with
  |[]=>zJ C (cd s p m) (cd s p st) (cd s p v) s K
  |_=>False
 | .binOp .eql t x y _=>Sa C p false t (cd s p x) (cd s p y) s K
 | .binOp .neq t x y _=>Sa C p true t (cd s p x) (cd s p y) s K
 | .pick c a b=>UI C p c a b s K
 | .box _ x=>match o.dst,p with
  |some d,[]=>ae1 C d (cd s p x) s K
  |_,_=>False
 | .alloc e=>match o.dst,p with
  |some d,[]=>Ou C d e s K
  |_,_=>False
 | .store t x y=>match p with
  |[]=>Jj C t (cd s p x) (cd s p y) s K
  |_=>False
 | .load t x=>bif Bz C 2000 o.dst then(match o.dst,p with
   |some d,[]=>Uy C t d (cd s p x) s K
   |_,_=>False)else QO C p t (cd s p x) s K
 | .indexAddr t x y=>match intOf (cd s p y)with
  |some n=>xIdx C p t n (cd s p x) s K
  |none=>False
 | .index t x y=>match intOf (cd s p y)with
  |some n=>Jq C p t n (cd s p x) s K
  |none=>False
 | .buildSlice t len parts=>match o.dst with
  |some d=>bif N3 (d+3000) C.op then(match p with
   |[]=>Js C t len d parts.toList s K
   |_=>False)else xk C p t len d parts.toList s K
  |none=>False
 | .makeFunc f first cap=>match first.toList with
  |[]=>UK C p f cap.toList s K
  |l=>match cap.toList with
   |[]=>bif cw (l.map fun x=>rd (cd s p x))then K (.bm f (l.map fun x=>rd (cd s p x))) s else False
   |_=>False
 | .makeSlice t x y=>match o.dst,p,intOf (cd s p x),intOf (cd s p y)with
  |some d,[],some n,some m=>Ux C t d n m s K
  |_,_,_,_=>False
 | .slice t x lo hi mx=>match mx with
  |none=>Of C p t lo hi (cd s p x) s K
  |some _=>False
 | .call c=>match c.callee with
  | .value f=>wFn (noI C o.dst) p (cd s p f) (c.args.toList.map fun x=>rd (cd s p x)) s K
  | .builtin b=>AJ C p b o.dst c.argTypes.toList (c.args.toList.map (cd s p)) s K
  |_=>False
 |_=>False
def eV(s:St)(d:Nat):Path:=match look d s.c with|some q=>q|none=>[]
def ND:Option Nat→Nat→Bool
 |some e,d=> !dy e d
 |none,_=>true
def Jx(C:ey)(all:List Oper)(o:Oper)(s:St)(K:St→Prop):Prop:=
  match o.guard with
  |none=>
    (match DC C.I C.L s [] o.op with
    |some a=>yj s o.dst=true∧K (s.put [] o.dst a)
    |none=>YX C [] o s (fun a s'=>yj s' o.dst=true∧K (s'.put [] o.dst a)))
  |some (j,b)=>match all[j]? with
   |none=>False
   |some og=>match og.dst with
    |none=>False
    |some d=>bif yj s o.dst&&(isBool (look d s.t)&&ND o.dst d)then
      (match DC C.I C.L s (eV s d++[(d,b)]) o.op with
      |some a=>yj s o.dst=true∧K (s.put (eV s d++[(d,b)]) o.dst a)
      |none=>YX C (eV s d++[(d,b)]) o s (fun a s'=>yj s' o.dst=true∧K (s'.put (eV s d++[(d,b)]) o.dst a)))
     else False
def UE(C:ey)(all:List Oper):List Oper→St→(St→Prop)→Prop
 |[],s,K=>K s
 |o::rest,s,K=>Jx C all o s (fun s'=>UE C all rest s' K)
def Fh(C:ey)(all:List Oper):Tree→St→(St→Prop)→Prop
 | .done,s,K=>K s
 | .one i t,s,K=>match all[i]? with
  |some o=>Jx C all o s (fun s'=>Fh C all t s' K)
  |none=>False
 | .al i t u,s,K=>(match all[i]? with
  |some o=>Jx C all o s (fun s'=>Fh C all t s' K)
  |none=>False)∧Fh C all u s K
 | .nil,_,_=>True
def forget:List (Nat×Path)→List (Nat×AV)→List (Nat×AV)
 |[],t=>t
 |(d,_)::r,t=>forget r (del d t)
def St.clean(s:St):St:={s with t:=forget s.c s.t,c:=[]}
def X9:List Nat→List (Nat×AV)→List (Nat×AV)
 |[],t=>t
 |d::r,t=>X9 r (del d t)
def St.HP(s:St)(l:List Nat):St:={s with t:=X9 l s.t}
def wkT(t:List (Nat×AV)):List (Nat×AV)→Prop
 |[]=>True
 |(d,b)::r=>(match look d t with|some a=>QM a b|none=>QM .any b)∧wkT t r
def alN:Ob→Ob→Prop
 | .box cs,.box cs'=>wks cs cs'
 | .arr z xs,.arr z' xs'=>z=z'∧xs=xs'
 | .ow p l xs,.ow p' l' xs'=>p=p'∧l=l'∧xs=xs'
 | .lp n t ps pH body st,.lp n' t' YZ Yy NL st'=>n=n'∧wkT t t'∧ps=YZ∧pH=Yy∧body=NL∧st=st'
 |_,_=>False
def wkU:List Fr→List Fr→Prop
 |[],[]=>True
 |f::r,f'::r'=>(f.n=f'.n∧wkT f.t f'.t)∧wkU r r'
 |_,_=>False
def wkB(t:List (Nat×Ob)):List (Nat×Ob)→Prop
 |[]=>True
 |(d,b)::r=>(match look d t with|some a=>alN a b|none=>False)∧wkB t r
def hasB(b:List (Nat×Ob)):List Nat→Bool
 |[]=>true
 |d::r=>(match look d b with|some _=>true|none=>false)&&hasB b r
def WO(b:List (Nat×Ob)):List (Nat×AV)→Bool
 |[]=>true
 |(_,a)::r=>hasB b (Bk a)&&WO b r
def okB(b:List (Nat×Ob)):List (Nat×Ob)→Bool
 |[]=>true
 |(_,.box cs)::r=>hasB b (lB cs)&&okB b r
 |(_,.arr _ _)::r=>okB b r
 |(_,.ow _ _ _)::r=>okB b r
 |(_,.lp _ t _ _ _ _)::r=>WO b t&&okB b r
def okU(b:List (Nat×Ob)):List Fr→Bool
 |[]=>true
 |f::r=>WO b f.t&&okU b r
def S4(s:St):Bool:=WO s.b s.t&&(okB s.b s.b&&okU s.b s.up)
def wk(s s':St):Prop:=
 s.n=s'.n∧s.c=[]∧s'.c=[]∧s.g=s'.g∧s.nx=s'.nx∧wkT s.t s'.t∧wkB s.b s'.b∧wkU s.up s'.up∧S4 s'=true∧s.fl=s'.fl
def L2(ρ:Nat)(l:List Nat)(s:St)(K:St→Prop):Prop:=match kV ρ l s with
 |some s1=> ∃s2,wk s1 s2∧K s2
 |none=>False
def UM{α:Type}:List (Nat×α)→List (Nat×α)→List (Nat×α)
 |[],t=>t
 |(d,x)::r,t=>UM r (dt d x t)
def sL(s:St)(vu:Option (List Fr))(vt:List (Nat×AV))(vb:List (Nat×Ob))(vg:Nat→Option Ob)(vn:Nat):St:=
 {s with t:=UM vt s.t,b:=UM vb s.b,g:=vg,nx:=vn,up:=match vu with|none=>s.up|some u=>u}
def OO(R:St→Prop)(Q:Ex→St→Prop)(e:Ex)(s:St):Prop:=
 match e with
 | .normal=>R s
 |e=>Q e s
def fQ(W:St→(Ex→St→Prop)→Prop)(Q:Ex→St→Prop):Nat→St→Prop
 |0,_=>False
 |n+1,s=>W s (OO (fun s'=>fQ W Q n s'∨ ∃s2,wk s' s2∧fQ W Q n s2) Q)
def rV(W:St→(Ex→St→Prop)→Prop)(n:Nat)(s:St)(Q:Ex→St→Prop):Prop:=fQ W Q n s∨ ∃s2,wk s s2∧fQ W Q n s2
def QK(W:St→(Ex→St→Prop)→Prop)(s:St)(Q:Ex→St→Prop):Prop:= ∃n,rV W n s Q
def aiF(b0:List (Nat×Ob))(l:List Nat)(d:Nat):Bool:=match look d b0 with|some _=>true|none=>N3 d l
def ad5(b:List (Nat×Ob)):List Nat→List Nat
 |[]=>[]
 |d::r=>(match look d b with|some (.box cs)=>lB cs|_=>[])++ad5 b r
def reach(b:List (Nat×Ob)):Nat→List Nat→List Nat
 |0,l=>l
 |n+1,l=>match l with
  |[]=>[]
  |l=>l++reach b n (ad5 b l)
def yG(b0:List (Nat×Ob)):List (Nat×Ob)→List Nat
 |[]=>[]
 |(d,.box cs)::r=>(match look d b0 with|some _=>lB cs|none=>[])++yG b0 r
 |_::r=>yG b0 r
def zw(b0:List (Nat×Ob))(l:List Nat):List (Nat×Ob)→List (Nat×Ob)
 |[]=>[]
 |(d,o)::r=>bif aiF b0 l d then(d,o)::zw b0 l r else zw b0 l r
def Pt:List Nat→List AV→List (Nat×AV)→List (Nat×AV)
 |p::ps,a::ab,t=>Pt ps ab (dt p a t)
 |_,_,t=>t
def NR(n:Nat):List Nat→Bool
 |[]=>true
 |p::r=>tZ p n&&NR n r
def Gm{α β:Type}:List α→List β→Bool
 |[],[]=>true
 |_::r,_::q=>Gm r q
 |_,_=>false
def aa9:Ex→LS
 | .normal=> .rdy
 |e=> .dn e
def aiC:Ex→Bool
 | .normal=>true
 |_=>false
def ON(kd l:Nat)(b0:List (Nat×Ob))(K:bB)(e:Ex)(s:St):Prop:=
 match s.up,look kd s.b with
 |f::u,some (.lp n t ps pH body .busy)=>
  n.1=l∧(fun s'=>(bif S4 s' then K (.v (.bool (aiC e))) s' else False))
   {n:=f.n,t:=f.t,c:=[],g:=s.g,nx:=s.nx,up:=u,fl:=s.fl,b:=zw b0 (reach s.b 4 (yG b0 s.b)) (dt kd (.lp n t ps pH body (aa9 e)) s.b)}
 |_,_=>False
def Jv(kd:Nat)(ps:List Nat)(pH body:Unit→Code)(Wa Wb:St→(Ex→St→Prop)→Prop)(args:List AV)(s:St)(K:bB):Prop:=
 match look kd s.b with
 |some (.lp n t YZ Yy NL .rdy)=>(YZ=ps∧Yy=pH∧NL=body)∧
   (bif Gm ps args&&NR n.2 ps&&cw args then
    Wa {s with n:=n.2,t:=Pt ps args t,c:=[],up:={n:=s.n,t:=s.clean.t}::s.up} (fun e s4=>match e with
     | .normal=>(match look kd s4.b with
      |some (.lp n4 t ps pH body .rdy)=>n4.1=n.1∧Wb {s4 with b:=dt kd (.lp n4 t ps pH body .busy) s4.b} (ON kd n.1 s.b K)
      |_=>False)
     |_=>False)
   else False)
 |_=>False
def adO(kd l:Nat)(Q:Ex→St→Prop)(s:St):Prop:=
 match look kd s.b with
 |some (.lp n _ _ _ _ st)=>n.1=l∧(fun s'=>(bif S4 s' then(match st with| .rdy=>Q .normal s'| .dn e=>Q e s'|_=>False)else False)) {s.clean with b:=del kd s.b}
 |_=>False
def adK(W:St→(St→Prop)→Prop)(s:St)(Q:St→Prop):Prop:= ∃s',W s (fun s1=>s1=s'∨wk s1.clean s')∧ ∃s2,s'.clean=s2∧Q s2
def rS(C:ey):Code→St→(Ex→St→Prop)→Prop
 | .skip,s,Q=>Q .normal s
 | .label _,s,Q=>Q .normal s
 | .region id ops false,s,Q=>UE C ops.toList ops.toList s (fun s'=>bif N3 (id+5000) C.op then L2 C.ρ (I6 C.op s'.b) (s'.clean.HP (C.dead id)) (fun s2=>Q .normal s2)else Q .normal (s'.clean.HP (C.dead id)))
 | .region id ops true,s,Q=>adK (fun s K=>Fh C ops.toList (C.tree id) s K) s (fun s'=>bif N3 (id+5000) C.op then L2 C.ρ (I6 C.op s'.b) (s'.HP (C.dead id)) (fun s2=>Q .normal s2)else Q .normal (s'.HP (C.dead id)))
 | .seq a b,s,Q=>rS C a s (fun e s'=>match e with| .normal=>rS C b s' Q|e=>Q e s')
 | .cond c a b,s,Q=>match cd s [] c with
  | .v (.bool x)=>(x=true→rS C a s Q)∧(x=false→rS C b s Q)
  |_=>False
 | .block id a,s,Q=>rS C a s (fun e s'=>match e with| .exit k=>(bif dy k id then Q .normal s' else Q (.exit k) s')|e=>Q e s')
 | .loop a,s,Q=>QK (fun s Q=>rS C a s Q) s Q
 | .exit id,s,Q=>Q (.exit id) s
 | .ret,s,Q=>Q .ret s
 | .scope a,s,Q=>rS C a s Q
 | .rangeFunc g ps pH body,s,Q=>match cd s [] g,look (C.base+999) s.b with
  | .fn (.func k) cap,none=> ∀l:Nat,C.CI (fun d args s2 K2=>bif dy d (C.base+999)
    then Jv (C.base+999) ps.toList (fun _=>pH) (fun _=>body) (fun s Q=>rS C pH s Q) (fun s Q=>rS C body s Q) args s2 K2 else C.yl d args s2 K2)
    k (.rQ (.s (C.base+999))::cap) {s.clean with b:=dt (C.base+999) (.lp (l,s.n) s.clean.t ps.toList (fun _=>pH) (fun _=>body) .rdy) s.b} (fun _ s2=>adO (C.base+999) l Q s2)
  |_,_=>False
 |_,_,_=>False
end Ab
namespace Ab
open Go
theorem zX{a b:Nat}(h:a≠b):dy a b=false:=by
 cases hb:dy a b with
 |false=>rfl
 |true=>exact absurd (dK hb) h
theorem gA(a:Nat):dy a a=true:=X3 a
theorem aG{α:Type}(d k:Nat)(x:α)(r:List (Nat×α)):look d ((k,x)::r)=if k=d then some x else look d r:=by
 simp only[look];by_cases h:k=d
 ·subst h;simp
 ·rw[zX h,if_neg h];rfl
theorem aJ{α:Type}(d e:Nat)(x:α): ∀t,look d (dt e x t)=if e=d then some x else look d t
 |[]=>by simp[dt,aG,look]
 |(k,y)::r=>by
  simp only[dt];by_cases h1:k=e
  ·subst h1;rw[gA,az,aG,aG];split<;>rfl
  ·rw[zX h1,aC];cases h2:tZ e k with
   |true=>rw[az,aG]
   |false=>
    rw[aC,aG,aG,aJ d e x r];by_cases h3:k=d
    ·rw[if_pos h3,if_pos h3,if_neg];omega
    ·rw[if_neg h3,if_neg h3]
theorem bZ{α:Type}(d:Nat)(x:α)(t:List (Nat×α)):look d (dt d x t)=some x:=by rw[aJ,if_pos rfl]
theorem xO{α:Type}{d e:Nat}(x:α)(h:d≠e)(t:List (Nat×α)):look d (dt e x t)=look d t:=by rw[aJ,if_neg (Ne.symm h)]
theorem jy{α:Type}(d e:Nat): ∀(t:List (Nat×α)),look d (del e t)=if e=d then none else look d t
 |[]=>by simp[del,look]
 |(k,y)::r=>by
  simp only[del];by_cases h1:k=e
  ·subst h1;rw[gA,az,jy d k r,aG];split<;>rfl
  ·rw[zX h1,aC,aG,aG,jy d e r];by_cases h3:k=d
   ·rw[if_pos h3,if_pos h3,if_neg];omega
   ·rw[if_neg h3,if_neg h3]
theorem MU{α:Type}{d e:Nat}(h:e≠d)(t:List (Nat×α)):look e (del d t)=look e t:=by rw[jy,if_neg (Ne.symm h)]
structure akP(P:Program)(t:Nat)(ti:TI):Prop where
 ex: ∃i d z,P.info? t=some i∧i.size=ti.size∧i.bytes=ti.bytes∧i.zero=some z∧z.cells.toList=ti.zero∧P.underlying t=some d∧
  (match ti.k with
   | .slice e=>d= .slice e
   | .dB fs=> ∃F:Array Field,d= .struct F∧F.size=fs.length∧ ∀(j o z:Nat),fs[j]? =some (o,z)→ ∃f i',F[j]? =some f∧f.offset=o∧P.info? f.type=some i'∧i'.size=z
   | .arr n e=>d= .array n e
   | .map k e=>d= .map k e
   | .int k=>d= .int k
   | .bool=>d= .bool
   | .str=>d= .string
   | .sc=>(match d with| .struct _=>False| .array _ _=>False|_=>True))
 N9:ti.zero.length=ti.size
 aqC: ∀x∈ti.zero,tT x=true
 zv:ti.agg=false→ ∀i z,P.info? t=some i→i.zero=some z→tT z=true
 fts: ∀F,P.underlying t=some (.struct F)→ ∀(j t':Nat),ti.ft[j]? =some t'→ ∃f:Field,F[j]? =some f∧f.type=t'
structure bG(P:Program)(L:pN):Prop where
 ok: ∀t ti,L t=some ti→akP P t ti
def Ak:Ex→Option Code
 | .normal=>none
 | .exit k=>some (.exit k)
 | .ret=>some .ret
def akR:LS→LoopState→Option Code→Prop
 | .rdy,s,p=>s= .ready∧p=none
 | .busy,s,_=>s= .busy
 | .dn e,s,p=>s= .done∧p=Ak e∧p≠none
 | .exh,s,_=>s= .exhausted
def tR(E:Env)(t:Tok)(r:Nat)(ys:List (List AV))(v:Value):Prop:=
 (ys=[]∧v= .slice none 0 0)∨ ∃z b c e cells,v= .slice (some ⟨b,0,none⟩) ys.length c∧ys.length≤c∧c≤maxLen∧(ys.length=0→c=0)∧0<z∧(∀l∈ys,l.length=z)∧E.eo b=r∧
  E.h[b]? =some (.cells cells e (0,0))∧cells.size=c*z∧E.own b= .tok t∧ ∀o,E.aR b o↔o<ys.length*z
def Hb:Value→Option Nat
 | .slice (some a) _ _=>some a.block
 |_=>none
def Key.tok:Key→Tok
 | .s d=> .n d
 | .o d=> .n d
def PI(z:Nat):Option (Nat×Nat)→Nat→Prop
 |some (i,off),q=>q=i*z+off
 |none,_=>False
def H0(E:Env)(t:Tok)(z:Nat)(uQ:Option (Nat×Nat))(xs:List (List AV))(u:Nat→Value):Prop:=
 (∀(q r:Nat) (ys:List (List AV)),xs.flatten[q]? =some (.sl r ys)→ ¬PI z uQ q→tR E t r ys (u q))∧
 ∀(q q' r r':Nat) (ys Fa:List (List AV)) (b:Nat),xs.flatten[q]? =some (.sl r ys)→xs.flatten[q']? =some (.sl r' Fa)→ ¬PI z uQ q→ ¬PI z uQ q'→q≠q'→Hb (u q)=some b→Hb (u q')≠some b
def bN:List VK→List Value→Bool
 |[],[]=>true
 | .int k::r,.int k' _::q=>(k==k')&&bN r q
 | .str::r,.string _::q=>bN r q
 | .bool::r,.bool _::q=>bN r q
 |_,_=>false
def gS:List Value→Value
 |[x]=>x
 |l=> .agg l.toArray
def Hg(p:OwK)(len:Nat×Nat)(ob:Option Obj)(xs:List (List AV))(u:Nat→Value):Prop:=
 match p with
 | .sl z=>0<z∧(∀l∈xs,l.length=z)∧xs.length=len.1∧len.1≤len.2∧len.2≤maxLen∧ ∃c e,ob=some (.cells c e (0,0))∧c.size=len.2*z∧ ∀(q:Nat) (a:AV),xs.flatten[q]? =some a→c[q]? =some (u q)
 | .mp ks st=>(∀l∈xs,l.length=ks.length+1)∧ ∃es clock,ob=some (.map es clock)∧(∀i z,st=some (i,z)→ ∃e,es[i]? =some e∧(e.born:Int)=z)∧es.size=xs.length∧(∀(i:Nat) (e:MapEntry),es[i]? =some e→e.born<clock)∧
   (∀(i j:Nat) (e e':MapEntry),es[i]? =some e→es[j]? =some e'→e.born=e'.born→i=j)∧
   ∀(i:Nat) (row:List AV) (e:MapEntry),xs[i]? =some row→es[i]? =some e→ ∃kv:List Value,bN ks kv=true∧row.take ks.length=kv.map .v∧e.key=gS kv∧u (i*(ks.length+1)+ks.length)=e.val∧ ∀j x,kv[j]? =some x→u (i*(ks.length+1)+j)=x
def cB(E:Env)(k:Key):Ob→Prop
 | .box cs=>E.live k∧ ∃c e,E.h[E.m k]? =some (.cells c e (0,0))∧E.own (E.m k)= .key k∧(∀o,¬E.aR (E.m k) o)∧c.size=cs.length∧
   ∀(q:Nat) (a:AV) (x:Value),cs[q]? =some a→c[q]? =some x→Cz E a x
 | .arr z xs=>E.live k∧E.len k=(xs.length,xs.length)∧0<z∧(∀l∈xs,l.length=z)∧xs.length≤maxLen∧ ∃c e,E.h[E.m k]? =some (.cells c e (0,0))∧E.own (E.m k)= .key k∧(∀o,¬E.aR (E.m k) o)∧c.size=xs.length*z∧
   (∀(q:Nat) (a:AV),xs.flatten[q]? =some a→cH a=true)∧ ∀(q:Nat) (a:AV) (x:Value),xs.flatten[q]? =some a→c[q]? =some x→Cz E a x
 | .ow p uQ xs=>E.live k∧E.own (E.m k)= .key k∧(∀o,¬E.aR (E.m k) o)∧(∀(q:Nat) (a:AV),xs.flatten[q]? =some a→cH a=true)∧ ∃u:Nat→Value,Hg p (E.len k) E.h[E.m k]? xs u∧
   (∀(q:Nat) (a:AV),xs.flatten[q]? =some a→Cz E a (u q))∧H0 E k.tok p.z uQ xs u
 | .lp n t ps pH body st=>E.live k∧E.own (E.m k)= .key k∧(∀o,¬E.aR (E.m k) o)∧ ∃rec:Loop,E.h[E.m k]? =some (.loop rec)∧rec.tmps.size=n.2∧rec.params.toList=ps∧rec.assign=pH ()∧rec.body=body ()∧akR st rec.state rec.pending∧E.m k=n.1∧
   ∀d x,look d t=some x→Cz E x (rec.tmps.getD d undef)
def awd(E:Env)(a:Act)(f:Fr):Prop:=a.tmps.size=f.n∧ ∀d x,look d f.t=some x→Cz E x (a.tmps.getD d undef)
def mE(E:Env):List Act→List Fr→Prop
 |[],[]=>True
 |a::ab,f::fs=>awd E a f∧mE E ab fs
 |_,_=>False
def Dfs(n0:Nat)(E:Env)(l:List Deferred):Prop:=
 ∃Bs:List Nat,l=Bs.map (fun B=>{target:= .collected B,args:= #[]})∧Bs.Nodup∧ ∀B∈Bs,E.h[B]? =some (.deferred (some []))∧E.own B= .lh∧n0≤B
def TY(a:Act)(up:List Act):List Deferred:=a.defers++(up.map (·.defers)).flatten
def jQ(w0 w:World):Prop:=w.os=w0.os∧w.tape=w0.tape∧w.output=w0.output
theorem jQ.refl(w:World):jQ w w:=⟨rfl,rfl,rfl⟩
theorem jQ.trans{a b c:World}(h:jQ a b)(k:jQ b c):jQ a c:=⟨k.1.trans h.1,k.2.1.trans h.2.1,k.2.2.trans h.2.2⟩
def dW(o:Own):Prop:=o.dW=true
def GOk(g:Nat→Option Ob):Prop:= ∀i ob,g i=some ob→match ob with
 | .box cs=> ∀(q:Nat) (a:AV),cs[q]? =some a→cH a=true
 | .arr _ _=>True
 | .ow .. =>False
 | .lp .. =>False
theorem tR.mono{E E':Env}{t:Tok}{r:Nat}{ys:List (List AV)}{v:Value}(h:tR E t r ys v)(hn: ∀b,E.own b= .tok t→b<E.h.size→E'.own b= .tok t∧E'.h[b]? =E.h[b]? ∧(∀o,E'.aR b o↔E.aR b o)∧E'.eo b=E.eo b):tR E' t r ys v:=by
 rcases h with h|⟨z,b,c,e,cells,h1,h2,h3,h4,h5,h6,h7,h8,h9,B8,KV⟩
 ·exact .inl h
 ·obtain⟨k1,k2,k3,k4⟩:=hn b B8 (Array.getElem?_eq_some_iff.1 h8).1;exact .inr ⟨z,b,c,e,cells,h1,h2,h3,h4,h5,h6,k4.trans h7,k2.trans h8,h9,k1,fun o=>(k3 o).trans (KV o)⟩
theorem H0.mono{E E':Env}{t:Tok}{z:Nat}{uQ:Option (Nat×Nat)}{xs:List (List AV)}{u:Nat→Value}(h:H0 E t z uQ xs u)(hn: ∀b,E.own b= .tok t→b<E.h.size→E'.own b= .tok t∧E'.h[b]? =E.h[b]? ∧(∀o,E'.aR b o↔E.aR b o)∧E'.eo b=E.eo b):H0 E' t z uQ xs u:=
 ⟨fun q r ys hq hl=>(h.1 q r ys hq hl).mono hn,h.2⟩
theorem A5{E E':Env}{k:Key}{p:OwK}{uQ:Option (Nat×Nat)}{xs:List (List AV)}(hl:E.live k→E'.live k)(hm:E'.m k=E.m k)(jg:E'.len k=E.len k)(ho:E.own (E.m k)= .key k→E'.own (E.m k)= .key k∧E'.h[E.m k]? =E.h[E.m k]? ∧ ∀o,E'.aR (E.m k) o→E.aR (E.m k) o)
  (hc: ∀(a:AV) (x:Value),cH a=true→Cz E a x→Cz E' a x)(hn: ∀b,E.own b= .tok k.tok→b<E.h.size→E'.own b= .tok k.tok∧E'.h[b]? =E.h[b]? ∧(∀o,E'.aR b o↔E.aR b o)∧E'.eo b=E.eo b)(h:cB E k (.ow p uQ xs)):cB E' k (.ow p uQ xs):=by
 obtain⟨h1,h2,h3,h4,u,h5,h6,h7⟩:=h;obtain⟨k1,k2,k3⟩:=ho h2;exact⟨hl h1,by rw[hm];exact k1,fun o=>by rw[hm];exact fun hh=>h3 o (k3 o hh),h4,u,by rw[hm,jg,k2];exact h5,fun q a ha=>hc a _ (h4 q a ha) (h6 q a ha),h7.mono hn⟩
structure bJ(E0 E:Env)(w0 w:World)(s:St)(a:Act):Prop where
 heap:w.heap=E.h
 wf:Wf E
 Lv:Dfs E0.h.size E (TY a E0.up)
 up:mE E E0.up s.up
 sz:a.tmps.size=s.n
 tm: ∀d x,look d s.t=some x→bp s (eV s d)→Cz E x (a.tmps.getD d undef)
 cu: ∀d q,look d s.c=some q→ ¬bp s q→a.tmps.getD d undef=undef
 bx: ∀d ob,look d s.b=some ob→cB E (.s d) ob
 lv: ∀d,E.live (.s d)→ ∃ob,look d s.b=some ob
 gx: ∀i ob,s.g i=some ob→cB E (.o i) ob
 gl: ∀i,E.live (.o i)↔i<s.nx
 ext:Ext dW E0 E
 zu: ∀b,b<E0.h.size→(E.own b).loc=false
 same:jQ w0 w
 gk:GOk s.g
 nl: ∀d,¬E0.live (.s d)
 ng: ∀b,¬dW (E.own b)
 lo:s.fl=true→ ∀b,¬dW (E0.own b)∧ ∀o,E0.aR b o→E0.eo b<1000000
theorem DD{s:St}: ∀{q p:Path},vU q p=true→bp s p→bp s q
 |[],_,_,_=>trivial
 |(d,w)::r,[],h,_=>by simp[vU]at h
 |(d,w)::r,(e,v)::p,h,hp=>by
  simp only[vU,Bool.and_eq_true]at h;have h1:d=e:=dK h.1.1
  have h2:w=v:=by simpa using h.1.2
  subst h1;subst h2;exact⟨hp.1,DD h.2 hp.2⟩
theorem bJ.slot{E0 E:Env}{w0 w:World}{s:St}{a:Act}(h:bJ E0 E w0 w s a){p:Path}(hp:bp s p)(d:Nat):Cz E (FM s p d) (a.tmps.getD d undef):=by
 unfold FM;cases h1:look d s.t with
 |none=>exact .any _
 |some x=>
  have ht:=h.tm d x h1
  unfold eV at ht;cases h2:look d s.c with
  |none=>rw[h2]at ht;exact ht trivial
  |some q=>
   rw[h2]at ht;dsimp only;by_cases h3:vU q p=true
   ·rw[h3];exact ht (DD h3 hp)
   ·simp only[h3,aC];exact .any _
theorem bJ.ev{E0 E:Env}{w0 w:World}{s:St}{a:Act}(h:bJ E0 E w0 w s a){p:Path}(hp:bp s p)(x:Operand):Cz E (cd s p x) (a.eval x):=by
 cases x with
 |tmp d=>exact h.slot hp d
 |const x=>exact .v _
 |global g=>exact .any _
 |func f=>exact .fn _ [] [] rfl (fun q a y h _=>by simp at h)
theorem nj{s s':St}: ∀{p:Path},(∀d,KM d p=true→look d s'.t=look d s.t)→(bp s' p↔bp s p)
 |[],_=>Iff.rfl
 |(d,w)::r,h=>by
  simp only[bp];rw[h d (by simp[KM]),nj (p:=r) (fun e he=>h e (by simp[KM,he]))]
theorem Bn{c:List (Nat×Path)}{d e:Nat}{q:Path}(h:look d c=some q)(he:KM e q=true):Tq e c=true:=by
 induction c with
 |nil=>simp[look]at h
 |cons x r ih=>
  obtain⟨k,y⟩:=x;rw[aG]at h;by_cases h1:k=d
  ·rw[if_pos h1]at h;cases h;simp[Tq,he]
  ·rw[if_neg h1]at h;simp[Tq,ih h]
theorem xn(a:Act)(d e:Nat)(x:Value)(hd:d<a.tmps.size):(a.put (some d) x).tmps.getD e undef=if e=d then x else a.tmps.getD e undef:=by
 simp only[Act.put,Array.getD_eq_getD_getElem?];by_cases h:e=d
 ·subst h;simp[hd]
 ·rw[if_neg h,Array.getElem?_setIfInBounds_ne (Ne.symm h)]
theorem bJ.put{E0 E:Env}{w0 w:World}{s:St}{a:Act}(h:bJ E0 E w0 w s a){p:Path}{dst:Option Nat}(hd:yj s dst=true)(xS: ∀d,dst=some d→KM d p=false){r:AV}{x:Value}
  (hx:(bp s p∧Cz E r x)∨(¬bp s p∧x=undef)):bJ E0 E w0 w (s.put p dst r) (a.put dst x):=by
 cases dst with
 |none=>exact h
 |some d=>
  simp only[yj,Bool.and_eq_true,Bool.not_eq_true']at hd;have hd1:d<s.n:=by simpa using hd.1
  have hdn:d<a.tmps.size:=by rw[h.sz];exact hd1
  have uw: ∀e q,look e s.c=some q→KM d q=false:=fun e q hq=>by
   by_cases hh:KM d q=true
   ·rw[Bn hq hh]at hd;exact absurd hd.2 (by simp)
   ·simpa using hh
  have Xp: ∀q:Path,KM d q=false→(bp (s.put p (some d) r) q↔bp s q):=fun q hq=>
   nj fun e he=>by
    have:e≠d:=fun hh=>by subst hh;rw[he]at hq;cases hq
    exact xO r this _
  have hp:=Xp p (xS d rfl)
  have hc: ∀e,e≠d→look e (s.put p (some d) r).c=look e s.c:=fun e he=>by
   cases p with
   |nil=>exact MU he _
   |cons _ _=>exact xO _ he _
  have hlp: ∀e,e≠d→eV (s.put p (some d) r) e=eV s e:=fun e he=>by unfold eV;rw[hc e he]
  have abK: ∀e,KM d (eV s e)=false:=fun e=>by
   unfold eV;cases h2:look e s.c with
   |none=>rfl
   |some q=>exact uw e q h2
  refine⟨h.heap,h.wf,h.Lv,h.up,by simp[Act.put,St.put,h.sz],?_,?_,h.bx,h.lv,h.gx,h.gl,h.ext,h.zu,h.same,h.gk,h.nl,h.ng,h.lo⟩
  ·intro e y he hpe;rw[xn a d e x hdn];by_cases Ul:e=d
   ·subst Ul;rw[if_pos rfl];have:look e (dt e r s.t)=some r:=bZ e r s.t
    have ri:look e (dt e r s.t)=some y:=he
    rw[this]at ri;cases ri;rcases hx with hx|hx
    ·exact hx.2
    ·exfalso;cases p with
     |nil=>exact hx.1 trivial
     |cons p0 pr=>
      have:eV (s.put (p0::pr) (some e) r) e=p0::pr:=by unfold eV;rw[show look e (s.put (p0::pr) (some e) r).c=some (p0::pr)from bZ e _ _]
      rw[this]at hpe;exact hx.1 (hp.1 hpe)
   ·rw[if_neg Ul];rw[hlp e Ul]at hpe;exact h.tm e y (by rw[←xO r Ul s.t];exact he) ((Xp _ (abK e)).1 hpe)
  ·intro e q he hpe;rw[xn a d e x hdn];by_cases Ul:e=d
   ·subst Ul;rw[if_pos rfl];cases p with
    |nil=>
     have:look e (del e s.c)=none:=by rw[jy,if_pos rfl]
     have ri:look e (del e s.c)=some q:=he
     rw[this]at ri;cases ri
    |cons p0 pr=>
     have:look e (s.put (p0::pr) (some e) r).c=some (p0::pr):=bZ e _ _
     rw[this]at he;cases he;rcases hx with hx|hx
     ·exact absurd (hp.2 hx.1) hpe
     ·exact hx.2
   ·rw[if_neg Ul];rw[hc e Ul]at he;exact h.cu e q he (fun hh=>hpe ((Xp q (uw e q he)).2 hh))
end Ab
namespace Ab
open Go
variable{P:Program}{L:pN}{E0 E:Env}{w0 w:World}{s:St}{a:Act}{p:Path}
theorem fa{t:Nat}{d:TypeDesc}(h:P.underlying t=some d)(w:World):(underlying t).run P w= .ok d w:=by simp[underlying,go_sem,h]
theorem kh{t:Nat}{i:TypeInfo}(h:P.info? t=some i)(w:World):(Go.sizeOf t).run P w= .ok i.size w:=by simp[Go.sizeOf,typeInfo,go_sem,h]
theorem eG(b o k:Nat):(⟨b,o,none⟩:Addr).add k=⟨b,o+k,none⟩:=by unfold Addr.add;split<;>simp_all
theorem m0(hL:bG P L){t f o:Nat}(hf:iJ L t f=some o)(b q:Nat)(w:World):(Instr.fieldAt t (.pointer (some ⟨b,q,none⟩)) f).run P w= .ok (.pointer (some ⟨b,q+o,none⟩)) w:=by
 unfold iJ at hf;cases ht:L t with
 |none=>simp[ht]at hf
 |some ti=>
  obtain⟨k,size,bytes,zero⟩:=ti;rw[ht]at hf;cases k with
  |dB fs=>
   obtain⟨i,d,z,h1,h2,h3,h4,h5,h6,F,h7,h8,h9⟩:=(hL.ok t _ ht).ex;dsimp only at hf;cases hfs:fs[f]? with
   |none=>simp[hfs]at hf
   |some oz=>
    obtain⟨o',z'⟩:=oz;rw[hfs]at hf;dsimp only at hf;by_cases hz:z'=0
    ·subst hz;simp at hf
    ·rw[zX hz]at hf;simp only[aC,Option.some.injEq]at hf;subst hf;obtain⟨fd,i',g1,g2,g3,g4⟩:=h9 f o' z' hfs;subst h7;simp[Instr.fieldAt,fieldPlace,underlying,Go.sizeOf,typeInfo,Instr.sureAddr,go_sem,h6,g1,g3,g4,hz,g2,eG]
  |_=>simp at hf
theorem run_loadCells(P:Program)(w:World)(b o:Nat): ∀(n i:Nat) (acc:Array Value) (ys:List Value),ys.length=n→(∀(q:Nat) (y:Value),ys[q]? =some y→aW w.heap b (o+i+q)=some y)→
  (loadCellsFrom ⟨b,o,none⟩ i n acc).run P w= .ok (acc++ys.toArray) w
 |0,i,acc,ys,hl,h=>by
  have:ys=[]:=List.eq_nil_of_length_eq_zero hl
  subst this;simp[loadCellsFrom,go_sem]
 |n+1,i,acc,ys,hl,h=>by
  cases ys with
  |nil=>simp at hl
  |cons y r=>
   have h0:w.cell? ⟨b,o+i,none⟩=some y:=by rw[kP];simpa using h 0 y (by simp)
   have ih:=run_loadCells P w b o n (i+1) (acc.push y) r (by simpa using hl) (fun q z hz=>by have:=h (q+1) z (by simpa using hz);rw[show o+(i+1)+q=o+i+(q+1)from by omega];exact this)
   unfold loadCellsFrom;simp only[eG];rw[show((do let v←load ⟨b,o+i,none⟩;loadCellsFrom ⟨b,o,none⟩ (i+1) n (acc.push v)):Sem (Array Value)).run P w=(loadCellsFrom ⟨b,o,none⟩ (i+1) n (acc.push y)).run P w from by simp[go_sem,load,h0,Sem.run,Result.andThen]];rw[ih];simp
theorem kj(hL:bG P L){t:Nat}{ti:TI}(ht:L t=some ti){cs:List AV}{off b o:Nat}{r:AV}(kG:part ti cs off=some r)
  (Lt: ∀(q:Nat) (a:AV),cs[q]? =some a→ ∃y,aW w.heap b (o+q)=some y∧Cz E a y):
  ∃x,(Instr.loadAt t (.pointer (some ⟨b,o+off,none⟩))).run P w= .ok x w∧Cz E r x:=by
 obtain⟨i,d,z,h1,h2,h3,h4,h5,h6,h7⟩:=(hL.ok t _ ht).ex;unfold part at kG;cases hle:oZ (off+ti.size) cs.length with
 |false=>simp[hle]at kG
 |true=>
  have ai5:off+ti.size≤cs.length:=by simpa using hle
  rw[hle,az]at kG;cases vh:ti.agg with
  |true=>
   rw[vh,az]at kG;cases kG;have hex: ∀n,n≤ti.size→ ∃ys:List Value,ys.length=n∧(∀(q:Nat) (y:Value),ys[q]? =some y→aW w.heap b (o+off+q)=some y)∧ ∀(q:Nat) (a:AV) (y:Value),(cut cs off ti.size)[q]? =some a→ys[q]? =some y→Cz E a y:=by
    intro n
    induction n with
    |zero=>intro _;exact⟨[],rfl,fun q y h=>by simp at h,fun q a y _ h=>by simp at h⟩
    |succ n ih=>
     intro hn;obtain⟨ys,hl,hc,hz⟩:=ih (by omega);obtain⟨y,Bp,hy2⟩:=Lt (off+n) (cs[off+n]'(by omega)) (by simp);refine⟨ys++[y],by simp[hl],fun q y' hq=>?_,fun q a' y' ha hq=>?_⟩
     ·by_cases bc:q<n
      ·exact hc q y' (by rw[gg (by omega)]at hq;exact hq)
      ·have:q=n:=by
        have:=(bq.1 hq).1
        simp at this;omega
       subst this;rw[iY (by omega)]at hq;simp[hl]at hq;subst hq;rw[Nat.add_assoc];exact Bp
     ·by_cases bc:q<n
      ·exact hz q a' y' ha (by rw[gg (by omega)]at hq;exact hq)
      ·have:q=n:=by
        have:=(bq.1 hq).1
        simp at this;omega
       subst this;rw[iY (by omega)]at hq;simp[hl]at hq;subst hq;simp only[cut,List.getElem?_take,List.getElem?_drop]at ha;rw[if_pos (by omega)]at ha;rw[eH (by omega)]at ha;cases ha;exact hy2
   obtain⟨ys,hl,hc,hz⟩:=hex ti.size (Nat.le_refl _);refine⟨.agg ys.toArray,?_,.agg _ ys (by rw[hl];simp[cut];omega) hz⟩;have Rw:=run_loadCells P w b (o+off) ti.size 0 #[] ys hl (by simpa using hc)
   have GA: ∀w,(isAgg t).run P w= .ok true w:=by
    intro w;unfold TI.agg at vh;cases hk:ti.k with
    |dB fs=>rw[hk]at h7;obtain⟨F,h7,_⟩:=h7;subst h7;simp[isAgg,underlying,go_sem,h6]
    |arr n e=>rw[hk]at h7;subst h7;simp[isAgg,underlying,go_sem,h6]
    |_=>rw[hk]at vh;simp at vh
   simp only[Instr.loadAt,Instr.sureAddr,loadVar,loadCells];simp[go_sem,GA,Go.sizeOf,typeInfo,h1,h2,Rw]
  |false=>
   rw[vh,aC]at kG;cases hg:cs[off]? with
   |none=>rw[hg]at kG;simp at kG
   |some a0=>
    rw[hg]at kG;simp only[Option.some.injEq]at kG;subst kG;obtain⟨y,Bp,hy2⟩:=Lt off a0 hg;refine⟨y,?_,hy2⟩;have GA: ∀w,(isAgg t).run P w= .ok false w:=by
     intro w;unfold TI.agg at vh;cases hk:ti.k with
     |dB fs=>rw[hk]at vh;simp at vh
     |arr n e=>rw[hk]at vh;simp at vh
     |sc=>rw[hk]at h7;dsimp only at h7;cases d<;>simp_all [isAgg,underlying,go_sem]
     |_=>rw[hk]at h7;dsimp only at h7;subst h7;simp[isAgg,underlying,go_sem,h6]
    have h0:w.cell? ⟨b,o+off,none⟩=some y:=by rw[kP];exact Bp
    simp[Instr.loadAt,Instr.sureAddr,loadVar,go_sem,GA,load,h0,Sem.run]
theorem qE{a:AV}{x:Value}(h:Cz E a x){k:Nat}(hk:BS a=some k):x.cells.size=k∧(cellsOf a).length=k∧ ∀(q:Nat) (a':AV) (y:Value),(cellsOf a)[q]? =some a'→x.cells[q]? =some y→Cz E a' y:=by
 have one: ∀(a:AV) (x:Value),Cz E a x→x.cells= #[x]→cellsOf a=[a]→x.cells.size=1∧(cellsOf a).length=1∧ ∀(q:Nat) (a':AV) (y:Value),(cellsOf a)[q]? =some a'→x.cells[q]? =some y→Cz E a' y:=
  fun a x h hx ha=>by
   rw[hx,ha];refine⟨rfl,rfl,fun q a' y h1 h2=>?_⟩;cases q with
   |zero=>simp at h1 h2;subst h1;subst h2;exact h
   |succ q=>simp at h1
 cases h with
 |any x=>simp[BS]at hk
 |gY=>simp[BS]at hk
 |v x=>
  simp only[BS,Option.some.injEq]at hk;subst hk;cases x with
  |agg c=>
   refine⟨rfl,by simp[cellsOf,Value.cells],fun q a' y h1 h2=>?_⟩;simp only[cellsOf,List.getElem?_map,Array.getElem?_toList]at h1;simp only[Value.cells]at h2;rw[h2]at h1;simp at h1;subst h1;exact .v _
  |_=>exact one _ _ (.v _) rfl rfl
 |agg cs ys hl hq=>
  simp only[BS,Option.some.injEq]at hk;subst hk;exact⟨by simp[Value.cells,hl],rfl,fun q a' y h1 h2=>hq q a' y h1 (by simpa[Value.cells]using h2)⟩
 |pd r A c=>cases hk;exact one _ _ (.pd _ _ _) rfl rfl
 |sl r xs z b o c u h1 h2 h3 h4 h5 h6 h7 h8 h9 B8=>cases hk;exact one _ _ (.sl r xs z b o c u h1 h2 h3 h4 h5 h6 h7 h8 h9 B8) rfl rfl
 |vk r t=>cases hk;exact one _ _ (.vk _ _) rfl rfl
 |gs r t xs z b c e cells u h1 h2 h3 h4 h5 h6 h7 h8 h9 B8 KV h12 h13=>cases hk;exact one _ _ (.gs r t xs z b c e cells u h1 h2 h3 h4 h5 h6 h7 h8 h9 B8 KV h12 h13) rfl rfl
 |aX r cs off b o u h1 h2 h3 h4 h5=>cases hk;exact one _ _ (.aX r cs off b o u h1 h2 h3 h4 h5) rfl rfl
 |ptr k off hl=>cases hk;exact one _ _ (.ptr _ _ hl) rfl rfl
 |jB k n h1 h2 h3 h4=>cases hk;exact one _ _ (.jB _ _ h1 h2 h3 h4) rfl rfl
 |dc k i off z hl=>cases hk;exact one _ _ (.dc _ _ _ _ hl) rfl rfl
 |mp k hl=>cases hk;exact one _ _ (.mp _ hl) rfl rfl
 |ar=>simp[BS]at hk
 |rQ k hl=>cases hk;exact one _ _ (.rQ _ hl) rfl rfl
 |bm f cs ys hl hi hq=>cases hk;exact one _ _ (.bm f cs ys hl hi hq) rfl rfl
 |nG r z xs x hz h=>
  cases hk;have h':=h
  cases h with
  |aX=>exact one _ _ (.nG r z xs _ hz h') rfl rfl
 |fn f cap ys hl hq=>cases hk;exact one _ _ (.fn f cap ys hl hq) rfl rfl
theorem Qv{n z:Nat}{xs:List (List AV)}{x:Value}(h:Cz E (.ar n z xs) x):Cz E (.agg xs.flatten) x∧xs.length=n∧(∀l∈xs,l.length=z)∧cw xs.flatten=true:=by
 cases h with
 |ar _ _ _ ys hn hz hl hi hq=>exact⟨.agg _ ys (by rw[hl,aH hz,hn]) hq,hn,hz,yK hi⟩
theorem YC{n z:Nat}{xs:List (List AV)}{x:Value}(h:Cz E (.agg xs.flatten) x)(hn:xs.length=n)(hz: ∀l∈xs,l.length=z)(hi: ∀(q:Nat) (a:AV),xs.flatten[q]? =some a→cH a=true):Cz E (.ar n z xs) x:=by
 cases h with
 |agg _ ys hl hq=>exact .ar n z xs ys hn hz (by rw[hl,aH hz,hn]) hi hq
def Row(E:Env)(cs:List AV)(c:Array Value):Prop:=c.size=cs.length∧ ∀(q:Nat) (a:AV) (y:Value),cs[q]? =some a→c[q]? =some y→Cz E a y
theorem rN(off:Nat): ∀(vs:List Value) (k:Nat) (c:Array Value),off+k+vs.length≤c.size→
  ((vs.zipIdx k).foldl (fun cs (x,j)=>cs.setIfInBounds (off+j) x) c).size=c.size∧
  ∀q,((vs.zipIdx k).foldl (fun cs (x,j)=>cs.setIfInBounds (off+j) x) c)[q]? =if off+k≤q∧q<off+k+vs.length then vs[q - (off+k)]? else c[q]?
 |[],k,c,_=>⟨rfl,fun q=>by simp;omega⟩
 |v::r,k,c,h=>by
  simp only[List.length_cons]at h;obtain⟨h1,h2⟩:=rN off r (k+1) (c.setIfInBounds (off+k) v) (by simp;omega);simp only[List.zipIdx_cons,List.foldl_cons];refine⟨by rw[h1];simp,fun q=>?_⟩;rw[h2];by_cases hq:q=off+k
  ·subst hq;rw[if_neg (by omega),if_pos ⟨by omega,by simp⟩];rw[Array.getElem?_setIfInBounds_self,if_pos (by omega)];simp
  ·rw[Array.getElem?_setIfInBounds_ne (by omega)];by_cases bc:off+k≤q∧q<off+k+(r.length+1)
   ·rw[if_pos ⟨by omega,by omega⟩,if_pos (by simpa using bc)];rw[show q - (off+k)=(q - (off+(k+1)))+1 from by omega];simp
   ·rw[if_neg (by omega),if_neg (by simpa using bc)]
theorem zM{cs vs:List AV}{o q:Nat}(h:o+vs.length≤cs.length):(bV cs o vs)[q]? =if o≤q∧q<o+vs.length then vs[q - o]? else cs[q]? :=by
 unfold bV;by_cases h1:q<o
 ·rw[if_neg (by omega),List.append_assoc,gg (by simp;omega),List.getElem?_take,if_pos h1]
 ·rw[List.append_assoc,iY (by simp;omega)];have hm:min o cs.length=o:=by omega
  simp only[List.length_take,hm];by_cases h2:q<o+vs.length
  ·rw[if_pos ⟨by omega,h2⟩,gg (by omega)]
  ·rw[if_neg (by omega),iY (by omega),List.getElem?_drop];congr 1;omega
theorem lV{cs vs:List AV}{o:Nat}(h:o+vs.length≤cs.length):(bV cs o vs).length=cs.length:=by
 unfold bV;simp;omega
theorem Row.bV{cs vs:List AV}{c:Array Value}{o:Nat}{ys:List Value}(h:Row E cs c)(ho:o+vs.length≤cs.length)(hl:ys.length=vs.length)
  (hy: ∀(q:Nat) (a:AV) (y:Value),vs[q]? =some a→ys[q]? =some y→Cz E a y):Row E (Ab.bV cs o vs) (ys.zipIdx.foldl (fun cs (x,j)=>cs.setIfInBounds (o+j) x) c):=by
 obtain⟨h1,h2⟩:=rN o ys 0 c (by rw[h.1];omega);refine⟨by rw[h1,lV ho];exact h.1,fun q a y ha hq=>?_⟩;rw[zM ho]at ha;rw[h2]at hq;by_cases hc:o≤q∧q<o+vs.length
 ·rw[if_pos hc]at ha;rw[if_pos (by simpa[hl]using hc)]at hq;exact hy _ a y ha (by simpa using hq)
 ·rw[if_neg hc]at ha;rw[if_neg (by simpa[hl]using hc)]at hq;exact h.2 q a y ha hq
def ym(E:Env)(ps:List (Nat×AV))(vs:List (Nat×Value)):Prop:=ps.length=vs.length∧ ∀(q:Nat) (a:Nat×AV) (y:Nat×Value),ps[q]? =some a→vs[q]? =some y→a.1=y.1∧Cz E a.2 y.2
theorem ym.cons{p:Nat×AV}{ps:List (Nat×AV)}{vs:List (Nat×Value)}(h:ym E (p::ps) vs): ∃y ys,vs=y::ys∧p.1=y.1∧Cz E p.2 y.2∧ym E ps ys:=by
 cases vs with
 |nil=>simp[ym]at h
 |cons y ys=>
  have h0:=h.2 0 p y (by simp) (by simp)
  exact⟨y,ys,rfl,h0.1,h0.2,by have:=h.1;simpa using this,fun q a y ha hy=>h.2 (q+1) a y (by simpa using ha) (by simpa using hy)⟩
theorem GL{fs:List (Nat×Nat)}{place:Nat→Option (Nat×Nat)}(hp: ∀j o z,fs[j]? =some (o,z)→place j=some (o,z)):
  ∀{ps:List (Nat×AV)} {vs:List (Nat×Value)} {cs cs':List AV} {c:Array Value},ym E ps vs→Row E cs c→IZ fs cs ps=some cs'→ ∃c',Instr.fill place c vs=some c'∧Row E cs' c'
 |[],vs,cs,cs',c,h,hr,hf=>by
  have:vs=[]:=List.eq_nil_of_length_eq_zero (by have:=h.1;simp at this;omega)
  subst this;simp only[IZ,Option.some.injEq]at hf;subst hf;exact⟨c,by simp[Instr.fill],hr⟩
 |(i,a)::ps,vs,cs,cs',c,h,hr,hf=>by
  obtain⟨⟨i',y⟩,ys,rfl,h1,h2,h3⟩:=h.cons;dsimp only at h1 h2;subst h1;simp only[IZ]at hf;cases hfs:fs[i]? with
  |none=>rw[hfs]at hf;simp at hf
  |some oz=>
   obtain⟨o,z⟩:=oz;rw[hfs]at hf;dsimp only at hf;cases hk:BS a with
   |none=>rw[hk]at hf;simp at hf
   |some k=>
    rw[hk]at hf;dsimp only at hf;cases hb:dy k z&&oZ (o+z) cs.length with
    |false=>rw[hb]at hf;simp at hf
    |true=>
     rw[hb,az]at hf;simp only[Bool.and_eq_true]at hb;have hkz:k=z:=dK hb.1
     have hle:o+z≤cs.length:=by simpa using hb.2
     obtain⟨c1,c2,c3⟩:=qE h2 hk;have oE:=hr.bV (o:=o) (vs:=cellsOf a) (ys:=y.cells.toList) (by omega) (by simp;omega) (fun q a' y' h1 h2=>c3 q a' y' h1 (by simpa using h2))
     obtain⟨c',g1,g2⟩:=GL hp h3 oE hf;refine⟨c',?_,g2⟩;simp only[Instr.fill,hp i o z hfs];rw[if_neg (by simp only[Bool.or_eq_true,bne_iff_ne,decide_eq_true_eq,ne_eq,not_or,Decidable.not_not];exact⟨by omega,by rw[hr.1];omega⟩)];rw[←g1];congr 1;rw[←Array.foldl_toList];simp
theorem DU{z:Nat}:
  ∀{ps:List (Nat×AV)} {vs:List (Nat×Value)} {cs cs':List AV} {c:Array Value},ym E ps vs→Row E cs c→qi z cs ps=some cs'→ ∃c',Instr.fill (fun i=>some (i*z,z)) c vs=some c'∧Row E cs' c'
 |[],vs,cs,cs',c,h,hr,hf=>by
  have:vs=[]:=List.eq_nil_of_length_eq_zero (by have:=h.1;simp at this;omega)
  subst this;simp only[qi,Option.some.injEq]at hf;subst hf;exact⟨c,by simp[Instr.fill],hr⟩
 |(i,a)::ps,vs,cs,cs',c,h,hr,hf=>by
  obtain⟨⟨i',y⟩,ys,rfl,h1,h2,h3⟩:=h.cons;dsimp only at h1 h2;subst h1;simp only[qi]at hf;cases hk:BS a with
  |none=>rw[hk]at hf;simp at hf
  |some k=>
   rw[hk]at hf;dsimp only at hf;cases hb:dy k z&&oZ (i*z+z) cs.length with
   |false=>rw[hb]at hf;simp at hf
   |true=>
    rw[hb,az]at hf;simp only[Bool.and_eq_true]at hb;have hkz:k=z:=dK hb.1
    have hle:i*z+z≤cs.length:=by simpa using hb.2
    obtain⟨c1,c2,c3⟩:=qE h2 hk;have oE:=hr.bV (o:=i*z) (vs:=cellsOf a) (ys:=y.cells.toList) (by omega) (by simp;omega) (fun q a' y' h1 h2=>c3 q a' y' h1 (by simpa using h2))
    obtain⟨c',g1,g2⟩:=DU h3 oE hf;refine⟨c',?_,g2⟩;simp only[Instr.fill];rw[if_neg (by simp only[Bool.or_eq_true,bne_iff_ne,decide_eq_true_eq,ne_eq,not_or,Decidable.not_not];exact⟨by omega,by rw[hr.1];omega⟩)];rw[←g1];congr 1;rw[←Array.foldl_toList];simp
theorem L6{α β:Type}(P:Program){g:α→Sem β}{h:α→β}(w:World): ∀(l:List α),(∀x∈l,(g x).run P w= .ok (h x) w)→(l.mapM g).run P w= .ok (l.map h) w
 |[],_=>by simp[go_sem]
 |x::r,hx=>by
  have h1:=hx x (by simp)
  have h2:=L6 P w r (fun y hy=>hx y (by simp[hy]))
  rw[List.mapM_cons];simp[go_sem,h1,h2]
theorem L7{α β:Type}(P:Program){g:α→Sem β}{h:α→β}(w:World)(l:Array α)(hx: ∀x∈l.toList,(g x).run P w= .ok (h x) w):(l.mapM g).run P w= .ok (l.map h) w:=by
 rw[Array.mapM_eq_mapM_toList];have:=L6 P w l.toList hx
 simp[go_sem,this];exact Array.toList_inj.1 (by simp)
theorem run_build(hL:bG P L){t:Nat}{ps:List (Nat×AV)}{r:AV}(hr:Pv L t ps=some r){vs:Array (Nat×Value)}(hv:ym E ps vs.toList)(w:World):
  ∃x,(Instr.build t vs).run P w= .ok x w∧Cz E r x:=by
 unfold Pv at hr;cases ht:L t with
 |none=>rw[ht]at hr;simp at hr
 |some ti=>
  have jX:=hL.ok t ti ht
  rw[ht]at hr;obtain⟨k,size,bytes,zero⟩:=ti;cases k with
  |dB fs=>
   dsimp only at hr;obtain⟨i,d,z,h1,h2,h3,h4,h5,h6,F,h7,h8,h9⟩:=jX.ex;cases hf:IZ fs (zero.map .v) ps with
   |none=>rw[hf]at hr;simp at hr
   |some cs=>
    rw[hf]at hr;simp only[Option.some.injEq]at hr;subst hr;subst h7;dsimp only at h5 h8 h9;let QX:Field→Nat:=fun f=>((P.info? f.type).map (·.size)).getD 0;have hpl:((F.mapM fun f=>do pure (f.offset,←Go.sizeOf f.type):Sem (Array (Nat×Nat)))).run P w= .ok (F.map fun f=>(f.offset,QX f)) w:=by
     refine L7 P w F fun f hfm=>?_;obtain⟨j,hj,he⟩:=List.getElem_of_mem hfm;have hj':j<fs.length:=by rw[←h8];simpa using hj
     obtain⟨f',i',g1,g2,g3,g4⟩:=h9 j (fs[j]).1 (fs[j]).2 (eH hj');have:f'=f:=by
      have:F[j]? =some f:=by rw[←he];simp
      rw[this]at g1;cases g1;rfl
     subst this;simp[go_sem,Go.sizeOf,typeInfo,g3,QX]
    have oE:Row E (zero.map AV.v) z.cells:=by
     refine⟨by rw[List.length_map,←h5];simp,fun q a y ha hy=>?_⟩;rw[←h5,List.getElem?_map,Array.getElem?_toList,hy]at ha;simp at ha;subst ha;exact .v _
    obtain⟨c',g1,g2⟩:=GL (place:=((F.map fun f=>(f.offset,QX f))[·]?)) (fun j o zz hj=>by
     obtain⟨f',i',g1,g2,g3,g4⟩:=h9 j o zz hj;simp[g1,g2,QX,g3,g4]) hv oE hf
    refine⟨.agg c',?_,?_⟩
    ·have hz: ∀w,(zeroValue t).run P w= .ok z w:=by intro w;simp[zeroValue,typeInfo,go_sem,h1,h4]
     have hu: ∀w,(underlying t).run P w= .ok (.struct F) w:=fa h6
     simp only[bind_pure_comp]at hpl;unfold Instr.build;simp only[Sem.run_bind,hz,hu,hpl,Result.andThen,bind_pure_comp];simp only[g1];rfl
    ·have:=Cz.agg (E:=E) cs c'.toList (by simpa using g2.1) (fun q a y ha hy=>g2.2 q a y ha (by simpa using hy))
     simpa using this
  |arr n e=>
   dsimp only at hr;obtain⟨i,d,z,h1,h2,h3,h4,h5,h6,h7⟩:=jX.ex;dsimp only at h5 h7;subst h7;cases he:L e with
   |none=>rw[he]at hr;simp at hr
   |some te=>
    rw[he]at hr;dsimp only at hr;obtain⟨ie,de,ze,g1,g2,_⟩:=(hL.ok e te he).ex;cases hf:qi te.size (zero.map .v) ps with
    |none=>rw[hf]at hr;simp at hr
    |some cs=>
     rw[hf]at hr;simp only[Option.some.injEq]at hr;subst hr;have oE:Row E (zero.map AV.v) z.cells:=by
      refine⟨by rw[List.length_map,←h5];simp,fun q a y ha hy=>?_⟩;rw[←h5,List.getElem?_map,Array.getElem?_toList,hy]at ha;simp at ha;subst ha;exact .v _
     obtain⟨c',k1,k2⟩:=DU (z:=te.size) hv oE hf;refine⟨.agg c',?_,?_⟩
     ·have hz: ∀w,(zeroValue t).run P w= .ok z w:=by intro w;simp[zeroValue,typeInfo,go_sem,h1,h4]
      have hu: ∀w,(underlying t).run P w= .ok (.array n e) w:=fa h6
      have hs: ∀w,(Go.sizeOf e).run P w= .ok te.size w:=fun w=>by rw[←g2];exact kh g1 w
      unfold Instr.build;simp only[Sem.run_bind,hz,hu,hs,Result.andThen];simp only[k1];rfl
     ·have:=Cz.agg (E:=E) cs c'.toList (by simpa using k2.1) (fun q a y ha hy=>k2.2 q a y ha (by simpa using hy))
      simpa using this
  |_=>dsimp only at hr;simp at hr
theorem bX{x:Value}{k:Value}(h:Cz E (.v k) x):x=k:=by cases h;rfl
theorem WE(h:bJ E0 E w0 w s a)(hp:bp s p)(parts:List (Nat×Operand)):ym E (parts.map fun q=>(q.1,cd s p q.2)) (parts.map fun q=>(q.1,a.eval q.2)):=by
 refine⟨by simp,fun q x y hx hy=>?_⟩;simp only[List.getElem?_map]at hx hy;cases hq:parts[q]? with
 |none=>rw[hq]at hx;simp at hx
 |some z=>rw[hq]at hx hy;simp at hx hy;subst hx;subst hy;exact⟨rfl,h.ev hp _⟩
theorem NJ(a b:ByteArray):(a.toList==b.toList)=decide (a=b):=by
 have:a.toList=b.toList↔a=b:=⟨fun h=>by
  have ha:a.data.toList=b.data.toList:=by
   have e: ∀c:ByteArray,c.toList=c.data.toList:=fun c=>ByteArray.toList_eq c
   rw[←e,←e];exact h
  cases a;cases b;simp at ha;simp[ha],fun h=>by rw[h]⟩
 by_cases h:a=b
 ·subst h;simp
 ·have h': ¬a.toList=b.toList:=fun hh=>h (this.1 hh)
  simp[h,h']
theorem I3{op:BinOp}{t:Nat}{x y r:Value}(h:bin ak op x y=some r)(w:World):(binOp op t x y).run P w= .ok r w:=by
 unfold bin at h
 split at h<;>first
  |(rename_i k a k' b
    cases hk:k==k' with
    |false=>rw[hk]at h;simp at h
    |true=>
     have hkk:k=k':=by simpa using hk
     subst hkk;rw[hk,az]at h;cases h;first
      |(simp[binOp,Op.intArith,Op.intCmp,go_sem,ak];done)
      |(simp[binOp,Op.intArith,Op.intCmp,go_sem,ak];rfl))
  |(cases h
    simp[binOp,Op.stringOp,go_sem,ak,NJ]
    done)
  |(cases h
    simp[binOp,Op.stringOp,go_sem,ak,NJ];rfl)
  |(simp at h)
theorem Cz.len{x:Value}{r:Nat}{xs:List (List AV)}(h:Cz E (.sl r xs) x): ∃A c,x= .slice A xs.length c:=by
 cases h with
 |pd r A c=>exact⟨A,c,rfl⟩
 |sl=>exact⟨_,_,rfl⟩
def Yx:Op→Bool
 | .load _ _=>false
 | .build _ _=>false
 |_=>true
theorem MA(hL:bG P L){t f:Nat}{x r:AV}{v:Value}(h:WG L t f x=some r)(hc:Cz E x v): ∃y,(∀w,(Instr.field t v f).run P w= .ok y w)∧Cz E r y:=by
 unfold WG at h
 split at h
 ·rename_i fs size bytes zero ft uX
  split at h
  ·rename_i o z t' hf ht';cases Nh:L t' with
   |none=>rw[Nh]at h;cases h
   |some tj=>
    rw[Nh]at h;(obtain⟨cs,rfl⟩: ∃cs,x= .agg cs:=by cases x<;>first|exact⟨_,rfl⟩|cases h);dsimp only at h;cases hc with
    |agg _ ys hlen hq=>
    have jX:=hL.ok t _ uX
    obtain⟨i,d,zz,h1,h2,h3,h4,h5,h6,F,h7,h8,h9⟩:=jX.ex;obtain⟨ff,i',g1,g2,g3,g4⟩:=h9 f o z hf;obtain⟨ff',g5,g6⟩:=jX.fts F (h7▸h6) f t' ht';have hff:ff'=ff:=by rw[g1]at g5;exact(o5 g5).symm
    subst hff;obtain⟨i2,d2,z2,k1,k2,k3,k4,k5,k6,k7⟩:=(hL.ok t' tj Nh).ex;have anG: ∀w,(underlying t).run P w= .ok (.struct F) w:=fun w=>by rw[run_underlying h6,h7]
    have aei: ∀w,(underlying t').run P w= .ok d2 w:=fun w=>run_underlying k6 w
    unfold part at h;cases hle:oZ (o+tj.size) cs.length with
    |false=>rw[hle]at h;cases h
    |true=>
     rw[hle,az]at h;have ai5:o+tj.size≤cs.length:=Gn hle
     cases vh:tj.agg with
     |true=>
      rw[vh,az]at h;cases h;have XC: ∀w,(isAgg t').run P w= .ok true w:=fun w=>by
       unfold TI.agg at vh;unfold isAgg;rw[Sem.run_bind,aei];simp only[Result.andThen];cases hk:tj.k<;>rw[hk]at vh k7<;>try cases vh
       ·obtain⟨F2,hF2,_⟩:=k7;rw[hF2];rfl
       ·dsimp only at k7;rw[k7];rfl
      refine⟨.agg (ys.toArray.extract o (o+tj.size)),fun w=>?_,?_⟩
      ·simp[Instr.field,Sem.run_bind,anG,Result.andThen,g1,g6,g2,asAgg,Go.part,XC,kh k1,k2]
      ·have e:ys.toArray.extract o (o+tj.size)=((ys.drop o).take tj.size).toArray:=by
        apply Array.toList_inj.1;rw[Array.toList_extract,List.extract_eq_take_drop];simp
       rw[e];refine .agg _ _ (by simp[cut,hlen]) fun q a y ha hy=>?_;unfold cut at ha;rw[List.getElem?_take]at ha hy
       split at ha
       ·rw[List.getElem?_drop]at ha;rw[if_pos (by assumption),List.getElem?_drop]at hy;exact hq _ a y ha hy
       ·cases ha
     |false=>
      rw[vh,aC]at h;cases Lt:cs[o]? with
      |none=>rw[Lt]at h;cases h
      |some b=>
       rw[Lt]at h;cases h;have bc:o<ys.length:=by rw[hlen];exact(bq.1 Lt).1
       have hy:ys[o]? =some ys[o]:=by simp[bc]
       have XC: ∀w,(isAgg t').run P w= .ok false w:=fun w=>by
        unfold TI.agg at vh;unfold isAgg;rw[Sem.run_bind,aei];simp only[Result.andThen];(cases hk:tj.k<;>rw[hk]at vh k7<;>try cases vh);all_goals first
         |(dsimp only at k7;subst k7;rfl)
         |(dsimp only at k7;cases d2<;>first|rfl|exact k7.elim)
       refine⟨ys[o],fun w=>?_,hq o _ _ Lt hy⟩;simp[Instr.field,Sem.run_bind,anG,Result.andThen,g1,g6,g2,asAgg,Go.part,XC,bc]
  ·cases h
 ·cases h
theorem xC(hL:bG P L)(h:bJ E0 E w0 w s a)(hp:bp s p){o:Oper}{r:AV}(hr:tW ak L s p o.op=some r):
  ∃x,(∀w',(Yx o.op=false→w'=w)→(execOp a.eval o).run P w'= .ok (.value x) w')∧Cz E r x:=by
 unfold tW at hr
 split at hr
 ·rename_i x he;cases hr;exact⟨a.eval x,fun _ _=>by simp[execOp,he,go_sem],h.ev hp x⟩
 ·rename_i x he;cases hr;exact⟨a.eval x,fun _ _=>by simp[execOp,he,go_sem],h.ev hp x⟩
 ·rename_i x he;have hx:=h.ev hp x
  unfold amM at hr
  split at hr
  ·rename_i er;cases hr;rw[er]at hx;cases eK:a.eval x<;>rw[eK]at hx<;>cases hx;rename_i hl;exact⟨.pointer (some ⟨E.m _,_,none⟩),fun w' Ei=>by simp only[execOp,he,eK];simp[go_sem],.ptr _ _ hl⟩
  ·rename_i rr cs off er;cases hr;rw[er]at hx;cases eK:a.eval x<;>rw[eK]at hx<;>cases hx;rename_i b q u k1 k2 k3 k4 k5;exact⟨.pointer (some ⟨b,q+off,none⟩),fun w' Ei=>by simp only[execOp,he,eK];simp[go_sem],.aX _ cs off b q u k5 k1 k2 k3 k4⟩
  ·rename_i er;cases hr;rw[er]at hx;cases eK:a.eval x<;>rw[eK]at hx<;>cases hx;rename_i hl;exact⟨.pointer (some ⟨E.m _,_,none⟩),fun w' Ei=>by simp only[execOp,he,eK];simp[go_sem],.dc _ _ _ _ hl⟩
  ·rename_i rr z xs er;cases hr;rw[er]at hx;have hx0:=hx
   cases hx with
   |nG _ _ _ _ hz hc=>
   cases eK:a.eval x<;>rw[eK]at hc hx0<;>cases hc;rename_i b q u k1 k2 k3 k4 k5;exact⟨.pointer (some ⟨b,q+0,none⟩),fun w' Ei=>by simp only[execOp,he,eK];simp[go_sem],hx0⟩
  ·simp at hr
 ·rename_i t x f he;have hx:=h.ev hp x
  cases hf:iJ L t f with
  |none=>rw[hf]at hr;simp at hr
  |some o'=>
   rw[hf]at hr;dsimp only at hr;unfold WI at hr
   split at hr
   ·rename_i k off er;cases hr;rw[er]at hx;cases eK:a.eval x<;>rw[eK]at hx<;>cases hx;rename_i hl;exact⟨.pointer (some ⟨E.m k,off+o',none⟩),fun w' Ei=>by simp only[execOp,he,eK];simp[m0 hL hf],.ptr _ _ hl⟩
   ·rename_i rr cs off er;cases hr;rw[er]at hx;cases eK:a.eval x<;>rw[eK]at hx<;>cases hx;rename_i b q u g1 g2 g3 g4 g5;exact⟨.pointer (some ⟨b,q+off+o',none⟩),fun w' Ei=>by simp only[execOp,he,eK];simp[m0 hL hf],by rw[Nat.add_assoc];exact .aX _ cs (off+o') b q u g5 g1 g2 g3 g4⟩
   ·rename_i k i off z er;cases hr;rw[er]at hx;cases eK:a.eval x<;>rw[eK]at hx<;>cases hx;rename_i hl;exact⟨.pointer (some ⟨E.m k,i*z+off+o',none⟩),fun w' Ei=>by simp only[execOp,he,eK];simp[m0 hL hf],by rw[Nat.add_assoc];exact .dc k i (off+o') z hl⟩
   ·simp at hr
 ·rename_i t x he;have hx:=h.ev hp x
  cases ht:L t with
  |none=>rw[ht]at hr;simp at hr
  |some ti=>
   rw[ht]at hr;dsimp only at hr;unfold WH at hr
   split at hr
   ·rename_i d off er;rw[er]at hx
    split at hr
    ·rename_i cs gC;cases eK:a.eval x<;>rw[eK]at hx<;>cases hx;obtain⟨hl,c,e,hb,ho,hs,ef,hq⟩:=h.bx d _ gC;obtain⟨y,g1,g2⟩:=kj (P:=P) (E:=E) (w:=w) hL ht (b:=E.m (.s d)) (o:=0) hr (fun q a' ha=>by
      have bc:q<c.size:=by rw[ef];exact(bq.1 ha).1
      refine⟨c[q],by simp[aW,h.heap,hb,bc],hq q a' _ ha (by simp)⟩)
     refine⟨y,?_,g2⟩;rw[Nat.zero_add]at g1;intro w' Ei;have e:=Ei (by rw[he];rfl);subst e
     simp only[execOp,he,eK];simp[g1]
    ·simp at hr
   ·rename_i rr cs off er;rw[er]at hx;cases eK:a.eval x<;>rw[eK]at hx<;>cases hx;rename_i b q u k1 k2 k3 k4 k5;obtain⟨y,g1,g2⟩:=kj (P:=P) (E:=E) (w:=w) hL ht (b:=b) (o:=q) hr (fun j a' ha=>⟨u j,by rw[h.heap];exact k3 j a' ha,k4 j a' ha⟩);exact⟨y,fun w' Ei=>by have e:=Ei (by rw[he];rfl);subst e;simp only[execOp,he,eK];simp[g1],g2⟩
   ·simp at hr
 ·rename_i op t x y t' he;have hx:=h.ev hp x
  have hy:=h.ev hp y
  unfold amO at hr
  split at hr
  ·rename_i u v hu hv;rw[hu]at hx;rw[hv]at hy;cases hb:bin ak op u v with
   |none=>rw[hb]at hr;simp at hr
   |some z=>
    rw[hb]at hr;cases hr;refine⟨z,?_,.v _⟩;have e1:=bX hx
    have e2:=bX hy
    have hg: ∀w,(eqGuard op t x y (a.eval x) (a.eval y)).run P w= .ok () w:=by
     intro w;rw[e1,e2];unfold bin at hb
     split at hb<;>first|(simp[eqGuard,go_sem];done)|(simp at hb)
    simp only[e1,e2]at hg;intro w' _;simp only[execOp,he,e1,e2];simp[Sem.run_bind,hg,I3 hb,Result.andThen]
  ·simp at hr
 ·rename_i op t x he;have hx:=h.ev hp x
  unfold pUn at hr
  split at hr
  ·rename_i b er;cases hr;rw[er]at hx;have e1:=bX hx
   exact⟨.bool (!b),fun w' Ei=>by simp only[execOp,he,e1];simp[go_sem,Op.unary],.v _⟩
  ·simp at hr
 ·rename_i x i he;have hx:=h.ev hp x
  unfold MB at hr
  split at hr
  ·rename_i vs er;rw[er]at hx;cases eK:a.eval x<;>rw[eK]at hx<;>cases hx;rename_i ys hl hq;have bc:i<ys.length:=by rw[hl];exact(bq.1 hr).1
   exact⟨ys[i],fun w' Ei=>by simp only[execOp,he,eK];simp[go_sem,Instr.extract,bc],hq i r _ hr (by simp)⟩
  ·simp at hr
 ·rename_i t parts he;obtain⟨x,g1,g2⟩:=run_build hL hr (vs:=parts.map fun q=>(q.1,a.eval q.2)) (by simpa using WE h hp parts.toList) w;refine⟨x,?_,g2⟩;intro w' Ei;have e:=Ei (by rw[he];rfl);subst e
  have:(parts.map fun(i,x)=>(i,a.eval x))=parts.map fun q=>(q.1,a.eval q.2):=rfl
  simp[execOp,he,Sem.run_bind,this,g1,Result.andThen]
 ·rename_i t x f he;obtain⟨y,h1,h2⟩:=MA hL hr (h.ev hp x);exact⟨y,fun w' _=>by simp only[execOp,he];simp[Sem.run_bind,h1,Result.andThen],h2⟩
 ·rename_i c he
  split at hr
  ·rename_i b hb;unfold MC at hr
   split at hr
   ·rename_i t x Uh cI;cases uX:L t with
    |none=>rw[uX]at hr;simp at hr
    |some ti=>
     rw[uX]at hr;dsimp only at hr;obtain⟨y,hy⟩: ∃y,c.args= #[y]:=by
      cases hc:c.args.toList with
      |nil=>rw[hc]at cI;simp at cI
      |cons y r=>cases r with
       |nil=>exact⟨y,Array.toList_inj.1 hc⟩
       |cons _ _=>rw[hc]at cI;simp at cI
     have ht:c.argTypes= #[t]:=Array.toList_inj.1 Uh
     rw[hy]at cI;simp only[List.map_cons,List.map_nil,List.cons.injEq,and_true]at cI;have hx:=h.ev hp y
     rw[cI]at hx;obtain⟨i,d,z,h1,h2,h3,h4,h5,h6,h7⟩:=(hL.ok t ti uX).ex;have key: ∀(n:Int) (w:World),(Builtin.len_ #[t] o.type #[a.eval y]).run P w= .ok (.int .i64 n) w→(execOp a.eval o).run P w= .ok (.value (.int .i64 n)) w:=fun n w hn=>by
      simp[execOp,he,resolve,hb,invoke,builtin,hy,ht,Sem.run_bind,hn,Result.andThen]
     unfold amN at hr
     split at hr
     ·rename_i e rr xs hk;cases hr;rw[hk]at h7;dsimp only at h7;subst h7;obtain⟨A,cc,eK⟩:=hx.len;exact⟨.int .i64 xs.length,fun w' _=>key _ w' (by rw[eK];simp[Builtin.len_,go_sem,underlying,h6,goInt]),.v _⟩
     ·rename_i e rr tt xs hk;cases hr;rw[hk]at h7;dsimp only at h7;subst h7;obtain⟨A,cc,eK⟩:=hx.read.len;exact⟨.int .i64 xs.length,fun w' _=>key _ w' (by rw[eK];simp[Builtin.len_,go_sem,underlying,h6,goInt]),.v _⟩
     ·rename_i e kk n hk;cases hr;rw[hk]at h7;dsimp only at h7;subst h7;cases eK:a.eval y<;>rw[eK]at hx<;>cases hx;exact⟨.int .i64 n,fun w' _=>key _ w' (by rw[eK];simp[Builtin.len_,go_sem,underlying,h6,goInt]),.v _⟩
     ·rename_i b hk;cases hr;rw[hk]at h7;dsimp only at h7;subst h7;have eK:=bX hx
      exact⟨.int .i64 b.size,fun w' _=>key _ w' (by rw[eK];simp[Builtin.len_,go_sem,underlying,h6,goInt]),.v _⟩
     ·rename_i e A n cc hk;cases hr;rw[hk]at h7;dsimp only at h7;subst h7;have eK:=bX hx
      exact⟨.int .i64 n,fun w' _=>key _ w' (by rw[eK];simp[Builtin.len_,go_sem,underlying,h6,goInt]),.v _⟩
     ·rename_i n e hk;cases hr;rw[hk]at h7;dsimp only at h7;subst h7;exact⟨.int .i64 n,fun w' _=>key _ w' (by simp[Builtin.len_,go_sem,underlying,h6,goInt]),.v _⟩
     ·simp at hr
   ·simp at hr
  ·simp at hr
 ·simp at hr
theorem vS(hL:bG P L)(h:bJ E0 E w0 w s a)(hp:bp s p){o:Oper}{r:AV}(hr:tW ak L s p o.op=some r):
  ∃x,(execOp a.eval o).run P w= .ok (.value x) w∧Cz E r x:=
 let⟨x,h1,h2⟩:=xC hL h hp hr
 ⟨x,h1 w fun _=>rfl,h2⟩
end Ab
namespace Ab
open Go
variable{P:Program}{L:pN}{E0 E E':Env}{w0 w w':World}{s:St}{a:Act}{p:Path}
theorem uO(T:Tok→Bool)(d:Nat): ∀t,look d (iv T t)=(look d t).map (sR T)
 |[]=>rfl
 |(k,x)::r=>by
  simp only[iv,aG,uO T d r]
  split<;>rfl
theorem cN(T:Tok→Bool)(d:Nat): ∀t,look d (gd T t)=(look d t).map (zo T)
 |[]=>rfl
 |(k,x)::r=>by
  simp only[gd,aG,cN T d r]
  split<;>rfl
def St.sR(T:Tok→Bool)(s:St):St:={s with t:=iv T s.t,b:=gd T s.b,up:=nU T s.up}
theorem jE(T:Tok→Bool): ∀{p:Path},bp (s.sR T) p↔bp s p
 |[]=>Iff.rfl
 |(d,b)::r=>by
  simp only[bp,St.sR,uO];have ih:=jE T (p:=r)
  simp only[St.sR]at ih;rw[ih];refine and_congr_left fun _=>?_;cases look d s.t with
  |none=>rfl
  |some x=>
   cases x with
   |gs rr t xs=>cases ht:T t<;>simp[Ab.sR,ht,isB]
   |_=>rfl
def NV(C:Own→Prop):Prop:= ∀o,C o→o.loc=true∨dW o
theorem Ext.zU{C:Own→Prop}(h:Ext dW E0 E)(k:Ext C E E')(hC:NV C)(hold: ∀b,b<E0.h.size→(E.own b).loc=false):Ext dW E0 E':=
 ⟨Nat.le_trans h.size k.size,
  fun b o hs=>by obtain⟨h1,h2,h3⟩:=h.aR b o hs;obtain⟨k1,k2,k3⟩:=k.aR b o h1;exact⟨k1,k2.trans h2,k3.trans h3⟩,
  fun q hl=>by obtain⟨h1,h2,h3⟩:=h.live q hl;obtain⟨k1,k2,k3⟩:=k.live q h1;exact⟨k1,k2.trans h2,k3.trans h3⟩,
  fun b hb hn=>by
  obtain⟨h1,h2,h3,h4⟩:=h.bH b hb hn;obtain⟨k1,k2,k3,k4⟩:=k.bH b (Nat.lt_of_lt_of_le hb h.size) (fun hc=>by
   rcases hC _ hc with hl|hg
   ·rw[hold b hb]at hl;cases hl
   ·rw[h1]at hg;exact hn hg)
  exact⟨k1.trans h1,k2.trans h2,fun o=>(k3 o).trans (h3 o),k4.trans h4⟩⟩
theorem Ext.zu{C:Own→Prop}(k:Ext C E E')(hC:NV C)(h:Ext dW E0 E)(hold: ∀b,b<E0.h.size→(E.own b).loc=false)
  (xU: ∀b,b<E0.h.size→C (E.own b)→(E'.own b).loc=false): ∀b,b<E0.h.size→(E'.own b).loc=false:=fun b hb=>by
 by_cases hc:C (E.own b)
 ·exact xU b hb hc
 ·rw[(k.bH b (Nat.lt_of_lt_of_le hb h.size) hc).1];exact hold b hb
theorem yA{C:Own→Prop}(hE:Ext C E E')(hw:Wf E)(T:Tok→Bool)(hT: ∀t,C (.tok t)→T t=true){t:List (Nat×AV)}{A:Array Value}(h: ∀d x,look d t=some x→Cz E x (A.getD d undef)):
  ∀d x,look d (iv T t)=some x→Cz E' x (A.getD d undef):=by
 intro d x hd;rw[uO]at hd;cases hh:look d t with
 |none=>rw[hh]at hd;simp at hd
 |some y=>rw[hh]at hd;simp at hd;subst hd;exact((h d y hh).ext hE hw T hT).1
theorem cB.move{C:Own→Prop}(hE:Ext C E E')(hw:Wf E)(T:Tok→Bool)(hT: ∀t,C (.tok t)→T t=true){k:Key}{ob:Ob}(hk: ¬C (.key k))(hkn:aiB (some ob)=true→ ¬C (.tok k.tok))(h:cB E k ob):cB E' k (zo T ob):=by
 cases ob with
 |ow p uQ xs=>
  replace hkn:=hkn rfl;have h0:=h
  obtain⟨hl,ho,_⟩:=h0;obtain⟨l1,l2,l3⟩:=hE.live k hl;have bc:E.m k<E.h.size:=hw.own _ (by rw[ho];simp)
  obtain⟨k1,k2,k3,k4⟩:=hE.bH (E.m k) bc (by rw[ho];exact hk);exact A5 (fun _=>l1) l2 l3 (fun ho=>⟨k1.trans ho,k2,fun o=>(k3 o).1⟩) (fun a x hi hc=>(hc.ext hE hw T hT).2 hi) (fun b hb bc=>by
   obtain⟨q1,q2,q3,q4⟩:=hE.bH b bc (by rw[hb];exact hkn);exact⟨q1.trans hb,q2,q3,q4⟩) h
 |box cs=>
  obtain⟨hl,c,e,hb,ho,hs,ef,hq⟩:=h;obtain⟨l1,l2,l3⟩:=hE.live k hl;have bc:E.m k<E.h.size:=hw.own _ (by rw[ho];simp)
  obtain⟨k1,k2,k3,k4⟩:=hE.bH (E.m k) bc (by rw[ho];exact hk);refine⟨l1,c,e,?_,?_,?_,?_,?_⟩
  ·rw[l2,k2];exact hb
  ·rw[l2,k1];exact ho
  ·intro o;rw[l2,k3];exact hs o
  ·rw[dR];exact ef
  ·intro q a x ha hx;rw[rZ]at ha;cases hh:cs[q]? with
   |none=>rw[hh]at ha;simp at ha
   |some a'=>rw[hh]at ha;simp at ha;subst ha;exact((hq q a' x hh hx).ext hE hw T hT).1
 |arr z xs=>
  obtain⟨hl,jg,ew,hz,hm,c,e,hb,ho,hs,ef,hi,hq⟩:=h;obtain⟨l1,l2,l3⟩:=hE.live k hl;have bc:E.m k<E.h.size:=hw.own _ (by rw[ho];simp)
  obtain⟨k1,k2,k3,k4⟩:=hE.bH (E.m k) bc (by rw[ho];exact hk);refine⟨l1,l3.trans jg,ew,hz,hm,c,e,?_,?_,?_,ef,hi,fun q a x ha hx=>((hq q a x ha hx).ext hE hw T hT).2 (hi q a ha)⟩
  ·rw[l2,k2];exact hb
  ·rw[l2,k1];exact ho
  ·intro o;rw[l2,k3];exact hs o
 |lp n t ps pH body st=>
  obtain⟨hl,ho,hs,rec,hb,h1,h2,h3,h4,h5,h6,hq⟩:=h;obtain⟨l1,l2,l3⟩:=hE.live k hl;have bc:E.m k<E.h.size:=hw.own _ (by rw[ho];simp)
  obtain⟨k1,k2,k3,k4⟩:=hE.bH (E.m k) bc (by rw[ho];exact hk);refine⟨l1,?_,?_,rec,?_,h1,h2,h3,h4,h5,l2.trans h6,yA hE hw T hT hq⟩
  ·rw[l2,k1];exact ho
  ·intro o;rw[l2,k3];exact hs o
  ·rw[l2,k2];exact hb
theorem mE.move{C:Own→Prop}(hE:Ext C E E')(hw:Wf E)(T:Tok→Bool)(hT: ∀t,C (.tok t)→T t=true): ∀{ab:List Act} {fs:List Fr},mE E ab fs→mE E' ab (nU T fs)
 |[],[],_=>trivial
 |a::ab,f::fs,h=>⟨⟨h.1.1,yA hE hw T hT h.1.2⟩,mE.move hE hw T hT h.2⟩
 |[],_::_,h=>h.elim
 |_::_,[],h=>h.elim
theorem Dfs.move{C:Own→Prop}(hE:Ext C E E')(hC: ¬C .lh){n0:Nat}{l:List Deferred}(h:Dfs n0 E l):Dfs n0 E' l:=by
 obtain⟨Bs,h1,h2,h3⟩:=h;refine⟨Bs,h1,h2,fun B hB=>?_⟩;obtain⟨h4,h5,h6⟩:=h3 B hB;obtain⟨k1,k2,_⟩:=hE.bH B (Array.getElem?_eq_some_iff.1 h4).1 (by rw[h5];exact hC);exact⟨k2.trans h4,k1.trans h5,h6⟩
theorem NV.lh{C:Own→Prop}(h:NV C): ¬C .lh:=fun hc=>by
 rcases h _ hc with h|h
 ·cases h
 ·cases h
def Hh(T:Tok→Bool):Prop:= ∀t,T t=false
 mutual
theorem lF{T:Tok→Bool}(h:Hh T): ∀a,Ab.sR T a=a
  | .gs r t xs=>by simp[Ab.sR,h t]
  | .fn f cs=>by simp[Ab.sR,AP h cs]
  | .agg cs=>by simp[Ab.sR,AP h cs]
  | .gY cs=>by simp[Ab.sR,AP h cs]
  | .any=>rfl
  | .v _=>rfl
  | .sl _ _=>rfl
  | .aX _ _ _=>rfl
  | .ptr _ _=>rfl
  | .jB _ _=>rfl
  | .dc _ _ _ _=>rfl
  | .mp _=>rfl
  | .rQ _=>rfl
  | .ar _ _ _=>rfl
  | .bm _ _=>rfl
  | .nG _ _ _=>rfl
theorem AP{T:Tok→Bool}(h:Hh T): ∀a,Ab.mP T a=a
  |[]=>rfl
  |a::r=>by simp[mP,lF h a,AP h r]
end
theorem mG{T:Tok→Bool}(h:Hh T): ∀t,iv T t=t
 |[]=>rfl
 |(d,a)::r=>by simp[iv,lF h,mG h r]
theorem p6{T:Tok→Bool}(h:Hh T)(o:Ob):zo T o=o:=by cases o<;>simp[zo,AP h,mG h]
theorem rp{T:Tok→Bool}(h:Hh T): ∀t,nU T t=t
 |[]=>rfl
 |f::r=>by simp[nU,mG h,rp h r]
theorem QY{T:Tok→Bool}(h:Hh T): ∀t,gd T t=t
 |[]=>rfl
 |(d,a)::r=>by simp[gd,p6 h,QY h r]
theorem St.lF{T:Tok→Bool}(h:Hh T):s.sR T=s:=by cases s;simp[St.sR,mG h,QY h,rp h]
theorem bJ.giveUp(h:bJ E0 E w0 w s a)(T:Tok→Bool):bJ E0 E w0 w (s.sR T) a:=by
 have hE:=Ext.refl (fun _=>False) E
 have hT: ∀t,(fun _:Own=>False) (.tok t)→T t=true:=fun _ hf=>hf.elim
 refine⟨h.heap,h.wf,h.Lv,mE.move hE h.wf T hT h.up,h.sz,?_,?_,?_,?_,h.gx,h.gl,h.ext,h.zu,h.same,h.gk,h.nl,h.ng,h.lo⟩
 ·intro d x hd hp;have mI:look d (iv T s.t)=some x:=hd
  rw[uO]at mI;cases hh:look d s.t with
  |none=>rw[hh]at mI;simp at mI
  |some y=>rw[hh]at mI;simp at mI;subst mI;exact((h.tm d y hh ((jE T).1 hp)).ext hE h.wf T hT).1
 ·intro d q hd hp;exact h.cu d q hd (fun hh=>hp ((jE T).2 hh))
 ·intro d ob hd;have mI:look d (gd T s.b)=some ob:=hd
  rw[cN]at mI;cases hh:look d s.b with
  |none=>rw[hh]at mI;simp at mI
  |some y=>rw[hh]at mI;simp at mI;subst mI;exact cB.move hE h.wf T hT (fun hf=>hf.elim) (fun _ hf=>hf.elim) (h.bx d y hh)
 ·intro d hl;obtain⟨ob,ho⟩:=h.lv d hl;exact⟨zo T ob,by show look d (gd T s.b)=_;rw[cN,ho];rfl⟩
theorem bJ.draw(h:bJ E0 E w0 w s a)(hh:w'.heap=w.heap)(hs:jQ w w'):bJ E0 E w0 w' s a:=
 ⟨hh.trans h.heap,h.wf,h.Lv,h.up,h.sz,h.tm,h.cu,h.bx,h.lv,h.gx,h.gl,h.ext,h.zu,h.same.trans hs,h.gk,h.nl,h.ng,h.lo⟩
 mutual
theorem Rs{T:Tok→Bool}: ∀{a:AV},cH a=true→Ab.sR T a=a
  | .gs r t xs,h=>by simp[cH]at h
  | .fn f cs,h=>by simp only[Ab.sR,xR (show cw cs=true by simpa[cH]using h)]
  | .agg cs,h=>by simp only[Ab.sR,xR (show cw cs=true by simpa[cH]using h)]
  | .gY cs,h=>by simp only[Ab.sR,xR (show cw cs=true by simpa[cH]using h)]
  | .any,_=>rfl
  | .v _,_=>rfl
  | .sl _ _,_=>rfl
  | .aX _ _ _,_=>rfl
  | .ptr _ _,_=>rfl
  | .jB _ _,_=>rfl
  | .dc _ _ _ _,_=>rfl
  | .mp _,_=>rfl
  | .rQ _,_=>rfl
  | .ar _ _ _,_=>rfl
  | .bm _ _,_=>rfl
  | .nG _ _ _,_=>rfl
theorem xR{T:Tok→Bool}: ∀{a:List AV},cw a=true→mP T a=a
  |[],_=>rfl
  |a::r,h=>by
   simp only[cw,Bool.and_eq_true]at h;simp only[mP,Rs h.1,xR h.2]
end
theorem cB.shared{C:Own→Prop}(hE:Ext C E E')(hw:Wf E)(T:Tok→Bool)(hT: ∀t,C (.tok t)→T t=true){i:Nat}{ob:Ob}(hk: ¬C (.key (.o i)))
  (hg:match ob with
   | .box cs=> ∀(q:Nat) (a:AV),cs[q]? =some a→cH a=true
   | .arr _ _=>True
   | .ow .. =>False
   | .lp .. =>False)(h:cB E (.o i) ob):cB E' (.o i) ob:=by
 have hm:=cB.move hE hw T hT hk (fun ho=>by cases ob<;>first|(cases ho;done)|exact hg.elim) h
 cases ob with
 |arr z xs=>exact hm
 |lp=>exact hg.elim
 |ow=>exact hg.elim
 |box cs=>
  obtain⟨hl,c,e,hb,ho,hs,ef,hqq⟩:=hm;obtain⟨_,c0,e0,IU,_,_,hsz0,hq0⟩:=h;refine⟨hl,c,e,hb,ho,hs,by rw[ef,dR],fun q a x ha hx=>?_⟩;have:=hqq q (Ab.sR T a) x (by rw[rZ,ha];rfl) hx
  rwa [Rs (hg q a ha)]at this
theorem bJ.zU(h:bJ E0 E w0 w s a){C:Own→Prop}{T:Tok→Bool}(hE:Ext C E E')(hT: ∀t,C (.tok t)→T t=true)(hC:NV C)(Ei:Wf E')(hh:w'.heap=E'.h)(Gu:jQ w w')
  (xU: ∀b,b<E0.h.size→C (E.own b)→(E'.own b).loc=false)(b':List (Nat×Ob))(g':Nat→Option Ob)(jf:Nat)
  (hb: ∀d ob,look d b'=some ob→(∃ob0,look d s.b=some ob0∧ob=zo T ob0∧ ¬C (.key (.s d))∧ ¬C (.tok (.n d)))∨cB E' (.s d) ob)
  (hlv: ∀d,E'.live (.s d)→ ∃ob,look d b'=some ob)
  (hg: ∀i ob,g' i=some ob→(s.g i=some ob∧ ¬C (.key (.o i)))∨cB E' (.o i) ob)
  (hgl: ∀i,E'.live (.o i)↔i<jf)(P6:GOk g')(hng: ∀b,¬dW (E'.own b)):
  bJ E0 E' w0 w' {s with t:=iv T s.t,b:=b',g:=g',nx:=jf,up:=nU T s.up} a:=by
 refine⟨hh,Ei,h.Lv.move hE hC.lh,mE.move hE h.wf T hT h.up,h.sz,?_,?_,?_,hlv,?_,hgl,h.ext.zU hE hC h.zu,Ext.zu hE hC h.ext h.zu xU,h.same.trans Gu,P6,h.nl,hng,h.lo⟩
 ·intro d x hd hp;have mI:look d (iv T s.t)=some x:=hd
  rw[uO]at mI;have Xs:bp (s.sR T) (eV s d):=(nj (s:=s.sR T) (s':={s with t:=iv T s.t,b:=b',g:=g',nx:=jf,up:=nU T s.up}) (fun _ _=>rfl)).1 hp
  cases hk:look d s.t with
  |none=>rw[hk]at mI;simp at mI
  |some y=>rw[hk]at mI;simp at mI;subst mI;exact((h.tm d y hk ((jE T).1 Xs)).ext hE h.wf T hT).1
 ·intro d q hd hp;exact h.cu d q hd (fun hk=>hp ((nj (s:=s.sR T) (s':={s with t:=iv T s.t,b:=b',g:=g',nx:=jf,up:=nU T s.up}) (fun _ _=>rfl)).2 ((jE T).2 hk)))
 ·intro d ob hd;rcases hb d ob hd with⟨ob0,h1,h2,h3,h4⟩|h1
  ·subst h2;exact(h.bx d ob0 h1).move hE h.wf T hT h3 (fun _=>h4)
  ·exact h1
 ·intro i ob hi;rcases hg i ob hi with⟨h1,h2⟩|h1
  ·exact(h.gx i ob h1).shared hE h.wf T hT h2 (h.gk i ob h1)
  ·exact h1
end Ab
namespace Ab
open Go
variable{P:Program}{L:pN}{E0 E E':Env}{w0 w w':World}{s:St}{a:Act}{p:Path}{C:ey}
def Out(E0:Env)(w0:World)(a:Act)(K:bB)(x:Value)(w':World):Prop:= ∃r s' E',K r s'∧bJ E0 E' w0 w' s' a∧Cz E' r x
def hZ(E0:Env)(w0:World)(o:Oper)(a:Act)(K:bB):Act→World→Prop:=fun a' w'=> ∃x,a'=a.put o.dst x∧Out E0 w0 a K x w'
def Fp(P:Program)(o:Oper)(a:Act)(K:Act→World→Prop):Result Next→Prop
 | .ok (.value v) w'=>K (a.put o.dst v) w'
 | .ok .skip w'=>K (a.put o.dst undef) w'
 | .ok (.enter f args) w'=>Calls P f args w' fun e UL=> ∃x,e= .returned x∧K (a.put o.dst x) UL
 | .ok (.round l f tmps pH body) w'=>RoundIn Fence.wide 0 P l f tmps pH body w' fun e UL=> ∃x,e= .returned x∧K (a.put o.dst x) UL
 |_=>False
def mS(P:Program)(o:Oper)(a:Act)(w:World)(K:Act→World→Prop)(_:Exit→Act→World→Prop):Prop:=Fp P o a K ((execOp a.eval o).run P w)
theorem mS.mono{o:Oper}{Q:Exit→Act→World→Prop}{K K':Act→World→Prop}(h: ∀a w,K a w→K' a w)(hh:mS P o a w K Q):mS P o a w K' Q:=by
 unfold mS at*;generalize (execOp a.eval o).run P w=r at*;cases r with
 |ok n w'=>
  cases n<;>simp only[Fp]at hh ⊢ <;>
   first
    |exact h _ _ hh
    |exact Calls.mono hh (fun e UL ⟨x,e1,e2⟩=>⟨x,e1,h _ _ e2⟩)
    |exact RoundIn.mono hh (fun e UL ⟨x,e1,e2⟩=>⟨x,e1,h _ _ e2⟩)
 |halt x w'=>simp only[Fp]at hh
theorem dq{o:Oper}{Q:Exit→Act→World→Prop}{K:bB}{x:Value}(h:(execOp a.eval o).run P w= .ok (.value x) w')(k:Out E0 w0 a K x w'):mS P o a w (hZ E0 w0 o a K) Q:=by
 unfold mS;rw[h];exact⟨x,rfl,k⟩
theorem xl{o:Oper}{Q:Exit→Act→World→Prop}{K:bB}(h:(execOp a.eval o).run P w= .ok .skip w')(k:Out E0 w0 a K undef w'):mS P o a w (hZ E0 w0 o a K) Q:=by
 unfold mS;rw[h];exact⟨undef,rfl,k⟩
theorem iT(P:Program)(e:Nat)(c:Array Value)(w:World):(newRow e c).run P w= .ok ⟨w.heap.size,0,none⟩ (w.alloc (.cells c e)):=rfl
def Env.addKey(E:Env)(k:Key)(o:Obj)(n:Nat:=0):Env:=
 {E with len:=fun q=>if q=k then(n,n)else E.len q,h:=E.h.push o,m:=fun q=>if q=k then E.h.size else E.m q,live:=fun q=>q=k∨E.live q,own:=fun b=>if b=E.h.size then .key k else E.own b}
theorem As(h:Array Obj)(o:Obj){b:Nat}(hb:b<h.size)(i:Nat):aW (h.push o) b i=aW h b i:=by
 unfold aW;rw[Array.getElem?_push,if_neg (by omega)]
theorem pJ(hw:Wf E){k:Key}(hk: ¬E.live k)(o:Obj)(n:Nat:=0):Ext (fun _=>False) E (E.addKey k o n):=
 ⟨by simp[Env.addKey],
  fun b i hs=>⟨hs,As _ _ (hw.aR b i hs) i,rfl⟩,
  fun q hq=>⟨.inr hq,by simp only[Env.addKey];rw[if_neg (fun e=>by subst e;exact hk hq)],by simp only[Env.addKey];rw[if_neg (fun e=>by subst e;exact hk hq)]⟩,
  fun b hb _=>⟨by simp only[Env.addKey];rw[if_neg (by omega)],by simp only[Env.addKey];rw[Array.getElem?_push,if_neg (by omega)],fun _=>Iff.rfl,rfl⟩⟩
theorem Jb(hw:Wf E)(k:Key)(o:Obj)(n:Nat:=0):Wf (E.addKey k o n):=
 ⟨fun b i hs=>by have:=hw.aR b i hs;simp[Env.addKey];omega,
  fun b hb=>by
  simp only[Env.addKey]at hb ⊢;by_cases h:b=E.h.size
  ·subst h;simp
  ·rw[if_neg h]at hb;have:=hw.own b hb;simp;omega,
  fun b i hs hr=>by
  obtain⟨c,e,h⟩:=hw.fz b i hs hr;have:=hw.aR b i hs
  exact⟨c,e,by simp only[Env.addKey];rw[Array.getElem?_push,if_neg (by omega)];exact h⟩⟩
theorem sq:NV (fun _=>False):=fun _ h=>h.elim
theorem vL(w:World)(o:Obj):jQ w (w.alloc o):=⟨rfl,rfl,rfl⟩
theorem Jc(h: ∀b,¬dW (E.own b))(d:Nat){o:Obj}{n:Nat}(b:Nat): ¬dW ((E.addKey (.s d) o n).own b):=by
 simp only[Env.addKey]
 split
 ·simp[dW,Own.dW,Key.loc]
 ·exact h b
theorem bJ.WU(h:bJ E0 E w0 w s a){d:Nat}(hd:look d s.b=none){ob:Ob}{c:Array Value}{e n:Nat}(wj:cB (E.addKey (.s d) (.cells c e (0,0)) n) (.s d) ob):
  bJ E0 (E.addKey (.s d) (.cells c e (0,0)) n) w0 (w.alloc (.cells c e)) {s with b:=dt d ob s.b} a:=by
 have Bt: ¬E.live (.s d):=fun hl=>by obtain⟨ob,ho⟩:=h.lv d hl;rw[hd]at ho;cases ho
 have hE:=pJ h.wf Bt (.cells c e (0,0)) n
 have hs:=h.zU (T:=fun _=>false) hE (fun _ hf=>hf.elim) sq (Jb h.wf _ _ n) (w':=w.alloc (.cells c e)) (by show w.heap.push _=_;rw[h.heap];rfl) (vL _ _) (fun _ _ hf=>hf.elim)
  (dt d ob s.b) s.g s.nx (fun d' Gb h'=>by
   rw[aJ]at h';by_cases uy:d=d'
   ·rw[if_pos uy]at h';cases h';subst uy;exact .inr wj
   ·rw[if_neg uy]at h';exact .inl ⟨Gb,h',(p6 (fun _=>rfl) Gb).symm,(fun hf=>hf),fun hf=>hf⟩)
  (fun d' hl=>by
   rw[aJ];by_cases uy:d=d'
   ·exact⟨ob,by rw[if_pos uy]⟩
   ·rw[if_neg uy];rcases hl with hl|hl
    ·exact absurd (by injection hl with hl;exact hl.symm) uy
    ·exact h.lv d' hl)
  (fun i Gb h'=> .inl ⟨h',fun hf=>hf⟩)
  (fun i=>by
   constructor
   ·rintro(hl|hl)
    ·cases hl
    ·exact(h.gl i).1 hl
   ·exact fun hl=> .inr ((h.gl i).2 hl)) h.gk (fun b=>Jc h.ng d b)
 have:iv (fun _=>false) s.t=s.t:=mG (fun _=>rfl) _
 rw[this,rp (fun _=>rfl)]at hs;exact hs
theorem Qz(h:bJ E0 E w0 w s a){k:Key}(hk: ¬E.live k){cs:List AV}{c:Array Value}(hr:Row E cs c)(e:Nat):cB (E.addKey k (.cells c e (0,0))) k (.box cs):=by
 have hE:=pJ h.wf hk (.cells c e (0,0))
 refine⟨.inl rfl,c,e,by simp[Env.addKey],by simp[Env.addKey],fun o hs=>?_,hr.1,fun q a x ha hx=>?_⟩
 ·simp only[Env.addKey,if_true]at hs;have:=h.wf.aR _ _ hs;omega
 ·have:=((hr.2 q a x ha hx).ext hE h.wf (fun _=>false) (fun _ hf=>hf.elim)).1
  rwa [lF (fun _=>rfl)]at this
theorem Be(h:bJ E0 E w0 w s a){d e:Nat}{cs:List AV}{c:Array Value}(hr:Row E cs c){K:bB}(hk:Kw C s d cs K):
  Out E0 w0 a K (.pointer (some ⟨w.heap.size,0,none⟩)) (w.alloc (.cells c e)):=by
 unfold Kw at hk;cases uw:N3 d C.sh with
 |true=>
  rw[uw,az]at hk;exact hk.elim
 |false=>
  rw[uw,aC]at hk;generalize C.base+d=d at hk;cases hl:look d s.b with
  |some _=>rw[hl]at hk;exact hk.elim
  |none=>
   rw[hl]at hk;have Bt: ¬E.live (.s d):=fun tG=>by obtain⟨ob,ho⟩:=h.lv d tG;rw[hl]at ho;cases ho
   refine⟨_,_,_,hk,h.WU hl (Qz h Bt hr e),?_⟩;have:(E.addKey (.s d) (.cells c e (0,0))).m (.s d)=w.heap.size:=by simp[Env.addKey,h.heap]
   rw[←this];exact .ptr _ _ (.inl rfl)
theorem Ot(h:bJ E0 E w0 w s a){o:Oper}{e d:Nat}{x:Operand}(he:o.op= .box e x){K:bB}{Q:Exit→Act→World→Prop}(hk:afe C d (cd s [] x) s K):mS P o a w (hZ E0 w0 o a K) Q:=by
 unfold afe at hk;cases hz:BS (cd s [] x)with
 |none=>rw[hz]at hk;exact hk.elim
 |some k=>
  rw[hz]at hk;have hx:=h.ev (p:=[]) trivial x
  obtain⟨c1,c2,c3⟩:=qE hx hz;have:=Be h (e:=e) (c:=(a.eval x).cells) ⟨by rw[c1,c2],c3⟩ hk
  refine dq (x:= .pointer (some ⟨w.heap.size,0,none⟩)) (w':=w.alloc (.cells (a.eval x).cells e)) ?_ this;simp only[execOp,he,Instr.box,newVar];simp[iT]
theorem Ur{z:Value}{l:List Value}(h:z.cells.toList=l):Row E (l.map AV.v) z.cells:=by
 refine⟨by rw[List.length_map,←h];simp,fun q a y ha hy=>?_⟩;rw[←h,List.getElem?_map,Array.getElem?_toList,hy]at ha;simp at ha;subst ha;exact .v _
theorem Ir{e:Nat}{z:Value}{i:TypeInfo}(h:P.info? e=some i)(hz:i.zero=some z)(w:World):(Instr.alloc e true (.tuple #[])).run P w= .ok (.pointer (some ⟨w.heap.size,0,none⟩)) (w.alloc (.cells z.cells e)):=by
 have h1: ∀w,(zeroValue e).run P w= .ok z w:=fun w=>by simp[zeroValue,typeInfo,go_sem,h,hz]
 unfold Instr.alloc;simp[Sem.run_bind,h1,Result.andThen,newVar,iT]
theorem aiG(l:List Value):cw (l.map AV.v)=true:=yK fun q a h=>by
 rw[List.getElem?_map]at h;cases hq:l[q]? with
 |none=>rw[hq]at h;simp at h
 |some x=>rw[hq]at h;simp at h;subst h;rfl
theorem Nc{a b:List AV}(ha:cw a=true)(hb:cw b=true):cw (a++b)=true:=by
 induction a with
 |nil=>exact hb
 |cons x r ih=>simp only[cw,Bool.and_eq_true,List.cons_append]at ha ⊢;exact⟨ha.1,ih ha.2⟩
theorem wi(n:Nat){l:List AV}(h:cw l=true):cw (List.replicate n l).flatten=true:=by
 induction n with
 |zero=>rfl
 |succ n ih=>rw[List.replicate_succ,List.flatten_cons];exact Nc h ih
theorem LP: ∀(n:Nat) (l:List Value),(List.replicate n (l.map AV.v)).flatten=((List.replicate n l).flatten).map AV.v
 |0,_=>rfl
 |n+1,l=>by rw[List.replicate_succ,List.replicate_succ,List.flatten_cons,List.flatten_cons,List.map_append,LP n l]
theorem Hd(h:bJ E0 E w0 w s a){k:Key}(hk: ¬E.live k){z:Nat}{n:Nat}{l:List Value}(hz:0<z)(hl:l.length=z)(hn:n≤maxLen){c:Array Value}(hc:c.toList=(List.replicate n l).flatten)(e:Nat):
  cB (E.addKey k (.cells c e (0,0)) n) k (.arr z (List.replicate n (l.map AV.v))):=by
 have hlen: ∀x∈List.replicate n l,x.length=z:=fun x hx=>by rw[(List.mem_replicate.1 hx).2];exact hl
 refine⟨.inl rfl,by simp[Env.addKey],hz,fun x hx=>by rw[(List.mem_replicate.1 hx).2];simp[hl],by simpa using hn,c,e,by simp[Env.addKey],by simp[Env.addKey],fun o hs=>?_,?_,?_,?_⟩
 ·simp only[Env.addKey,if_true]at hs;have:=h.wf.aR _ _ hs;omega
 ·have:c.toList.length=n*z:=by rw[hc,aH hlen];simp
  simpa using this
 ·exact bD (wi n (aiG l))
 ·intro q a x ha hx;rw[LP,List.getElem?_map,←hc,Array.getElem?_toList,hx]at ha;simp at ha;subst ha;exact .v _
theorem tO{z:Nat}: ∀{n:Nat} {l:List AV},l.length=n*z→(chunks z n l).flatten=l∧(chunks z n l).length=n∧ ∀x∈chunks z n l,x.length=z
 |0,l,h=>by
  have:l=[]:=List.eq_nil_of_length_eq_zero (by simpa using h)
  subst this;simp[chunks]
 |n+1,l,h=>by
  rw[Nat.succ_mul]at h;obtain⟨h1,h2,h3⟩:=tO (z:=z) (n:=n) (l:=l.drop z) (by simp;omega);refine⟨by simp[chunks,h1],by simp[chunks,h2],fun x hx=>?_⟩;simp only[chunks,List.mem_cons]at hx;rcases hx with rfl|hx
  ·simp;omega
  ·exact h3 x hx
theorem DY(h:bJ E0 E w0 w s a){k:Key}(hk: ¬E.live k){z n:Nat}{cs:List AV}(hz:0<z)(hn:n≤maxLen){c:Array Value}(hl:cs.length=n*z)(hi:cw cs=true)(hr:Row E cs c)(e:Nat):
  cB (E.addKey k (.cells c e (0,0)) n) k (.arr z (chunks z n cs)):=by
 obtain⟨f1,f2,f3⟩:=tO hl;have hE:=pJ h.wf hk (.cells c e (0,0)) n
 refine⟨.inl rfl,by simp[Env.addKey,f2],hz,f3,by rw[f2];exact hn,c,e,by simp[Env.addKey],by simp[Env.addKey],fun o hs=>?_,by rw[f2,hr.1,hl],?_,?_⟩
 ·simp only[Env.addKey,if_true]at hs;have:=h.wf.aR _ _ hs;omega
 ·rw[f1];exact bD hi
 ·rw[f1];intro q a x ha hx;have:=((hr.2 q a x ha hx).ext hE h.wf (fun _=>false) (fun _ hf=>hf.elim)).1
  rwa [lF (fun _=>rfl)]at this
theorem JE(hL:bG P C.L)(hI:C.I=ak)(h:bJ E0 E w0 w s a){o:Oper}{e d:Nat}(he:o.op= .alloc e){K:bB}{Q:Exit→Act→World→Prop}(hk:Ou C d e s K):mS P o a w (hZ E0 w0 o a K) Q:=by
 unfold Ou at hk;cases ht:C.L e with
 |none=>rw[ht]at hk;exact hk.elim
 |some ti=>
  rw[ht]at hk;dsimp only at hk;obtain⟨i,dd,z,h1,h2,h3,h4,h5,h6,h7⟩:=(hL.ok e ti ht).ex;have eY:(execOp a.eval o).run P w= .ok (.value (.pointer (some ⟨w.heap.size,0,none⟩))) (w.alloc (.cells z.cells e)):=by
   simp only[execOp,he];simp[Ir h1 h4]
  refine dq eY ?_
  split at hk
  ·rename_i n e' kH
   split at hk
   ·rename_i Oz ht' gC;cases hb:dy (n*Oz.size) ti.size&&(oZ 1 Oz.size&&oZ n 1048576)with
    |false=>rw[hb]at hk;exact hk.elim
    |true=>
     rw[hb,az]at hk;simp only[Bool.and_eq_true]at hb;have b1:n*Oz.size=ti.size:=dK hb.1
     have b2:1≤Oz.size:=by simpa using hb.2.1
     have b3:n≤1048576:=by simpa using hb.2.2
     generalize C.base+d=d at hk gC;have Bt: ¬E.live (.s d):=fun tG=>by obtain⟨ob,ho⟩:=h.lv d tG;rw[gC]at ho;cases ho
     obtain⟨zs,⟨hz1,Tu⟩,hk⟩:=hk;rw[hI]at Tu;have Tu:List.replicate n (Oz.zero.map AV.v)=zs:=Tu
     subst Tu;refine⟨_,_,_,hk,h.WU gC (Hd h Bt (z:=Oz.size) (n:=n) (l:=Oz.zero) (c:=z.cells) b2 (hL.ok e' Oz ht').N9 (by unfold maxLen;omega) (by rw[h5,hz1]) e),?_⟩;have:(E.addKey (.s d) (.cells z.cells e (0,0)) n).m (.s d)=w.heap.size:=by simp[Env.addKey,h.heap]
     rw[←this];exact .ptr _ _ (.inl rfl)
   ·exact hk.elim
  ·exact Be h (Ur h5) hk
theorem JV(w:World)(b o:Nat)(v:Value){c:Array Value}{e:Nat}{fr:Nat×Nat}(h:w.heap[b]? =some (.cells c e fr)):
  (w.setCell ⟨b,o,none⟩ v).heap=w.heap.setIfInBounds b (.cells (c.setIfInBounds o v) e fr):=by
 obtain⟨bc,hb⟩:=Array.getElem?_eq_some_iff.1 h;apply Array.ext
 ·simp[World.setCell]
 ·intro i h1 h2;simp only[World.setCell];by_cases hi:i=b
  ·subst hi;rw[Array.getElem_modify_self,Array.getElem_setIfInBounds_self,hb];obtain⟨x,y⟩:=fr;rfl
  ·rw[Array.getElem_modify_of_ne (Ne.symm hi),Array.getElem_setIfInBounds_ne (by simpa[World.setCell]using h1) (Ne.symm hi)]
theorem iw(P:Program)(b off e:Nat): ∀(vs:List Value) (i:Nat) (w:World) (c:Array Value),w.heap[b]? =some (.cells c e (0,0))→off+i+vs.length≤c.size→(∀v∈vs,tT v=true)→
  ∃w',(storeCells ⟨b,off,none⟩ vs i).run P w= .ok () w'∧w'.heap=w.heap.setIfInBounds b (.cells ((vs.zipIdx i).foldl (fun cs (x,j)=>cs.setIfInBounds (off+j) x) c) e (0,0))∧jQ w w'
 |[],i,w,c,hb,_,_=>by
  refine⟨w,by simp[storeCells,go_sem],?_,jQ.refl _⟩;obtain⟨bc,fP⟩:=Array.getElem?_eq_some_iff.1 hb;apply Array.ext
  ·simp
  ·intro j h1 h2;by_cases hj:j=b
   ·subst hj;rw[Array.getElem_setIfInBounds_self];simpa using fP
   ·rw[Array.getElem_setIfInBounds_ne h1 (Ne.symm hj)]
 |v::r,i,w,c,hb,hlen,hv=>by
  simp only[List.length_cons]at hlen;have ve:w.cell? ⟨b,off+i,none⟩=some c[off+i]:=by rw[kP,aW,hb];simp
  have hfr:w.frozen? ⟨b,off+i,none⟩=false:=by simp[World.frozen?,hb]
  have h0:=hv v (by simp)
  have gZ:(store ⟨b,off+i,none⟩ v).run P w= .ok () (w.setCell ⟨b,off+i,none⟩ v):=by
   unfold store;cases v<;>first|(simp[tT]at h0;done)|(simp[Sem.run,ve,hfr])
  have Nl:=JV w b (off+i) v hb
  have bc:b<w.heap.size:=(Array.getElem?_eq_some_iff.1 hb).1
  obtain⟨w',g1,g2,g3⟩:=iw P b off e r (i+1) (w.setCell ⟨b,off+i,none⟩ v) (c.setIfInBounds (off+i) v) (by rw[Nl];simp[bc]) (by simp;omega) (fun x hx=>hv x (by simp[hx]));refine⟨w',?_,?_,?_⟩
  ·simp only[storeCells,eG];simp[Sem.run_bind,gZ,Result.andThen,g1]
  ·rw[g2,Nl];simp
  ·exact jQ.trans ⟨rfl,rfl,rfl⟩ g3
theorem run_store(hL:bG P L){t:Nat}{ti:TI}(ht:L t=some ti){b off e:Nat}{c:Array Value}{v:Value}(hb:w.heap[b]? =some (.cells c e (0,0)))(ef:v.cells.size=ti.size)(hle:off+ti.size≤c.size)
  (hv: ∀x∈v.cells.toList,tT x=true):
  ∃w',(Instr.storeAt t (.pointer (some ⟨b,off,none⟩)) v).run P w= .ok () w'∧w'.heap=w.heap.setIfInBounds b (.cells (v.cells.toList.zipIdx.foldl (fun cs (x,j)=>cs.setIfInBounds (off+j) x) c) e (0,0))∧jQ w w':=by
 obtain⟨i,d,z,h1,h2,h3,h4,h5,h6,h7⟩:=(hL.ok t ti ht).ex;obtain⟨w',g1,g2,g3⟩:=iw P b off e v.cells.toList 0 w c hb (by simp;omega) hv;refine⟨w',?_,g2,g3⟩;unfold Instr.storeAt storeVar;simp only[Instr.sureAddr];simp[Sem.run_bind,Go.sizeOf,typeInfo,Sem.run,program,h1,h2,ef,Result.andThen,g1]
theorem F8{cs:List AV}{c:Array Value}(hr:Row E cs c)(h:rC cs=true): ∀x∈c.toList,tT x=true:=by
 have key: ∀(q:Nat) (a:AV),cs[q]? =some a→WN a=true:=by
  clear hr
  induction cs with
  |nil=>intro q a ha;simp at ha
  |cons y r ih=>
   simp only[rC,Bool.and_eq_true]at h;intro q a ha;cases q with
   |zero=>simp at ha;subst ha;exact h.1
   |succ q=>exact ih h.2 q a (by simpa using ha)
 intro x hx;obtain⟨q,hq,he⟩:=List.getElem_of_mem hx;have xd:q<cs.length:=by rw[←hr.1];simpa using hq
 have h1:=key q cs[q] (by simp)
 have h2:=hr.2 q cs[q] x (by simp) (by rw[←he];simp)
 cases Lt:cs[q]<;>rw[Lt]at h1 h2<;>cases h2<;>first|rfl|(simp[WN]at h1;done)|exact h1|(rename_i hc;cases hc;rfl)
def Env.write(E:Env)(k:Key)(o:Obj):Env:={E with h:=E.h.setIfInBounds (E.m k) o}
theorem jC{k:Key}(ho:E.own (E.m k)= .key k)(hs: ∀o,¬E.aR (E.m k) o)(o:Obj):Ext (fun x=>x= .key k) E (E.write k o):=
 ⟨by simp[Env.write],
  fun b i hb=>⟨hb,by
   have:b≠E.m k:=fun e=>by subst e;exact hs i hb
   simp only[Env.write,aW];rw[Array.getElem?_setIfInBounds_ne (Ne.symm this)],rfl⟩,
  fun q hq=>⟨hq,rfl,rfl⟩,
  fun b hb hn=>⟨rfl,by
   have:b≠E.m k:=fun e=>by subst e;exact hn ho
   simp only[Env.write];rw[Array.getElem?_setIfInBounds_ne (Ne.symm this)],fun _=>Iff.rfl,rfl⟩⟩
theorem UD(hw:Wf E)(k:Key)(o:Obj)(hn: ∀i,¬E.aR (E.m k) i):Wf (E.write k o):=
 ⟨fun b i hs=>by have:=hw.aR b i hs;simpa[Env.write]using this,fun b hb=>by have:=hw.own b hb;simpa[Env.write]using this,
  fun b i hs hr=>by
  obtain⟨c,e,h⟩:=hw.fz b i hs hr;have:b≠E.m k:=fun e=>by subst e;exact hn i hs
  exact⟨c,e,by simp only[Env.write];rw[Array.getElem?_setIfInBounds_ne (Ne.symm this)];exact h⟩⟩
theorem MR(k:Key):NV (fun x=>x= .key k):=fun o h=>by subst h;cases k<;>simp[Own.loc,dW,Own.dW,Key.loc]
theorem gw(k:Key): ∀t,(fun x=>x=Own.key k) (.tok t)→(fun _:Tok=>false) t=true:=fun t h=>by cases h
theorem bJ.rR(h:bJ E0 E w0 w s a){d:Nat}{ob ob0:Ob}(gC:look d s.b=some ob0){o:Obj}(wj:cB (E.write (.s d) o) (.s d) ob)(hh:w'.heap=w.heap.setIfInBounds (E.m (.s d)) o)(Gu:jQ w w')
  (ho:E.own (E.m (.s d))= .key (.s d))(hs: ∀o,¬E.aR (E.m (.s d)) o):bJ E0 (E.write (.s d) o) w0 w' {s with b:=dt d ob s.b} a:=by
 have hE:=jC ho hs o
 have hx:=h.zU (T:=fun _=>false) hE (gw _) (MR _) (UD h.wf _ _ hs) (w':=w') (by rw[hh,h.heap];rfl) Gu
  (fun b hb hc=>by have:=h.zu b hb;rw[hc]at this;simp[Own.loc,Key.loc]at this) (dt d ob s.b) s.g s.nx
  (fun d' Gb h'=>by
   rw[aJ]at h';by_cases uy:d=d'
   ·rw[if_pos uy]at h';cases h';subst uy;exact .inr wj
   ·rw[if_neg uy]at h';exact .inl ⟨Gb,h',(p6 (fun _=>rfl) Gb).symm,(fun hf=>uy (by injection hf with hf;injection hf with hf;exact hf.symm)),fun hf=>by cases hf⟩)
  (fun d' hl=>by
   rw[aJ];by_cases uy:d=d'
   ·exact⟨ob,by rw[if_pos uy]⟩
   ·rw[if_neg uy];exact h.lv d' hl)
  (fun i Gb h'=> .inl ⟨h',fun hf=>by cases hf⟩) (fun i=>h.gl i) h.gk h.ng
 have:iv (fun _=>false) s.t=s.t:=mG (fun _=>rfl) _
 rw[this,rp (fun _=>rfl)]at hx;exact hx
theorem Ca{k:Key}{cs vs:List AV}{c:Array Value}{e off:Nat}{ys:List Value}(hw:Wf E)(hl:E.live k)(hb:E.h[E.m k]? =some (.cells c e (0,0)))(ho:E.own (E.m k)= .key k)(hs: ∀o,¬E.aR (E.m k) o)
  (hr:Row E cs c)(hle:off+vs.length≤cs.length)(N4:ys.length=vs.length)(hy: ∀(q:Nat) (a:AV) (y:Value),vs[q]? =some a→ys[q]? =some y→Cz E a y):
  cB (E.write k (.cells (ys.zipIdx.foldl (fun cs (x,j)=>cs.setIfInBounds (off+j) x) c) e (0,0))) k (.box (bV cs off vs)):=by
 have B7:=hr.bV hle N4 hy
 have hE:=jC ho hs (.cells (ys.zipIdx.foldl (fun cs (x,j)=>cs.setIfInBounds (off+j) x) c) e (0,0))
 have bc:E.m k<E.h.size:=(Array.getElem?_eq_some_iff.1 hb).1
 refine⟨hl,_,e,by simp[Env.write,bc],ho,hs,B7.1,fun q a x ha hx=>?_⟩;have:=((B7.2 q a x ha hx).ext hE hw (fun _=>false) (gw _)).1
 rwa [lF (fun _=>rfl)]at this
theorem Cz.giveUp{av:AV}{v:Value}(hw:Wf E)(h:Cz E av v)(T:Tok→Bool):Cz E (Ab.sR T av) v:=(h.ext (Ext.refl (fun _=>False) E) hw T (fun _ hf=>hf.elim)).1
theorem RW(T:Tok→Bool)(av:AV):BS (Ab.sR T av)=BS av:=by
 cases av with
 |gs r t xs=>simp only[Ab.sR];split<;>rfl
 |agg cs=>simp[Ab.sR,BS,dR]
 |_=>rfl
theorem Cb{k:Key}{z:Nat}{xs xs':List (List AV)}{vs:List AV}{c:Array Value}{e off:Nat}{ys:List Value}(hw:Wf E)(hl:E.live k)(jg:E.len k=(xs'.length,xs'.length))(ew:0<z)(hm:xs'.length≤maxLen)(hz: ∀l∈xs',l.length=z)
  (hb:E.h[E.m k]? =some (.cells c e (0,0)))(ho:E.own (E.m k)= .key k)(hs: ∀o,¬E.aR (E.m k) o)
  (hr:Row E xs.flatten c)(hi: ∀(q:Nat) (a:AV),xs.flatten[q]? =some a→cH a=true)(hiv:cw vs=true)(hle:off+vs.length≤xs.flatten.length)(hD:xs'.flatten=bV xs.flatten off vs)
  (N4:ys.length=vs.length)(hy: ∀(q:Nat) (a:AV) (y:Value),vs[q]? =some a→ys[q]? =some y→Cz E a y):
  cB (E.write k (.cells (ys.zipIdx.foldl (fun cs (x,j)=>cs.setIfInBounds (off+j) x) c) e (0,0))) k (.arr z xs'):=by
 have B7:=hr.bV hle N4 hy
 generalize (ys.zipIdx.foldl (fun cs (x,j)=>cs.setIfInBounds (off+j) x) c)=F at B7 ⊢;have hE:=jC ho hs (.cells F e (0,0))
 have bc:E.m k<E.h.size:=(Array.getElem?_eq_some_iff.1 hb).1
 rw[←hD]at B7;refine⟨hl,jg,ew,hz,hm,F,e,by simp[Env.write,bc],ho,hs,by have:=B7.1;rw[aH hz]at this;exact this,?_,fun q a x ha hx=>?_⟩
 ·intro q a ha;rw[hD,zM hle]at ha
  split at ha
  ·exact bD hiv _ a ha
  ·exact hi q a ha
 ·have:=((B7.2 q a x ha hx).ext hE hw (fun _=>false) (gw _)).1
  rwa [lF (fun _=>rfl)]at this
theorem tH{z:Nat}: ∀{xs:List (List AV)} {i:Nat} {cs vs:List AV} {off:Nat},(∀l∈xs,l.length=z)→xs[i]? =some cs→off+vs.length≤z→(xs.set i (bV cs off vs)).flatten=bV xs.flatten (i*z+off) vs
 |[],i,cs,vs,off,_,h,_=>by simp at h
 |l::r,0,cs,vs,off,hz,h,hle=>by
  simp at h;subst h;have hl:=hz l (by simp)
  simp only[List.set_cons_zero,List.flatten_cons,Nat.zero_mul,Nat.zero_add];unfold bV;rw[List.take_append_of_le_length (by omega),List.drop_append_of_le_length (by omega)];simp
 |l::r,i+1,cs,vs,off,hz,h,hle=>by
  have hl:=hz l (by simp)
  have ih:=tH (xs:=r) (i:=i) (fun l' tG=>hz l' (by simp[tG])) (by simpa using h) hle
  simp only[List.set_cons_succ,List.flatten_cons,ih];unfold bV;rw[Nat.succ_mul,List.take_append,List.drop_append,List.take_of_length_le (l:=l) (by omega),@List.drop_eq_nil_of_le _ l _ (by omega)];rw[show i*z+z+off - l.length=i*z+off from by omega,show i*z+z+off+vs.length - l.length=i*z+off+vs.length from by omega];simp
def Env.dD(E:Env)(t t':Tok):Env:={E with own:=fun b=>match E.own b with| .tok q=>if q=t then .tok t' else .tok q|x=>x}
theorem uC{t t':Tok}{b:Nat}(h:E.own b≠ .tok t):(E.dD t t').own b=E.own b:=by
 simp only[Env.dD]
 split
 ·rename_i q hq;rw[if_neg (fun e=>h (by rw[hq,e]))];exact hq.symm
 ·rfl
theorem uD(t t':Tok):Ext (fun x=>x= .tok t) E (E.dD t t'):=
 ⟨Nat.le_refl _,fun _ _ h=>⟨h,rfl,rfl⟩,fun _ h=>⟨h,rfl,rfl⟩,fun b _ hn=>⟨uC hn,rfl,fun _=>Iff.rfl,rfl⟩⟩
theorem kF(t:Tok): ¬dW (.tok t):=by cases t<;>simp[dW,Own.dW,Tok.loc]
theorem Mc(h: ∀b,¬dW (E.own b))(t t':Tok)(b:Nat): ¬dW ((E.dD t t').own b):=by
 have:=h b
 simp only[Env.dD]
 split
 ·split<;>exact kF _
 ·exact this
theorem Mb(hw:Wf E)(t t':Tok):Wf (E.dD t t'):=⟨hw.aR,fun b hb=>hw.own b (fun e=>hb (by simp only[Env.dD];rw[e])),hw.fz⟩
theorem mU(t q:Tok):bC t q=true↔t=q:=by
 cases t<;>cases q<;>simp[bC]
theorem Cz.dD{r:Nat}{t t':Tok}{xs:List (List AV)}{x:Value}(hw:Wf E)(h:Cz E (.gs r t xs) x):Cz (E.dD t t') (.gs r t' xs) x:=by
 cases h with
 |vk=>exact .vk _ _
 |gs _ _ _ z b c e cells u hc hm h0 ew hz hr hb ef ho gZ hi hu hq=>
  exact .gs r t' xs z b c e cells u hc hm h0 ew hz hr hb ef (by simp only[Env.dD];rw[ho];simp) gZ hi hu
   (fun q a ha=>((hq q a ha).ext (uD t t') hw (bC t) (fun q' xd=>(mU _ _).2 (by cases xd;rfl))).2 (hi q a ha))
theorem bJ.dD(h:bJ E0 E w0 w s a)(t t':Tok)(Rv:S6 t=true):bJ E0 (E.dD t t') w0 w (s.sR (bC t)) a:=by
 have hE:=uD (E:=E) t t'
 have hC:NV (fun x=>x=Own.tok t):=fun o ho=>by subst ho;left;cases t<;>rfl
 have hx:=h.zU (T:=bC t) hE (fun t ht=>(mU _ _).2 (by cases ht;rfl)) hC (Mb h.wf _ _) (w':=w) h.heap (jQ.refl _)
  (fun b hb hc=>by
   have:=h.zu b hb
   rw[hc]at this;cases t<;>simp[Own.loc,Tok.loc]at this) (gd (bC t) s.b) s.g s.nx
  (fun d ob hd=>by
   rw[cN]at hd;cases hh:look d s.b with
   |none=>rw[hh]at hd;simp at hd
   |some y=>rw[hh]at hd;simp at hd;exact .inl ⟨y,rfl,hd.symm,(fun hf=>by cases hf),fun hf=>by cases hf;cases Rv⟩)
  (fun d hl=>by
   obtain⟨ob,ho⟩:=h.lv d hl;exact⟨zo (bC t) ob,by rw[cN,ho];rfl⟩)
  (fun i ob hi=> .inl ⟨hi,fun hf=>by cases hf⟩) (fun i=>h.gl i) h.gk (Mc h.ng t t')
 exact hx
theorem zl(hL:bG P C.L)(h:bJ E0 E w0 w s a){t:Nat}{ti:TI}(ht:C.L t=some ti){d off:Nat}{av:AV}{v:Value}(hv:Cz E av v){k:Nat}(hk:BS av=some k)(hkz:k=ti.size)(Ai:rC (cellsOf av)=true){K:bB}
  (hK:rn ak ti d off av s K): ∃w',(Instr.storeAt t (.pointer (some ⟨E.m (.s d),off,none⟩)) v).run P w= .ok () w'∧Out E0 w0 a K undef w':=by
 obtain⟨c1,c2,c3⟩:=qE hv hk;have Ng:=F8 (E:=E) (c:=v.cells) ⟨by rw[c1,c2],c3⟩ Ai
 unfold rn at hK
 split at hK
 ·rename_i cs gC;cases hle:oZ (off+ti.size) cs.length with
  |false=>rw[hle]at hK;exact hK.elim
  |true=>
   rw[hle,az]at hK;have ai5:off+ti.size≤cs.length:=by simpa using hle
   split at hK
   ·rename_i r t0 xs;simp only[BS,Option.some.injEq]at hk;obtain⟨Rv,hK⟩:=hK;have h2:=h.dD t0 (.c d off) Rv
    have an8:look d (gd (bC t0) s.b)=some (.box (mP (bC t0) cs)):=by rw[cN,gC];rfl
    obtain⟨hl,c,e,hb,ho,hs,ef,hq⟩:=h2.bx d _ an8;have hv2:=hv.dD (t':= .c d off) h.wf
    obtain⟨w',g1,g2,g3⟩:=run_store (w:=w) hL ht (b:=E.m (.s d)) (off:=off) (e:=e) (c:=c) (v:=v) (by rw[h.heap];exact hb) (by omega) (by rw[ef,dR];omega) Ng;have hvc:v.cells= #[v]:=by cases hv<;>rfl
    refine⟨w',g1,_,_,_,hK,h2.rR an8 (Ca h2.wf hl hb ho hs ⟨ef,hq⟩ (vs:=[.gs r (.c d off) xs]) (by rw[dR];simp;omega) (by simp[hvc]) (fun q' a' y h1 h2=>?_)) g2 g3 ho hs,.any _⟩;rw[hvc]at h2;cases q' with
    |zero=>simp at h1 h2;subst h1;subst h2;exact hv2
    |succ q'=>simp at h1
   obtain⟨hl,c,e,hb,ho,hs,ef,hq⟩:=h.bx d _ gC;obtain⟨w',g1,g2,g3⟩:=run_store (w:=w) hL ht (b:=E.m (.s d)) (off:=off) (e:=e) (c:=c) (v:=v) (by rw[h.heap];exact hb) (by omega) (by omega) Ng;refine⟨w',g1,_,_,_,hK,h.rR gC (Ca h.wf hl hb ho hs ⟨ef,hq⟩ (by omega) (by simp;omega) (fun q a y h1 h2=>c3 q a y h1 (by simpa using h2))) g2 g3 ho hs,.any _⟩
 ·rename_i z xs gC
  split at hK
  ·rename_i n e' kH;obtain⟨e0,e1,e2,hi,hK⟩:=hK;have e1:xs.length=n:=e1
   subst e0;subst e1;obtain⟨hl,jg,ew,hz,hm,c,e,hb,ho,hs,ef,nw,hq⟩:=h.bx d _ gC;have hD:=aH hz
   have hvr:=hv.giveUp h.wf (fun _=>true)
   obtain⟨d1,d2,d3⟩:=qE hvr (k:=k) (by rw[RW];exact hk);have hlen:(cellsOf (rd av)).length=xs.length*z:=by
    show(cellsOf (Ab.sR _ av)).length=_;rw[d2,hkz,e2]
   obtain⟨f1,f2,f3⟩:=tO hlen;obtain⟨w',g1,g2,g3⟩:=run_store (w:=w) hL ht (b:=E.m (.s d)) (off:=0) (e:=e) (c:=c) (v:=v) (by rw[h.heap];exact hb) (by omega) (by omega) Ng;refine⟨w',g1,_,_,_,hK,h.rR gC (Cb h.wf hl (by show _=((chunks _ _ _).length,(chunks _ _ _).length);rw[f2];exact jg) ew (by show(chunks _ _ _).length≤_;rw[f2];exact hm) f3 hb ho hs ⟨by rw[ef,hD],hq⟩ nw hi (off:=0) (by rw[hlen,hD];omega) ?_ (by simp;omega) (fun q a y h1 h2=>d3 q a y h1 (by simpa using h2))) g2 g3 ho hs,.any _⟩;show(chunks _ _ _).flatten=_;rw[f1];unfold bV;rw[hlen,←hD];simp
  ·exact hK.elim
 ·exact hK.elim
theorem Hv(hL:bG P C.L)(h:bJ E0 E w0 w s a){t:Nat}{ti:TI}(ht:C.L t=some ti){d i off z:Nat}{av:AV}{v:Value}(hv:Cz E av v){k:Nat}(hk:BS av=some k)(hkz:k=ti.size)(Ai:rC (cellsOf av)=true){K:bB}
  (hK:AL ak ti d i off z av s K): ∃w',(Instr.storeAt t (.pointer (some ⟨E.m (.s d),i*z+off,none⟩)) v).run P w= .ok () w'∧Out E0 w0 a K undef w':=by
 obtain⟨c1,c2,c3⟩:=qE hv hk;have Ng:=F8 (E:=E) (c:=v.cells) ⟨by rw[c1,c2],c3⟩ Ai
 unfold AL at hK
 split at hK
 ·rename_i z' xs gC;obtain⟨cs,e0,e1,e2,hi,hK⟩:=hK;subst e0;obtain⟨hl,jg,ew,hz,hm,c,e,hb,ho,hs,ef,nw,hq⟩:=h.bx d _ gC;have hD:=aH hz
  have hvr:=hv.giveUp h.wf (fun _=>true)
  obtain⟨d1,d2,d3⟩:=qE hvr (k:=k) (by rw[RW];exact hk);have hlen:(cellsOf (rd av)).length=ti.size:=by show(cellsOf (Ab.sR _ av)).length=_;rw[d2,hkz]
  have Ek:i<xs.length:=(bq.1 e1).1
  have hmul:i*z+z≤xs.length*z:=by rw[←Nat.succ_mul];exact Nat.mul_le_mul_right _ Ek
  have GD:cs.length=z:=hz cs (by rw[eH Ek]at e1;cases e1;simp)
  obtain⟨w',g1,g2,g3⟩:=run_store (w:=w) hL ht (b:=E.m (.s d)) (off:=i*z+off) (e:=e) (c:=c) (v:=v) (by rw[h.heap];exact hb) (by omega) (by omega) Ng;refine⟨w',g1,_,_,_,hK,h.rR gC (Cb h.wf hl (by show _=((List.set _ _ _).length,(List.set _ _ _).length);simpa using jg) ew (by show(List.set _ _ _).length≤_;simpa using hm) ?_ hb ho hs ⟨by rw[ef,hD],hq⟩ nw hi (off:=i*z+off) (by rw[hD];omega) (tH hz e1 (by omega)) (by simp;omega) (fun q a y h1 h2=>d3 q a y h1 (by simpa using h2))) g2 g3 ho hs,.any _⟩;intro l tG;rcases List.mem_or_eq_of_mem_set tG with h1|h1
  ·exact hz l h1
  ·rw[h1,lV (by omega)];exact GD
 ·exact hK.elim
theorem C4{z:Nat}: ∀{xs:List (List AV)},(∀l∈xs,l.length=z)→chunks z xs.length xs.flatten=xs
 |[],_=>rfl
 |l::r,h=>by
  have hl:=h l (by simp)
  have ih:=C4 (xs:=r) (fun l' tG=>h l' (by simp[tG]))
  simp only[List.length_cons,chunks,List.flatten_cons];rw[←hl,List.take_left,List.drop_left,hl,ih]
theorem MF{ys:List (List AV)}(h:cR ys=true):rC ys.flatten=true:=by
 induction ys with
 |nil=>rfl
 |cons l r ih=>
  simp only[cR,Bool.and_eq_true]at h;rw[List.flatten_cons];have:=ih h.2
  generalize r.flatten=q at this;have h1:=h.1
  clear ih h
  induction l with
  |nil=>exact this
  |cons a l ih=>simp only[rC,Bool.and_eq_true,List.cons_append]at h1 ⊢;exact⟨h1.1,ih h1.2⟩
theorem Fb(hL:bG P C.L)(hI:C.I=ak)(h:bJ E0 E w0 w s a){o:Oper}{t:Nat}{x y:Operand}(he:o.op= .store t x y){n z:Nat}{ys:List (List AV)}(er:cd s [] y= .ar n z ys){K:bB}{Q:Exit→Act→World→Prop}(hk:Fc C t (cd s [] x) n z ys s K):mS P o a w (hZ E0 w0 o a K) Q:=by
 unfold Fc at hk;have hx:=h.ev (p:=[]) trivial x
 have hy:=h.ev (p:=[]) trivial y
 rw[er]at hy;obtain⟨Bp,hn,hz,hi⟩:=Qv hy
 split at hk
 ·rename_i ti d off uX hex
  split at hk
  ·rename_i m e' z' xs kH gC;obtain⟨⟨k1,k2,k3,k4,k5,k6⟩,hk⟩:=hk;subst k1;subst k2;subst k3;rw[hex]at hx;cases eK:a.eval x<;>rw[eK]at hx<;>cases hx;have Ry:cellsOf (rd (.agg ys.flatten))=ys.flatten:=by show mP _ _=_;exact xR hi
   have hD:=aH hz
   obtain⟨w',g1,g2⟩:=zl (C:=C) (K:=K) (k:=ys.flatten.length) hL h uX (d:=d) (off:=0) (av:= .agg ys.flatten) Bp rfl (by rw[hD,hn];exact k5) (MF k6) (by
    unfold rn;rw[gC];dsimp only;rw[kH];dsimp only;rw[hI]at k4;refine⟨rfl,k4,k5,by rw[Ry];exact hi,?_⟩;rw[Ry];show K .any {s with b:=dt d (.arr z' (chunks z' n ys.flatten)) s.b};rw[←hn,C4 hz];exact hk)
   refine xl ?_ g2;simp only[execOp,he,eK];simp[g1]
  ·exact hk.elim
 ·exact hk.elim
theorem Oi(h:bJ E0 E w0 w s a){o:Oper}{e d:Nat}{x:Operand}(he:o.op= .box e x){K:bB}{Q:Exit→Act→World→Prop}(hk:ae1 C d (cd s [] x) s K):mS P o a w (hZ E0 w0 o a K) Q:=by
 unfold ae1 at hk
 split at hk
 ·rename_i n z xs er;generalize C.base+d=d at hk;have hx:=h.ev (p:=[]) trivial x
  rw[er]at hx
  split at hk
  ·rename_i gC;obtain⟨⟨k1,k2⟩,hk⟩:=hk;obtain⟨Bp,hn,hz,hi⟩:=Qv hx;have Bt: ¬E.live (.s d):=fun tG=>by obtain⟨ob,ho⟩:=h.lv d tG;rw[gC]at ho;cases ho
   generalize hv:a.eval x=v at Bp;cases Bp with
   |agg _ ys hl hq=>
    have wj:=DY (h:=h) Bt (z:=z) (n:=n) (cs:=xs.flatten) (c:=ys.toArray) k1 (by unfold maxLen;omega) (by rw[aH hz,hn]) hi ⟨by simpa using hl,fun q b y hb hy=>hq q b y hb (by simpa using hy)⟩ e
    rw[←hn,C4 hz]at wj;refine dq (x:= .pointer (some ⟨w.heap.size,0,none⟩)) (w':=w.alloc (.cells ys.toArray e)) ?_ ⟨_,_,_,hk,h.WU gC wj,?_⟩
    ·simp only[execOp,he,Instr.box,newVar,hv];simp[iT,Value.cells]
    ·have:(E.addKey (.s d) (.cells ys.toArray e (0,0)) xs.length).m (.s d)=w.heap.size:=by simp[Env.addKey,h.heap]
     rw[←this];exact .ptr _ _ (.inl rfl)
  ·exact hk.elim
 ·exact Ot h he hk
theorem Jz(hL:bG P C.L)(hI:C.I=ak)(h:bJ E0 E w0 w s a){o:Oper}{t:Nat}{x y:Operand}(he:o.op= .store t x y){K:bB}{Q:Exit→Act→World→Prop}(hk:JA C t (cd s [] x) (cd s [] y) s K):mS P o a w (hZ E0 w0 o a K) Q:=by
 unfold JA at hk
 split at hk
 ·rename_i ti k uX hz;obtain⟨k1,k2,k3⟩:=hk;have hx:=h.ev (p:=[]) trivial x
  have hy:=h.ev (p:=[]) trivial y
  have fin: ∀w',(Instr.storeAt t (a.eval x) (a.eval y)).run P w= .ok () w'→Out E0 w0 a K undef w'→mS P o a w (hZ E0 w0 o a K) Q:=fun w' g1 g2=>by
   refine xl ?_ g2;simp only[execOp,he];simp[g1]
  rw[hI]at k3
  split at k3
  ·rename_i d off er;rw[er]at hx;cases eK:a.eval x<;>rw[eK]at hx<;>cases hx;obtain⟨w',g1,g2⟩:=zl hL h uX hy hz k1 k2 k3;exact fin w' (by rw[eK];exact g1) g2
  ·rename_i d i off z er;rw[er]at hx;cases eK:a.eval x<;>rw[eK]at hx<;>cases hx;obtain⟨w',g1,g2⟩:=Hv hL h uX hy hz k1 k2 k3;exact fin w' (by rw[eK];exact g1) g2
  ·exact k3.elim
 ·exact hk.elim
def Reads(P:Program)(E:Env)(w:World)(a:Act)(o:Oper)(s:St)(p:Path)(K:bB):Prop:= ∃r,K r s∧(bp s p→ ∃x,(execOp a.eval o).run P w= .ok (.value x) w∧Cz E r x)
theorem bR{X:Prop}(h:under s p X)(hp:bp s p):X:=by
 unfold under at h
 split at h
 ·exact h
 ·exact h hp
theorem eF{z:Nat}: ∀{xs:List (List AV)} {i:Nat} {cs:List AV},(∀l∈xs,l.length=z)→xs[i]? =some cs→ ∀q,q<z→xs.flatten[i*z+q]? =cs[q]?
 |[],i,cs,_,h,q,_=>by simp at h
 |l::r,0,cs,hz,h,q,hq=>by
  simp at h;subst h;have hl:=hz l (by simp)
  rw[List.flatten_cons,gg (by omega)];simp
 |l::r,i+1,cs,hz,h,q,hq=>by
  have hl:=hz l (by simp)
  have ih:=eF (xs:=r) (i:=i) (fun l' tG=>hz l' (by simp[tG])) (by simpa using h) q hq
  rw[List.flatten_cons,iY (by rw[Nat.succ_mul];omega),Nat.succ_mul,show i*z+z+q - l.length=i*z+q from by omega];exact ih
theorem tg(hL:bG P C.L)(hI:C.I=ak)(h:bJ E0 E w0 w s a){o:Oper}{t:Nat}{x:Operand}(he:o.op= .load t x){K:bB}(hk:QO C p t (cd s p x) s K):Reads P E w a o s p K:=by
 unfold QO at hk;cases ht:C.L t with
 |none=>rw[ht]at hk;exact hk.elim
 |some ti=>
  rw[ht]at hk;dsimp only at hk;have fin: ∀v y,a.eval x=v→(Instr.loadAt t v).run P w= .ok y w→(execOp a.eval o).run P w= .ok (.value y) w:=fun v y hv hy=>by
   simp only[execOp,he,hv];simp[hy]
  split at hk
  ·rename_i rr z xs er
   split at hk
   ·rename_i n e' kH;obtain⟨⟨k2,k3⟩,hk⟩:=hk;rw[hI]at k2;have k2:xs.length=n:=k2
    refine⟨_,hk,fun hp=>?_⟩;have hx:=h.ev hp x
    rw[er]at hx;cases hx with
    |nG _ _ _ _ hz hc=>
    generalize eK:a.eval x=v at hc;cases hc with
    |aX _ _ _ b o u hr hi gZ hu hq=>
    have hD:=aH hz
    have vh:ti.agg=true:=by unfold TI.agg;rw[kH]
    have kG:part ti xs.flatten 0=some (.agg xs.flatten):=by
     have h1:oZ (0+ti.size) xs.flatten.length=true:=by rw[Af];rw[hD,k2,k3];omega
     unfold part;rw[h1,vh];simp only[az,cut,List.drop_zero];rw[List.take_of_length_le (by rw[hD,k2,k3];exact Nat.le_refl _)]
    obtain⟨y,g1,g2⟩:=kj (P:=P) (E:=E) (w:=w) hL ht (b:=b) (o:=o) kG (fun q a' ha=>⟨u q,by rw[h.heap];exact hu q a' ha,hq q a' ha⟩);exact⟨y,fin _ _ eK g1,YC g2 k2 hz (fun q a ha=>hi q a ha)⟩
   ·exact hk.elim
  ·rename_i i off er;obtain⟨cs,r,hg,kG,hk⟩:=hk;refine⟨r,hk,fun hp=>?_⟩;have hx:=h.ev hp x
   rw[er]at hx;cases eK:a.eval x<;>rw[eK]at hx<;>cases hx;obtain⟨hl,c,e,hb,ho,hs,ef,hq⟩:=h.gx i _ (bR hg hp);obtain⟨y,g1,g2⟩:=kj (P:=P) (E:=E) (w:=w) hL ht (b:=E.m (.o i)) (o:=0) kG (fun q a' ha=>by
    have bc:q<c.size:=by rw[ef];exact(bq.1 ha).1
    exact⟨c[q],by simp[aW,h.heap,hb,bc],hq q a' _ ha (by simp)⟩)
   rw[Nat.zero_add]at g1;exact⟨y,fin _ _ eK g1,g2⟩
  ·rename_i d off er
   split at hk
   ·rename_i z xs gC
    split at hk
    ·rename_i n e' kH;obtain⟨⟨k1,k2,k3⟩,hk⟩:=hk;rw[hI]at k2;subst k1;refine⟨_,hk,fun hp=>?_⟩;have k2:xs.length=n:=bR k2 hp
     have hx:=h.ev hp x
     rw[er]at hx;cases eK:a.eval x<;>rw[eK]at hx<;>cases hx;obtain⟨hl,jg,ew,hz,hm,c,e,hb,ho,hs,ef,nw,hq⟩:=h.bx d _ gC;have hD:=aH hz
     have vh:ti.agg=true:=by unfold TI.agg;rw[kH]
     have kG:part ti xs.flatten 0=some (.agg xs.flatten):=by
      have h1:oZ (0+ti.size) xs.flatten.length=true:=by rw[Af];rw[hD,k2,k3];omega
      unfold part;rw[h1,vh];simp only[az,cut,List.drop_zero];rw[List.take_of_length_le (by rw[hD,k2,k3];exact Nat.le_refl _)]
     obtain⟨y,g1,g2⟩:=kj (P:=P) (E:=E) (w:=w) hL ht (b:=E.m (.s d)) (o:=0) kG (fun q a' ha=>by
      have bc:q<c.size:=by rw[ef,←hD];exact(bq.1 ha).1
      exact⟨c[q],by simp[aW,h.heap,hb,bc],hq q a' _ ha (by simp)⟩)
     exact⟨y,fin _ _ eK (by simpa using g1),YC g2 k2 hz nw⟩
    ·exact hk.elim
   ·exact hk.elim
  ·rename_i d i off z er
   split at hk
   ·rename_i z' xs gC;obtain⟨cs,r,e0,hg,kG,hk⟩:=hk;subst e0;refine⟨r,hk,fun hp=>?_⟩;have hx:=h.ev hp x
    rw[er]at hx;cases eK:a.eval x<;>rw[eK]at hx<;>cases hx;obtain⟨hl,jg,ew,hz,hm,c,e,hb,ho,hs,ef,nw,hq⟩:=h.bx d _ gC;have hD:=aH hz
    have Nm:=bR hg hp
    have Ek:i<xs.length:=(bq.1 Nm).1
    have hmul:i*z+z≤xs.length*z:=by rw[←Nat.succ_mul];exact Nat.mul_le_mul_right _ Ek
    have GD:cs.length=z:=hz cs (by rw[eH Ek]at Nm;cases Nm;simp)
    obtain⟨y,g1,g2⟩:=kj (P:=P) (E:=E) (w:=w) hL ht (b:=E.m (.s d)) (o:=i*z) kG (fun q a' ha=>by
     have xd:q<z:=by rw[←GD];exact(bq.1 ha).1
     have bc:i*z+q<c.size:=by omega
     exact⟨c[i*z+q],by simp[aW,h.heap,hb,bc],hq (i*z+q) a' _ (by rw[eF hz Nm q xd];exact ha) (by simp)⟩)
    exact⟨y,fin _ _ eK g1,g2⟩
   ·rename_i z' uQ xs gC;obtain⟨cs,r,e0,hg,kG,hk⟩:=hk;subst e0;refine⟨r,hk,fun hp=>?_⟩;have hx:=h.ev hp x
    rw[er]at hx;cases eK:a.eval x<;>rw[eK]at hx<;>cases hx;obtain⟨hl,ho,hs,nw,u,⟨ew,hz,jg,hle,hm,c,e,hb,ef,hu⟩,hq,_⟩:=h.bx d _ gC;have Nm:=bR hg hp
    have Ek:i<xs.length:=(bq.1 Nm).1
    have GD:cs.length=z:=hz cs (by rw[eH Ek]at Nm;cases Nm;simp)
    obtain⟨y,g1,g2⟩:=kj (P:=P) (E:=E) (w:=w) hL ht (b:=E.m (.s d)) (o:=i*z) kG (fun q a' ha=>by
     have xd:q<z:=by rw[←GD];exact(bq.1 ha).1
     have hfa:xs.flatten[i*z+q]? =some a':=by rw[eF hz Nm q xd];exact ha
     exact⟨u (i*z+q),by simp[aW,h.heap,hb,hu _ _ hfa],hq _ _ hfa⟩)
    exact⟨y,fin _ _ eK g1,g2⟩
   ·exact hk.elim
  ·exact hk.elim
theorem km(hL:bG P L){t e:Nat}{ti:TI}(ht:elemOf L t=some (e,ti))(k:IntKind)(n:Int)(b o m c:Nat)(h0:0≤n)(h1:n<m)(w:World):
  (Instr.indexAt t (.slice (some ⟨b,o,none⟩) m c) (.int k n)).run P w= .ok (.pointer (some ⟨b,o+n.toNat*ti.size,none⟩)) w:=by
 unfold elemOf at ht;cases hl:L t with
 |none=>rw[hl]at ht;simp at ht
 |some tj=>
  obtain⟨kk,size,bytes,zero⟩:=tj;rw[hl]at ht;cases kk with
  |slice e'=>
   dsimp only at ht;cases he:L e' with
   |none=>rw[he]at ht;simp at ht
   |some tk=>
    rw[he]at ht;simp only[Option.some.injEq,Prod.mk.injEq]at ht;obtain⟨rfl,rfl⟩:=ht;obtain⟨i,d,z,g1,g2,g3,g4,g5,g6,g7⟩:=(hL.ok t _ hl).ex;obtain⟨i',d',z',k1,k2,k3,k4,k5,k6,k7⟩:=(hL.ok e' _ he).ex;dsimp only at g7;subst g7;simp[Instr.indexAt,go_sem,underlying,g6,Go.sizeOf,typeInfo,k1,k2,h0,h1,eG]
  |_=>simp at ht
theorem AS(hL:bG P L){t n' e:Nat}{ti:TI}(ht:L t=some ti)(hk:ti.k= .arr n' e){tj:TI}(he:L e=some tj)(k:IntKind)(n:Int)(b o:Nat)(h0:0≤n)(h1:n<n')(w:World):
  (Instr.indexAt t (.pointer (some ⟨b,o,none⟩)) (.int k n)).run P w= .ok (.pointer (some ⟨b,o+n.toNat*tj.size,none⟩)) w:=by
 obtain⟨i,d,z,g1,g2,g3,g4,g5,g6,g7⟩:=(hL.ok t _ ht).ex;obtain⟨i',d',z',k1,k2,k3,k4,k5,k6,k7⟩:=(hL.ok e _ he).ex;rw[hk]at g7;dsimp only at g7;subst g7;simp[Instr.indexAt,go_sem,underlying,g6,Go.sizeOf,typeInfo,k1,k2,h0,h1,eG,Instr.sureAddr]
theorem fN{x:Operand}{n:Int}(hn:intOf (cd s p x)=some n)(h:bJ E0 E w0 w s a)(hp:bp s p): ∃k,a.eval x= .int k n:=by
 unfold intOf at hn
 split at hn
 ·rename_i k m er;cases hn;have hx:=h.ev hp x
  rw[er]at hx;exact⟨k,bX hx⟩
 ·simp at hn
theorem p9{av:AV}{v:Value}{r:Nat}{xs:List (List AV)}(hr:zq av=some (r,xs))(h:Cz E av v):Cz E (.sl r xs) v:=by
 unfold zq at hr
 split at hr
 ·cases hr;exact h
 ·cases hr;exact h.read
 ·cases hr;have:=bX h;subst this;exact .pd _ _ _
 ·simp at hr
theorem Cz.elem{r:Nat}{xs:List (List AV)}{v:Value}(h:Cz E (.sl r xs) v){i:Nat}{cs:List AV}(hi:xs[i]? =some cs):
  ∃b o c,v= .slice (some ⟨b,o,none⟩) xs.length c∧Cz E (.aX r cs 0) (.pointer (some ⟨b,o+i*cs.length,none⟩)):=by
 cases h with
 |pd=>simp at hi
 |sl _ _ z b o c u hp hc hm ew hz hr hii hs hu hq=>
  have jY:cs.length=z:=hz cs (by rw[bq]at hi;obtain⟨h1,h2⟩:=hi;rw[←h2];simp)
  have get: ∀q a,cs[q]? =some a→xs.flatten[i*z+q]? =some a:=fun q a ha=>by
   rw[eF hz hi q (by rw[←jY];exact(bq.1 ha).1)];exact ha
  refine⟨b,o,c,rfl,?_⟩;have:=Cz.aX (E:=E) r cs 0 b (o+i*z) (fun q=>u (i*z+q)) (fun q a ha=>hr) (fun q a ha=>hii _ a (get q a ha)) (fun q a ha=>by rw[Nat.add_assoc];exact hs _ a (get q a ha))
   (fun q a ha=>by rw[Nat.add_assoc];exact hu _ a (get q a ha)) (fun q a ha=>hq _ a (get q a ha))
  rw[jY];simpa using this
theorem Oq(hL:bG P C.L)(hI:C.I=ak)(h:bJ E0 E w0 w s a){o:Oper}{t:Nat}{x y:Operand}(he:o.op= .indexAddr t x y){n:Int}(hn:intOf (cd s p y)=some n){K:bB}(hk:UJ C p t n (cd s p x) s K):Reads P E w a o s p K:=by
 have fin: ∀v z k,a.eval x=v→a.eval y= .int k n→(Instr.indexAt t v (.int k n)).run P w= .ok z w→(execOp a.eval o).run P w= .ok (.value z) w:=fun v z k hv hk hy=>by
  simp only[execOp,he,hv,hk];simp[hy]
 unfold UJ at hk;rw[hI]at hk
 split at hk
 ·rename_i k m er
  split at hk
  ·rename_i e ti ux;obtain⟨hb,hk⟩:=hk;refine⟨_,hk,fun hp=>?_⟩;obtain⟨h0,h1⟩:0≤n∧n<(m:Int):=by
    have q:=bR hb hp
    skip
    exact q
   obtain⟨ki,hy⟩:=fN hn h hp;have hx:=h.ev hp x
   rw[er]at hx;cases eK:a.eval x<;>rw[eK]at hx<;>cases hx;rename_i hl _ _;exact⟨_,fin _ _ _ eK hy (km hL ux ki n _ _ _ _ h0 h1 w),by
    have:=Cz.dc (E:=E) k n.toNat 0 ti.size (by assumption)
    show Cz E (.dc _ n.toNat _ _) _;simpa using this⟩
  ·exact hk.elim
 ·rename_i d off er
  split at hk
  ·rename_i ti z xs uX gC
   split at hk
   ·rename_i m e kH
    split at hk
    ·rename_i tj Nh;obtain⟨k1,k2,hb,hk⟩:=hk;subst k1;subst k2;refine⟨_,hk,fun hp=>?_⟩;obtain⟨h0,h1⟩:0≤n∧n<(m:Int):=by
      have q:=bR hb hp
      skip
      exact q
     obtain⟨ki,hy⟩:=fN hn h hp;have hx:=h.ev hp x
     rw[er]at hx;cases eK:a.eval x<;>rw[eK]at hx<;>cases hx;rename_i hl;exact⟨_,fin _ _ _ eK hy (AS hL uX kH Nh ki n _ _ h0 h1 w),by
      have:=Cz.dc (E:=E) (.s d) n.toNat 0 tj.size hl
      show Cz E (.dc _ n.toNat _ _) _;simpa using this⟩
    ·exact hk.elim
   ·exact hk.elim
  ·exact hk.elim
 ·split at hk
  ·rename_i r xs e ti Ry ux;obtain⟨cs,hb,hk⟩:=hk;refine⟨_,hk,fun hp=>?_⟩;obtain⟨h0,h1,h2⟩:=bR hb hp;obtain⟨ki,hy⟩:=fN hn h hp;have hx:=p9 Ry (h.ev hp x)
   obtain⟨b,o',c,hv,hc⟩:=hx.elem h1;refine⟨_,fin _ _ _ hv hy (km hL ux ki n b o' xs.length c h0 (by
    have:=(bq.1 h1).1;omega) w),?_⟩
   rw[←h2];exact hc
  ·exact hk.elim
theorem AR(hL:bG P L){t:Nat}(ht:isStr L t=true)(k:IntKind)(n:Int)(b:ByteArray){c:UInt8}(h0:0≤n)(h1:b[n.toNat]? =some c)(w:World):
  (Instr.index t (.string b) (.int k n)).run P w= .ok (.int .u8 c.toNat) w:=by
 unfold isStr at ht;cases hl:L t with
 |none=>rw[hl]at ht;simp at ht
 |some ti=>
  rw[hl]at ht;dsimp only at ht;obtain⟨i,d,z,g1,g2,g3,g4,g5,g6,g7⟩:=(hL.ok t _ hl).ex
  split at ht
  ·rename_i hk;rw[hk]at g7;dsimp only at g7;subst g7;simp[Instr.index,go_sem,underlying,g6,h0,h1]
  ·simp at ht
theorem AT(hL:bG P L){t m e:Nat}{ti tj:TI}(ht:L t=some ti)(hk:ti.k= .arr m e)(he:L e=some tj)(h1:tj.size=1)(h2:tj.agg=false)(k:IntKind)(n:Int)(cs:Array Value){y:Value}(h0:0≤n)(hn:n<m)(hy:cs[n.toNat]? =some y)(w:World):
  (Instr.index t (.agg cs) (.int k n)).run P w= .ok y w:=by
 obtain⟨i,d,z,g1,g2,g3,g4,g5,g6,g7⟩:=(hL.ok t _ ht).ex;obtain⟨i',d',z',k1,k2,k3,k4,k5,k6,k7⟩:=(hL.ok e _ he).ex;rw[hk]at g7;dsimp only at g7;subst g7;have GA: ∀w,(isAgg e).run P w= .ok false w:=by
  intro w;unfold TI.agg at h2;cases hk:tj.k with
  |dB fs=>rw[hk]at h2;simp at h2
  |arr n e=>rw[hk]at h2;simp at h2
  |sc=>rw[hk]at k7;dsimp only at k7;cases d'<;>simp_all [isAgg,underlying,go_sem]
  |_=>rw[hk]at k7;dsimp only at k7;subst k7;simp[isAgg,underlying,go_sem,k6]
 simp[Instr.index,go_sem,underlying,g6,Go.sizeOf,typeInfo,k1,k2,h1,h0,hn,Go.part,GA,hy]
theorem JC(hL:bG P C.L)(h:bJ E0 E w0 w s a){o:Oper}{t:Nat}{x y:Operand}(he:o.op= .index t x y){n:Int}(hn:intOf (cd s p y)=some n){K:bB}(hk:JD C p t n (cd s p x) s K):Reads P E w a o s p K:=by
 have fin: ∀v z k,a.eval x=v→a.eval y= .int k n→(Instr.index t v (.int k n)).run P w= .ok z w→(execOp a.eval o).run P w= .ok (.value z) w:=fun v z k hv hk hy=>by
  simp only[execOp,he,hv,hk];simp[hy]
 unfold JD at hk
 split at hk
 ·rename_i b er;cases hs:isStr C.L t with
  |false=>rw[hs]at hk;exact hk.elim
  |true=>
   rw[hs,az]at hk;obtain⟨c,hb,hk⟩:=hk;refine⟨_,hk,fun hp=>?_⟩;obtain⟨h0,h1⟩:=bR hb hp;obtain⟨ki,hy⟩:=fN hn h hp;have hx:=h.ev hp x
   rw[er]at hx;exact⟨_,fin _ _ _ (bX hx) hy (AR hL hs ki n b h0 h1 w),.v _⟩
 ·rename_i cs er
  split at hk
  ·rename_i ti uX
   split at hk
   ·rename_i m e kH
    split at hk
    ·rename_i tj Nh;cases fP:dy tj.size 1&& !tj.agg with
     |false=>rw[fP]at hk;exact hk.elim
     |true=>
      rw[fP,az]at hk;simp only[Bool.and_eq_true,Bool.not_eq_true']at fP;obtain⟨r,hb,hk⟩:=hk;refine⟨_,hk,fun hp=>?_⟩;obtain⟨h0,h1,h2⟩:=bR hb hp;obtain⟨ki,hy⟩:=fN hn h hp;have hx:=h.ev hp x
      rw[er]at hx;cases eK:a.eval x<;>rw[eK]at hx<;>cases hx;rename_i ys hl hq;have bc:n.toNat<ys.length:=by rw[hl];exact(bq.1 h2).1
      exact⟨ys[n.toNat],fin _ _ _ eK hy (AT hL uX kH Nh (dK fP.1) fP.2 ki n _ h0 h1 (by simp[bc]) w),hq _ r _ h2 (by simp)⟩
    ·exact hk.elim
   ·exact hk.elim
  ·exact hk.elim
 ·exact hk.elim
theorem xm(hI:C.I=ak)(h:bJ E0 E w0 w s a){o:Oper}{c x y:Operand}(he:o.op= .pick c x y){K:bB}(hk:UI C p c x y s K):Reads P E w a o s p K:=by
 unfold UI at hk
 split at hk
 ·exact hk.elim
 ·rename_i d hd
  split at hk
  ·rename_i r Rz;refine⟨r,hk,fun hp=>?_⟩;unfold adU at Rz
   split at Rz
   ·rename_i g u v h1 h2 h3;cases Rz;have hc:=h.ev hp c
    rw[h1]at hc;have ec:=bX hc
    have anO:c= .tmp d:=by unfold U5 at hd;split at hd<;>simp_all
    have hcd: ∃q,look d s.t=some (.v (.bool g))∧q=g:=by
     subst anO;have:FM s p d= .v (.bool g):=h1
     unfold FM at this;cases hl:look d s.t with
     |none=>rw[hl]at this;simp at this
     |some z=>
      rw[hl]at this;dsimp only at this
      split at this
      ·subst this;exact⟨g,rfl,rfl⟩
      ·rename_i q _;cases hpb:vU q p with
       |true=>rw[hpb,az]at this;subst this;exact⟨g,rfl,rfl⟩
       |false=>rw[hpb,aC]at this;cases this
    obtain⟨_,jY,_⟩:=hcd;have Mw: ∀(w:Bool),g=w→bp s (p++[(d,w)]):=fun w hw=>by
     have: ∀q:Path,bp s q→bp s (q++[(d,w)]):=fun q=>by
      induction q with
      |nil=>intro _;exact⟨by rw[jY];exact hw,trivial⟩
      |cons z r ih=>intro hq;exact⟨hq.1,ih hq.2⟩
     exact this p hp
    rw[hI];refine⟨.bool (bif g then u else v),?_,.v _⟩;cases g with
    |true=>
     have hx:=h.ev (Mw true rfl) x
     rw[h2]at hx;have ex:=bX hx
     simp only[execOp,he,ec,ex];simp[asBool,go_sem]
    |false=>
     have hx:=h.ev (Mw false rfl) y
     rw[h3]at hx;have ex:=bX hx
     simp only[execOp,he,ec,ex];simp[asBool,go_sem]
   ·simp at Rz
  ·exact hk.elim
theorem Kp{d n:Int}{y:Option Operand}(hn:kE s p d y=some n)(h:bJ E0 E w0 w s a)(hp:bp s p):(y=none∧n=d)∨ ∃x k,y=some x∧a.eval x= .int k n:=by
 unfold kE at hn;cases y with
 |none=>cases hn;exact .inl ⟨rfl,rfl⟩
 |some x=>obtain⟨k,hk⟩:=fN hn h hp;exact .inr ⟨x,k,rfl,hk⟩
theorem r7(P:Program)(isS:Bool)(len cap:Nat)(lo hi:Option Value)(l h:Nat)(hlo:(lo=none∧l=0)∨ ∃k,lo=some (.int k l))(hhi:(hi=none∧h=len)∨ ∃k,hi=some (.int k h))(h1:l≤h)(h2:h≤len)(h3:len≤cap)(w:World):
  (Instr.sliceBounds isS len cap lo hi none).run P w= .ok (l,h,cap) w:=by
 rcases hlo with⟨rfl,rfl⟩|⟨k,rfl⟩<;>rcases hhi with⟨rfl,rfl⟩|⟨k',rfl⟩
 ·simp[Instr.sliceBounds,go_sem]
 ·have t:h≤cap:=by omega
  simp[Instr.sliceBounds,Instr.sliceBound,asIntOf,go_sem,t]
 ·simp[Instr.sliceBounds,Instr.sliceBound,asIntOf,go_sem,h1]
 ·have t1:h≤cap:=by omega
  simp[Instr.sliceBounds,Instr.sliceBound,asIntOf,go_sem,t1,h1]
theorem qc{d n:Int}{y:Option Operand}(hn:kE s p d y=some n)(h:bJ E0 E w0 w s a)(hp:bp s p)(h0:0≤n):((y.map a.eval)=none∧n=d)∨ ∃k,(y.map a.eval)=some (.int k (n.toNat:Int)):=by
 rcases Kp hn h hp with⟨rfl,rfl⟩|⟨x,k,rfl,hx⟩
 ·exact .inl ⟨rfl,rfl⟩
 ·exact .inr ⟨k,by simp[hx,Fv h0]⟩
theorem JX(hL:bG P L){t:Nat}(ht:isStr L t=true)(b:ByteArray){lo hi:Option Value}{l h:Nat}(hb: ∀w,(Instr.sliceBounds false b.size b.size lo hi none).run P w= .ok (l,h,b.size) w)(w:World):
  (Instr.sliceAt t (.string b) lo hi none).run P w= .ok (.string (b.extract l h)) w:=by
 unfold isStr at ht;cases hl:L t with
 |none=>rw[hl]at ht;simp at ht
 |some ti=>
  rw[hl]at ht;dsimp only at ht;obtain⟨i,d,z,g1,g2,g3,g4,g5,g6,g7⟩:=(hL.ok t _ hl).ex
  split at ht
  ·rename_i hk;rw[hk]at g7;dsimp only at g7;subst g7;have hu: ∀w,(underlying t).run P w= .ok .string w:=fa g6
   unfold Instr.sliceAt;simp[Sem.run_bind,hu,Result.andThen,Instr.slice,hb]
  ·simp at ht
theorem iZ(hL:bG P L){t e:Nat}{ti:TI}(ht:elemOf L t=some (e,ti)):P.underlying t=some (.slice e)∧L e=some ti∧ ∃i,P.info? e=some i∧i.size=ti.size∧i.bytes=ti.bytes∧ ∃z,i.zero=some z∧z.cells.toList=ti.zero:=by
 unfold elemOf at ht;cases hl:L t with
 |none=>rw[hl]at ht;simp at ht
 |some tj=>
  obtain⟨kk,size,bytes,zero⟩:=tj;rw[hl]at ht;cases kk with
  |slice e'=>
   dsimp only at ht;cases he:L e' with
   |none=>rw[he]at ht;simp at ht
   |some tk=>
    rw[he]at ht;simp only[Option.some.injEq,Prod.mk.injEq]at ht;obtain⟨rfl,rfl⟩:=ht;obtain⟨i,d,z,g1,g2,g3,g4,g5,g6,g7⟩:=(hL.ok t _ hl).ex;obtain⟨i',d',z',k1,k2,k3,k4,k5,k6,k7⟩:=(hL.ok e' _ he).ex;dsimp only at g7;subst g7;exact⟨g6,he,i',k1,k2,k3,z',k4,k5⟩
  |_=>simp at ht
theorem Dw(hL:bG P L){t e:Nat}{ti:TI}(ht:elemOf L t=some (e,ti))(A:Option Addr)(n c:Nat){lo hi:Option Value}{l h m:Nat}(hb: ∀w,(Instr.sliceBounds true n c lo hi none).run P w= .ok (l,h,m) w)(w:World):
  (Instr.sliceAt t (.slice A n c) lo hi none).run P w= .ok (.slice (if m=l then A else A.map (·.add (l*ti.size))) (h - l) (m - l)) w:=by
 obtain⟨g6,_,i,k1,k2,_⟩:=iZ hL ht;have hu: ∀w,(underlying t).run P w= .ok (.slice e) w:=fa g6
 have hz: ∀w,(Go.sizeOf e).run P w= .ok ti.size w:=fun w=>by rw[←k2];exact kh k1 w
 unfold Instr.sliceAt;simp[Sem.run_bind,hu,Result.andThen,Instr.slice,hb,hz]
theorem JY(hL:bG P L){t n e:Nat}{ti:TI}(ht:L t=some ti)(hk:ti.k= .arr n e)(b:Nat){lo hi:Option Value}{h m:Nat}(hb: ∀w,(Instr.sliceBounds false n n lo hi none).run P w= .ok (0,h,m) w){tj:TypeInfo}(he:P.info? e=some tj)(w:World):
  (Instr.sliceAt t (.pointer (some ⟨b,0,none⟩)) lo hi none).run P w= .ok (.slice (some ⟨b,0,none⟩) h m) w:=by
 obtain⟨i,d,z,g1,g2,g3,g4,g5,g6,g7⟩:=(hL.ok t _ ht).ex;rw[hk]at g7;dsimp only at g7;subst g7;have hu: ∀w,(underlying t).run P w= .ok (.array n e) w:=fa g6
 have hz: ∀w,(Go.sizeOf e).run P w= .ok tj.size w:=fun w=>kh he w
 unfold Instr.sliceAt;simp only[Instr.sureAddr];simp[Sem.run_bind,hu,Result.andThen,hb,hz,eG]
theorem Hz(hL:bG P L){t n e:Nat}{ti:TI}(ht:L t=some ti)(hk:ti.k= .arr n e)(b o:Nat){lo hi:Option Value}{l h m:Nat}(hb: ∀w,(Instr.sliceBounds false n n lo hi none).run P w= .ok (l,h,m) w){tj:TypeInfo}(he:P.info? e=some tj)(w:World):
  (Instr.sliceAt t (.pointer (some ⟨b,o,none⟩)) lo hi none).run P w= .ok (.slice (some (if m=l then⟨b,o,none⟩else⟨b,o+l*tj.size,none⟩)) (h - l) (m - l)) w:=by
 obtain⟨i,d,z,g1,g2,g3,g4,g5,g6,g7⟩:=(hL.ok t _ ht).ex;rw[hk]at g7;dsimp only at g7;subst g7;have hu: ∀w,(underlying t).run P w= .ok (.array n e) w:=fa g6
 have hz: ∀w,(Go.sizeOf e).run P w= .ok tj.size w:=fun w=>kh he w
 unfold Instr.sliceAt;simp only[Instr.sureAddr];simp[Sem.run_bind,hu,Result.andThen,hb,hz,eG]
theorem TM{xs:List (List AV)}{z l k:Nat}(hz: ∀cs∈xs,cs.length=z)(hl:l≤xs.length){q:Nat}{a:AV}(ha:((xs.take k).drop l).flatten[q]? =some a):xs.flatten[l*z+q]? =some a:=by
 by_cases hk:k≤l
 ·rw[List.drop_eq_nil_of_le (by simp;omega)]at ha;simp at ha
 have ek:xs.take l++(xs.take k).drop l=xs.take k:=by
  have:=List.take_append_drop l (xs.take k)
  rwa [List.take_take,Nat.min_eq_left (by omega)]at this
 have e1:xs.flatten=((xs.take l).flatten++((xs.take k).drop l).flatten)++(xs.drop k).flatten:=by
  rw[←List.flatten_append,ek,←List.flatten_append,List.take_append_drop]
 have e2:(xs.take l).flatten.length=l*z:=by rw[aH fun c hc=>hz c (List.mem_of_mem_take hc),List.length_take,Nat.min_eq_left hl]
 have hq:=(bq.1 ha).1
 rw[e1,gg (by simp only[List.length_append,e2];omega),iY (by omega),e2,Nat.add_sub_cancel_left];exact ha
theorem Cz.cut{r:Nat}{xs:List (List AV)}{A:Option Addr}{n c:Nat}(h:Cz E (.sl r xs) (.slice A n c)){l k z:Nat}(hz: ∀cs∈xs,cs.length=z)(h1:l≤k)(h2:k≤xs.length):
  n=xs.length∧Cz E (.sl r ((xs.take k).drop l)) (.slice (if c=l then A else A.map (·.add (l*z))) (k - l) (c - l))∧xs.length≤c∨(xs=[]∧n=0):=by
 cases h with
 |pd=>exact .inr ⟨rfl,rfl⟩
 |sl _ _ z' b o c u hp hc hm ew zx hr hi hs hu hq=>
  left;have Tt:z'=z:=by
   cases xs with
   |nil=>simp at hp
   |cons x r=>rw[←zx x (by simp),hz x (by simp)]
  subst Tt;refine⟨rfl,?_,hc⟩;by_cases hk:k=l
  ·subst hk;have:(xs.take k).drop k=[]:=by simp
   rw[this,Nat.sub_self];exact .pd _ _ _
  ·have jY:c≠l:=by omega
   rw[if_neg jY];simp only[Option.map_some,eG];have hlen:((xs.take k).drop l).length=k - l:=by simp;omega
   have get: ∀q a,((xs.take k).drop l).flatten[q]? =some a→xs.flatten[l*z'+q]? =some a:=fun q a ha=>by
    have ek:xs.take l++(xs.take k).drop l=xs.take k:=by
     have:=List.take_append_drop l (xs.take k)
     rwa [List.take_take,Nat.min_eq_left h1]at this
    have e1:xs.take l++((xs.take k).drop l++xs.drop k)=xs:=by rw[←List.append_assoc,ek,List.take_append_drop]
    have e2:xs.flatten=(xs.take l).flatten++(((xs.take k).drop l).flatten++(xs.drop k).flatten):=by
     rw[←List.flatten_append,←List.flatten_append,e1]
    have e3:(xs.take l).flatten.length=l*z':=by
     rw[aH (z:=z') (fun x hx=>zx x (List.mem_of_mem_take hx))];rw[List.length_take,Nat.min_eq_left (by omega)]
    rw[e2,iY (by omega),e3,show l*z'+q - l*z'=q from by omega];rw[gg (bq.1 ha).1];exact ha
   have:=Cz.sl (E:=E) r ((xs.take k).drop l) z' b (o+l*z') (c - l) (fun q=>u (l*z'+q)) (by omega) (by omega) (by omega) ew (fun x hx=>zx x (List.mem_of_mem_take (List.mem_of_mem_drop hx))) hr (fun q a ha=>hi _ a (get q a ha))
    (fun q a ha=>by rw[Nat.add_assoc];exact hs _ a (get q a ha)) (fun q a ha=>by rw[Nat.add_assoc];exact hu _ a (get q a ha)) (fun q a ha=>hq _ a (get q a ha))
   rw[hlen]at this;exact this
theorem JB(hL:bG P C.L)(hI:C.I=ak)(h:bJ E0 E w0 w s a){o:Oper}{t:Nat}{x:Operand}{lo hi:Option Operand}(he:o.op= .slice t x lo hi none){K:bB}(hk:Cc C p t lo hi (cd s p x) s K):Reads P E w a o s p K:=by
 have fin: ∀v y,a.eval x=v→(Instr.sliceAt t v (lo.map a.eval) (hi.map a.eval) none).run P w= .ok y w→(execOp a.eval o).run P w= .ok (.value y) w:=fun v y hv hy=>by
  simp only[execOp,he,hv,Option.map_none];simp[hy]
 unfold Cc at hk;rw[hI]at hk
 split at hk
 ·rename_i b er;cases hs:isStr C.L t with
  |false=>rw[hs]at hk;exact hk.elim
  |true=>
   rw[hs,az]at hk
   split at hk
   ·rename_i l k hl hh;obtain⟨hb,hk⟩:=hk;refine⟨_,hk,fun hp=>?_⟩;obtain⟨h0,h1,h2⟩:=bR hb hp;have h2:k≤(b.size:Int):=h2
    have hx:=h.ev hp x
    rw[er]at hx;have e1:(l.toNat:Int)=l:=Fv h0
    have e2:(k.toNat:Int)=k:=Fv (by omega)
    refine⟨_,fin _ _ (bX hx) (JX hL hs b (l:=l.toNat) (h:=k.toNat) (fun w=>r7 P false b.size b.size _ _ _ _ ?_ ?_ (by omega) (by omega) (Nat.le_refl _) w) w),.v _⟩
    ·rcases qc hl h hp h0 with⟨g1,g2⟩|⟨q,g⟩
     ·exact .inl ⟨g1,by omega⟩
     ·exact .inr ⟨q,g⟩
    ·rcases qc hh h hp (by omega)with⟨g1,g2⟩|⟨q,g⟩
     ·exact .inl ⟨g1,by have g2:k=(b.size:Int):=g2;omega⟩
     ·exact .inr ⟨q,g⟩
   ·exact hk.elim
 ·rename_i kk m er
  split at hk
  ·rename_i ee k ux hh;obtain⟨e',ti⟩:=ee;obtain⟨hb,hk⟩:=hk;refine⟨_,hk,fun hp=>?_⟩;obtain⟨_,h0,h1⟩:=bR hb hp;have hx:=h.ev hp x
   rw[er]at hx;cases eK:a.eval x<;>rw[eK]at hx<;>cases hx;have hcn:m≤(E.len kk).1:=by assumption
   have hcc:(E.len kk).1≤(E.len kk).2:=by assumption
   have e2:(k.toNat:Int)=k:=Fv h0
   refine⟨_,fin _ _ eK (Dw hL ux _ _ _ (l:=0) (h:=k.toNat) (m:=(E.len kk).2) (fun w=>r7 P true m (E.len kk).2 _ _ _ _ (.inl ⟨rfl,rfl⟩) ?_ (by omega) (by omega) (by omega) w) w),?_⟩
   ·rcases qc hh h hp h0 with⟨g1,g2⟩|⟨q,g⟩
    ·exact .inl ⟨g1,by omega⟩
    ·exact .inr ⟨q,g⟩
   ·have:=Cz.jB (E:=E) kk k.toNat (by assumption) (by omega) hcc (by assumption)
    simp only[Option.map_some,eG,Nat.zero_mul,Nat.sub_zero,ite_self];exact this
  ·exact hk.elim
 ·rename_i d off er
  split at hk
  ·rename_i ti z xs uX gC
   split at hk
   ·rename_i m e kH
    split at hk
    ·rename_i tj k Nh hh;obtain⟨k1,k2,k3,hb,hk⟩:=hk;subst k1;have k2:xs.length=m:=k2
     refine⟨_,hk,fun hp=>?_⟩;obtain⟨_,h0,h1⟩:=bR hb hp;have hx:=h.ev hp x
     rw[er]at hx;cases eK:a.eval x<;>rw[eK]at hx<;>cases hx;rename_i hl;have e2:(k.toNat:Int)=k:=Fv h0
     have jg:E.len (.s d)=(m,m):=by rw[←k2];exact(h.bx d _ gC).2.1
     have aor:=Cz.jB (E:=E) (.s d) k.toNat hl (by rw[jg];dsimp only;omega) (by rw[jg];exact Nat.le_refl _) (by rw[jg];unfold maxLen;dsimp only;omega)
     rw[jg]at aor;obtain⟨i,dd,zz,g1,g2,g3,g4,g5,g6,g7⟩:=(hL.ok e _ Nh).ex;refine⟨_,fin _ _ eK (JY hL uX kH (E.m (.s d)) (h:=k.toNat) (m:=m) (fun w=>r7 P false m m _ _ _ _ (.inl ⟨rfl,rfl⟩) ?_ (by omega) (by omega) (Nat.le_refl _) w) g1 w),aor⟩;rcases qc hh h hp h0 with⟨g1,g2⟩|⟨q,g⟩
     ·exact .inl ⟨g1,by omega⟩
     ·exact .inr ⟨q,g⟩
    ·exact hk.elim
   ·exact hk.elim
  ·exact hk.elim
 ·split at hk
  ·rename_i r xs e ti Ry ux
   split at hk
   ·rename_i l k hl hh;obtain⟨hb,hk⟩:=hk;refine⟨_,hk,fun hp=>?_⟩;obtain⟨⟨h0,h1,h2⟩,hz⟩:=bR hb hp;have h2:k≤(xs.length:Int):=h2
    have hx:=p9 Ry (h.ev hp x)
    obtain⟨A,c,hv⟩:=hx.len;rw[hv]at hx;have e1:(l.toNat:Int)=l:=Fv h0
    have e2:(k.toNat:Int)=k:=Fv (by omega)
    have P9:xs.length≤c:=by
     cases hx with
     |pd=>simp
     |sl=>assumption
    refine⟨_,fin _ _ hv (Dw hL ux A xs.length c (l:=l.toNat) (h:=k.toNat) (m:=c) (fun w=>r7 P true xs.length c _ _ _ _ ?_ ?_ (by omega) (by omega) P9 w) w),?_⟩
    ·rcases qc hl h hp h0 with⟨g1,g2⟩|⟨q,g⟩
     ·exact .inl ⟨g1,by omega⟩
     ·exact .inr ⟨q,g⟩
    ·rcases qc hh h hp (by omega)with⟨g1,g2⟩|⟨q,g⟩
     ·exact .inl ⟨g1,by have g2:k=(xs.length:Int):=g2;omega⟩
     ·exact .inr ⟨q,g⟩
    ·rcases hx.cut (z:=ti.size) hz (l:=l.toNat) (k:=k.toNat) (by omega) (by omega)with⟨_,g,_⟩|⟨g,_⟩
     ·exact g
     ·subst g;have:k.toNat - l.toNat=0:=by simp at h2;omega
      rw[this];show Cz E (.sl r ((List.take _ []).drop _)) _;simp only[List.take_nil,List.drop_nil];exact .pd _ _ _
   ·exact hk.elim
  ·exact hk.elim
 mutual
theorem PY{d:Nat}{F A:Nat→AV}: ∀{a:AV},cH a=true→sb d F A a=a
  | .gs r t xs,h=>by simp[cH]at h
  | .fn f cs,h=>by simp only[sb,EU (show cw cs=true by simpa[cH]using h)]
  | .agg cs,h=>by simp only[sb,EU (show cw cs=true by simpa[cH]using h)]
  | .gY cs,h=>by simp only[sb,EU (show cw cs=true by simpa[cH]using h)]
  | .any,_=>rfl
  | .v _,_=>rfl
  | .sl _ _,_=>rfl
  | .aX _ _ _,_=>rfl
  | .ptr (.s e) _,h=>by simp[cH,Key.loc]at h
  | .ptr (.o e) _,_=>rfl
  | .jB (.s e) _,h=>by simp[cH,Key.loc]at h
  | .jB (.o e) _,_=>rfl
  | .dc (.s e) _ _ _,h=>by simp[cH,Key.loc]at h
  | .dc (.o e) _ _ _,_=>rfl
  | .mp (.s e),h=>by simp[cH,Key.loc]at h
  | .mp (.o e),_=>rfl
  | .rQ (.s e),h=>by simp[cH,Key.loc]at h
  | .rQ (.o e),_=>rfl
  | .ar _ _ _,_=>rfl
  | .bm _ _,_=>rfl
  | .nG _ _ _,_=>rfl
theorem EU{d:Nat}{F A:Nat→AV}: ∀{a:List AV},cw a=true→Sx d F A a=a
  |[],_=>rfl
  |a::r,h=>by
   simp only[cw,Bool.and_eq_true]at h;simp only[Sx,PY h.1,EU h.2]
end
theorem pR(d:Nat)(F A:Nat→AV)(cs:List AV)(q:Nat):(Sx d F A cs)[q]? =(cs[q]?).map (sb d F A):=by
 induction cs generalizing q with
 |nil=>simp[Sx]
 |cons a r ih=>cases q<;>simp[Sx,ih]
theorem gP(d:Nat)(F A:Nat→AV)(cs:List AV):(Sx d F A cs).length=cs.length:=by
 induction cs with
 |nil=>rfl
 |cons a r ih=>simp[Sx,ih]
theorem uP(d:Nat)(F A:Nat→AV)(e:Nat): ∀t,look e (OM d F A t)=(look e t).map (sb d F A)
 |[]=>rfl
 |(k,x)::r=>by
  simp only[OM,aG,uP d F A e r]
  split<;>rfl
def U8(d:Nat)(F A:Nat→AV):Ob→Ob
 | .box cs=> .box (Sx d F A cs)
 | .arr z xs=> .arr z xs
 | .ow p l xs=> .ow p l xs
 | .lp n t ps pH body st=> .lp n (OM d F A t) ps pH body st
theorem oB(d:Nat)(F A:Nat→AV)(e:Nat): ∀t,look e (JW d F A t)=(look e t).map (U8 d F A)
 |[]=>rfl
 |(k,.box x)::r=>by
  simp only[JW,aG,oB d F A e r]
  split<;>rfl
 |(k,.arr z x)::r=>by
  simp only[JW,aG,oB d F A e r]
  split<;>rfl
 |(k,.ow p l x)::r=>by
  simp only[JW,aG,oB d F A e r]
  split<;>rfl
 |(k,.lp n t ps pH body st)::r=>by
  simp only[JW,aG,oB d F A e r]
  split<;>rfl
def Env.shut(E:Env)(ρ d n:Nat):Env:=
 {E with aR:=fun b o=>E.aR b o∨(b=E.m (.s d)∧o<n),eo:=fun b=>if b=E.m (.s d)then ρ else E.eo b,live:=fun k=>k≠ .s d∧E.live k,own:=fun b=>if b=E.m (.s d)then .WR else E.own b}
structure uo(E:Env)(d:Nat):Prop where
 own:E.own (E.m (.s d))= .key (.s d)
 aR: ∀o,¬E.aR (E.m (.s d)) o
 cell: ∃c e,E.h[E.m (.s d)]? =some (.cells c e (0,0))
theorem eD{ρ d n:Nat}(hs:uo E d){a:AV}{x:Value}(h:Cz E a x):cH a=true→Cz (E.shut ρ d n) a x:=by
 induction h with
 |any x=>exact fun _=> .any _
 |v x=>exact fun _=> .v _
 |pd r A c=>exact fun _=> .pd _ _ _
 |sl r xs z b o c u hp hc hm ew hz hr hi gZ hu hq ih=>
  intro _;have hf:=aH hz
  obtain⟨a0,XK⟩:=sn (l:=xs.flatten) (by rw[hf];exact Nat.mul_pos hp ew);have dj:b≠E.m (.s d):=fun e=>by have:=gZ 0 a0 XK;rw[e]at this;exact hs.aR _ this
  exact .sl r xs z b o c u hp hc hm ew hz (by simp only[Env.shut];rw[if_neg dj];exact hr) hi (fun q a dx=> .inl (gZ q a dx)) hu (fun q a dx=>ih q a dx (hi q a dx))
 |vk r t=>exact fun _=> .vk _ _
 |gs r t xs=>intro hi;simp[cH]at hi
 |aX r cs off b o u hr hi gZ hu hq ih=>
  intro _;exact .aX r cs off b o u (fun q a dx=>by
   have dj:b≠E.m (.s d):=fun e=>by have:=gZ q a dx;rw[e]at this;exact hs.aR _ this
   simp only[Env.shut];rw[if_neg dj];exact hr q a dx) hi (fun q a dx=> .inl (gZ q a dx)) hu (fun q a dx=>ih q a dx (hi q a dx))
 |ptr k off hl=>intro hi;exact Cz.ptr (E:=E.shut ρ d n) k off ⟨fun e=>by subst e;simp[cH,Key.loc]at hi,hl⟩
 |jB k m hl hn hc hm=>intro hi;exact Cz.jB (E:=E.shut ρ d n) k m ⟨fun e=>by subst e;simp[cH,Key.loc]at hi,hl⟩ hn hc hm
 |dc k i off z hl=>intro hi;exact Cz.dc (E:=E.shut ρ d n) k i off z ⟨fun e=>by subst e;simp[cH,Key.loc]at hi,hl⟩
 |mp k hl=>intro hi;exact Cz.mp (E:=E.shut ρ d n) k ⟨fun e=>by subst e;simp[cH,Key.loc]at hi,hl⟩
 |rQ k hl=>intro hi;exact Cz.rQ (E:=E.shut ρ d n) k ⟨fun e=>by subst e;simp[cH,Key.loc]at hi,hl⟩
 |ar n' z xs ys hn hz hl hi hq ih=>exact fun _=> .ar n' z xs ys hn hz hl hi fun q a y ha hy=>ih q a y ha hy (hi q a ha)
 |bm f cs ys hl hi hq ih=>exact fun _=> .bm f cs ys hl hi fun q a y ha hy=>ih q a y ha hy (hi q a ha)
 |nG r z xs x hz h ih=>exact fun _=> .nG r z xs x hz (ih rfl)
 |fn f cap ys hl hq ih=>intro hi;exact .fn f cap ys hl fun q a y ha hy=>ih q a y ha hy (bD (by simpa[cH]using hi) q a ha)
 |agg cs ys hl hq ih=>intro hi;exact .agg cs ys hl fun q a y ha hy=>ih q a y ha hy (bD (by simpa[cH]using hi) q a ha)
 |gY cs ys hl hq ih=>intro hi;exact .gY cs ys hl fun q a y ha hy=>ih q a y ha hy (bD (by simpa[cH]using hi) q a ha)
theorem JP{ρ d n:Nat}(hs:uo E d){F A:Nat→AV}(hF: ∀off,Cz (E.shut ρ d n) (F off) (.pointer (some ⟨E.m (.s d),off,none⟩)))
  (hA: ∀m c,m≤(E.len (.s d)).1→c=(E.len (.s d)).2→(E.len (.s d)).1≤c→c≤maxLen→Cz (E.shut ρ d n) (A m) (.slice (some ⟨E.m (.s d),0,none⟩) m c)){a:AV}{x:Value}(h:Cz E a x):Cz (E.shut ρ d n) (sb d F A a) x:=by
 induction h with
 |any x=>exact .any _
 |v x=>exact .v _
 |pd r A c=>exact .pd _ _ _
 |sl r xs z b o c u hp hc hm ew hz hr hi gZ hu hq ih=>exact eD hs (.sl r xs z b o c u hp hc hm ew hz hr hi gZ hu hq) rfl
 |vk r t=>exact .vk _ _
 |gs r t xs z b c e cells u hc hm h0 ew hz hr hb ef ho gZ hi hu hq ih=>
  have dj:b≠E.m (.s d):=fun e=>by rw[e,hs.own]at ho;cases ho
  exact Cz.gs (E:=E.shut ρ d n) r t xs z b c e cells u hc hm h0 ew hz (by simp only[Env.shut];rw[if_neg dj];exact hr) hb ef (by simp only[Env.shut];rw[if_neg dj];exact ho)
   (fun o=>by simp only[Env.shut];rw[←gZ o];exact⟨fun h=>h.resolve_right (fun h=>dj h.1),.inl⟩) hi hu (fun q a ha=>eD hs (hq q a ha) (hi q a ha))
 |aX r cs off b o u hr hi gZ hu hq ih=>exact eD hs (.aX r cs off b o u hr hi gZ hu hq) rfl
 |ptr k off hl=>
  cases k with
  |o i=>exact eD hs (.ptr _ _ hl) rfl
  |s e=>
   simp only[sb];by_cases h:e=d
   ·subst h;rw[gA,az];exact hF off
   ·rw[zX h,aC];exact Cz.ptr (E:=E.shut ρ d n) (.s e) off ⟨fun hh=>h (by injection hh),hl⟩
 |jB k m hl hn hc hm=>
  cases k with
  |o i=>exact eD hs (.jB _ _ hl hn hc hm) rfl
  |s e=>
   simp only[sb];by_cases h:e=d
   ·subst h;rw[gA,az];exact hA m _ hn rfl hc hm
   ·rw[zX h,aC];exact Cz.jB (E:=E.shut ρ d n) (.s e) m ⟨fun hh=>h (by injection hh),hl⟩ hn hc hm
 |dc k i off z hl=>
  cases k with
  |o i=>exact eD hs (.dc _ _ _ _ hl) rfl
  |s e=>
   simp only[sb];by_cases h:e=d
   ·subst h;rw[gA,az];exact .any _
   ·rw[zX h,aC];exact Cz.dc (E:=E.shut ρ d n) (.s e) i off z ⟨fun hh=>h (by injection hh),hl⟩
 |mp k hl=>
  cases k with
  |o i=>exact eD hs (.mp _ hl) rfl
  |s e=>
   simp only[sb];by_cases h:e=d
   ·subst h;rw[gA,az];exact .any _
   ·rw[zX h,aC];exact Cz.mp (E:=E.shut ρ d n) (.s e) ⟨fun hh=>h (by injection hh),hl⟩
 |rQ k hl=>
  cases k with
  |o i=>exact eD hs (.rQ _ hl) rfl
  |s e=>
   simp only[sb];by_cases h:e=d
   ·subst h;rw[gA,az];exact .any _
   ·rw[zX h,aC];exact Cz.rQ (E:=E.shut ρ d n) (.s e) ⟨fun hh=>h (by injection hh),hl⟩
 |ar n' z xs ys hn hz hl hi hq ih=>exact eD hs (.ar n' z xs ys hn hz hl hi hq) rfl
 |bm f cs ys hl hi hq ih=>exact eD hs (.bm f cs ys hl hi hq) rfl
 |nG r z xs x hz h ih=>exact eD hs (.nG r z xs x hz h) rfl
 |fn f cap ys hl hq ih=>
  simp only[sb];exact .fn f _ ys (by rw[gP];exact hl) fun q a y ha hy=>by
   rw[pR]at ha;cases h:cap[q]? with
   |none=>simp[h]at ha
   |some a'=>simp[h]at ha;subst ha;exact ih q a' y h hy
 |agg cs ys hl hq ih=>
  simp only[sb];exact .agg _ ys (by rw[gP];exact hl) fun q a y ha hy=>by
   rw[pR]at ha;cases h:cs[q]? with
   |none=>simp[h]at ha
   |some a'=>simp[h]at ha;subst ha;exact ih q a' y h hy
 |gY cs ys hl hq ih=>
  simp only[sb];exact .gY _ ys (by rw[gP];exact hl) fun q a y ha hy=>by
   rw[pR]at ha;cases h:cs[q]? with
   |none=>simp[h]at ha
   |some a'=>simp[h]at ha;subst ha;exact ih q a' y h hy
def St.sb(d:Nat)(F A:Nat→AV)(s:St):St:={s with t:=OM d F A s.t,b:=JW d F A (del d s.b),up:=sbU d F A s.up}
theorem uJ(d:Nat)(F A:Nat→AV)(hF: ∀o g,F o≠ .v (.bool g))(hA: ∀o g,A o≠ .v (.bool g)): ∀{p:Path},bp (s.sb d F A) p↔bp s p
 |[]=>Iff.rfl
 |(e,b)::r=>by
  have ih:=uJ d F A hF hA (p:=r)
  simp only[bp,St.sb,uP];simp only[St.sb]at ih;rw[ih];refine and_congr_left fun _=>?_;cases look e s.t with
  |none=>rfl
  |some x=>
   have nb: ∀y:AV,(∀g,y≠ .v (.bool g))→(isB b (some y)↔False):=fun y hy=>by
    unfold isB
    split
    ·rename_i g hg;injection hg with hg;exact absurd hg (hy g)
    ·exact Iff.rfl
   cases x with
   |ptr k off=>
    cases k with
    |o i=>rfl
    |s e'=>
     simp only[Option.map_some,Ab.sb];cases dy e' d with
     |true=>rw[az,nb _ (hF off)];rfl
     |false=>rfl
   |mp k=>
    cases k with
    |o i=>rfl
    |s e'=>
     simp only[Option.map_some,Ab.sb];cases dy e' d<;>rfl
   |jB k n=>
    cases k with
    |o i=>rfl
    |s e'=>
     simp only[Option.map_some,Ab.sb];cases dy e' d with
     |true=>rw[az,nb _ (hA n)];rfl
     |false=>rfl
   |dc k i off z=>
    cases k with
    |o i=>rfl
    |s e'=>
     simp only[Option.map_some,Ab.sb];cases dy e' d<;>rfl
   |rQ k=>
    cases k with
    |o i=>rfl
    |s e'=>
     simp only[Option.map_some,Ab.sb];cases dy e' d<;>rfl
   |_=>rfl
theorem L0{ρ d n:Nat}(hs:uo E d){F A:Nat→AV}(hF: ∀off,Cz (E.shut ρ d n) (F off) (.pointer (some ⟨E.m (.s d),off,none⟩)))
  (hA: ∀m c,m≤(E.len (.s d)).1→c=(E.len (.s d)).2→(E.len (.s d)).1≤c→c≤maxLen→Cz (E.shut ρ d n) (A m) (.slice (some ⟨E.m (.s d),0,none⟩) m c)){t:List (Nat×AV)}{T:Array Value}(h: ∀e x,look e t=some x→Cz E x (T.getD e undef)):
  ∀e x,look e (OM d F A t)=some x→Cz (E.shut ρ d n) x (T.getD e undef):=by
 intro e x hd;rw[uP]at hd;cases hh:look e t with
 |none=>rw[hh]at hd;simp at hd
 |some y=>rw[hh]at hd;simp at hd;subst hd;exact JP hs hF hA (h e y hh)
theorem mE.sb{ρ d n:Nat}(hs:uo E d){F A:Nat→AV}(hF: ∀off,Cz (E.shut ρ d n) (F off) (.pointer (some ⟨E.m (.s d),off,none⟩)))
  (hA: ∀m c,m≤(E.len (.s d)).1→c=(E.len (.s d)).2→(E.len (.s d)).1≤c→c≤maxLen→Cz (E.shut ρ d n) (A m) (.slice (some ⟨E.m (.s d),0,none⟩) m c)): ∀{ab:List Act} {fs:List Fr},mE E ab fs→mE (E.shut ρ d n) ab (sbU d F A fs)
 |[],[],_=>trivial
 |a::ab,f::fs,h=>⟨⟨h.1.1,L0 hs hF hA h.1.2⟩,mE.sb hs hF hA h.2⟩
 |[],_::_,h=>h.elim
 |_::_,[],h=>h.elim
theorem bJ.sb(h:bJ E0 E w0 w s a){ρ d n:Nat}(hs:uo E d)(hl:E.live (.s d))(hn: ∀c e fr,E.h[E.m (.s d)]? =some (.cells c e fr)→n≤c.size){F A:Nat→AV}(hF: ∀off,Cz (E.shut ρ d n) (F off) (.pointer (some ⟨E.m (.s d),off,none⟩)))
  (hA: ∀m c,m≤(E.len (.s d)).1→c=(E.len (.s d)).2→(E.len (.s d)).1≤c→c≤maxLen→Cz (E.shut ρ d n) (A m) (.slice (some ⟨E.m (.s d),0,none⟩) m c))(hF': ∀o g,F o≠ .v (.bool g))(hA': ∀o g,A o≠ .v (.bool g)):bJ E0 (E.shut ρ d n) w0 w (s.sb d F A) a:=by
 have bc:E.m (.s d)<E.h.size:=h.wf.own _ (by rw[hs.own];simp)
 have rh:E0.h.size≤E.m (.s d):=by
  rcases Nat.lt_or_ge (E.m (.s d)) E0.h.size with hh|hh
  ·have:=h.zu _ hh;rw[hs.own]at this;simp[Own.loc,Key.loc]at this
  ·exact hh
 have obs: ∀k ob,k≠ .s d→cB E k ob→cB (E.shut ρ d n) k (U8 d F A ob):=by
  intro k ob hk ho;have hm: ∀o:Own,E.own (E.m k)= .key k→E.m k≠E.m (.s d):=fun _ ho e=>by rw[e,hs.own]at ho;injection ho with ho;exact hk ho.symm
  cases ob with
  |box cs=>
   obtain⟨g1,c,e,g2,g3,g4,g5,g6⟩:=ho;have dj:=hm .WR g3
   refine⟨⟨hk,g1⟩,c,e,g2,by simp only[Env.shut];rw[if_neg dj];exact g3,fun o hh=>?_,by rw[gP];exact g5,fun q a x ha hx=>?_⟩
   ·rcases hh with hh|hh
    ·exact g4 o hh
    ·exact dj hh.1
   ·rw[pR]at ha;cases hc:cs[q]? with
    |none=>rw[hc]at ha;simp at ha
    |some a'=>rw[hc]at ha;simp at ha;subst ha;exact JP hs hF hA (g6 q a' x hc hx)
  |arr z xs=>
   obtain⟨g1,gl,gz,gz',gm,c,e,g2,g3,g4,g5,g6,g7⟩:=ho;have dj:=hm .WR g3
   refine⟨⟨hk,g1⟩,gl,gz,gz',gm,c,e,g2,by simp only[Env.shut];rw[if_neg dj];exact g3,fun o hh=>?_,g5,g6,fun q a x ha hx=>eD hs (g7 q a x ha hx) (g6 q a ha)⟩;rcases hh with hh|hh
   ·exact g4 o hh
   ·exact dj hh.1
  |ow p uQ xs=>
   have ho0:=ho
   obtain⟨g1,g3,_⟩:=ho0;have dj:=hm .WR g3
   refine A5 (fun g1=>⟨hk,g1⟩) rfl rfl (fun g3=>⟨by simp only[Env.shut];rw[if_neg dj];exact g3,rfl,fun o hh=>hh.resolve_right fun hh=>dj hh.1⟩) (fun a x hi hc=>eD hs hc hi) (fun b hb bc=>?_) ho;have hbn:b≠E.m (.s d):=fun e=>by rw[e,hs.own]at hb;cases hb
   exact⟨by simp only[Env.shut];rw[if_neg hbn];exact hb,rfl,fun o=>⟨fun hh=>hh.resolve_right fun hh=>hbn hh.1,.inl⟩,by simp only[Env.shut];rw[if_neg hbn]⟩
  |lp n t ps pH body st=>
   obtain⟨g1,g3,g4,rec,g2,g5,g6,g7,g8,g9,g10,gq⟩:=ho;have dj:=hm .WR g3
   refine⟨⟨hk,g1⟩,by simp only[Env.shut];rw[if_neg dj];exact g3,fun o hh=>?_,rec,g2,g5,g6,g7,g8,g9,g10,L0 hs hF hA gq⟩;rcases hh with hh|hh
   ·exact g4 o hh
   ·exact dj hh.1
 have hdf:Dfs E0.h.size (E.shut ρ d n) (TY a E0.up):=by
  obtain⟨Bs,q1,q2,q3⟩:=h.Lv;refine⟨Bs,q1,q2,fun B hB=>?_⟩;obtain⟨q4,q5,q6⟩:=q3 B hB;refine⟨q4,?_,q6⟩;simp only[Env.shut];rw[if_neg (fun e=>by rw[e,hs.own]at q5;cases q5)];exact q5
 refine⟨h.heap,⟨fun b o hh=>?_,fun b hh=>?_,fun b o hh hr=>?_⟩,hdf,h.up.sb hs hF hA,h.sz,?_,?_,?_,?_,?_,?_,⟨h.ext.size,fun b o hh=>?_,fun k hk=>?_,fun b hb hg=>?_⟩,fun b hb=>?_,h.same,h.gk,h.nl,fun b=>by
  have:=h.ng b
  simp only[Env.shut]
  split
  ·simp[dW,Own.dW]
  ·exact this,h.lo⟩
 ·rcases hh with hh|⟨rfl,_⟩
  ·exact h.wf.aR b o hh
  ·exact bc
 ·simp only[Env.shut]at hh;by_cases e:b=E.m (.s d)
  ·rw[e];exact bc
  ·rw[if_neg e]at hh;exact h.wf.own b hh
 ·rcases hh with hh|⟨rfl,_⟩
  ·have dj:b≠E.m (.s d):=fun e=>by subst e;exact hs.aR _ hh
   simp only[Env.shut]at hr;rw[if_neg dj]at hr;exact h.wf.fz b o hh hr
  ·exact hs.cell
 ·intro e x he hp;have ri:look e (OM d F A s.t)=some x:=he
  rw[uP]at ri;cases hh:look e s.t with
  |none=>rw[hh]at ri;simp at ri
  |some y=>rw[hh]at ri;simp at ri;subst ri;exact JP hs hF hA (h.tm e y hh ((uJ d F A hF' hA').1 hp))
 ·intro e q he hp;exact h.cu e q he (fun hh=>hp ((uJ d F A hF' hA').2 hh))
 ·intro e ob he;have ri:look e (JW d F A (del d s.b))=some ob:=he
  rw[oB,jy]at ri;by_cases hde:d=e
  ·rw[if_pos hde]at ri;simp at ri
  ·rw[if_neg hde]at ri;cases hh:look e s.b with
   |none=>rw[hh]at ri;simp at ri
   |some y=>
    rw[hh]at ri;simp at ri;subst ri;exact obs _ _ (fun hh=>hde (by injection hh with hh;exact hh.symm)) (h.bx e y hh)
 ·intro e he;obtain⟨ob,ho⟩:=h.lv e he.2;refine⟨U8 d F A ob,?_⟩;show look e (JW d F A (del d s.b))=_;rw[oB,jy,if_neg (fun hh=>he.1 (by rw[hh])),ho];rfl
 ·intro i ob hi;have h1:=obs (.o i) ob (fun hh=>by cases hh) (h.gx i ob hi)
  have P6:=h.gk i ob hi
  cases ob with
  |arr z xs=>exact h1
  |lp=>exact P6.elim
  |ow=>exact P6.elim
  |box cs=>
   obtain⟨g1,c,e,g2,g3,g4,g5,g6⟩:=h1;obtain⟨_,_,_,_,_,_,k5,_⟩:=h.gx i _ hi;refine⟨g1,c,e,g2,g3,g4,by rw[g5,gP],fun q a x ha hx=>?_⟩;have:=g6 q (Ab.sb d F A a) x (by rw[pR,ha];rfl) hx
   rwa [PY (P6 q a ha)]at this
 ·intro i;exact⟨fun hh=>(h.gl i).1 hh.2,fun hh=>⟨(fun e=>by cases e),(h.gl i).2 hh⟩⟩
 ·obtain⟨k1,k2,k3⟩:=h.ext.aR b o hh;have dj:b≠E.m (.s d):=fun e=>by rw[e]at k1;exact hs.aR _ k1
  exact⟨.inl k1,k2,by simp only[Env.shut];rw[if_neg dj];exact k3⟩
 ·obtain⟨k1,k2,k3⟩:=h.ext.live k hk;exact⟨⟨fun e=>by subst e;exact h.nl d hk,k1⟩,k2,k3⟩
 ·obtain⟨k1,k2,k3,k4⟩:=h.ext.bH b hb hg;have dj:b≠E.m (.s d):=by omega
  exact⟨by simp only[Env.shut];rw[if_neg dj];exact k1,k2,fun o=>⟨fun hh=>(k3 o).1 (hh.resolve_right (fun hh=>dj hh.1)),fun hh=> .inl ((k3 o).2 hh)⟩,by simp only[Env.shut];rw[if_neg dj];exact k4⟩
 ·have dj:b≠E.m (.s d):=by omega
  simp only[Env.shut];rw[if_neg dj];exact h.zu b hb
theorem aax(h:bJ E0 E w0 w s a){ρ d:Nat}{s':St}{p:OwK}{uQ:Option (Nat×Nat)}{xs:List (List AV)}(hl:look d s.b=some (.ow p uQ xs))(hs:Ab.shut ρ d s=some s'): ∃n F A,bJ E0 (E.shut ρ d n) w0 w s' a∧s'=s.sb d F A∧uo E d:=by
 unfold Ab.shut at hs;rw[hl]at hs;cases p with
 |mp=>dsimp only at hs;cases hs
 |sl z=>
  dsimp only at hs;cases hs;obtain⟨g1,g2,g3,gi,u,⟨gz0,gz,gln,gle,gm,c,e,gh,gc,gu⟩,g6,_⟩:=h.bx d _ hl;have jX:uo E d:=⟨g2,g3,c,e,gh⟩
  have hD:=aH gz
  have P9:xs.length*z≤c.size:=by rw[gc,gln];exact Nat.mul_le_mul_right _ gle
  have hA: ∀m cc,m≤(E.len (.s d)).1→cc=(E.len (.s d)).2→(E.len (.s d)).1≤cc→cc≤maxLen→Cz (E.shut ρ d (xs.length*z)) (.sl ρ (xs.take m)) (.slice (some ⟨E.m (.s d),0,none⟩) m cc):=by
   intro m cc h1 h2 h3 h4;have hlen:(xs.take m).length=m:=by rw[List.length_take];omega
   by_cases hm:m=0
   ·subst hm;simp only[List.take_zero];exact .pd _ _ _
   ·have get: ∀q a,(xs.take m).flatten[q]? =some a→xs.flatten[q]? =some a:=fun q a ha=>by
     have:xs.flatten=(xs.take m).flatten++(xs.drop m).flatten:=by rw[←List.flatten_append,List.take_append_drop]
     rw[this,gg (bq.1 ha).1];exact ha
    have:=Cz.sl (E:=E.shut ρ d (xs.length*z)) ρ (xs.take m) z (E.m (.s d)) 0 cc u (by omega) (by omega) h4 gz0 (fun l hl=>gz l (List.mem_of_mem_take hl)) (by simp[Env.shut]) (fun q a ha=>gi q a (get q a ha))
     (fun q a ha=> .inr ⟨rfl,by have:=(bq.1 (get q a ha)).1;omega⟩)
     (fun q a ha=>by simp[aW,Env.shut,gh,gu q a (get q a ha)])
     (fun q a ha=>eD jX (g6 q a (get q a ha)) (gi q a (get q a ha)))
    rw[hlen]at this;exact this
  exact⟨xs.length*z,_,_,h.sb jX g1 (fun c' e' fr hh=>by rw[gh]at hh;cases hh;omega) (fun off=> .any _) hA (fun o g hh=>by cases hh) (fun o g hh=>by cases hh),rfl,jX⟩
theorem OI(h:bJ E0 E w0 w s a){ρ d:Nat}{s':St}(hs:Ab.shut ρ d s=some s'): ∃n F A,bJ E0 (E.shut ρ d n) w0 w s' a∧s'=s.sb d F A∧uo E d:=by
 have hs0:=hs
 unfold Ab.shut at hs;cases hl:look d s.b with
 |none=>rw[hl]at hs;simp at hs
 |some ob=>
  rw[hl]at hs;cases ob with
  |box cs=>
   dsimp only at hs;cases hi:cw (mP (fun _=>true) cs)with
   |false=>rw[hi]at hs;simp at hs
   |true=>
    rw[hi,az]at hs;cases hs;obtain⟨g1,c,e,g2,g3,g4,g5,g6⟩:=h.bx d _ hl;have jX:uo E d:=⟨g3,g4,c,e,g2⟩
    have hF: ∀off,Cz (E.shut ρ d cs.length) (.aX ρ (mP (fun _=>true) cs) off) (.pointer (some ⟨E.m (.s d),off,none⟩)):=by
     intro off;have:=Cz.aX (E:=E.shut ρ d cs.length) ρ (mP (fun _=>true) cs) off (E.m (.s d)) 0 (fun q=>c[q]?.getD undef) (fun q a ha=>by simp[Env.shut]) (bD hi)
      (fun q a ha=> .inr ⟨rfl,by have:=(bq.1 ha).1;rw[dR]at this;omega⟩)
      (fun q a ha=>by
       have hq:q<c.size:=by have:=(bq.1 ha).1;rw[dR]at this;omega
       simp[aW,Env.shut,g2,hq])
      (fun q a ha=>by
       have hq:q<c.size:=by have:=(bq.1 ha).1;rw[dR]at this;omega
       have hia:=bD hi q a ha
       rw[rZ]at ha;cases hc:cs[q]? with
       |none=>rw[hc]at ha;simp at ha
       |some a'=>
        rw[hc]at ha;simp at ha;subst ha;refine eD jX ?_ hia;exact(g6 q a' _ hc (by simp[hq])).giveUp h.wf _)
     simpa using this
    exact⟨cs.length,_,_,h.sb jX g1 (fun c' e' fr hh=>by rw[g2]at hh;cases hh;omega) hF (fun m c _ _ _ _=> .any _) (fun o g hh=>by cases hh) (fun o g hh=>by cases hh),rfl,jX⟩
  |lp=>dsimp only at hs;cases hs
  |ow p uQ xs=>exact aax h hl hs0
  |arr z xs=>
   dsimp only at hs;cases hs;obtain⟨g1,gl,gz0,gz,gm,c,e,g2,g3,g4,g5,gi,g6⟩:=h.bx d _ hl;have jX:uo E d:=⟨g3,g4,c,e,g2⟩
   have hD:=aH gz
   have hA: ∀m cc,m≤(E.len (.s d)).1→cc=(E.len (.s d)).2→(E.len (.s d)).1≤cc→cc≤maxLen→Cz (E.shut ρ d (xs.length*z)) (.sl ρ (xs.take m)) (.slice (some ⟨E.m (.s d),0,none⟩) m cc):=by
    intro m cc h1 h2 h5 h3;rw[gl]at h1 h2;dsimp only at h1 h2;have hlen:(xs.take m).length=m:=by rw[List.length_take];omega
    by_cases hm:m=0
    ·subst hm;simp only[List.take_zero];exact .pd _ _ _
    ·have get: ∀q a,(xs.take m).flatten[q]? =some a→xs.flatten[q]? =some a:=fun q a ha=>by
      have:xs.flatten=(xs.take m).flatten++(xs.drop m).flatten:=by rw[←List.flatten_append,List.take_append_drop]
      rw[this,gg (bq.1 ha).1];exact ha
     have:=Cz.sl (E:=E.shut ρ d (xs.length*z)) ρ (xs.take m) z (E.m (.s d)) 0 cc (fun q=>c[q]?.getD undef) (by omega) (by omega) h3 gz0 (fun l hl=>gz l (List.mem_of_mem_take hl)) (by simp[Env.shut]) (fun q a ha=>gi q a (get q a ha))
      (fun q a ha=> .inr ⟨rfl,by have:=(bq.1 (get q a ha)).1;omega⟩)
      (fun q a ha=>by
       have hq:q<c.size:=by have:=(bq.1 (get q a ha)).1;omega
       simp[aW,Env.shut,g2,hq])
      (fun q a ha=>by
       have hq:q<c.size:=by have:=(bq.1 (get q a ha)).1;omega
       exact eD jX (g6 q a _ (get q a ha) (by simp[hq])) (gi q a (get q a ha)))
     rw[hlen]at this;exact this
   have hF: ∀off,Cz (E.shut ρ d (xs.length*z)) (bif dy off 0 then AV.nG ρ z xs else .any) (.pointer (some ⟨E.m (.s d),off,none⟩)):=fun off=>by
    cases ho:dy off 0 with
    |false=>exact .any _
    |true=>
     have h0:=dK ho
     subst h0;refine .nG _ _ _ _ gz ?_;have:=Cz.aX (E:=E.shut ρ d (xs.length*z)) ρ xs.flatten 0 (E.m (.s d)) 0 (fun q=>c[q]?.getD undef) (fun q a ha=>by simp[Env.shut]) gi
      (fun q a ha=> .inr ⟨rfl,by have:=(bq.1 ha).1;omega⟩)
      (fun q a ha=>by
       have hq:q<c.size:=by have:=(bq.1 ha).1;omega
       simp[aW,Env.shut,g2,hq])
      (fun q a ha=>by
       have hq:q<c.size:=by have:=(bq.1 ha).1;omega
       exact eD jX (g6 q a _ ha (by simp[hq])) (gi q a ha))
     simpa using this
   exact⟨xs.length*z,_,_,h.sb jX g1 (fun c' e' fr hh=>by rw[g2]at hh;cases hh;omega) hF hA (fun o g hh=>by cases ho:dy o 0<;>rw[ho]at hh<;>cases hh) (fun o g hh=>by cases hh),rfl,jX⟩
theorem JQ{ρ d:Nat}{s':St}(hs:Ab.shut ρ d s=some s'): ∃F A,s'=s.sb d F A∧(∀o g,F o≠ .v (.bool g))∧(∀o g,A o≠ .v (.bool g)):=by
 unfold Ab.shut at hs;cases hl:look d s.b with
 |none=>rw[hl]at hs;simp at hs
 |some ob=>
  rw[hl]at hs;cases ob with
  |box cs=>
   dsimp only at hs;cases hi:cw (mP (fun _=>true) cs)with
   |false=>rw[hi]at hs;simp at hs
   |true=>rw[hi,az]at hs;cases hs;exact⟨_,_,rfl,(fun o g hh=>by cases hh),(fun o g hh=>by cases hh)⟩
  |arr z xs=>dsimp only at hs;cases hs;exact⟨_,_,rfl,(fun o g hh=>by cases ho:dy o 0<;>rw[ho]at hh<;>cases hh),(fun o g hh=>by cases hh)⟩
  |ow p uQ xs=>cases p with
   |mp=>dsimp only at hs;cases hs
   |sl z=>dsimp only at hs;cases hs;exact⟨_,_,rfl,(fun o g hh=>by cases hh),(fun o g hh=>by cases hh)⟩
  |lp=>dsimp only at hs;cases hs
theorem fc{ρ:Nat}: ∀{l:List Nat} {E:Env} {s s':St},bJ E0 E w0 w s a→kV ρ l s=some s'→ ∃E',bJ E0 E' w0 w s' a∧(∀p,bp s' p↔bp s p)
 |[],E,s,s',h,hs=>by simp only[kV,Option.some.injEq]at hs;subst hs;exact⟨E,h,fun _=>Iff.rfl⟩
 |d::r,E,s,s',h,hs=>by
  simp only[kV]at hs;cases hl:look d s.b with
  |none=>rw[hl]at hs;exact fc h hs
  |some ob=>
   rw[hl]at hs;dsimp only at hs;cases h1:Ab.shut ρ d s with
   |none=>rw[h1]at hs;simp at hs
   |some s1=>
    rw[h1]at hs;obtain⟨n,F,A,g1,g2,g3⟩:=OI h h1;obtain⟨F',A',q1,q2,q3⟩:=JQ h1;obtain⟨E',k1,k2⟩:=fc g1 hs;exact⟨E',k1,fun p=>(k2 p).trans (by rw[q1];exact uJ d F' A' q2 q3)⟩
def NY(P:Program)(E0:Env)(w0 w:World)(a:Act)(o:Oper)(s:St)(p:Path)(K:bB):Prop:=
 ∃r s' E',K r s'∧bJ E0 E' w0 w s' a∧(∀q,bp s' q↔bp s q)∧(bp s p→ ∃x,(execOp a.eval o).run P w= .ok (.value x) w∧Cz E' r x)
theorem EK(h:bJ E0 E w0 w s a)(hp:bp s p)(T:Tok→Bool): ∀(l:List Operand) (q:Nat) (b:AV) (y:Value),(l.map fun x=>Ab.sR T (cd s p x))[q]? =some b→(l.map a.eval)[q]? =some y→Cz E b y:=by
 intro l q b y h1 h2;rw[List.getElem?_map]at h1 h2;cases hq:l[q]? with
 |none=>rw[hq]at h1;simp at h1
 |some x=>rw[hq]at h1 h2;simp at h1 h2;subst h1;subst h2;exact(h.ev hp x).giveUp h.wf T
theorem Dl(h:bJ E0 E w0 w s a){o:Oper}{f:Fn}{first cap:Array Operand}(he:o.op= .makeFunc f first cap)(hf:first.toList=[]){K:bB}(hk:UK C p f cap.toList s K):NY P E0 w0 w a o s p K:=by
 unfold UK at hk
 split at hk
 ·rename_i s1 Br;obtain⟨E',g1,g2⟩:=fc h Br;refine⟨_,s1,E',hk,g1,g2,fun hp=>⟨.func f #[] (cap.map a.eval),?_,?_⟩⟩
  ·(have:first= #[]:=Array.toList_inj.1 hf);simp only[execOp,he,this];simp[Instr.makeFunc]
  ·have:=Cz.fn (E:=E') f (cap.toList.map fun x=>rd (cd s1 p x)) (cap.toList.map a.eval) (by simp) (fun q b y h1 h2=>EK g1 ((g2 p).2 hp) _ cap.toList q b y h1 h2)
   have e:(cap.toList.map a.eval).toArray=cap.map a.eval:=Array.toList_inj.1 (by simp)
   rw[e]at this;exact this
 ·exact hk.elim
theorem Ib(h:bJ E0 E w0 w s a){o:Oper}{f:Fn}{first cap:Array Operand}(he:o.op= .makeFunc f first cap)(hc:cap.toList=[])(hi:cw (first.toList.map fun x=>rd (cd s p x))=true){K:bB}(hk:K (.bm f (first.toList.map fun x=>rd (cd s p x))) s):NY P E0 w0 w a o s p K:=
 ⟨_,s,E,hk,h,fun _=>Iff.rfl,fun hp=>⟨.func f (first.map a.eval) #[],by
  have:cap= #[]:=Array.toList_inj.1 hc
  simp only[execOp,he,this];simp[Instr.makeFunc],by
  have:=Cz.bm (E:=E) f (first.toList.map fun x=>rd (cd s p x)) (first.toList.map a.eval) (by simp) (fun q b hq=>bD hi q b hq) (fun q b y h1 h2=>EK h hp _ first.toList q b y h1 h2)
  have e:(first.toList.map a.eval).toArray=first.map a.eval:=Array.toList_inj.1 (by simp)
  rw[e]at this;exact this⟩⟩
end Ab
namespace Ab
open Go
variable{P:Program}{L:pN}{E0 E E':Env}{w0 w w':World}{s:St}{a:Act}{p:Path}{C:ey}
def Env.gj(E:Env)(t:Tok)(ρ n:Nat)(o:Obj):Env:=
 {E with h:=E.h.push o,aR:=fun b i=>E.aR b i∨(b=E.h.size∧i<n),eo:=fun b=>if b=E.h.size then ρ else E.eo b,own:=fun b=>if b=E.h.size then .tok t else E.own b}
theorem Au(hw:Wf E)(t:Tok)(ρ n:Nat)(o:Obj):Ext (fun _=>False) E (E.gj t ρ n o):=
 ⟨by simp[Env.gj],
  fun b i hs=>⟨.inl hs,As _ _ (hw.aR b i hs) i,by have:=hw.aR b i hs;simp only[Env.gj];rw[if_neg (by omega)]⟩,
  fun q hq=>⟨hq,rfl,rfl⟩,
  fun b hb _=>⟨by simp only[Env.gj];rw[if_neg (by omega)],by simp only[Env.gj];rw[Array.getElem?_push,if_neg (by omega)],
   fun i=>⟨fun hh=>hh.resolve_right (fun hh=>by omega),.inl⟩,by simp only[Env.gj];rw[if_neg (by omega)]⟩⟩
theorem Ja(hw:Wf E)(t:Tok)(ρ n:Nat)(o:Obj)(wj: ∃c e,o= .cells c e (0,0)):Wf (E.gj t ρ n o):=
 ⟨fun b i hs=>by
  rcases hs with hs|⟨rfl,_⟩
  ·have:=hw.aR b i hs;simp[Env.gj];omega
  ·simp[Env.gj],
  fun b hb=>by
  simp only[Env.gj]at hb ⊢;by_cases h:b=E.h.size
  ·subst h;simp
  ·rw[if_neg h]at hb;have:=hw.own b hb;simp;omega,
  fun b i hs hr=>by
  simp only[Env.gj]at hr ⊢;rcases hs with hs|⟨rfl,_⟩
  ·have:=hw.aR b i hs
   rw[if_neg (by omega)]at hr;obtain⟨c,e,h⟩:=hw.fz b i hs hr;exact⟨c,e,by rw[Array.getElem?_push,if_neg (by omega)];exact h⟩
  ·obtain⟨c,e,rfl⟩:=wj;exact⟨c,e,by simp⟩⟩
theorem bJ.asR(h:bJ E0 E w0 w s a)(t:Tok)(ρ n:Nat)(c:Array Value)(e:Nat):bJ E0 (E.gj t ρ n (.cells c e (0,0))) w0 (w.alloc (.cells c e)) s a:=by
 have hE:=Au h.wf t ρ n (.cells c e (0,0))
 have hs:=h.zU (T:=fun _=>false) hE (fun _ hf=>hf.elim) sq (Ja h.wf _ _ _ _ ⟨_,_,rfl⟩) (w':=w.alloc (.cells c e)) (by show w.heap.push _=_;rw[h.heap];rfl) (vL _ _) (fun _ _ hf=>hf.elim)
  s.b s.g s.nx (fun d' Gb h'=> .inl ⟨Gb,h',(p6 (fun _=>rfl) Gb).symm,(fun hf=>hf),fun hf=>hf⟩) (fun d' hl=>h.lv d' hl)
  (fun i Gb h'=> .inl ⟨h',fun hf=>hf⟩) (fun i=>h.gl i) h.gk (fun b=>by
   have:=h.ng b
   simp only[Env.gj]
   split
   ·cases t<;>simp[dW,Own.dW,Tok.loc]
   ·exact this)
 have:iv (fun _=>false) s.t=s.t:=mG (fun _=>rfl) _
 rw[this,rp (fun _=>rfl)]at hs;exact hs
theorem Rf(h:bJ E0 E w0 w s a){t:Tok}{ρ z n:Nat}{cs:List AV}{c:Array Value}{e cap:Nat}(hz:0<z)(hl:cs.length=n*z)(hi:cw cs=true)(hr: ∀(q:Nat) (a:AV) (y:Value),cs[q]? =some a→c[q]? =some y→Cz E a y)
  (hc:c.size=cap*z)(hn:n≤cap)(hm:cap≤maxLen)(h0:n=0→cap=0):Cz (E.gj t ρ (n*z) (.cells c e (0,0))) (.gs ρ t (chunks z n cs)) (.slice (some ⟨w.heap.size,0,none⟩) n cap):=by
 obtain⟨f1,f2,f3⟩:=tO hl;have hE:=Au h.wf t ρ (n*z) (.cells c e (0,0))
 have hle:n*z≤cap*z:=Nat.mul_le_mul_right _ hn
 have:=Cz.gs (E:=E.gj t ρ (n*z) (.cells c e (0,0))) ρ t (chunks z n cs) z E.h.size cap e c (fun q=>c[q]?.getD undef) (by rw[f2];exact hn) hm (by rw[f2];exact h0) hz f3 (by simp[Env.gj]) (by simp[Env.gj]) hc (by simp[Env.gj])
  (fun o=>by
   simp only[Env.gj,f2];exact⟨fun hh=>by rcases hh with hh|hh;(have:=h.wf.aR _ _ hh;omega);exact hh.2,fun hh=> .inr (by simpa using hh)⟩)
  (by rw[f1];exact bD hi)
  (by
   rw[f1];intro q a ha;have hq:q<c.size:=by have:=(bq.1 ha).1;omega
   simp[aW,Env.gj,hq])
  (by
   rw[f1];intro q a ha;have hq:q<c.size:=by have:=(bq.1 ha).1;omega
   have:=((hr q a (c[q]?.getD undef) ha (by simp[hq])).ext hE h.wf (fun _=>false) (fun _ hf=>hf.elim)).1
   rwa [lF (fun _=>rfl)]at this)
 rw[f2]at this;rw[h.heap];exact this
theorem xX{z:Nat}: ∀{ps:List (Nat×AV)} {vs:List (Nat×Value)} {cs cs':List AV} {c:Array Value},ym E ps vs→Row E cs c→qi z cs ps=some cs'→ ∃c',Instr.fill (fun i=>some (i*z,z)) c vs=some c'∧Row E cs' c'
 |[],vs,cs,cs',c,h,hr,hf=>by
  have:vs=[]:=List.eq_nil_of_length_eq_zero (by have:=h.1;simp at this;omega)
  subst this;simp only[qi,Option.some.injEq]at hf;subst hf;exact⟨c,by simp[Instr.fill],hr⟩
 |(i,a)::ps,vs,cs,cs',c,h,hr,hf=>by
  obtain⟨⟨i',y⟩,ys,rfl,h1,h2,h3⟩:=h.cons;dsimp only at h1 h2;subst h1;simp only[qi]at hf;cases hk:BS a with
  |none=>rw[hk]at hf;simp at hf
  |some k=>
   rw[hk]at hf;dsimp only at hf;cases hb:dy k z&&oZ (i*z+z) cs.length with
   |false=>rw[hb]at hf;simp at hf
   |true=>
    rw[hb,az]at hf;simp only[Bool.and_eq_true]at hb;have hkz:k=z:=dK hb.1
    have hle:i*z+z≤cs.length:=by simpa using hb.2
    obtain⟨c1,c2,c3⟩:=qE h2 hk;have oE:=hr.bV (o:=i*z) (vs:=cellsOf a) (ys:=y.cells.toList) (by omega) (by simp;omega) (fun q a' y' h1 h2=>c3 q a' y' h1 (by simpa using h2))
    obtain⟨c',g1,g2⟩:=xX h3 oE hf;refine⟨c',?_,g2⟩;simp only[Instr.fill];rw[if_neg (by simp only[Bool.or_eq_true,bne_iff_ne,decide_eq_true_eq,ne_eq,not_or,Decidable.not_not];exact⟨by omega,by rw[hr.1];omega⟩)];rw[←g1];congr 1;rw[←Array.foldl_toList];simp
theorem Q0{l:List AV}{z:Nat}(hl:l.length=z): ∀(n q:Nat),q<n*z→(List.replicate n l).flatten[q]? =l[q % z]?
 |0,q,h=>by simp at h
 |n+1,q,h=>by
  rw[Nat.succ_mul]at h;rw[List.replicate_succ,List.flatten_cons];by_cases hq:q<z
  ·rw[gg (by omega),Nat.mod_eq_of_lt hq]
  ·rw[iY (by omega),hl,Q0 hl n (q - z) (by omega),←Nat.mod_eq_sub_mod (by omega)]
theorem H4{z:Value}{l:List Value}(hz:z.cells.toList=l){k:Nat}(hl:l.length=k)(n:Nat):Row E (List.replicate n (l.map AV.v)).flatten ((Array.range (n*k)).map fun q=>z.cells[q % z.cells.size]!):=by
 have ef:z.cells.size=k:=by rw[←hl,←hz];simp
 refine⟨by rw[aH (z:=k) (fun x hx=>by rw[(List.mem_replicate.1 hx).2];simp[hl])];simp,fun q a y ha hy=>?_⟩;have bc:q<n*k:=by
  have:=(bq.1 ha).1
  rwa [aH (z:=k) (fun x hx=>by rw[(List.mem_replicate.1 hx).2];simp[hl]),List.length_replicate]at this
 rw[Q0 (z:=k) (by simp[hl]) n q bc,List.getElem?_map,←hz,Array.getElem?_toList]at ha;have hk:0<k:=by rcases Nat.eq_zero_or_pos k with h|h;(·subst h;simp at bc);(·exact h)
 have hm:q % k<z.cells.size:=by rw[ef];exact Nat.mod_lt _ hk
 rw[Array.getElem?_eq_getElem hm]at ha;simp at ha;subst ha;simp only[Array.getElem?_map,ef]at hy;rw[Array.getElem?_range]at hy;rw[if_pos bc]at hy;simp only[Option.map_some,Option.some.injEq]at hy;rw[getElem!_pos z.cells (q % k) hm]at hy;subst hy;exact .v _
theorem adn{av:AV}{k:Nat}(h:BS av=some k):(cellsOf av).length=k:=by
 cases av with
 |any=>simp[BS]at h
 |gY vs=>simp[BS]at h
 |ar n z xs=>simp[BS]at h
 |agg cs=>simp only[BS,Option.some.injEq]at h;exact h
 |v x=>
  simp only[BS,Option.some.injEq]at h;subst h;cases x<;>simp[cellsOf,Value.cells]
 |_=>simp only[BS,Option.some.injEq]at h;subst h;rfl
theorem CV{z:Nat}: ∀{ps:List (Nat×AV)} {cs cs':List AV},qi z cs ps=some cs'→cs'.length=cs.length
 |[],cs,cs',hh=>by simp only[qi,Option.some.injEq]at hh;rw[hh]
 |(j,b)::r,cs,cs',hh=>by
  simp only[qi]at hh;cases hk:BS b with
  |none=>rw[hk]at hh;simp at hh
  |some k=>
   rw[hk]at hh;dsimp only at hh;cases hb:dy k z&&oZ (j*z+z) cs.length with
   |false=>rw[hb]at hh;simp at hh
   |true=>
    rw[hb,az]at hh;simp only[Bool.and_eq_true]at hb;have hkz:k=z:=dK hb.1
    have hle:j*z+z≤cs.length:=by simpa using hb.2
    rw[CV hh,lV (by rw[adn hk,hkz];exact hle)]
theorem xq{t e:Nat}{i:TypeInfo}{zv:Value}(hu:P.underlying t=some (.slice e))(hi:P.info? e=some i)(hz:i.zero=some zv)(h1:1≤i.size){len:Nat}(hle:len*i.size≤16777216){vs:Array (Nat×Value)}{c':Array Value}
  (hf:Instr.fill (fun j=>some (j*i.size,i.size)) ((Array.range (len*i.size)).map fun q=>zv.cells[q % zv.cells.size]!) vs.toList=some c')(w:World):
  (Instr.buildSlice t len vs).run P w= .ok (.slice (some ⟨w.heap.size,0,none⟩) len len) (w.alloc (.cells c' e)):=by
 have h2: ∀w,(underlying t).run P w= .ok (.slice e) w:=fa hu
 have h3: ∀w,(Go.sizeOf e).run P w= .ok i.size w:=fun w=>kh hi w
 have h4: ∀w,(zeroValue e).run P w= .ok zv w:=fun w=>by simp[zeroValue,typeInfo,go_sem,hi,hz]
 unfold Instr.buildSlice;by_cases h0:len=0
 ·subst h0;have hr0:Array.range 0= #[]:=rfl
  simp only[Nat.zero_mul,hr0,List.map_toArray,List.map_nil]at hf;simp[Sem.run_bind,h2,h3,Result.andThen,hr0,hf,iT]
 ·have h5: ¬(len*i.size > 2 ^ 24):=by omega
  have h6: ¬(len*i.size=0):=by
   intro hh;rcases Nat.mul_eq_zero.1 hh with hh|hh<;>omega
  simp only[Sem.run_bind,h2,h3,Result.andThen,if_neg h5,if_neg h6];simp[Sem.run_bind,h4,Result.andThen,hf,iT]
theorem th(hL:bG P C.L)(h:bJ E0 E w0 w s a){o:Oper}{t len:Nat}{parts:Array (Nat×Operand)}(he:o.op= .buildSlice t len parts){d:Nat}{K:bB}(hk:tl C p t len d parts.toList s K):
  ∃r s' E1 E2 w2,K r s'∧bJ E0 E1 w0 w s' a∧(∀q,bp s' q↔bp s q)∧bJ E0 E2 w0 w2 s' a∧(bp s p→ ∃x,(execOp a.eval o).run P w= .ok (.value x) w2∧Cz E2 r x):=by
 unfold tl at hk;generalize C.base+d=d at hk;cases ux:elemOf C.L t with
 |none=>rw[ux]at hk;exact hk.elim
 |some et=>
  obtain⟨e,ti⟩:=et;rw[ux]at hk;dsimp only at hk;obtain⟨hu,Nq,i,i1,i2,i3,zv,i4,i5⟩:=iZ hL ux;cases hsh:kV C.ρ (lB (parts.toList.map fun q=>cd s p q.2)) s with
  |none=>rw[hsh]at hk;exact hk.elim
  |some s1=>
   rw[hsh]at hk;dsimp only at hk;obtain⟨E1,g1,g2⟩:=fc h hsh;cases hf:qi ti.size ((List.replicate len (ti.zero.map AV.v)).flatten) (parts.toList.map fun q=>(q.1,rd (cd s1 p q.2)))with
   |none=>rw[hf]at hk;exact hk.elim
   |some cs=>
    rw[hf]at hk;dsimp only at hk;cases hb:cw cs&&(oZ 1 ti.size&&oZ (len*ti.size) 16777216)with
    |false=>rw[hb]at hk;exact hk.elim
    |true=>
     rw[hb,az]at hk;simp only[Bool.and_eq_true]at hb;have b2:1≤ti.size:=by simpa using hb.2.1
     have b3:len*ti.size≤16777216:=by simpa using hb.2.2
     have g1':=g1.giveUp (bC (.l d))
     have B6:=(hL.ok e ti Nq).N9
     by_cases hp:bp s p
     ·
      have P0:ym E1 (parts.toList.map fun q=>(q.1,rd (cd s1 p q.2))) (parts.toList.map fun q=>(q.1,a.eval q.2)):=by
       refine⟨by simp,fun q x y hx hy=>?_⟩;simp only[List.getElem?_map]at hx hy;cases hq:parts.toList[q]? with
       |none=>rw[hq]at hx;simp at hx
       |some zz=>rw[hq]at hx hy;simp at hx hy;subst hx;subst hy;exact⟨rfl,(g1.ev ((g2 p).2 hp) _).giveUp g1.wf _⟩
      obtain⟨c',k1,k2⟩:=xX P0 (H4 i5 B6 len) hf;have hlen:cs.length=len*ti.size:=by
       rw[CV hf,aH (z:=ti.size) (fun x hx=>by rw[(List.mem_replicate.1 hx).2];simp[B6])];simp
      refine⟨_,_,E1,_,_,hk,g1',fun q=>(jE _).trans (g2 q),g1'.asR (.l d) C.ρ (len*ti.size) c' e,fun _=>⟨.slice (some ⟨w.heap.size,0,none⟩) len len,?_,?_⟩⟩
      ·have eY:=xq (P:=P) hu i1 i4 (by omega) (len:=len) (by rw[i2];exact b3) (vs:=parts.map fun q=>(q.1,a.eval q.2)) (c':=c') (by rw[i2,←k1];congr 1;simp) w
       have KT:(parts.map fun(i,x)=>(i,a.eval x))=parts.map fun q=>(q.1,a.eval q.2):=rfl
       simp only[execOp,he,KT];simp[eY]
      ·exact Rf g1' b2 hlen hb.1 k2.2 (by rw[k2.1,hlen]) (Nat.le_refl _) (by
        have:len≤len*ti.size:=Nat.le_mul_of_pos_right _ b2
        unfold maxLen;omega) (fun hh=>hh)
     ·exact⟨_,_,E1,E1,w,hk,g1',fun q=>(jE _).trans (g2 q),g1',fun hh=>absurd hh hp⟩
theorem Me{l:List Value}{z:Nat}(hl:l.length=z): ∀(n q:Nat),q<n*z→(List.replicate n l).flatten[q]? =l[q % z]?
 |0,q,h=>by simp at h
 |n+1,q,h=>by
  rw[Nat.succ_mul]at h;rw[List.replicate_succ,List.flatten_cons];by_cases hq:q<z
  ·rw[gg (by omega),Nat.mod_eq_of_lt hq]
  ·rw[iY (by omega),hl,Me hl n (q - z) (by omega),←Nat.mod_eq_sub_mod (by omega)]
theorem Oc{z:Value}{l:List Value}(hz:z.cells.toList=l){k:Nat}(hl:l.length=k)(n:Nat):((Array.range (n*k)).map fun q=>z.cells[q % z.cells.size]!).toList=(List.replicate n l).flatten:=by
 have ef:z.cells.size=k:=by rw[←hl,←hz];simp
 have hlen:(List.replicate n l).flatten.length=n*k:=by rw[aH (z:=k) (fun x hx=>by rw[(List.mem_replicate.1 hx).2];exact hl)];simp
 apply List.ext_getElem?;intro q;by_cases bc:q<n*k
 ·have hk:0<k:=by rcases Nat.eq_zero_or_pos k with h|h;(·subst h;simp at bc);(·exact h)
  have hm:q % k<z.cells.size:=by rw[ef];exact Nat.mod_lt _ hk
  rw[Me hl n q bc,Array.getElem?_toList,Array.getElem?_map,Array.getElem?_range,if_pos bc,Option.map_some,ef,getElem!_pos z.cells (q % k) hm,←hz,Array.getElem?_toList,Array.getElem?_eq_getElem hm]
 ·rw[List.getElem?_eq_none (l:=(List.replicate n l).flatten) (by omega),Array.getElem?_toList,Array.getElem?_map,Array.getElem?_range,if_neg bc];rfl
theorem run_makeSlice{t e:Nat}{i:TypeInfo}{zv:Value}(hu:P.underlying t=some (.slice e))(hi:P.info? e=some i)(hz:i.zero=some zv)(h1:1≤i.size){k k':IntKind}{n:Nat}(hn:n≤9223372036854775807)(hb:n*i.bytes≤140737488355328)(w:World):
  (Instr.makeSlice t (.int k n) (.int k' n)).run P w= .ok (.slice (some ⟨w.heap.size,0,none⟩) n n) (w.alloc (.cells ((Array.range (n*i.size)).map fun q=>zv.cells[q % zv.cells.size]!) e)):=by
 have h2: ∀w,(underlying t).run P w= .ok (.slice e) w:=fa hu
 have h3: ∀w,(Go.sizeOf e).run P w= .ok i.size w:=fun w=>kh hi w
 have h4: ∀w,(zeroValue e).run P w= .ok zv w:=fun w=>by simp[zeroValue,typeInfo,go_sem,hi,hz]
 have h5: ∀w,(typeInfo e).run P w= .ok i w:=fun w=>by simp[typeInfo,go_sem,hi]
 have hw:IntKind.i64.wrap (n:Int)=n:=IntWalk.i64_in _ (by omega)
 have e48:(2:Int) ^ 48=281474976710656:=by decide
 have fP:(i.bytes:Int)*(n:Int)≤140737488355328:=by
  have:((n*i.bytes:Nat):Int)≤((140737488355328:Nat):Int):=Int.ofNat_le.2 hb
  rw[Int.natCast_mul]at this;rw[Int.mul_comm];exact this
 have c1: ¬((i.bytes:Int)*(n:Int) > 2 ^ 48):=by
  rw[e48];omega
 have c2: ¬((n:Int)<0):=by omega
 have c3: ¬((n:Int) > (n:Int)):=by omega
 have uY: ∀w,(askRoom (n*i.bytes)).run P w= .ok () w:=fun w=>by
  unfold askRoom;rw[if_neg (by unfold roomBytes;omega)];simp[go_sem]
 have key: ∀w,(do
   let n:=n*(←Go.sizeOf e);let zero←if n=0 then pure #[]else do pure (←zeroValue e).cells
   newRow e ((Array.range n).map (zero[· % zero.size]!)):Sem Addr).run P w= .ok ⟨w.heap.size,0,none⟩ (w.alloc (.cells ((Array.range (n*i.size)).map fun q=>zv.cells[q % zv.cells.size]!) e)):=by
  intro w;by_cases h0:n*i.size=0
  ·have hr0:Array.range 0= #[]:=rfl
   simp only[Sem.run_bind,h3,Result.andThen,h0,if_true,hr0];rw[show(pure #[]:Sem (Array Value)).run P w= .ok #[] w from rfl];simp[iT]
  ·simp only[Sem.run_bind,h3,Result.andThen,if_neg h0,h4];rfl
 have ha: ∀(k:IntKind) w,(asInt (.int k (n:Int))).run P w= .ok (n:Int) w:=fun _ _=>rfl
 have hc:(decide ((n:Int)<0)||decide ((i.bytes:Int)*(n:Int) > 2 ^ 48)||decide ((n:Int)<0)||decide ((n:Int) > (n:Int)))=false:=by
  simp only[bI c1,bI c2,bI c3,Bool.or_false]
 have ht:(n:Int).toNat=n:=Int.toNat_natCast n
 unfold Instr.makeSlice;simp only[Sem.run_bind,h2,ha,h5,Result.andThen,hw,hc,ht];simp only[Bool.false_eq_true,if_false,Sem.run_bind,uY,Result.andThen,h3];by_cases h0:n*i.size=0
 ·have hr0:Array.range 0= #[]:=rfl
  simp only[h0,if_true,hr0];simp[iT]
 ·simp only[if_neg h0,Sem.run_bind,h4,Result.andThen];simp[iT]
theorem LO(hL:bG P C.L)(hI:C.I=ak)(h:bJ E0 E w0 w s a){o:Oper}{t:Nat}{x y:Operand}(he:o.op= .makeSlice t x y){d:Nat}{n m:Int}(hn:intOf (cd s [] x)=some n)(hm:intOf (cd s [] y)=some m){K:bB}{Q:Exit→Act→World→Prop}
  (hk:QN C t d n m s K):mS P o a w (hZ E0 w0 o a K) Q:=by
 unfold QN at hk;generalize C.base+d=d at hk;cases ux:elemOf C.L t with
 |none=>rw[ux]at hk;exact hk.elim
 |some et=>
  obtain⟨e,ti⟩:=et;rw[ux]at hk;obtain⟨hu,Nq,i,i1,i2,i3,zv,i4,i5⟩:=iZ hL ux;cases gC:look d s.b with
  |some _=>rw[gC]at hk;exact hk.elim
  |none=>
   rw[gC]at hk;dsimp only at hk;obtain⟨k1,k2,ano,hk⟩:=hk;rw[hI]at ano;obtain⟨k3,k4,k5⟩:0≤n∧n≤9223372036854775807∧n*ti.bytes≤140737488355328:=ano;subst k2;rw[hI]at hk;obtain⟨q1,e1⟩:=fN hn h trivial;obtain⟨q2,e2⟩:=fN hm h trivial;obtain⟨n',Ls⟩:=Int.eq_ofNat_of_zero_le k3;subst Ls;have hb:n'*i.bytes≤140737488355328:=by
    rw[i3];rw[←Int.natCast_mul]at k5;exact Int.ofNat_le.1 k5
   have B6:=(hL.ok e ti Nq).N9
   have eY:=run_makeSlice (P:=P) hu i1 i4 (by omega) (k:=q1) (k':=q2) (n:=n') (by omega) hb w
   have Bt: ¬E.live (.s d):=fun tG=>by obtain⟨ob,ho⟩:=h.lv d tG;rw[gC]at ho;cases ho
   have wj:=Hd h (c:=(Array.range (n'*i.size)).map fun q=>zv.cells[q % zv.cells.size]!) (k:= .s d) Bt (z:=ti.size) (n:=n') (l:=ti.zero) (by omega) B6 (by unfold maxLen;omega) (by rw[i2];exact Oc i5 B6 n') e
   refine dq (x:= .slice (some ⟨w.heap.size,0,none⟩) n' n') (w':=w.alloc _) ?_ ⟨_,_,_,hk,h.WU gC wj,?_⟩
   ·simp only[execOp,he,e1,e2];simp[eY]
   ·have hmk:(E.addKey (.s d) (.cells ((Array.range (n'*i.size)).map fun q=>zv.cells[q % zv.cells.size]!) e (0,0)) n').m (.s d)=w.heap.size:=by simp[Env.addKey,h.heap]
    have:=Cz.jB (E:=E.addKey (.s d) (.cells ((Array.range (n'*i.size)).map fun q=>zv.cells[q % zv.cells.size]!) e (0,0)) n') (.s d) n' (.inl rfl) (by simp[Env.addKey]) (by simp[Env.addKey]) (by simp[Env.addKey];unfold maxLen;omega)
    rw[hmk]at this;simpa[Env.addKey]using this
theorem vH(v:Value):tT v=v.oneCell':=by cases v<;>rfl
theorem chunks_flatten{z:Nat}: ∀{xs:List (List AV)},(∀l∈xs,l.length=z)→chunks z xs.length xs.flatten=xs
 |[],_=>rfl
 |l::r,h=>by
  have hl:=h l (by simp)
  simp only[List.length_cons,chunks,List.flatten_cons];rw[List.take_append_of_le_length (by omega),List.take_of_length_le (by omega),List.drop_append_of_le_length (by omega),List.drop_of_length_le (by omega),List.nil_append,chunks_flatten (fun x hx=>h x (by simp[hx]))]
theorem zV: ∀{xs:List (List AV)},cR xs=true→rC xs.flatten=true
 |[],_=>rfl
 |l::r,h=>by
  simp only[cR,Bool.and_eq_true]at h;have ih:=zV h.2
  rw[List.flatten_cons];have: ∀{a b:List AV},rC a=true→rC b=true→rC (a++b)=true:=by
   intro a b ha hb
   induction a with
   |nil=>exact hb
   |cons x r ih=>simp only[rC,Bool.and_eq_true,List.cons_append]at ha ⊢;exact⟨ha.1,ih ha.2⟩
  exact this h.1 ih
theorem Cz.cells{r:Nat}{xs:List (List AV)}{v:Value}(hE:w.heap=E.h)(h:Cz E (.sl r xs) v)(hp:0<xs.length){z:Nat}(hz: ∀l∈xs,l.length=z):
  ∃b o c,v= .slice (some ⟨b,o,none⟩) xs.length c∧ ∃ns:List Value,ns.length=xs.length*z∧(∀(j:Nat) (u:Value),ns[j]? =some u→w.cell? ((⟨b,o,none⟩:Addr).add j)=some u)∧
   (∀(q:Nat) (a:AV),xs.flatten[q]? =some a→cH a=true)∧ ∀(q:Nat) (a:AV) (y:Value),xs.flatten[q]? =some a→ns[q]? =some y→Cz E a y:=by
 cases h with
 |pd=>simp at hp
 |sl _ _ z' b o c u hp hc hm ew zx hr hi hs hu hq=>
  have Tt:z'=z:=by
   cases xs with
   |nil=>simp at hp
   |cons x r=>rw[←zx x (by simp),hz x (by simp)]
  subst Tt;have hD:=aH hz
  refine⟨b,o,c,rfl,(List.range (xs.length*z')).map u,by simp,fun j v hj=>?_,hi,fun q a y ha hy=>?_⟩
  ·have bc:j<xs.length*z':=by have:=(bq.1 hj).1;simpa using this
   have:v=u j:=by simp[bc]at hj;exact hj.symm
   subst this;rw[eG,kP,hE];exact hu j (xs.flatten[j]'(by omega)) (by simp)
  ·have bc:q<xs.length*z':=by have:=(bq.1 ha).1;omega
   have:y=u q:=by simp[bc]at hy;exact hy.symm
   subst this;exact hq q a ha
theorem Cw{cs:List AV}{ns:List Value}(hl:ns.length=cs.length)(hq: ∀(q:Nat) (a:AV) (y:Value),cs[q]? =some a→ns[q]? =some y→Cz E a y)(h:rC cs=true): ∀u∈ns,u.oneCell'=true:=by
 intro u hu;have:=F8 (E:=E) (c:=ns.toArray) ⟨by simpa using hl,fun q a y h1 h2=>hq q a y h1 (by simpa using h2)⟩ h u (by simpa using hu)
 rw[←vH];exact this
structure App(P:Program)(E:Env)(w:World)(t:Nat)(ty:Nat)(x y:Value)(tk tk':Tok)(r:Nat)(zs:List (List AV))(x':Value)(w':World)(E':Env):Prop where
 run:(Builtin.append_ #[t,t] ty #[x,y]).run P w= .ok x' w'
 heap:w'.heap=E'.h
 wf:Wf E'
 same:jQ w w'
 ext:Ext (fun o=>o= .tok tk) E E'
 cz:Cz E' (.gs r tk' zs) x'
 own: ∀b,b<E.h.size→E.own b= .tok tk→E'.own b= .tok tk∨E'.own b= .tok tk'
 live: ∀k,E'.live k↔E.live k
 ng:(∀b,¬dW (E.own b))→ ∀b,¬dW (E'.own b)
def Env.grow(E:Env)(b:Nat)(tk':Tok)(n:Nat)(o:Obj):Env:=
 {E with h:=E.h.setIfInBounds b o,aR:=fun b' i=>if b'=b then i<n else E.aR b' i,own:=fun b'=>if b'=b then .tok tk' else E.own b'}
theorem D7{t ty e:Nat}{i:TypeInfo}(hu:P.underlying t=some (.slice e))(hi:P.info? e=some i)(A B:Option Addr)(n c m:Nat)(hc:n≤c)(w:World):
  (Builtin.append_ #[t,t] ty #[.slice A n c,.slice B 0 m]).run P w= .ok (.slice A n c) w:=by
 have h2: ∀w,(underlying t).run P w= .ok (.slice e) w:=fa hu
 have h3: ∀w,(Go.sizeOf e).run P w= .ok i.size w:=fun w=>kh hi w
 cases A<;>cases B<;>
  simp[Builtin.append_,Sem.run_bind,h2,h3,Result.andThen,Builtin.lenOf,hc,Builtin.firstCells,loadCells,loadCellsFrom,storeCells]
theorem SE{r:Nat}{tk tk':Tok}{xs:List (List AV)}{x y:Value}{t ty:Nat}(hw:Wf E)(hh:w.heap=E.h)(hx:Cz E (.gs r tk xs) x)(eY:(Builtin.append_ #[t,t] ty #[x,y]).run P w= .ok x w):App P E w t ty x y tk tk' r xs x w (E.dD tk tk'):=
 ⟨eY,hh,Mb hw _ _,jQ.refl _,uD _ _,hx.dD hw,fun b _ ho=> .inr (by simp only[Env.dD];rw[ho];simp),fun _=>Iff.rfl,fun h=>Mc h _ _⟩
theorem rP(z:Array Value)(n:Nat):(Builtin.zeroCells z n).size=n*z.size:=by simp[Builtin.zeroCells]
theorem Re{e:Nat}{i:TypeInfo}{zv:Value}(h:bJ E0 E w0 w s a)(B6:zv.cells.size=i.size)(h1:1≤i.size){r:Nat}{tk tk':Tok}{zs:List (List AV)}{x y:Value}{t ty:Nat}(Tt: ∀l∈zs,l.length=i.size)
  {ns:List Value}(hl:ns.length=zs.length*i.size)(nw: ∀(q:Nat) (a:AV),zs.flatten[q]? =some a→cH a=true)(hq: ∀(q:Nat) (a:AV) (y:Value),zs.flatten[q]? =some a→ns[q]? =some y→Cz E a y){cap:Nat}(hc:zs.length≤cap)(hm:cap≤maxLen)(dj:0<zs.length)
  (eY:(Builtin.append_ #[t,t] ty #[x,y]).run P w= .ok (.slice (some ⟨w.heap.size,0,none⟩) zs.length cap) (w.drew.alloc (.cells (ns.toArray++Builtin.zeroCells zv.cells (cap - zs.length)) e))):
  ∃x' w' E',App P E w t ty x y tk tk' r zs x' w' E':=by
 have hd:=h.draw (w':=w.drew) rfl ⟨rfl,rfl,rfl⟩
 have hgs:=Rf hd (t:=tk') (ρ:=r) (z:=i.size) (n:=zs.length) (cs:=zs.flatten) (c:=ns.toArray++Builtin.zeroCells zv.cells (cap - zs.length)) (e:=e) (cap:=cap) (by omega) (aH Tt) (yK nw)
  (fun q b y' g1 g2=>hq q b y' g1 (by
   have bc:q<ns.length:=by rw[hl,←aH Tt];exact(bq.1 g1).1
   rw[Array.getElem?_append_left (by simpa using bc)]at g2;simpa using g2))
  (by simp only[Array.size_append,rP,B6];simp only[List.size_toArray,hl];rw[←Nat.add_mul];congr 1;omega) hc hm (fun hh=>by omega)
 rw[chunks_flatten Tt]at hgs;refine⟨_,_,_,eY,?_,Ja h.wf tk' r (zs.length*i.size) _ ⟨_,_,rfl⟩,⟨rfl,rfl,rfl⟩,(Au h.wf _ _ _ _).mono (fun _ hf=>hf.elim),hgs,fun b hb ho=> .inl ?_,fun _=>Iff.rfl,fun hg b=>(by
  have:=hg b
  simp only[Env.gj]
  split
  ·exact kF _
  ·exact this)⟩
 ·show w.heap.push _=_;rw[h.heap];rfl
 ·simp only[Env.gj];rw[if_neg (by omega)];exact ho
theorem DX{t ty e:Nat}{i:TypeInfo}{zv:Value}(h:bJ E0 E w0 w s a)(hu:P.underlying t=some (.slice e))(hi:P.info? e=some i)(hz:i.zero=some zv)(B6:zv.cells.size=i.size)(h1:1≤i.size)
  {r r2:Nat}{tk tk':Tok}{xs ys:List (List AV)}{x y:Value}(hx:Cz E (.gs r tk xs) x)(hy:Cz E (.sl r2 ys) y)(hxz: ∀l∈xs,l.length=i.size)(hyz: ∀l∈ys,l.length=i.size)(Ai:rC ys.flatten=true)
  (hb:(xs.length+ys.length)*i.bytes≤70368744177664)(hn:xs.length+ys.length≤70368744177664): ∃x' w' E',App P E w t ty x y tk tk' r (xs++ys) x' w' E':=by
 by_cases hy0:ys.length=0
 ·have:ys=[]:=List.eq_nil_of_length_eq_zero hy0
  subst this;obtain⟨B,m,Ug⟩:=hy.len;rw[List.append_nil];subst Ug;have hxv: ∃A c,x= .slice A xs.length c∧xs.length≤c:=by
   cases hx with
   |vk=>exact⟨_,_,rfl,Nat.zero_le _⟩
   |gs=>exact⟨_,_,rfl,by assumption⟩
  obtain⟨A,c,rfl,hc⟩:=hxv;exact⟨_,_,_,SE h.wf h.heap hx (D7 hu hi A B xs.length c m hc w)⟩
 ·obtain⟨b2,o2,c2,rfl,ns,n1,n2,n3,n4⟩:=hy.cells h.heap (by omega) hyz;have anW:=Cw (E:=E) (by rw[n1,aH hyz]) n4 Ai
  cases hx with
  |vk=>
   have eY:=run_append_nil (P:=P) w t ty e i zv hu hi hz ⟨b2,o2,none⟩ ys.length c2 ns n1 n2 (by omega) (by omega) (by simp at hb;omega)
   rw[List.nil_append];exact Re h B6 h1 hyz n1 n3 n4 (grownCap_ge w ys.length 0 e) (grownCap_le_maxLen w ys.length 0 e (by unfold maxLen;omega)) (by omega) eY
  |gs _ _ _ z b c e' cells u hc hm h0 ew zx hr hbk ef ho gZ nw huq xd=>
   have IT:=aH hxz
   have Uj:=aH hyz
   have abv: ∀l∈xs++ys,l.length=i.size:=fun l hl=>by
    rcases List.mem_append.1 hl with hl|hl
    ·exact hxz l hl
    ·exact hyz l hl
   have hlx:(xs++ys).length=xs.length+ys.length:=by simp
   have hold: ∀(j:Nat) (v:Value),((List.range (xs.length*i.size)).map u)[j]? =some v→w.cell? ((⟨b,0,none⟩:Addr).add j)=some v:=fun j v hj=>by
    have bc:j<xs.length*i.size:=by have:=(bq.1 hj).1;simpa using this
    have:v=u j:=by simp[bc]at hj;exact hj.symm
    subst this;rw[eG,kP,h.heap];exact huq j (xs.flatten[j]'(by omega)) (by simp)
   have ai8: ∀(q:Nat) (a:AV),(xs++ys).flatten[q]? =some a→cH a=true:=fun q a ha=>by
    rw[List.flatten_append]at ha;by_cases bc:q<xs.flatten.length
    ·rw[gg bc]at ha;exact nw q a ha
    ·rw[iY (by omega)]at ha;exact n3 _ a ha
   by_cases uY:xs.length+ys.length≤c
   ·
    have hxp:0<xs.length:=by
     rcases Nat.eq_zero_or_pos xs.length with hh|hh
     ·have:=h0 hh;omega
     ·exact hh
    have Tt:z=i.size:=by
     cases xs with
     |nil=>simp at hxp
     |cons l r=>rw[←zx l (by simp),hxz l (by simp)]
    subst Tt;have hmul:(xs.length+ys.length)*i.size≤c*i.size:=Nat.mul_le_mul_right _ uY
    rw[Nat.add_mul]at hmul;obtain⟨w',g1,g2,g3⟩:=iw P b (xs.length*i.size) e' ns 0 w cells (by rw[h.heap];exact hbk) (by omega) (fun v hv=>by rw[vH];exact anW v hv);obtain⟨f1,f2⟩:=rN (xs.length*i.size) ns 0 cells (by omega);generalize (ns.zipIdx.foldl (fun cs (x,j)=>cs.setIfInBounds (xs.length*i.size+j) x) cells)=F at g2 f1 f2;have bc:b<E.h.size:=(Array.getElem?_eq_some_iff.1 hbk).1
    have eY:(Builtin.append_ #[t,t] ty #[.slice (some ⟨b,0,none⟩) xs.length c,.slice (some ⟨b2,o2,none⟩) ys.length c2]).run P w= .ok (.slice (some ⟨b,0,none⟩) (xs.length+ys.length) c) w':=by
     have h2: ∀w,(underlying t).run P w= .ok (.slice e) w:=fa hu
     have h3: ∀w,(Go.sizeOf e).run P w= .ok i.size w:=fun w=>kh hi w
     have hf:=run_firstCells_some (P:=P) w i.size ys.length ⟨b2,o2,none⟩ ys.length c2 ns n1 n2
     simp[Builtin.append_,Sem.run_bind,h2,h3,Result.andThen,Builtin.lenOf,uY,hf,eG,g1]
    have hEh:w'.heap=(E.grow b tk' ((xs.length+ys.length)*i.size) (.cells F e' (0,0))).h:=by rw[g2,h.heap];rfl
    have TC:Ext (fun o=>o= .tok tk) E (E.grow b tk' ((xs.length+ys.length)*i.size) (.cells F e' (0,0))):=
     ⟨by simp[Env.grow],
      fun b' q hs=>by
      by_cases wm:b'=b
      ·subst wm;have xd:=(gZ q).1 hs
       refine⟨by simp only[Env.grow,if_true];rw[Nat.add_mul];omega,?_,rfl⟩;simp only[Env.grow,aW];rw[Array.getElem?_setIfInBounds_self_of_lt bc,hbk];dsimp only;rw[f2,if_neg (by omega)]
      ·refine⟨by simp only[Env.grow];rw[if_neg wm];exact hs,?_,rfl⟩;simp only[Env.grow,aW];rw[Array.getElem?_setIfInBounds_ne (Ne.symm wm)],
      fun k hk=>⟨hk,rfl,rfl⟩,
      fun b' fP dj=>by
      have wm:b'≠b:=fun hh=>by subst hh;exact dj ho
      exact⟨by simp only[Env.grow];rw[if_neg wm],by simp only[Env.grow];rw[Array.getElem?_setIfInBounds_ne (Ne.symm wm)],fun q=>by simp only[Env.grow];rw[if_neg wm],rfl⟩⟩
    have hwf:Wf (E.grow b tk' ((xs.length+ys.length)*i.size) (.cells F e' (0,0))):=
     ⟨fun b' q hs=>by
      simp only[Env.grow]at hs ⊢;by_cases wm:b'=b
      ·subst wm;simpa using bc
      ·rw[if_neg wm]at hs;simpa using h.wf.aR b' q hs,
      fun b' hs=>by
      simp only[Env.grow]at hs ⊢;by_cases wm:b'=b
      ·subst wm;simpa using bc
      ·rw[if_neg wm]at hs;simpa using h.wf.own b' hs,
      fun b' q hs hr=>by
      simp only[Env.grow]at hs hr ⊢;by_cases wm:b'=b
      ·subst wm;exact⟨F,e',by rw[Array.getElem?_setIfInBounds_self_of_lt bc]⟩
      ·rw[if_neg wm]at hs;obtain⟨c',e'',hc⟩:=h.wf.fz b' q hs hr;exact⟨c',e'',by rw[Array.getElem?_setIfInBounds_ne (Ne.symm wm)];exact hc⟩⟩
    refine⟨_,w',_,eY,hEh,hwf,g3,TC,?_,fun b' _ lf=>?_,fun _=>Iff.rfl,fun hg b'=>(by
     have:=hg b'
     simp only[Env.grow]
     split
     ·exact kF _
     ·exact this)⟩
    ·have:=Cz.gs (E:=E.grow b tk' ((xs.length+ys.length)*i.size) (.cells F e' (0,0))) r tk' (xs++ys) i.size b c e' F (fun q=>F[q]?.getD undef) (by rw[hlx];exact uY) hm (by rw[hlx];omega) (by omega) abv hr
      (by simp[Env.grow,bc]) (by rw[f1];exact ef) (by simp[Env.grow]) (fun q=>by simp[Env.grow]) ai8
      (fun q a' ha=>by
       have hq:q<F.size:=by
        have:=(bq.1 ha).1
        rw[aH abv,hlx,Nat.add_mul]at this;rw[f1,ef];omega
       simp[aW,Env.grow,bc,hq])
      (fun q a' ha=>by
       have hq:q<(xs.length+ys.length)*i.size:=by
        have:=(bq.1 ha).1
        rwa [aH abv,hlx]at this
       rw[Nat.add_mul]at hq;have hfq:=f2 q
       have aet: ∀y',Cz E a' y'→F[q]? =some y'→Cz (E.grow b tk' ((xs.length+ys.length)*i.size) (.cells F e' (0,0))) a' (F[q]?.getD undef):=fun y' g1 g2=>by
        rw[g2];exact(g1.ext TC h.wf (bC tk) (fun t ht=>(mU _ _).2 (by cases ht;rfl))).2 (ai8 q a' ha)
       rw[List.flatten_append]at ha;by_cases P2:q<xs.flatten.length
       ·rw[gg P2]at ha;rw[if_neg (by omega)]at hfq;have h5:=huq q a' ha
        simp only[Nat.zero_add,aW,hbk]at h5;exact aet _ (xd q a' ha) (hfq.trans h5)
       ·rw[iY (by omega)]at ha;rw[if_pos ⟨by omega,by omega⟩]at hfq;have ai2:q - (xs.length*i.size+0)<ns.length:=by omega
        have h6:ns[q - (xs.length*i.size+0)]? =some ns[q - (xs.length*i.size+0)]:=by simp[ai2]
        exact aet _ (n4 _ a' _ ha (by rw[IT];exact h6)) (hfq.trans h6))
     rw[hlx]at this;exact this
    ·by_cases wm:b'=b
     ·subst wm;exact .inr (by simp[Env.grow])
     ·exact .inl (by simp only[Env.grow];rw[if_neg wm];exact lf)
   ·have eY:=run_append_grow (P:=P) w t ty e i zv hu hi hz ⟨b,0,none⟩ xs.length c ((List.range (xs.length*i.size)).map u) (by simp) hold ⟨b2,o2,none⟩ ys.length c2 ns n1 n2 (by omega) (by omega)
     (growslice_fits (by omega) (by omega))
    have aut:((List.range (xs.length*i.size)).map u).toArray++ns.toArray=(((List.range (xs.length*i.size)).map u)++ns).toArray:=by simp
    rw[aut]at eY;rw[←hlx]at eY;refine Re h B6 h1 abv (ns:=((List.range (xs.length*i.size)).map u)++ns) (by rw[hlx,List.length_append,n1,Nat.add_mul];simp) ai8 (fun q a' y' g1 g2=>?_) (by exact grownCap_ge w _ c e) (grownCap_le_maxLen w _ c e (by unfold maxLen;omega)) (by omega) eY;rw[List.flatten_append]at g1;by_cases bc:q<xs.flatten.length
    ·rw[gg bc]at g1;rw[gg (by simp;omega)]at g2;have:y'=u q:=by simp[show q<xs.length*i.size from by omega]at g2;exact g2.symm
     subst this;exact xd q a' g1
    ·rw[iY (by omega)]at g1;rw[iY (by simp;omega)]at g2;exact n4 _ a' y' g1 (by simpa[IT]using g2)
theorem I7(hI:C.I=ak){ti:TI}{n:Nat}{ys:List (List AV)}(h:RX C ti n ys):(n+ys.length)*ti.bytes≤70368744177664∧n+ys.length≤70368744177664∧1≤ti.size∧rC ys.flatten=true∧ ∀l∈ys,l.length=ti.size:=by
 obtain⟨h12,h3,h4,h5⟩:=h;rw[hI]at h12;obtain⟨h1,h2⟩:(n+ys.length)*ti.bytes≤70368744177664∧n+ys.length≤70368744177664:=h12;exact⟨h1,h2,by simpa using h3,zV h4,h5⟩
theorem U7(d:Nat)(k:Tok): ∀t,(fun o=>o=Own.tok k) (.tok t)→(fun q=>bC (.l d) q||bC k q) t=true:=fun t ht=>by
 cases ht;simp[(mU k k).2 rfl]
theorem Hw(hL:bG P C.L)(hI:C.I=ak)(h:bJ E0 E w0 w s a){o:Oper}{t t' d:Nat}{x y:Operand}{c:Call}(he:o.op= .call c)(hc:c.callee= .builtin .append)(cI:c.args= #[x,y])(Uh:c.argTypes= #[t,t'])(htt:t'=t){K:bB}{Q:Exit→Act→World→Prop}
  (hk:EJ C t d (cd s [] x) (cd s [] y) s K):mS P o a w (hZ E0 w0 o a K) Q:=by
 subst htt;unfold EJ at hk;generalize C.base+d=d at hk;have hx:=h.ev (p:=[]) trivial x
 have hy:=h.ev (p:=[]) trivial y
 have fin: ∀x' w',(Builtin.append_ #[t',t'] o.type #[a.eval x,a.eval y]).run P w= .ok x' w'→Out E0 w0 a K x' w'→mS P o a w (hZ E0 w0 o a K) Q:=fun x' w' g1 g2=>by
  refine dq (x:=x') (w':=w') ?_ g2;simp only[execOp,he,resolve,hc,invoke,builtin,cI,Uh];simp[Sem.run_bind,invoke,builtin,g1,Result.andThen]
 cases ux:elemOf C.L t' with
 |none=>rw[ux]at hk;exact hk.elim
 |some et=>
  obtain⟨e,ti⟩:=et;rw[ux]at hk;obtain⟨hu,Nq,i,i1,i2,i3,zv,i4,i5⟩:=iZ hL ux;have B6:zv.cells.size=i.size:=by rw[i2,←(hL.ok e ti Nq).N9,←i5];simp
  cases Ry:zq (cd s [] y)with
  |none=>rw[Ry]at hk;exact hk.elim
  |some ry=>
   obtain⟨r2,ys⟩:=ry;rw[Ry]at hk;dsimp only at hk;have hy':=p9 Ry hy
   split at hk
   ·rename_i r k xs er;obtain⟨Rv,k1,k2,hk⟩:=hk;rw[hI]at k1 hk;obtain⟨q1,q2,q3,q4,q5⟩:=I7 (C:=C) (ti:=ti) (n:=xs.length) (ys:=ys) hI k1;rw[er]at hx;obtain⟨x',w',E',g⟩:=DX (P:=P) (t:=t') (ty:=o.type) (tk':= .l d) h hu i1 i4 B6 (by omega) hx hy' (by rw[i2];exact k2) (by rw[i2];exact q5) q4 (by rw[i3];exact q1) q2;refine fin x' w' g.run ⟨_,_,E',hk,?_,g.cz⟩;refine h.zU g.ext (U7 d k) (fun o ho=>by subst ho;left;first|rfl|(cases k<;>rfl)) g.wf g.heap g.same (fun b hb hcc=>by have:=h.zu b hb;rw[hcc]at this;first|(simp[Own.loc,Tok.loc]at this;done)|(cases k<;>simp[Own.loc,Tok.loc]at this)) _ s.g s.nx (fun d' ob hd=>?_) (fun d' hl=>?_) (fun j ob hj=> .inl ⟨hj,fun hf=>by cases hf⟩)
     (fun j=>(g.live _).trans (h.gl j)) h.gk (g.ng h.ng)
    ·rw[cN]at hd;cases hh:look d' s.b with
     |none=>rw[hh]at hd;simp at hd
     |some z=>rw[hh]at hd;simp at hd;exact .inl ⟨z,rfl,hd.symm,(fun hf=>by cases hf),fun hf=>by first|(cases hf;done)|(cases hf;cases Rv)⟩
    ·obtain⟨ob,ho⟩:=h.lv d' ((g.live _).1 hl);exact⟨_,by rw[cN,ho];rfl⟩
   ·rename_i er;obtain⟨k1,hk⟩:=hk;obtain⟨q1,q2,q3,q4,q5⟩:=I7 (C:=C) (ti:=ti) (n:=0) (ys:=ys) hI k1;rw[er]at hx;have ex:=bX hx
    have hgs:Cz E (.gs C.ρ (.l d) []) (a.eval x):=by rw[ex];exact .vk _ _
    obtain⟨x',w',E',g⟩:=DX (P:=P) (t:=t') (ty:=o.type) (tk':= .l d) h hu i1 i4 B6 (by omega) hgs hy' (fun l hl=>by simp at hl) (by rw[i2];exact q5) q4 (by rw[i3];simpa using q1) (by simpa using q2);refine fin x' w' g.run ⟨_,_,E',hk,?_,by simpa using g.cz⟩;have hT: ∀t,(fun o=>o=Own.tok (.l d)) (.tok t)→bC (.l d) t=true:=fun t ht=>(mU _ _).2 (by cases ht;rfl)
    refine h.zU g.ext hT (fun o ho=>by subst ho;left;first|rfl|(cases k<;>rfl)) g.wf g.heap g.same (fun b hb hcc=>by have:=h.zu b hb;rw[hcc]at this;first|(simp[Own.loc,Tok.loc]at this;done)|(cases k<;>simp[Own.loc,Tok.loc]at this)) _ s.g s.nx (fun d' ob hd=>?_) (fun d' hl=>?_) (fun j ob hj=> .inl ⟨hj,fun hf=>by cases hf⟩)
     (fun j=>(g.live _).trans (h.gl j)) h.gk (g.ng h.ng)
    ·rw[cN]at hd;cases hh:look d' s.b with
     |none=>rw[hh]at hd;simp at hd
     |some z=>rw[hh]at hd;simp at hd;exact .inl ⟨z,rfl,hd.symm,(fun hf=>by cases hf),fun hf=>by first|(cases hf;done)|(cases hf;cases Rv)⟩
    ·obtain⟨ob,ho⟩:=h.lv d' ((g.live _).1 hl);exact⟨_,by rw[cN,ho];rfl⟩
   ·exact hk.elim
theorem Row.of{cs:List AV}{c:Array Value}(h1:c.size=cs.length)(h2: ∀(q:Nat) (a:AV) (y:Value),cs[q]? =some a→c[q]? =some y→Cz E a y):Row E cs c:=⟨h1,h2⟩
theorem LY{a b:List AV}(h:b.length≤a.length):bV a 0 b=b++a.drop b.length:=by simp[bV]
theorem LF(hL:bG P C.L)(hI:C.I=ak)(h:bJ E0 E w0 w s a){o:Oper}{t t':Nat}{x y:Operand}{c:Call}(he:o.op= .call c)(hc:c.callee= .builtin .copy)(cI:c.args= #[x,y])(Uh:c.argTypes= #[t,t']){K:bB}{Q:Exit→Act→World→Prop}
  (hk:Uz C t (cd s [] x) (cd s [] y) s K):mS P o a w (hZ E0 w0 o a K) Q:=by
 unfold Uz at hk;have hx:=h.ev (p:=[]) trivial x
 have hy:=h.ev (p:=[]) trivial y
 have fin: ∀x' w',(Builtin.copy_ #[t,t'] o.type #[a.eval x,a.eval y]).run P w= .ok x' w'→Out E0 w0 a K x' w'→mS P o a w (hZ E0 w0 o a K) Q:=fun x' w' g1 g2=>by
  refine dq (x:=x') (w':=w') ?_ g2;simp only[execOp,he,resolve,hc,invoke,builtin,cI,Uh];simp[Sem.run_bind,invoke,builtin,g1,Result.andThen]
 split at hk
 ·rename_i e ti d n r2 ys ux hxe Ry;obtain⟨hu,Nq,i,i1,i2,i3,zv,i4,i5⟩:=iZ hL ux;have hy':=p9 Ry hy
  rw[hxe]at hx;generalize a.eval x=xv at hx fin;generalize a.eval y=yv at hy' fin
  split at hk
  ·rename_i z xs gC;obtain⟨zs,j,⟨e1,e2,e3,e4,e5⟩,hK⟩:=hk;rw[hI]at e4 e5;obtain⟨hl,jg,ew,hz,hm,cc,ce,hb,ho,hs,ef,nw,hq⟩:=h.bx d _ gC;have hD:=aH hz
   cases hx with
   |jB _ _ hlv hn P9 hmx=>
   rw[jg]at hn P9 hmx fin;dsimp only at hn;have hj:j=((min ys.length n:Nat):Int):=by
    rw[←e4];simp only[ak];split<;>omega
   generalize hmm:min ys.length n=m at hj;have hmy:m≤ys.length:=by omega
   have an0:m≤xs.length:=by omega
   have hzs:zs=ys.take m++xs.drop m:=by rw[←e5,hj];simp[ak]
   obtain⟨B,cy,Ug⟩:=hy'.len;have h2: ∀w,(underlying t).run P w= .ok (.slice e) w:=fa hu
   have h3: ∀w,(Go.sizeOf e).run P w= .ok i.size w:=fun w=>kh i1 w
   have hiz:i.size=z:=by rw[i2,e1]
   have Rx: ∃ns:List Value,ns.length=m*z∧(Builtin.firstCells i.size m yv).run P w= .ok ns.toArray w∧(∀(q:Nat) (a:AV),(ys.take m).flatten[q]? =some a→cH a=true)∧
     (∀(q:Nat) (a:AV) (y:Value),(ys.take m).flatten[q]? =some a→ns[q]? =some y→Cz E a y)∧(∀v∈ns,tT v=true):=by
    by_cases Nj:m=0
    ·refine⟨[],by rw[Nj];simp,?_,fun q a ha=>by rw[Nj]at ha;simp at ha,fun q a y ha=>by rw[Nj]at ha;simp at ha,fun v hv=>by cases hv⟩;rw[Ug,Nj];cases B<;>simp[Builtin.firstCells,loadCells,loadCellsFrom,go_sem]
    ·have hp:0<ys.length:=by omega
     obtain⟨b2,o2,c2,atx,ns,n1,n2,n3,n4⟩:=hy'.cells h.heap hp (z:=z) (fun l hl=>by rw[e3 l hl,e1]);have Ai:=Cw (E:=E) (cs:=ys.flatten) (by rw[n1,aH (z:=z) (fun l hl=>by rw[e3 l hl,e1])]) n4 (zV e2)
     have hmz:m*z≤ys.length*z:=Nat.mul_le_mul_right _ hmy
     have htf: ∀(q:Nat) (a:AV),(ys.take m).flatten[q]? =some a→ys.flatten[q]? =some a:=fun q a ha=>by
      have:ys.flatten=(ys.take m).flatten++(ys.drop m).flatten:=by rw[←List.flatten_append,List.take_append_drop]
      rw[this,gg (bq.1 ha).1];exact ha
     refine⟨ns.take (m*z),by simp;omega,?_,fun q a ha=>n3 q a (htf q a ha),fun q a y ha hy=>n4 q a y (htf q a ha) ?_,fun v hv=>by rw[vH];exact Ai v (List.mem_of_mem_take hv)⟩
     ·rw[atx,hiz];simp only[Builtin.firstCells,loadCells];have:=run_loadCells P w b2 o2 (m*z) 0 #[] (ns.take (m*z)) (by simp;omega) (fun q y hy=>by
       rw[List.getElem?_take]at hy
       split at hy
       ·have:=n2 q y hy;rw[eG,kP]at this;simpa using this
       ·cases hy)
      rw[this];simp
     ·rw[List.getElem?_take]at hy
      split at hy
      ·exact hy
      ·cases hy
   obtain⟨ns,n1,n2,n3,n4,n5⟩:=Rx;have bc:E.m (.s d)<E.h.size:=(Array.getElem?_eq_some_iff.1 hb).1
   have Bq:m*z≤xs.length*z:=Nat.mul_le_mul_right _ an0
   obtain⟨w',g1,g2,g3⟩:=iw P (E.m (.s d)) 0 ce ns 0 w cc (by rw[h.heap];exact hb) (by omega) n5;have hyt: ∀l∈ys.take m,l.length=z:=fun l hl=>by rw[e3 l (List.mem_of_mem_take hl),e1]
   have N4:(ys.take m).flatten.length=m*z:=by rw[aH hyt,List.length_take,Nat.min_eq_left hmy]
   have aef:zs.length=xs.length:=by rw[hzs];simp;omega
   refine fin (.int .i64 j) w' ?_ ⟨_,_,_,hK,h.rR gC (Cb h.wf hl (xs:=xs) (xs':=zs) (vs:=(ys.take m).flatten) (off:=0) (ys:=ns) (by rw[aef];exact jg) ew (by rw[aef];exact hm) ?_ hb ho hs ⟨by rw[ef,hD],hq⟩ nw (yK n3) (by rw[hD,N4];omega) ?_ (by rw[n1,N4]) n4) g2 g3 ho hs,.v _⟩
   ·rw[Ug];unfold Builtin.copy_;simp[Sem.run_bind,h2,h3,Result.andThen,Builtin.lenOf];rw[show ys.length.min n=m from hmm,←Ug,n2];simp[Sem.run_bind,Result.andThen,g1];rw[hj];rfl
   ·intro l hl;rw[hzs]at hl;rcases List.mem_append.1 hl with hl|hl
    ·exact hyt l hl
    ·exact hz l (List.mem_of_mem_drop hl)
   ·rw[LY (by rw[hD,N4];omega),hzs,List.flatten_append,N4];congr 1;have:xs.flatten=(xs.take m).flatten++(xs.drop m).flatten:=by rw[←List.flatten_append,List.take_append_drop]
    have bc:(xs.take m).flatten.length=m*z:=by rw[aH (fun l hl=>hz l (List.mem_of_mem_take hl)),List.length_take,Nat.min_eq_left an0]
    rw[this,←bc];simp
  ·exact hk.elim
 ·exact hk.elim
def cp(w w':World):Prop:= ∀b,b<w.heap.size→w'.heap[b]? =w.heap[b]?
theorem cp.refl(w:World):cp w w:=fun _ _=>rfl
theorem cp.get{b:Nat}{x:Obj}(h:cp w w')(hb:w.heap[b]? =some x):w'.heap[b]? =some x:=by
 rw[h b (Array.getElem?_eq_some_iff.1 hb).1];exact hb
theorem cp.trans{w1 w2 w3:World}(h:cp w1 w2)(k:cp w2 w3):cp w1 w3:=fun b hb=>by
 have h1:w1.heap[b]? =some w1.heap[b]:=Array.getElem?_eq_getElem hb
 rw[h1,k.get (h.get h1)]
structure yn(E:Env)(w:World)(g:Nat→Option Ob)(nx:Nat):Prop where
 heap:w.heap=E.h
 wf:Wf E
 nl: ∀d,¬E.live (.s d)
 gl: ∀i,E.live (.o i)↔i<nx
 own: ∀b,(E.own b).loc=false
 gk:GOk g
 gx: ∀i ob,g i=some ob→cB E (.o i) ob
 ng: ∀b,¬dW (E.own b)
def lR(P:Program)(f:Nat)(args:List AV)(g:Nat→Option Ob)(nx:Nat)(r:AV)(g':Nat→Option Ob)(jf:Nat):Prop:=
 cw args=true→ ∀(E:Env) (w:World) (vs:List Value),yn E w g nx→vs.length=args.length→(∀(q:Nat) (a:AV) (y:Value),args[q]? =some a→vs[q]? =some y→Cz E a y)→
  Calls P f vs.toArray w fun e w'=> ∃x E',e= .returned x∧yn E' w' g' jf∧Ext dW E E'∧jQ w w'∧Cz E' r x∧cH r=true∧cp w w'
structure Tr(E E':Env):Prop where
 h:E'.h=E.h
 aR: ∀b o,E'.aR b o↔E.aR b o
 eo: ∀b,E'.eo b=E.eo b
 live: ∀i,E.live (.o i)→E'.live (.o i)∧E'.m (.o i)=E.m (.o i)∧E'.len (.o i)=E.len (.o i)
 tok: ∀b t,t.loc=false→E.own b= .tok t→E'.own b= .tok t
 key: ∀b i,E.own b= .key (.o i)→E'.own b= .key (.o i)
theorem Tr.cH(k:Tr E E'){av:AV}{x:Value}(h:Cz E av x):cH av=true→Cz E' av x:=by
 induction h with
 |any x=>exact fun _=> .any _
 |v x=>exact fun _=> .v _
 |pd r A c=>exact fun _=> .pd _ _ _
 |sl r xs z b o c u hp hc hm ew hz hr hi gZ hu hq ih=>
  exact fun _=> .sl r xs z b o c u hp hc hm ew hz ((k.eo b).trans hr) hi (fun q a dx=>(k.aR _ _).2 (gZ q a dx)) (fun q a dx=>by rw[k.h];exact hu q a dx) (fun q a dx=>ih q a dx (hi q a dx))
 |vk r t=>exact fun _=> .vk _ _
 |gs r t xs=>intro hi;simp[Ab.cH]at hi
 |aX r cs off b o u hr hi gZ hu hq ih=>
  exact fun _=> .aX r cs off b o u (fun q a dx=>(k.eo b).trans (hr q a dx)) hi (fun q a dx=>(k.aR _ _).2 (gZ q a dx)) (fun q a dx=>by rw[k.h];exact hu q a dx) (fun q a dx=>ih q a dx (hi q a dx))
 |ptr q off hl=>
  intro hi;cases q with
  |s e=>simp[Ab.cH,Key.loc]at hi
  |o i=>obtain⟨h1,h2,_⟩:=k.live i hl;rw[←h2];exact .ptr _ _ h1
 |jB q n hl hn hc hm=>
  intro hi;cases q with
  |s e=>simp[Ab.cH,Key.loc]at hi
  |o i=>obtain⟨h1,h2,h3⟩:=k.live i hl;rw[←h2,←h3];exact .jB _ _ h1 (by rw[h3];exact hn) (by rw[h3];exact hc) (by rw[h3];exact hm)
 |dc q i off z hl=>
  intro hi;cases q with
  |s e=>simp[Ab.cH,Key.loc]at hi
  |o i=>obtain⟨h1,h2,_⟩:=k.live i hl;rw[←h2];exact .dc _ _ _ _ h1
 |mp q hl=>
  intro hi;cases q with
  |s e=>simp[Ab.cH,Key.loc]at hi
  |o i=>obtain⟨h1,h2,_⟩:=k.live i hl;rw[←h2];exact .mp _ h1
 |rQ q hl=>
  intro hi;cases q with
  |s e=>simp[Ab.cH,Key.loc]at hi
  |o i=>obtain⟨h1,h2,_⟩:=k.live i hl;rw[←h2];exact .rQ _ h1
 |ar n z xs ys hn hz hl hi hq ih=>exact fun _=> .ar n z xs ys hn hz hl hi fun q a y ha hy=>ih q a y ha hy (hi q a ha)
 |bm f cs ys hl hi hq ih=>exact fun _=> .bm f cs ys hl hi fun q a y ha hy=>ih q a y ha hy (hi q a ha)
 |nG r z xs x hz h ih=>exact fun _=> .nG r z xs x hz (ih rfl)
 |fn f cap ys hl hq ih=>intro hi;exact .fn f cap ys hl fun q a y ha hy=>ih q a y ha hy (bD (by simpa[Ab.cH]using hi) q a ha)
 |agg cs ys hl hq ih=>intro hi;exact .agg cs ys hl fun q a y ha hy=>ih q a y ha hy (bD (by simpa[Ab.cH]using hi) q a ha)
 |gY cs ys hl hq ih=>intro hi;exact .gY cs ys hl fun q a y ha hy=>ih q a y ha hy (bD (by simpa[Ab.cH]using hi) q a ha)
theorem Tr.gs(k:Tr E E'){r:Nat}{t:Tok}{xs:List (List AV)}{x:Value}(ht:t.loc=false)(h:Cz E (.gs r t xs) x):Cz E' (.gs r t xs) x:=by
 cases h with
 |vk=>exact .vk _ _
 |gs _ _ _ z b c e cells u hc hm h0 ew hz hr hb ef ho gZ hi hu hq=>
  exact .gs r t xs z b c e cells u hc hm h0 ew hz ((k.eo b).trans hr) (by rw[k.h];exact hb) ef (k.tok b t ht ho) (fun o=>(k.aR b o).trans (gZ o)) hi (fun q a dx=>by rw[k.h];exact hu q a dx) (fun q a dx=>k.cH (hq q a dx) (hi q a dx))
theorem Tr.ob(k:Tr E E'){i:Nat}{ob:Ob}(hg:match ob with
   | .box cs=> ∀(q:Nat) (a:AV),cs[q]? =some a→Ab.cH a=true
   | .arr _ _=>True
   | .ow .. =>False
   | .lp .. =>False)(h:cB E (.o i) ob):cB E' (.o i) ob:=by
 cases ob with
 |box cs=>
  obtain⟨hl,c,e,hb,ho,hs,ef,hq⟩:=h;obtain⟨l1,l2,l3⟩:=k.live i hl;refine⟨l1,c,e,by rw[l2,k.h];exact hb,by rw[l2];exact k.key _ i ho,fun o hh=>hs o ((k.aR _ _).1 (by rw[l2]at hh;exact hh)),ef,fun q a x ha hx=>?_⟩;exact k.cH (hq q a x ha hx) (hg q a ha)
 |arr z xs=>
  obtain⟨hl,jg,ew,hz,hm,c,e,hb,ho,hs,ef,hi,hq⟩:=h;obtain⟨l1,l2,l3⟩:=k.live i hl;exact⟨l1,l3.trans jg,ew,hz,hm,c,e,by rw[l2,k.h];exact hb,by rw[l2];exact k.key _ i ho,fun o hh=>hs o ((k.aR _ _).1 (by rw[l2]at hh;exact hh)),ef,hi,fun q a x ha hx=>k.cH (hq q a x ha hx) (hi q a ha)⟩
 |ow=>exact hg.elim
 |lp=>exact hg.elim
def Env.mask(E:Env):Env:=
 {E with live:=fun k=>k.loc=false∧E.live k,own:=fun b=>if(E.own b).loc then .lh else E.own b}
theorem Bg(E:Env):Tr E E.mask:=
 ⟨rfl,fun _ _=>Iff.rfl,fun _=>rfl,fun i h=>⟨⟨rfl,h⟩,rfl,rfl⟩,
  fun b t ht ho=>by simp only[Env.mask];rw[ho];simp[Own.loc,ht],fun b i ho=>by simp only[Env.mask];rw[ho];simp[Own.loc,Key.loc]⟩
theorem bJ.mask(h:bJ E0 E w0 w s a):yn E.mask w s.g s.nx where
 heap:=h.heap
 wf:=⟨h.wf.aR,fun b hb=>h.wf.own b (fun e=>hb (by simp only[Env.mask];rw[e];simp[Own.loc])),h.wf.fz⟩
 nl:=fun d hd=>by have:=hd.1;simp[Key.loc]at this
 gl:=fun i=>⟨fun hh=>(h.gl i).1 hh.2,fun hh=>⟨rfl,(h.gl i).2 hh⟩⟩
 own:=fun b=>by
  simp only[Env.mask]
  split
  ·rfl
  ·rename_i hh;simpa using hh
 gk:=h.gk
 gx:=fun i ob hi=>(Bg E).ob (h.gk i ob hi) (h.gx i ob hi)
 ng:=fun b=>by
  have:=h.ng b
  simp only[Env.mask]
  split
  ·simp[dW,Own.dW]
  ·exact this
def Env.back(E E':Env):Env:=
 {E' with
  m:=fun k=>if k.loc then E.m k else E'.m k
  len:=fun k=>if k.loc then E.len k else E'.len k
  live:=fun k=>if k.loc then E.live k else E'.live k
  own:=fun b=>if b<E.h.size∧(E.own b).loc=true then E.own b else E'.own b}
theorem EZ{g':Nat→Option Ob}{jf:Nat}(hE:Ext dW E.mask E')(hG:yn E' w' g' jf):Tr E' (E.back E'):=by
 have key: ∀b,b<E.h.size→(E.own b).loc=true→E'.own b= .lh:=fun b hb ho=>by
  have:=(hE.bH b hb (by simp only[Env.mask];rw[if_pos ho];simp[dW,Own.dW])).1
  rw[this];simp only[Env.mask];rw[if_pos ho]
 refine⟨rfl,fun _ _=>Iff.rfl,fun _=>rfl,fun i hi=>⟨by simpa[Env.back,Key.loc]using hi,by simp[Env.back,Key.loc],by simp[Env.back,Key.loc]⟩,fun b t ht ho=>?_,fun b i ho=>?_⟩
 ·simp only[Env.back];by_cases hh:b<E.h.size∧(E.own b).loc=true
  ·rw[key b hh.1 hh.2]at ho;cases ho
  ·rw[if_neg hh];exact ho
 ·simp only[Env.back];by_cases hh:b<E.h.size∧(E.own b).loc=true
  ·rw[key b hh.1 hh.2]at ho;cases ho
  ·rw[if_neg hh];exact ho
theorem bJ.call(h:bJ E0 E w0 w s a){g':Nat→Option Ob}{jf:Nat}(hE:Ext dW E.mask E')(hG:yn E' w' g' jf)(hs:jQ w w'):
  bJ E0 (E.back E') w0 w' {s with t:=iv nN s.t,b:=gd nN s.b,g:=g',nx:=jf,up:=nU nN s.up} a:=by
 have N5:=EZ hE hG
 have TC:Ext dW E (E.back E'):=by
  refine⟨hE.size,fun b o hh=>hE.aR b o hh,fun k hk=>?_,fun b hb hn=>?_⟩
  ·cases k with
   |s d=>exact⟨by simpa[Env.back,Key.loc]using hk,by simp[Env.back,Key.loc],by simp[Env.back,Key.loc]⟩
   |o i=>
    obtain⟨k1,k2,k3⟩:=hE.live (.o i) ⟨rfl,hk⟩;exact⟨by simpa[Env.back,Key.loc]using k1,by simp only[Env.back,Key.loc];exact k2,by simp only[Env.back,Key.loc];exact k3⟩
  ·have hm: ¬dW (E.mask.own b):=by
    simp only[Env.mask]
    split
    ·simp[dW,Own.dW]
    ·exact hn
   obtain⟨k1,k2,k3,k4⟩:=hE.bH b hb hm;refine⟨?_,k2,k3,k4⟩;simp only[Env.back];by_cases hh:(E.own b).loc=true
   ·rw[if_pos ⟨hb,hh⟩]
   ·rw[if_neg (fun h2=>hh h2.2),k1];simp only[Env.mask];rw[if_neg hh]
 refine h.zU (T:=nN) TC (fun t ht=>absurd ht (kF t)) (fun o ho=> .inr ho) ⟨hG.wf.aR,fun b hb=>?_,hG.wf.fz⟩ hG.heap hs (fun b hb hg=>?_) _ g' jf (fun d ob hd=>?_) (fun d hl=>?_) (fun i ob hi=> .inr (N5.ob (hG.gk i ob hi) (hG.gx i ob hi))) (fun i=>?_) hG.gk (fun b=>by
  have h1:=h.ng b
  have h2:=hG.ng b
  simp only[Env.back]
  split
  ·exact h1
  ·exact h2)
 ·simp only[Env.back]at hb;by_cases hh:b<E.h.size∧(E.own b).loc=true
  ·exact Nat.lt_of_lt_of_le hh.1 hE.size
  ·rw[if_neg hh]at hb;exact hG.wf.own b hb
 ·have Bt: ¬(E.own b).loc=true:=fun hh=>by have:=h.zu b hb;rw[this]at hh;cases hh
  simp only[Env.back];rw[if_neg (fun h2=>Bt h2.2)];exact hG.own b
 ·rw[cN]at hd;cases hh:look d s.b with
  |none=>rw[hh]at hd;simp at hd
  |some z=>rw[hh]at hd;simp at hd;exact .inl ⟨z,rfl,hd.symm,(fun hf=>by simp[dW,Own.dW,Key.loc]at hf),kF _⟩
 ·have tG:E.live (.s d):=by simpa[Env.back,Key.loc]using hl
  obtain⟨ob,ho⟩:=h.lv d tG;exact⟨_,by rw[cN,ho];rfl⟩
 ·rw[←hG.gl i];simp[Env.back,Key.loc]
theorem JZ{f:Nat}{fn:Func}{c:Code}(hf:P.funcs[f]? =some fn)(hb:fn.body=some c)(hn:fn.name≠ "runtime.NumGoroutine")(args:Array Value)(w:World):(callFunc f args).run P w= .ok (.enter f args) w:=by
 unfold callFunc;simp[Sem.run_bind,program,Sem.run,Result.andThen,hf,hb,hn]
def pO(P:Program)(f:Nat):Prop:= ∀args w,(callFunc f args).run P w= .ok (.enter f args) w
def T3(P:Program)(yl:YH):Prop:=
 ∀{d:Nat} {args:List AV} {s:St} {K:bB} {E0 E:Env} {w0 w:World} {a:Act} {vs:List Value},yl d args s K→bJ E0 E w0 w s a→vs.length=args.length→(∀(q:Nat) (b:AV) (y:Value),args[q]? =some b→vs[q]? =some y→Cz E b y)→
  YieldAt Fence.wide 0 P (E.m (.s d)) vs.toArray w fun e w'=> ∃x,e= .returned x∧ ∃r s' E',K r s'∧bJ E0 E' w0 w' s' a∧Cz E' r x
def D0(P:Program)(C:ey):Prop:=
 ∀yl:YH,T3 P yl→ ∀{k:Nat} {args:List AV} {s:St} {K:bB} {E0 E:Env} {w0 w:World} {a:Act} {vs:List Value},C.inl yl k args s K→bJ E0 E w0 w s a→vs.length=args.length→(∀(q:Nat) (b:AV) (y:Value),args[q]? =some b→vs[q]? =some y→Cz E b y)→
  pO P k∧Calls P k vs.toArray w fun e w'=> ∃x,e= .returned x∧ ∃r s' E',K r s'∧bJ E0 E' w0 w' s' a∧Cz E' r x
def De(P:Program)(C:ey):Prop:= ∀ρ f args g nx r g' jf,C.call ρ f args g nx r g' jf→pO P f∧lR P f args g nx r g' jf
 mutual
def tY:AV→Nat
  | .sl r xs=>max r (ss xs)
  | .gs r _ xs=>max r (ss xs)
  | .aX r cs _=>max r (qe cs)
  | .ar _ _ xs=>ss xs
  | .fn _ cs=>qe cs
  | .bm _ cs=>qe cs
  | .nG r _ xs=>max r (ss xs)
  | .agg cs=>qe cs
  | .gY cs=>qe cs
  |_=>0
def qe:List AV→Nat
  |[]=>0
  |a::r=>max (tY a) (qe r)
def ss:List (List AV)→Nat
  |[]=>0
  |l::r=>max (qe l) (ss r)
end
theorem nq: ∀{cs:List AV} {q:Nat} {a:AV},cs[q]? =some a→tY a≤qe cs
 |[],q,a,h=>by simp at h
 |x::r,q,a,h=>by
  simp only[qe];cases q with
  |zero=>simp at h;subst h;omega
  |succ q=>have:=nq (cs:=r) (q:=q) (a:=a) (by simpa using h);omega
theorem sr: ∀{xs:List (List AV)} {q:Nat} {a:AV},xs.flatten[q]? =some a→tY a≤ss xs
 |[],q,a,h=>by simp at h
 |l::r,q,a,h=>by
  simp only[ss];rw[List.flatten_cons]at h;by_cases bc:q<l.length
  ·rw[gg bc]at h;have:=nq h;omega
  ·rw[iY (by omega)]at h;have:=sr h;omega
theorem IH: ∀l m:List AV,qe (l++m)=max (qe l) (qe m)
 |[],m=>by simp[qe]
 |a::r,m=>by simp only[List.cons_append,qe,IH r m];omega
theorem Gg: ∀xs:List (List AV),qe xs.flatten≤ss xs
 |[]=>by simp[qe,ss]
 |l::r=>by simp only[List.flatten_cons,IH,ss];have:=Gg r;omega
def MS:Ob→Nat
 | .box cs=>qe cs
 | .arr _ xs=>ss xs
 | .ow .. =>0
 | .lp .. =>0
structure TrG(ρ:Nat)(E E':Env):Prop where
 h:E'.h=E.h
 st: ∀b o,E.aR b o→E.eo b<ρ→E'.aR b o∧E'.eo b=E.eo b
 live: ∀i,E.live (.o i)→E'.live (.o i)∧E'.m (.o i)=E.m (.o i)∧E'.len (.o i)=E.len (.o i)
 tok: ∀b t,t.loc=false→E.own b= .tok t→E.eo b<ρ→E'.own b= .tok t∧E'.eo b=E.eo b∧ ∀o,E'.aR b o→E.aR b o
 key: ∀b i,E.own b= .key (.o i)→E'.own b= .key (.o i)∧ ∀o,E'.aR b o→E.aR b o
theorem TrG.cH{ρ:Nat}(k:TrG ρ E E'){av:AV}{x:Value}(h:Cz E av x):cH av=true→tY av<ρ→Cz E' av x:=by
 induction h with
 |any x=>exact fun _ _=> .any _
 |v x=>exact fun _ _=> .v _
 |pd r A c=>exact fun _ _=> .pd _ _ _
 |sl r xs z b o c u hp hc hm ew hz hr hi gZ hu hq ih=>
  intro _ Gw;simp only[tY]at Gw;have hf:=aH hz
  obtain⟨a0,XK⟩:=sn (l:=xs.flatten) (by rw[hf];exact Nat.mul_pos hp ew);have hrg:E.eo b<ρ:=by rw[hr];omega
  exact .sl r xs z b o c u hp hc hm ew hz ((k.st _ _ (gZ 0 a0 XK) hrg).2.trans hr) hi (fun q a dx=>(k.st _ _ (gZ q a dx) hrg).1) (fun q a dx=>by rw[k.h];exact hu q a dx) (fun q a dx=>ih q a dx (hi q a dx) (by have:=sr dx;omega))
 |vk r t=>exact fun _ _=> .vk _ _
 |gs r t xs=>intro hi;simp[Ab.cH]at hi
 |aX r cs off b o u hr hi gZ hu hq ih=>
  intro _ Gw;simp only[tY]at Gw;exact .aX r cs off b o u (fun q a dx=>(k.st _ _ (gZ q a dx) (by rw[hr q a dx];omega)).2.trans (hr q a dx)) hi (fun q a dx=>(k.st _ _ (gZ q a dx) (by rw[hr q a dx];omega)).1) (fun q a dx=>by rw[k.h];exact hu q a dx) (fun q a dx=>ih q a dx (hi q a dx) (by have:=nq dx;omega))
 |ptr q off hl=>
  intro hi;cases q with
  |s e=>simp[Ab.cH,Key.loc]at hi
  |o i=>obtain⟨h1,h2,_⟩:=k.live i hl;rw[←h2];exact fun _=> .ptr _ _ h1
 |jB q n hl hn hc hm=>
  intro hi;cases q with
  |s e=>simp[Ab.cH,Key.loc]at hi
  |o i=>obtain⟨h1,h2,h3⟩:=k.live i hl;rw[←h2,←h3];exact fun _=> .jB _ _ h1 (by rw[h3];exact hn) (by rw[h3];exact hc) (by rw[h3];exact hm)
 |dc q i off z hl=>
  intro hi;cases q with
  |s e=>simp[Ab.cH,Key.loc]at hi
  |o i=>obtain⟨h1,h2,_⟩:=k.live i hl;rw[←h2];exact fun _=> .dc _ _ _ _ h1
 |mp q hl=>
  intro hi;cases q with
  |s e=>simp[Ab.cH,Key.loc]at hi
  |o i=>obtain⟨h1,h2,_⟩:=k.live i hl;rw[←h2];exact fun _=> .mp _ h1
 |rQ q hl=>
  intro hi;cases q with
  |s e=>simp[Ab.cH,Key.loc]at hi
  |o i=>obtain⟨h1,h2,_⟩:=k.live i hl;rw[←h2];exact fun _=> .rQ _ h1
 |ar n z xs ys hn hz hl hi hq ih=>intro _ Gw;simp only[tY]at Gw;exact .ar n z xs ys hn hz hl hi fun q a y ha hy=>ih q a y ha hy (hi q a ha) (by have:=sr ha;omega)
 |bm f cs ys hl hi hq ih=>intro _ Gw;simp only[tY]at Gw;exact .bm f cs ys hl hi fun q a y ha hy=>ih q a y ha hy (hi q a ha) (by have:=nq ha;omega)
 |nG r z xs x hz h ih=>
  intro _ Gw;simp only[tY]at Gw;exact .nG r z xs x hz (ih rfl (by simp only[tY];have:=Gg xs;omega))
 |fn f cap ys hl hq ih=>intro hi Gw;simp only[tY]at Gw;exact .fn f cap ys hl fun q a y ha hy=>ih q a y ha hy (bD (by simpa[Ab.cH]using hi) q a ha) (by have:=nq ha;omega)
 |agg cs ys hl hq ih=>intro hi Gw;simp only[tY]at Gw;exact .agg cs ys hl fun q a y ha hy=>ih q a y ha hy (bD (by simpa[Ab.cH]using hi) q a ha) (by have:=nq ha;omega)
 |gY cs ys hl hq ih=>intro hi Gw;simp only[tY]at Gw;exact .gY cs ys hl fun q a y ha hy=>ih q a y ha hy (bD (by simpa[Ab.cH]using hi) q a ha) (by have:=nq ha;omega)
theorem TrG.gs{ρ:Nat}(k:TrG ρ E E'){r:Nat}{t:Tok}{xs:List (List AV)}{x:Value}(ht:t.loc=false)(h:Cz E (.gs r t xs) x)(Gw:tY (.gs r t xs)<ρ):Cz E' (.gs r t xs) x:=by
 simp only[tY]at Gw;cases h with
 |vk=>exact .vk _ _
 |gs _ _ _ z b c e cells u hc hm h0 ew hz hr hb ef ho gZ hi hu hq=>
  have hrg:E.eo b<ρ:=by rw[hr];omega
  obtain⟨k1,k2,k3⟩:=k.tok b t ht ho hrg;exact .gs r t xs z b c e cells u hc hm h0 ew hz (k2.trans hr) (by rw[k.h];exact hb) ef k1 (fun o=>⟨fun hh=>(gZ o).1 (k3 o hh),fun hh=>(k.st b o ((gZ o).2 hh) hrg).1⟩) hi (fun q a dx=>by rw[k.h];exact hu q a dx) (fun q a dx=>k.cH (hq q a dx) (hi q a dx) (by have:=sr dx;omega))
theorem TrG.ob{ρ:Nat}(k:TrG ρ E E'){i:Nat}{ob:Ob}(hg:match ob with
   | .box cs=> ∀(q:Nat) (a:AV),cs[q]? =some a→Ab.cH a=true
   | .arr _ _=>True
   | .ow .. =>False
   | .lp .. =>False)(h:cB E (.o i) ob)(Gw:MS ob<ρ):cB E' (.o i) ob:=by
 cases ob with
 |box cs=>
  obtain⟨hl,c,e,hb,ho,hs,ef,hq⟩:=h;obtain⟨l1,l2,l3⟩:=k.live i hl;obtain⟨k1,k2⟩:=k.key _ i ho;simp only[MS]at Gw;refine⟨l1,c,e,by rw[l2,k.h];exact hb,by rw[l2];exact k1,fun o hh=>hs o (k2 o (by rw[l2]at hh;exact hh)),ef,fun q a x ha hx=>?_⟩;have:=nq ha
  exact k.cH (hq q a x ha hx) (hg q a ha) (by omega)
 |arr z xs=>
  obtain⟨hl,jg,ew,hz,hm,c,e,hb,ho,hs,ef,hi,hq⟩:=h;obtain⟨l1,l2,l3⟩:=k.live i hl;obtain⟨k1,k2⟩:=k.key _ i ho;simp only[MS]at Gw;exact⟨l1,l3.trans jg,ew,hz,hm,c,e,by rw[l2,k.h];exact hb,by rw[l2];exact k1,fun o hh=>hs o (k2 o (by rw[l2]at hh;exact hh)),ef,hi,fun q a x ha hx=>k.cH (hq q a x ha hx) (hi q a ha) (by have:=sr ha;omega)⟩
 |ow=>exact hg.elim
 |lp=>exact hg.elim
def gM(E:Env)(s:St)(b:Nat):Prop:= ∃d ob,look d s.b=some ob∧b=E.m (.s d)∧ ∃c e,E.h[b]? =some (.cells c e (0,0))
open Classical in
noncomputable def Env.nL(E:Env)(B:Nat→Prop)(ρ:Nat):Env:=
 {E.mask with aR:=fun b o=>E.aR b o∨(B b∧b<E.h.size),eo:=fun b=>if B b then ρ else E.eo b}
open Classical in
noncomputable def Env.pq(E E':Env)(B:Nat→Prop):Env:=
 {E.back E' with aR:=fun b o=>E'.aR b o∧ ¬B b,eo:=fun b=>if B b then E.eo b else E'.eo b}
theorem mr(h:bJ E0 E w0 w s a){b:Nat}(hb:gM E s b):b<E.h.size∧(∃d,E.own b= .key (.s d))∧ ∀o,¬E.aR b o:=by
 obtain⟨d,ob,hd,rfl,_⟩:=hb;have h1:=h.bx d ob hd
 cases ob with
 |box cs=>obtain⟨hl,c,e,fP,ho,hs,_⟩:=h1;exact⟨(Array.getElem?_eq_some_iff.1 fP).1,⟨d,ho⟩,hs⟩
 |arr z xs=>obtain⟨hl,_,_,_,_,c,e,fP,ho,hs,_⟩:=h1;exact⟨(Array.getElem?_eq_some_iff.1 fP).1,⟨d,ho⟩,hs⟩
 |ow=>obtain⟨hl,ho,hs,_⟩:=h1;exact⟨h.wf.own _ (by rw[ho];simp),⟨d,ho⟩,hs⟩
 |lp=>obtain⟨hl,ho,hs,rec,fP,_⟩:=h1;exact⟨(Array.getElem?_eq_some_iff.1 fP).1,⟨d,ho⟩,hs⟩
theorem Bl(h:bJ E0 E w0 w s a)(ρ ρ':Nat):TrG ρ' E (E.nL (gM E s) ρ) where
 h:=rfl
 st:=fun b o hs _=>⟨.inl hs,by
  simp only[Env.nL];rw[if_neg fun hB=>(mr h hB).2.2 o hs]⟩
 live:=fun i hi=>⟨⟨rfl,hi⟩,rfl,rfl⟩
 tok:=fun b t ht ho _=>by
  have Zc: ¬gM E s b:=fun hB=>by obtain⟨d,hd⟩:=(mr h hB).2.1;rw[hd]at ho;cases ho
  refine⟨by simp only[Env.nL,Env.mask];rw[ho];simp[Own.loc,ht],by simp only[Env.nL];rw[if_neg Zc],fun o hh=>?_⟩;rcases hh with hh|hh
  ·exact hh
  ·exact absurd hh.1 Zc
 key:=fun b i ho=>by
  have Zc: ¬gM E s b:=fun hB=>by obtain⟨d,hd⟩:=(mr h hB).2.1;rw[hd]at ho;cases ho
  refine⟨by simp only[Env.nL,Env.mask];rw[ho];simp[Own.loc,Key.loc],fun o hh=>?_⟩;rcases hh with hh|hh
  ·exact hh
  ·exact absurd hh.1 Zc
theorem bJ.nL(h:bJ E0 E w0 w s a)(ρ:Nat):yn (E.nL (gM E s) ρ) w s.g s.nx where
 heap:=h.heap
 wf:=⟨fun b o hs=>hs.elim (h.wf.aR b o) fun hs=>hs.2,h.mask.wf.own,fun b o hs hr=>by
  rcases hs with hs|hs
  ·have Zc: ¬gM E s b:=fun hB=>(mr h hB).2.2 o hs
   simp only[Env.nL]at hr;rw[if_neg Zc]at hr;exact h.wf.fz b o hs hr
  ·obtain⟨⟨d,ob,_,_,hc⟩,_⟩:=hs;exact hc⟩
 nl:=h.mask.nl
 gl:=h.mask.gl
 own:=h.mask.own
 gk:=h.gk
 ng:=h.mask.ng
 gx:=fun i ob hi=>(Bl h ρ (MS ob+1)).ob (h.gk i ob hi) (h.gx i ob hi) (Nat.lt_succ_self _)
theorem QU(h:bJ E0 E w0 w s a){ρ:Nat}{g':Nat→Option Ob}{jf:Nat}(hE:Ext dW (E.nL (gM E s) ρ) E')(hG:yn E' w' g' jf):TrG ρ E' (E.pq E' (gM E s)):=by
 have key: ∀b,b<E.h.size→(E.own b).loc=true→E'.own b= .lh∧E'.eo b=(E.nL (gM E s) ρ).eo b:=fun b hb ho=>by
  have hm:(E.nL (gM E s) ρ).own b= .lh:=by simp only[Env.nL,Env.mask];rw[if_pos ho]
  have:=hE.bH b hb (by rw[hm];simp[dW,Own.dW])
  exact⟨this.1.trans hm,this.2.2.2⟩
 have rh: ∀b,gM E s b→E'.own b= .lh∧E'.eo b=ρ:=fun b hB=>by
  obtain⟨h1,⟨d,h2⟩,_⟩:=mr h hB;obtain⟨h3,h4⟩:=key b h1 (by rw[h2];rfl);exact⟨h3,h4.trans (by simp only[Env.nL];rw[if_pos hB])⟩
 have HL: ∀b,E'.eo b<ρ→ ¬gM E s b:=fun b hr hB=>by rw[(rh b hB).2]at hr;omega
 refine⟨rfl,fun b o hs hr=>⟨⟨hs,HL b hr⟩,by simp only[Env.pq];rw[if_neg (HL b hr)]⟩,fun i hi=>⟨by simpa[Env.pq,Env.back,Key.loc]using hi,by simp[Env.pq,Env.back,Key.loc],by simp[Env.pq,Env.back,Key.loc]⟩,fun b t ht ho hr=>⟨?_,by simp only[Env.pq];rw[if_neg (HL b hr)],fun o hh=>hh.1⟩,fun b i ho=>⟨?_,fun o hh=>hh.1⟩⟩
 ·simp only[Env.pq,Env.back];by_cases hh:b<E.h.size∧(E.own b).loc=true
  ·rw[(key b hh.1 hh.2).1]at ho;cases ho
  ·rw[if_neg hh];exact ho
 ·simp only[Env.pq,Env.back];by_cases hh:b<E.h.size∧(E.own b).loc=true
  ·rw[(key b hh.1 hh.2).1]at ho;cases ho
  ·rw[if_neg hh];exact ho
theorem bJ.pq(h:bJ E0 E w0 w s a){ρ:Nat}{g':Nat→Option Ob}{jf:Nat}(hE:Ext dW (E.nL (gM E s) ρ) E')(hG:yn E' w' g' jf)(hs:jQ w w')(hρ: ∀i ob,g' i=some ob→MS ob<ρ):
  bJ E0 (E.pq E' (gM E s)) w0 w' {s with t:=iv nN s.t,b:=gd nN s.b,g:=g',nx:=jf,up:=nU nN s.up} a:=by
 have N5:=QU h hE hG
 have TC:Ext dW E (E.pq E' (gM E s)):=by
  refine⟨hE.size,fun b o hh=>?_,fun k hk=>?_,fun b hb hn=>?_⟩
  ·have Zc: ¬gM E s b:=fun hB=>(mr h hB).2.2 o hh
   obtain⟨k1,k2,k3⟩:=hE.aR b o (.inl hh);refine⟨⟨k1,Zc⟩,k2,?_⟩;simp only[Env.pq];rw[if_neg Zc];exact k3.trans (by simp only[Env.nL];rw[if_neg Zc])
  ·cases k with
   |s d=>exact⟨by simpa[Env.pq,Env.back,Key.loc]using hk,by simp[Env.pq,Env.back,Key.loc],by simp[Env.pq,Env.back,Key.loc]⟩
   |o i=>
    obtain⟨k1,k2,k3⟩:=hE.live (.o i) ⟨rfl,hk⟩;exact⟨by simpa[Env.pq,Env.back,Key.loc]using k1,by simp only[Env.pq,Env.back,Key.loc];exact k2,by simp only[Env.pq,Env.back,Key.loc];exact k3⟩
  ·have hm: ¬dW ((E.nL (gM E s) ρ).own b):=by
    simp only[Env.nL,Env.mask]
    split
    ·simp[dW,Own.dW]
    ·exact hn
   obtain⟨k1,k2,k3,k4⟩:=hE.bH b hb hm;refine⟨?_,k2,fun o=>?_,?_⟩
   ·simp only[Env.pq,Env.back];by_cases hh:(E.own b).loc=true
    ·rw[if_pos ⟨hb,hh⟩]
    ·rw[if_neg (fun h2=>hh h2.2),k1];simp only[Env.nL,Env.mask];rw[if_neg hh]
   ·by_cases hB:gM E s b
    ·exact⟨fun hh=>absurd hB hh.2,fun hh=>absurd hh ((mr h hB).2.2 o)⟩
    ·refine⟨fun hh=>?_,fun hh=>⟨(k3 o).2 (.inl hh),hB⟩⟩;rcases(k3 o).1 hh.1 with h2|h2
     ·exact h2
     ·exact absurd h2.1 hB
   ·simp only[Env.pq];by_cases hB:gM E s b
    ·rw[if_pos hB]
    ·rw[if_neg hB];exact k4.trans (by simp only[Env.nL];rw[if_neg hB])
 refine h.zU (T:=nN) TC (fun t ht=>absurd ht (kF t)) (fun o ho=> .inr ho) ⟨fun b o hh=>hG.wf.aR b o hh.1,fun b hb=>?_,fun b o hh hr=>hG.wf.fz b o hh.1 (by simp only[Env.pq]at hr;rwa [if_neg hh.2]at hr)⟩ hG.heap hs (fun b hb hg=>?_) _ g' jf (fun d ob hd=>?_) (fun d hl=>?_) (fun i ob hi=> .inr (N5.ob (hG.gk i ob hi) (hG.gx i ob hi) (hρ i ob hi))) (fun i=>?_) hG.gk (fun b=>by
  have h1:=h.ng b
  have h2:=hG.ng b
  simp only[Env.pq,Env.back]
  split
  ·exact h1
  ·exact h2)
 ·simp only[Env.pq,Env.back]at hb;by_cases hh:b<E.h.size∧(E.own b).loc=true
  ·exact Nat.lt_of_lt_of_le hh.1 hE.size
  ·rw[if_neg hh]at hb;exact hG.wf.own b hb
 ·have Bt: ¬(E.own b).loc=true:=fun hh=>by have:=h.zu b hb;rw[this]at hh;cases hh
  simp only[Env.pq,Env.back];rw[if_neg (fun h2=>Bt h2.2)];exact hG.own b
 ·rw[cN]at hd;cases hh:look d s.b with
  |none=>rw[hh]at hd;simp at hd
  |some z=>rw[hh]at hd;simp at hd;exact .inl ⟨z,rfl,hd.symm,(fun hf=>by simp[dW,Own.dW,Key.loc]at hf),kF _⟩
 ·have tG:E.live (.s d):=by simpa[Env.pq,Env.back,Key.loc]using hl
  obtain⟨ob,ho⟩:=h.lv d tG;exact⟨_,by rw[cN,ho];rfl⟩
 ·rw[←hG.gl i];simp[Env.pq,Env.back,Key.loc]
theorem RT{g':Nat→Option Ob}: ∀n:Nat,∃N,∀i ob,i<n→g' i=some ob→MS ob<N
 |0=>⟨0,fun i ob hi=>by omega⟩
 |n+1=>by
  obtain⟨N,hN⟩:=RT (g':=g') n;cases hg:g' n with
  |none=>exact⟨N,fun i ob hi Nm=>by
    by_cases h:i=n
    ·subst h;rw[hg]at Nm;cases Nm
    ·exact hN i ob (by omega) Nm⟩
  |some o=>exact⟨N+MS o+1,fun i ob hi Nm=>by
    by_cases h:i=n
    ·subst h;rw[hg]at Nm;cases Nm;omega
    ·have:=hN i ob (by omega) Nm;omega⟩
theorem JN(h:bJ E0 E w0 w s a)(ρ:Nat){av:AV}{x:Value}(hx:Cz E av x)(hi:Ab.cH (snap ρ s.b av)=true):Cz (E.nL (gM E s) ρ) (snap ρ s.b av) x:=by
 have plain: ∀{av:AV},Ab.cH av=true→Cz E av x→Cz (E.nL (gM E s) ρ) av x:=fun{av} hi hx=>(Bl h ρ (tY av+1)).cH hx hi (Nat.lt_succ_self _)
 unfold snap at hi ⊢
 split at hi
 ·rename_i d n;cases hl:look d s.b with
  |none=>rw[hl]at hi;simp[Ab.cH,Key.loc]at hi
  |some ob=>cases ob with
   |box cs=>rw[hl]at hi;simp[Ab.cH,Key.loc]at hi
   |ow=>rw[hl]at hi;simp[Ab.cH,Key.loc]at hi
   |lp=>rw[hl]at hi;simp[Ab.cH,Key.loc]at hi
   |arr z xs=>
    obtain⟨_,jg,ew,hz,hm,c,e,fP,ho,hs,ef,nw,hq⟩:=h.bx d _ hl;cases hx;rename_i hlv hn1 hn2 hn3;rw[jg]at hn1 hn2 hn3;dsimp only at hn1 hn2 hn3;rw[jg];dsimp only;have rh:gM E s (E.m (.s d)):=⟨d,_,hl,rfl,c,e,fP⟩
    have hbs:=(mr h rh).1
    have Bt:(xs.take n).length=n:=by rw[List.length_take];omega
    by_cases hn0:n=0
    ·subst hn0;exact .pd _ _ _
    ·have RB: ∀(q:Nat) (b:AV),(xs.take n).flatten[q]? =some b→xs.flatten[q]? =some b:=fun q b sO=>by
      have:=List.take_append_drop n xs
      rw[←this,List.flatten_append,gg (bq.1 sO).1];exact sO
     have ve: ∀(q:Nat) (b:AV),xs.flatten[q]? =some b→ ∃y,c[q]? =some y∧Cz E b y:=fun q b sO=>by
      have bc:q<c.size:=by rw[ef,←aH hz];exact(bq.1 sO).1
      exact⟨c[q],by simp[bc],hq q b _ sO (by simp[bc])⟩
     have:=Cz.sl (E:=E.nL (gM E s) ρ) ρ (xs.take n) z (E.m (.s d)) 0 xs.length (fun q=>c.getD q undef) (by rw[Bt];omega) (by rw[Bt];omega) hm ew (fun l tG=>hz l (List.mem_of_mem_take tG)) (by simp only[Env.nL];rw[if_pos rh])
      (fun q b sO=>nw q b (RB q b sO)) (fun q b sO=> .inr ⟨rh,hbs⟩) (fun q b sO=>by
       obtain⟨y,h1,h2⟩:=ve q b (RB q b sO);show aW E.h _ _=_;simp only[aW,fP,Nat.zero_add];simp[Array.getD_eq_getD_getElem?,h1])
      (fun q b sO=>by
       obtain⟨y,h1,h2⟩:=ve q b (RB q b sO);have e:c.getD q undef=y:=by simp[Array.getD_eq_getD_getElem?,h1]
       rw[e];exact(Bl h ρ (tY b+1)).cH h2 (nw q b (RB q b sO)) (Nat.lt_succ_self _))
     rw[Bt]at this;exact this
 ·rename_i d off;cases hl:look d s.b with
  |none=>rw[hl]at hi;simp[Ab.cH,Key.loc]at hi
  |some ob=>cases ob with
   |arr z xs=>
    rw[hl]at hi;dsimp only at hi ⊢;cases hof:dy off 0 with
    |false=>rw[hof]at hi;simp[Ab.cH,Key.loc]at hi
    |true=>
    rw[az];have:=dK hof
    subst this;obtain⟨_,jg,ew,hz,hm,c,e,fP,ho,hs,ef,nw,hq⟩:=h.bx d _ hl;cases hx;rename_i Gx;have rh:gM E s (E.m (.s d)):=⟨d,_,hl,rfl,c,e,fP⟩
    have hbs:=(mr h rh).1
    have ve: ∀(q:Nat) (b:AV),xs.flatten[q]? =some b→ ∃y,c[q]? =some y∧Cz E b y:=fun q b sO=>by
     have bc:q<c.size:=by rw[ef,←aH hz];exact(bq.1 sO).1
     exact⟨c[q],by simp[bc],hq q b _ sO (by simp[bc])⟩
    refine .nG ρ z xs _ hz (Cz.aX (E:=E.nL (gM E s) ρ) ρ xs.flatten 0 (E.m (.s d)) 0 (fun q=>c.getD q undef) (fun q b sO=>by simp only[Env.nL];rw[if_pos rh]) (fun q b sO=>nw q b sO) (fun q b sO=> .inr ⟨rh,hbs⟩) (fun q b sO=>?_) (fun q b sO=>?_))
    ·obtain⟨y,h1,h2⟩:=ve q b sO;show aW E.h _ _=_;simp only[aW,fP,Nat.zero_add];simp[Array.getD_eq_getD_getElem?,h1]
    ·obtain⟨y,h1,h2⟩:=ve q b sO;have e:c.getD q undef=y:=by simp[Array.getD_eq_getD_getElem?,h1]
     rw[e];exact(Bl h ρ (tY b+1)).cH h2 (nw q b sO) (Nat.lt_succ_self _)
   |ow=>rw[hl]at hi;simp[Ab.cH,Key.loc]at hi
   |lp=>rw[hl]at hi;simp[Ab.cH,Key.loc]at hi
   |box cs=>
    rw[hl]at hi;dsimp only at hi ⊢;cases hic:cw (mP (fun _=>true) cs)with
    |false=>rw[hic]at hi;simp[Ab.cH,Key.loc]at hi
    |true=>
     rw[az];obtain⟨_,c,e,fP,ho,hs,ef,hq⟩:=h.bx d _ hl;cases hx;rename_i Gx;have rh:gM E s (E.m (.s d)):=⟨d,_,hl,rfl,c,e,fP⟩
     have hbs:=(mr h rh).1
     have ve: ∀(q:Nat) (b:AV),(mP (fun _=>true) cs)[q]? =some b→ ∃y,c[q]? =some y∧Cz E b y:=fun q b sO=>by
      have bc:q<c.size:=by rw[ef,←dR (fun _=>true) cs];exact(bq.1 sO).1
      rw[rZ]at sO;cases hcq:cs[q]? with
      |none=>rw[hcq]at sO;cases sO
      |some b0=>rw[hcq]at sO;cases sO;exact⟨c[q],by simp[bc],(hq q b0 _ hcq (by simp[bc])).giveUp h.wf _⟩
     have:=Cz.aX (E:=E.nL (gM E s) ρ) ρ (mP (fun _=>true) cs) off (E.m (.s d)) 0 (fun q=>c.getD q undef) (fun q b _=>by simp only[Env.nL];rw[if_pos rh])
      (fun q b sO=>bD hic q b sO) (fun q b sO=> .inr ⟨rh,hbs⟩) (fun q b sO=>by
       obtain⟨y,h1,h2⟩:=ve q b sO;show aW E.h _ _=_;simp only[aW,fP,Nat.zero_add];simp[Array.getD_eq_getD_getElem?,h1])
      (fun q b sO=>by
       obtain⟨y,h1,h2⟩:=ve q b sO;have e:c.getD q undef=y:=by simp[Array.getD_eq_getD_getElem?,h1]
       rw[e];exact(Bl h ρ (tY b+1)).cH h2 (bD hic q b sO) (Nat.lt_succ_self _))
     rw[Nat.zero_add]at this;exact this
 ·exact plain hi hx
theorem U4(h:bJ E0 E w0 w s a)(ρ:Nat){av:AV}{x:Value}(hx:Cz E av x)(hi:Ab.cH (AN ρ s.b av)=true):Cz (E.nL (gM E s) ρ) (AN ρ s.b av) x:=by
 unfold AN at hi ⊢
 split at hi
 ·rename_i f cs;cases hx with
  |fn _ _ ys hl hq=>
   refine .fn f _ ys (by simp[hl]) fun q b y hb hy=>?_;have hbi:=bD (by simpa[cH]using hi) q b hb
   rw[List.getElem?_map]at hb;cases hc:cs[q]? with
   |none=>rw[hc]at hb;cases hb
   |some b0=>rw[hc]at hb;cases hb;exact JN h ρ (hq q b0 y hc hy) hbi
 ·rename_i cs;cases hx with
  |agg _ ys hl hq=>
   refine .agg _ ys (by simp[hl]) fun q b y hb hy=>?_;have hbi:=bD (by simpa[cH]using hi) q b hb
   rw[List.getElem?_map]at hb;cases hc:cs[q]? with
   |none=>rw[hc]at hb;cases hb
   |some b0=>rw[hc]at hb;cases hb;exact JN h ρ (hq q b0 y hc hy) hbi
 ·exact JN h ρ hx hi
def nD(cl:Nat→Bool):Op→Bool
 | .call c=>match c.callee with
  | .value (.func k)=>cl k
  |_=>false
 |_=>false
theorem yy(jY: ∀k,C.cl k=true→C.uU k=false)(hC:De P C)(auF:D0 P C)(hYl:T3 P C.yl)(h:bJ E0 E w0 w s a)(hp:bp s p){o:Oper}{c:Call}{f:Operand}(he:o.op= .call c)(hc:c.callee= .value f){K:bB}{Q:Exit→Act→World→Prop}
  (hk:wFn C p (cd s p f) (c.args.toList.map fun x=>rd (cd s p x)) s K):mS P o a w (fun a' w'=>hZ E0 w0 o a K a' w'∧(nD C.cl o.op=true→cp w w')) Q:=by
 unfold wFn at hk;have hfv:=h.ev hp f
 have E7: ∀{cap:List AV} {ys:List Value},ys.length=cap.length→(∀(q:Nat) (a:AV) (y:Value),cap[q]? =some a→ys[q]? =some y→Cz E a y)→
   ((c.args.toList.map a.eval)++ys).length=((c.args.toList.map fun x=>rd (cd s p x))++cap).length∧ ∀(q:Nat) (b:AV) (y:Value),((c.args.toList.map fun x=>rd (cd s p x))++cap)[q]? =some b→((c.args.toList.map a.eval)++ys)[q]? =some y→Cz E b y:=by
  intro cap ys hl hq;refine⟨by simp[hl],fun q b y h1 h2=>?_⟩;by_cases bc:q<(c.args.toList.map a.eval).length
  ·rw[gg bc]at h2;rw[gg (by simpa using bc)]at h1;exact EK h hp _ c.args.toList q b y h1 h2
  ·rw[iY (by omega)]at h2;rw[iY (by simp at bc ⊢;omega)]at h1;simp only[List.length_map]at h1 h2;exact hq _ b y h1 h2
 have YA: ∀{cap:List AV} {ys:List Value},ys.length=cap.length→(∀(q:Nat) (a:AV) (y:Value),cap[q]? =some a→ys[q]? =some y→Cz E a y)→cw ((c.args.toList.map fun x=>rd (cd s p x))++cap)=true→
   ((c.args.toList.map a.eval)++ys).length=((c.args.toList.map fun x=>rd (cd s p x))++cap).length∧ ∀(q:Nat) (b:AV) (y:Value),((c.args.toList.map fun x=>rd (cd s p x))++cap)[q]? =some b→((c.args.toList.map a.eval)++ys)[q]? =some y→Cz E.mask b y:=by
  intro cap ys hl hq hi;obtain⟨h1,h2⟩:=E7 hl hq;exact⟨h1,fun q b y h3 h4=>(Bg E).cH (h2 q b y h3 h4) (bD hi q b h3)⟩
 split at hk
 ·rename_i k cap er;rw[er]at hfv;cases hfe:a.eval f<;>rw[hfe]at hfv<;>cases hfv;rename_i ys hl hq;have hwp: ∀{R:Ending→World→Prop},pO P k→Calls P k ((c.args.toList.map a.eval)++ys).toArray w R→(∀e w',R e w'→ ∃x,e= .returned x∧hZ E0 w0 o a K (a.put o.dst x) w'∧(nD C.cl o.op=true→cp w w'))→mS P o a w (fun a' w'=>hZ E0 w0 o a K a' w'∧(nD C.cl o.op=true→cp w w')) Q:=by
   intro R xV CK hR;unfold mS;have eY:(execOp a.eval o).run P w= .ok (.enter k ((c.args.toList.map a.eval)++ys).toArray) w:=by
    have e1:((c.args.toList.map a.eval)++ys).toArray=c.args.map a.eval++ys.toArray:=Array.toList_inj.1 (by simp)
    rw[e1];simp only[execOp,he,resolve,hc,hfe];simp[Deferred.ofValue,Sem.run_bind,invoke,Result.andThen,xV _ w]
   rw[eY];exact CK.mono fun e w' hr=>hR e w' hr
  have aex: ∀{r:AV} {g':Nat→Option Ob} {jf:Nat},ys.length=cap.length→(∀(q:Nat) (a:AV) (y:Value),cap[q]? =some a→ys[q]? =some y→Cz E a y)→(∀ρ,cw (((c.args.toList.map fun x=>rd (cd s p x))++cap).map (AN ρ s.b))=true)→
    (∀ρ,C.call C.ρ k (((c.args.toList.map fun x=>rd (cd s p x))++cap).map (AN ρ s.b)) s.g s.nx r g' jf)→K r {s with t:=iv nN s.t,b:=gd nN s.b,up:=nU nN s.up,g:=g',nx:=jf}→
    mS P o a w (fun a' w'=>hZ E0 w0 o a K a' w'∧(nD C.cl o.op=true→cp w w')) Q:=by
   intro r g' jf hl hq Nk ca hk;obtain⟨N,hN⟩:=RT (g':=g') jf;obtain⟨ρ,hρ1,hρ2⟩: ∃ρ,N≤ρ∧tY r<ρ:=⟨N+tY r+1,by omega,by omega⟩;obtain⟨xV,P8⟩:=hC _ _ _ _ _ _ _ _ (ca ρ);refine hwp xV (P8 (Nk ρ) (E.nL (gM E s) ρ) w _ (h.nL ρ) (by simp[hl]) fun q b y h1 h2=>?_) fun e w' hr=>?_
   ·rw[List.getElem?_map]at h1;cases h3:((c.args.toList.map fun x=>rd (cd s p x))++cap)[q]? with
    |none=>rw[h3]at h1;cases h1
    |some b0=>
     rw[h3]at h1;have hbi:=bD (Nk ρ) q b (by rw[List.getElem?_map,h3];exact h1)
     cases h1;exact U4 h ρ ((E7 hl hq).2 q b0 y h3 h2) hbi
   ·obtain⟨x,E',rfl,hG,hE,hs,TD,Y9,Np⟩:=hr;have hgl: ∀i ob,g' i=some ob→MS ob<ρ:=fun i ob hi=>by
     have Gx:E'.live (.o i):=by
      have:=hG.gx i ob hi
      cases ob with
      |box cs=>exact this.1
      |arr z xs=>exact this.1
      |ow=>exact this.1
      |lp=>exact this.1
     have:=hN i ob ((hG.gl i).1 Gx) hi
     omega
    exact⟨x,rfl,⟨x,rfl,r,_,_,hk,h.pq hE hG hs hgl,(QU h hE hG).cH TD Y9 hρ2⟩,fun _=>Np⟩
  split at hk
  ·cases uw:C.uU k with
   |true=>
    rw[uw,az]at hk;obtain⟨IV,XJ⟩:=E7 hl hq;obtain⟨xV,CK⟩:=auF C.yl hYl hk h IV XJ;refine hwp xV CK fun e w' hr=>?_;obtain⟨x,rfl,r,s',E',kR,hs',Qa⟩:=hr;refine⟨x,rfl,⟨x,rfl,r,s',E',kR,hs',Qa⟩,fun N7=>?_⟩;exfalso;unfold nD at N7;rw[he]at N7;dsimp only at N7;rw[hc]at N7
    split at N7
    ·rename_i k' kR;cases kR;have:k'=k:=by simp only[cd]at er;injection er with e1 _;injection e1
     subst this;rw[jY _ N7]at uw;cases uw
    ·cases N7
   |false=>
   rw[uw,aC]at hk;cases hi:cw ((c.args.toList.map fun x=>rd (cd s [] x))++cap)with
   |false=>
    rw[hi,aC]at hk;obtain⟨Nk,r,g',jf,ca,hk⟩:=hk;exact aex hl hq Nk ca hk
   |true=>
   rw[hi,az]at hk;obtain⟨r,g',jf,ca,hk⟩:=hk;obtain⟨xV,P8⟩:=hC _ _ _ _ _ _ _ _ ca;obtain⟨IV,XJ⟩:=YA hl hq hi;refine hwp xV (P8 hi E.mask w _ h.mask IV XJ) fun e w' hr=>?_;obtain⟨x,E',rfl,hG,hE,hs,TD,Y9,Np⟩:=hr;exact⟨x,rfl,⟨x,rfl,r,_,_,hk,h.call hE hG hs,(EZ hE hG).cH TD Y9⟩,fun _=>Np⟩
  ·cases hi:cw ((c.args.toList.map fun x=>rd (cd s p x))++cap)with
   |false=>
    rw[hi,aC]at hk;obtain⟨Nk,r,ca,hk⟩:=hk;exact aex hl hq Nk (ca hp) hk
   |true=>
   rw[hi,az]at hk;obtain⟨r,ca,hk⟩:=hk;obtain⟨xV,P8⟩:=hC _ _ _ _ _ _ _ _ (ca hp);obtain⟨IV,XJ⟩:=YA hl hq hi;refine hwp xV (P8 hi E.mask w _ h.mask IV XJ) fun e w' hr=>?_;obtain⟨x,E',rfl,hG,hE,hs,TD,Y9,Np⟩:=hr;exact⟨x,rfl,⟨x,rfl,r,_,_,hk,h.call hE hG hs,(EZ hE hG).cH TD Y9⟩,fun _=>Np⟩
 ·rename_i d er;rw[er]at hfv;cases hfe:a.eval f<;>rw[hfe]at hfv<;>cases hfv;rename_i Gx
  split at hk
  ·obtain⟨IV,XJ⟩:=E7 (cap:=[]) (ys:=[]) rfl (fun q a y hq _=>by simp at hq);simp only[List.append_nil]at IV XJ;obtain⟨fn,tmps,pH,body,hy,hR⟩:=hYl hk h IV XJ;unfold mS;have eY:(execOp a.eval o).run P w= .ok (.round (E.m (.s d)) fn tmps pH body) w:=by
    have e1:(c.args.toList.map a.eval).toArray=c.args.map a.eval:=Array.toList_inj.1 (by simp)
    rw[e1]at hy;simp only[execOp,he,resolve,hc,hfe];simp[Deferred.ofValue,Sem.run_bind,invoke,Result.andThen,hy]
   rw[eY];refine hR.mono fun e w' hr=>?_;obtain⟨x,rfl,r,s',E',kR,hs',Qa⟩:=hr;refine⟨x,rfl,⟨x,rfl,r,s',E',kR,hs',Qa⟩,fun N7=>?_⟩;exfalso;unfold nD at N7;rw[he]at N7;dsimp only at N7;rw[hc]at N7
   split at N7
   ·rename_i k' kR;cases kR;simp[cd]at er
   ·cases N7
  ·exact hk.elim
 ·rename_i k cs er;rw[er]at hfv;cases hfe:a.eval f<;>rw[hfe]at hfv<;>cases hfv;rename_i ys hl nw hq
  split at hk
  ·cases hi:cw (cs++(c.args.toList.map fun x=>rd (cd s [] x)))with
   |false=>rw[hi]at hk;exact hk.elim
   |true=>
   rw[hi,az]at hk;obtain⟨r,g',jf,ca,hk⟩:=hk;obtain⟨xV,P8⟩:=hC _ _ _ _ _ _ _ _ ca;have eY:(execOp a.eval o).run P w= .ok (.enter k (ys++(c.args.toList.map a.eval)).toArray) w:=by
    have e1:(ys++(c.args.toList.map a.eval)).toArray=ys.toArray++c.args.map a.eval:=Array.toList_inj.1 (by simp)
    rw[e1];simp only[execOp,he,resolve,hc,hfe];simp[Deferred.ofValue,Sem.run_bind,invoke,Result.andThen,xV _ w]
   unfold mS;rw[eY];refine Calls.mono (P8 hi E.mask w _ h.mask (by simp[hl]) fun q b y h1 h2=>?_) fun e w' hr=>?_
   ·have hbi:=bD hi q b h1
    refine(Bg E).cH ?_ hbi;by_cases bc:q<ys.length
    ·rw[gg bc]at h2;rw[gg (by omega)]at h1;exact hq q b y h1 h2
    ·rw[iY (by omega)]at h2;rw[iY (by omega),←hl]at h1;exact EK h hp _ c.args.toList (q - ys.length) b y h1 h2
   ·obtain⟨x,E',rfl,hG,hE,hs,TD,Y9,Np⟩:=hr;exact⟨x,rfl,⟨x,rfl,r,_,_,hk,h.call hE hG hs,(EZ hE hG).cH TD Y9⟩,fun _=>Np⟩
  ·exact hk.elim
 ·exact hk.elim
end Ab
