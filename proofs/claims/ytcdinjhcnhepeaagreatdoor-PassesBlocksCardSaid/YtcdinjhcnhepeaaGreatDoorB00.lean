/- PassesBlocks holds of all cores and names (no condition): a part of the proof: an abstract interpreter of the code that is proved sound, models of the functions, and laws of these models. -/
import Derived.WalkKit
import Derived.RangeFuncSeq
import Derived.RangeFuncLeaves
set_option linter.unusedVariables false
set_option linter.unusedSimpArgs false
set_option linter.unusedSectionVars false
namespace Ab
open Go
theorem aw{α:Type _}{β:Type _}(a:α)(f:α→Option β):(some a).bind f=f a:=rfl
theorem aE{α:Sort _}{a b:α}:cond true a b=a:=rfl
theorem aM{α:Sort _}{a b:α}:cond false a b=b:=rfl
theorem bH{p:Prop}[Decidable p](h:p):decide p=true:=decide_eq_true h
theorem bT{p:Prop}[Decidable p](h: ¬p):decide p=false:=decide_eq_false h
theorem bh{α:Type _}{l:List α}{i:Nat}{a:α}:l[i]? =some a↔ ∃h:i<l.length,l[i]=a:=List.getElem?_eq_some_iff
theorem fp{α:Type _}{l:List α}{i:Nat}(h:i<l.length):l[i]? =some l[i]:=List.getElem?_eq_getElem h
theorem iq{α:Type _}{l m:List α}{i:Nat}(h:i<l.length):(l++m)[i]? =l[i]? :=List.getElem?_append_left h
theorem ji{α:Type _}{l m:List α}{i:Nat}(h:l.length≤i):(l++m)[i]? =m[i - l.length]? :=List.getElem?_append_right h
theorem jK{α:Type _}{l:List α}{i:Nat}{a:α}(h:l[i]? =some a):a∈l:=List.mem_of_getElem? h
theorem EV{a:Int}(h:0≤a):(a.toNat:Int)=a:=Int.toNat_of_nonneg h
theorem oJ{α:Type _}{a b:α}(h:some a=some b):a=b:=Option.some.inj h
def bQ(a b:Nat):Bool:=decide (a=b)
def mM(a b:Nat):Bool:=decide (a≤b)
def sa(a b:Nat):Bool:=decide (a<b)
 @[simp] theorem Ko (a b:Nat):(bQ a b=true)=(a=b):=by simp[bQ]
 @[simp] theorem wP (a b:Nat):(mM a b=true)=(a≤b):=by simp[mM]
 @[simp] theorem ltN_eq (a b:Nat):(sa a b=true)=(a<b):=by simp[sa]
 @[simp] theorem XM (a:Nat):bQ a a=true:=by simp
theorem cY{a b:Nat}(h:bQ a b=true):a=b:=by simpa using h
theorem FT{a b:Nat}(h:mM a b=true):a≤b:=by simpa using h
inductive Key where
 |s (d:Nat)
 |o (id:Nat)
 |r (d i:Nat)
 deriving DecidableEq
inductive Tok where
 |l (d:Nat)
 |c (id off:Nat)
 |n (d:Nat)
 deriving DecidableEq
inductive AV where
 |any
 |v (x:Value)
 |sl (r:Nat) (xs:List (List AV))
 |gs (r:Nat) (t:Tok) (xs:List (List AV))
 |aR (r:Nat) (cs:List AV) (off:Nat)
 |ptr (k:Key) (off:Nat)
 |eW (k:Key) (n:Nat)
 |ca (k:Key) (i off z:Nat)
 |mp (k:Key)
 |nM (k:Key)
 |ar (n z:Nat) (xs:List (List AV))
 |fn (f:Fn) (cap:List AV)
 |bm (f:Fn) (cs:List AV)
 |lB (r z:Nat) (xs:List (List AV))
 |agg (cs:List AV)
 |gw (vs:List AV)
 deriving Inhabited
inductive Own where
 |Wd
 |kM
 |key (k:Key)
 |tok (t:Tok)
structure Env where
 h:Array Obj
 aI:Nat→Nat→Prop
 dN:Nat→Nat
 m:Key→Nat
 live:Key→Prop
 len:Key→Nat×Nat
 own:Nat→Own
 up:List Act:=[]
def aO(h:Array Obj)(b o:Nat):Option Value:=
 match h[b]? with
 |some (.cells c _ _)=>c[o]?
 |_=>none
theorem kq(w:World)(b o:Nat):w.cell? ⟨b,o,none⟩=aO w.heap b o:=by
 unfold World.cell? aO;cases w.heap[b]? with
 |none=>rfl
 |some x=>cases x<;>rfl
def Key.loc:Key→Bool
 | .s _=>true
 | .o _=>false
 | .r _ _=>true
def Key.slot:Key→Option Nat
 | .s d=>some d
 | .o _=>none
 | .r d _=>some d
def Tok.loc:Tok→Bool
 | .l _=>true
 | .c _ _=>true
 | .n _=>true
def Own.loc:Own→Bool
 | .key k=>k.loc
 | .tok t=>t.loc
 |_=>false
def Own.du:Own→Bool
 | .key k=> !k.loc
 | .tok t=> !t.loc
 |_=>false
 mutual
def bX:AV→Bool
  | .gs .. =>false
  | .ptr k _=> !k.loc
  | .eW k _=> !k.loc
  | .mp k=> !k.loc
  | .ca k _ _ _=> !k.loc
  | .nM k=> !k.loc
  | .fn _ cs=>cr cs
  | .agg cs=>cr cs
  | .gw cs=>cr cs
  |_=>true
def cr:List AV→Bool
  |[]=>true
  |a::r=>bX a&&cr r
end
theorem bf{cs:List AV}(h:cr cs=true): ∀(q:Nat) (a:AV),cs[q]? =some a→bX a=true:=by
 induction cs with
 |nil=>intro q a hq;simp at hq
 |cons x r ih=>
  simp only[cr,Bool.and_eq_true]at h;intro q a hq;cases q with
  |zero=>simp at hq;subst hq;exact h.1
  |succ q=>exact ih h.2 q a (by simpa using hq)
theorem xP{cs:List AV}(h: ∀(q:Nat) (a:AV),cs[q]? =some a→bX a=true):cr cs=true:=by
 induction cs with
 |nil=>rfl
 |cons x r ih=>simp only[cr,Bool.and_eq_true];exact⟨h 0 x (by simp),ih fun q a hq=>h (q+1) a (by simpa using hq)⟩
inductive Cz(E:Env):AV→Value→Prop where
 |any (x:Value):Cz E .any x
 |v (x:Value):Cz E (.v x) x
 |mq (r:Nat) (A:Option Addr) (c:Nat):Cz E (.sl r []) (.slice A 0 c)
 |sl (r:Nat) (xs:List (List AV)) (z b o c:Nat) (u:Nat→Value) (hp:0<xs.length) (hc:xs.length≤c) (hm:c≤maxLen) (dw:0<z) (hz: ∀l∈xs,l.length=z) (hr:E.dN b=r)
   (hi: ∀(q:Nat) (a:AV),xs.flatten[q]? =some a→bX a=true) (hs: ∀(q:Nat) (a:AV),xs.flatten[q]? =some a→E.aI b (o+q)) (hu: ∀(q:Nat) (a:AV),xs.flatten[q]? =some a→aO E.h b (o+q)=some (u q))
   (hq: ∀(q:Nat) (a:AV),xs.flatten[q]? =some a→Cz E a (u q)):Cz E (.sl r xs) (.slice (some ⟨b,o,none⟩) xs.length c)
 |rH (r:Nat) (t:Tok):Cz E (.gs r t []) (.slice none 0 0)
 |gs (r:Nat) (t:Tok) (xs:List (List AV)) (z b c e:Nat) (cells:Array Value) (u:Nat→Value) (hc:xs.length≤c) (hm:c≤maxLen) (h0:xs.length=0→c=0) (dw:0<z) (hz: ∀l∈xs,l.length=z) (hr:E.dN b=r)
   (hb:E.h[b]? =some (.cells cells e (0,0))) (dg:cells.size=c*z) (ho:E.own b= .tok t) (er: ∀o,E.aI b o↔o<xs.length*z)
   (hi: ∀(q:Nat) (a:AV),xs.flatten[q]? =some a→bX a=true) (hu: ∀(q:Nat) (a:AV),xs.flatten[q]? =some a→aO E.h b (0+q)=some (u q))
   (hq: ∀(q:Nat) (a:AV),xs.flatten[q]? =some a→Cz E a (u q)):Cz E (.gs r t xs) (.slice (some ⟨b,0,none⟩) xs.length c)
 |aR (r:Nat) (cs:List AV) (off b o:Nat) (u:Nat→Value) (hr: ∀(q:Nat) (a:AV),cs[q]? =some a→E.dN b=r)
   (hi: ∀(q:Nat) (a:AV),cs[q]? =some a→bX a=true) (hs: ∀(q:Nat) (a:AV),cs[q]? =some a→E.aI b (o+q)) (hu: ∀(q:Nat) (a:AV),cs[q]? =some a→aO E.h b (o+q)=some (u q))
   (hq: ∀(q:Nat) (a:AV),cs[q]? =some a→Cz E a (u q)):Cz E (.aR r cs off) (.pointer (some ⟨b,o+off,none⟩))
 |ptr (k:Key) (off:Nat) (hl:E.live k):Cz E (.ptr k off) (.pointer (some ⟨E.m k,off,none⟩))
 |eW (k:Key) (n:Nat) (hl:E.live k) (hn:n≤(E.len k).1) (hc:(E.len k).1≤(E.len k).2) (hm:(E.len k).2≤maxLen):Cz E (.eW k n) (.slice (some ⟨E.m k,0,none⟩) n (E.len k).2)
 |ca (k:Key) (i off z:Nat) (hl:E.live k):Cz E (.ca k i off z) (.pointer (some ⟨E.m k,i*z+off,none⟩))
 |mp (k:Key) (hl:E.live k):Cz E (.mp k) (.map (some (E.m k)))
 |nM (k:Key) (hl:E.live k):Cz E (.nM k) (.func (.yield (E.m k)) #[] #[])
 |ar (n z:Nat) (xs:List (List AV)) (ys:List Value) (hn:xs.length=n) (hz: ∀l∈xs,l.length=z) (hl:ys.length=n*z) (hi: ∀(q:Nat) (a:AV),xs.flatten[q]? =some a→bX a=true)
   (hq: ∀(q:Nat) (a:AV) (y:Value),xs.flatten[q]? =some a→ys[q]? =some y→Cz E a y):Cz E (.ar n z xs) (.agg ys.toArray)
 |fn (f:Fn) (cap:List AV) (ys:List Value) (hl:ys.length=cap.length) (hq: ∀(q:Nat) (a:AV) (y:Value),cap[q]? =some a→ys[q]? =some y→Cz E a y):Cz E (.fn f cap) (.func f #[] ys.toArray)
 |bm (f:Fn) (cs:List AV) (ys:List Value) (hl:ys.length=cs.length) (hi: ∀(q:Nat) (a:AV),cs[q]? =some a→bX a=true) (hq: ∀(q:Nat) (a:AV) (y:Value),cs[q]? =some a→ys[q]? =some y→Cz E a y):Cz E (.bm f cs) (.func f ys.toArray #[])
 |lB (r z:Nat) (xs:List (List AV)) (x:Value) (hz: ∀l∈xs,l.length=z) (h:Cz E (.aR r xs.flatten 0) x):Cz E (.lB r z xs) x
 |agg (cs:List AV) (ys:List Value) (hl:ys.length=cs.length) (hq: ∀(q:Nat) (a:AV) (y:Value),cs[q]? =some a→ys[q]? =some y→Cz E a y):Cz E (.agg cs) (.agg ys.toArray)
 |gw (cs:List AV) (ys:List Value) (hl:ys.length=cs.length) (hq: ∀(q:Nat) (a:AV) (y:Value),cs[q]? =some a→ys[q]? =some y→Cz E a y):Cz E (.gw cs) (.tuple ys.toArray)
structure Ext(C:Own→Prop)(E E':Env):Prop where
 size:E.h.size≤E'.h.size
 aI: ∀b o,E.aI b o→E'.aI b o∧aO E'.h b o=aO E.h b o∧E'.dN b=E.dN b
 live: ∀k,E.live k→E'.live k∧E'.m k=E.m k∧E'.len k=E.len k
 bw: ∀b,b<E.h.size→ ¬C (E.own b)→E'.own b=E.own b∧E'.h[b]? =E.h[b]? ∧(∀o,E'.aI b o↔E.aI b o)∧E'.dN b=E.dN b
theorem Ext.refl(C:Own→Prop)(E:Env):Ext C E E:=
 ⟨Nat.le_refl _,fun _ _ h=>⟨h,rfl,rfl⟩,fun _ h=>⟨h,rfl,rfl⟩,fun _ _ _=>⟨rfl,rfl,fun _=>Iff.rfl,rfl⟩⟩
theorem Ext.mono{C C':Own→Prop}{E E':Env}(h:Ext C E E')(hC: ∀o,C o→C' o):Ext C' E E':=
 ⟨h.size,h.aI,h.live,fun b hb hn=>h.bw b hb fun hc=>hn (hC _ hc)⟩
 mutual
def rA(T:Tok→Bool):AV→AV
  | .gs r t xs=>if T t then .sl r xs else .gs r t xs
  | .fn f cs=> .fn f (mc T cs)
  | .agg cs=> .agg (mc T cs)
  | .gw cs=> .gw (mc T cs)
  |a=>a
def mc(T:Tok→Bool):List AV→List AV
  |[]=>[]
  |a::r=>rA T a::mc T r
end
theorem qH(T:Tok→Bool)(cs:List AV)(q:Nat):(mc T cs)[q]? =(cs[q]?).map (rA T):=by
 induction cs generalizing q with
 |nil=>simp[mc]
 |cons a r ih=>cases q<;>simp[mc,ih]
theorem dy(T:Tok→Bool)(cs:List AV):(mc T cs).length=cs.length:=by
 induction cs with
 |nil=>rfl
 |cons a r ih=>simp[mc,ih]
theorem aB{α:Type}{z:Nat}: ∀{xs:List (List α)},(∀l∈xs,l.length=z)→xs.flatten.length=xs.length*z
 |[],_=>by simp
 |l::r,h=>by
  have:=aB (xs:=r) (fun l' rB=>h l' (by simp[rB]))
  simp only[List.flatten_cons,List.length_append,List.length_cons,h l (by simp),this,Nat.succ_mul];omega
structure Wf(E:Env):Prop where
 aI: ∀b o,E.aI b o→b<E.h.size
 own: ∀b,E.own b≠ .Wd→b<E.h.size
 fz: ∀b o,E.aI b o→1000000≤E.dN b→ ∃c e,E.h[b]? =some (.cells c e (0,0))
theorem qR{α:Type}{l:List α}(h:0<l.length): ∃a,l[0]? =some a:=⟨l[0],by simp⟩
theorem Cz.ext{C:Own→Prop}{E E':Env}(hE:Ext C E E')(hw:Wf E)(T:Tok→Bool)(hT: ∀t,C (.tok t)→T t=true){a:AV}{x:Value}(h:Cz E a x):
  Cz E' (rA T a) x∧(bX a=true→Cz E' a x):=by
 induction h with
 |any x=>exact⟨.any _,fun _=> .any _⟩
 |v x=>exact⟨.v _,fun _=> .v _⟩
 |mq r A c=>exact⟨.mq _ _ _,fun _=> .mq _ _ _⟩
 |sl r xs z b o c u hp hc hm dw hz hr hi hs hu hq ih=>
  have hf:=aB hz
  obtain⟨a0,ha0⟩:=qR (l:=xs.flatten) (by rw[hf];exact Nat.mul_pos hp dw);have:Cz E' (.sl r xs) (.slice (some ⟨b,o,none⟩) xs.length c):=
   .sl r xs z b o c u hp hc hm dw hz ((hE.aI _ _ (hs 0 a0 ha0)).2.2.trans hr) hi (fun q a dc=>(hE.aI _ _ (hs q a dc)).1) (fun q a dc=>(hE.aI _ _ (hs q a dc)).2.1.trans (hu q a dc))
    (fun q a dc=>(ih q a dc).2 (hi q a dc))
  exact⟨this,fun _=>this⟩
 |rH r t=>exact⟨by simp only[rA];split;exact .mq _ _ _;exact .rH _ _,fun hi=>by simp[bX]at hi⟩
 |gs r t xs z b c e cells u hc hm h0 dw hz hr hb dg ho er hi hu hq ih=>
  refine⟨?_,fun hi=>by simp[bX]at hi⟩;simp only[rA];have hf:=aB hz
  have hs: ∀(q:Nat) (a:AV),xs.flatten[q]? =some a→E.aI b (0+q):=fun q a dc=>(er _).2 (by have:=(bh.1 dc).1;omega)
  by_cases ht:T t=true
  ·rw[if_pos ht];by_cases hp:0<xs.length
   ·obtain⟨a0,ha0⟩:=qR (l:=xs.flatten) (by rw[hf];exact Nat.mul_pos hp dw);exact .sl r xs z b 0 c u hp hc hm dw hz ((hE.aI _ _ (hs 0 a0 ha0)).2.2.trans hr) hi (fun q a dc=>(hE.aI _ _ (hs q a dc)).1) (fun q a dc=>(hE.aI _ _ (hs q a dc)).2.1.trans (hu q a dc))
     (fun q a dc=>(ih q a dc).2 (hi q a dc))
   ·have h0:xs=[]:=List.eq_nil_of_length_eq_zero (by omega)
    subst h0;exact .mq _ _ _
  ·rw[if_neg ht];obtain⟨k1,k2,k3,k4⟩:=hE.bw b (hw.own b (by rw[ho];simp)) (by rw[ho];exact fun hc=>ht (hT _ hc));exact .gs r t xs z b c e cells u hc hm h0 dw hz (k4.trans hr) (k2.trans hb) dg (k1.trans ho) (fun o=>(k3 o).trans (er o)) hi (fun q a dc=>(hE.aI _ _ (hs q a dc)).2.1.trans (hu q a dc))
    (fun q a dc=>(ih q a dc).2 (hi q a dc))
 |aR r cs off b o u hr hi hs hu hq ih=>
  have:Cz E' (.aR r cs off) (.pointer (some ⟨b,o+off,none⟩)):=
   .aR r cs off b o u (fun q a dc=>(hE.aI _ _ (hs q a dc)).2.2.trans (hr q a dc)) hi (fun q a dc=>(hE.aI _ _ (hs q a dc)).1) (fun q a dc=>(hE.aI _ _ (hs q a dc)).2.1.trans (hu q a dc))
    (fun q a dc=>(ih q a dc).2 (hi q a dc))
  exact⟨this,fun _=>this⟩
 |ptr k off hl=>
  have:Cz E' (.ptr k off) (.pointer (some ⟨E.m k,off,none⟩)):=by rw[←(hE.live k hl).2.1];exact .ptr k off (hE.live k hl).1
  exact⟨this,fun _=>this⟩
 |eW k n hl hn hc hm=>
  have:Cz E' (.eW k n) (.slice (some ⟨E.m k,0,none⟩) n (E.len k).2):=by rw[←(hE.live k hl).2.1,←(hE.live k hl).2.2];exact .eW k n (hE.live k hl).1 (by rw[(hE.live k hl).2.2];exact hn) (by rw[(hE.live k hl).2.2];exact hc) (by rw[(hE.live k hl).2.2];exact hm)
  exact⟨this,fun _=>this⟩
 |ca k i off z hl=>
  have:Cz E' (.ca k i off z) (.pointer (some ⟨E.m k,i*z+off,none⟩)):=by rw[←(hE.live k hl).2.1];exact .ca k i off z (hE.live k hl).1
  exact⟨this,fun _=>this⟩
 |mp k hl=>
  have:Cz E' (.mp k) (.map (some (E.m k))):=by rw[←(hE.live k hl).2.1];exact .mp k (hE.live k hl).1
  exact⟨this,fun _=>this⟩
 |nM k hl=>
  have:Cz E' (.nM k) (.func (.yield (E.m k)) #[] #[]):=by rw[←(hE.live k hl).2.1];exact .nM k (hE.live k hl).1
  exact⟨this,fun _=>this⟩
 |ar n z xs ys hn hz hl hi hq ih=>
  have:Cz E' (.ar n z xs) (.agg ys.toArray):= .ar n z xs ys hn hz hl hi fun q a y ha hy=>(ih q a y ha hy).2 (hi q a ha)
  exact⟨this,fun _=>this⟩
 |bm f cs ys hl hi hq ih=>
  have:=Cz.bm (E:=E') f cs ys hl hi (fun q a y ha hy=>(ih q a y ha hy).2 (hi q a ha))
  exact⟨this,fun _=>this⟩
 |lB r z xs x hz h ih=>exact⟨.lB r z xs x hz (ih.2 rfl),fun _=> .lB r z xs x hz (ih.2 rfl)⟩
 |fn f cap ys hl hq ih=>
  refine⟨?_,fun hi=> .fn f cap ys hl fun q a y ha hy=>(ih q a y ha hy).2 (bf (by simpa[bX]using hi) q a ha)⟩;simp only[rA];exact .fn f _ ys (by rw[dy];exact hl) fun q a y ha hy=>by
   rw[qH]at ha;cases h:cap[q]? with
   |none=>simp[h]at ha
   |some a'=>simp[h]at ha;subst ha;exact(ih q a' y h hy).1
 |agg cs ys hl hq ih=>
  refine⟨?_,fun hi=> .agg cs ys hl fun q a y ha hy=>(ih q a y ha hy).2 (bf (by simpa[bX]using hi) q a ha)⟩;simp only[rA];exact .agg _ ys (by rw[dy];exact hl) fun q a y ha hy=>by
   rw[qH]at ha;cases h:cs[q]? with
   |none=>simp[h]at ha
   |some a'=>simp[h]at ha;subst ha;exact(ih q a' y h hy).1
 |gw cs ys hl hq ih=>
  refine⟨?_,fun hi=> .gw cs ys hl fun q a y ha hy=>(ih q a y ha hy).2 (bf (by simpa[bX]using hi) q a ha)⟩;simp only[rA];exact .gw _ ys (by rw[dy];exact hl) fun q a y ha hy=>by
   rw[qH]at ha;cases h:cs[q]? with
   |none=>simp[h]at ha
   |some a'=>simp[h]at ha;subst ha;exact(ih q a' y h hy).1
theorem Cz.read{E:Env}{r:Nat}{t:Tok}{xs:List (List AV)}{x:Value}(h:Cz E (.gs r t xs) x):Cz E (.sl r xs) x:=by
 cases h with
 |rH=>exact .mq _ _ _
 |gs _ _ _ z b c e cells u hc hm h0 dw hz hr hb dg ho er hi hu hq=>
  by_cases hp:0<xs.length
  ·have hf:=aB hz
   exact .sl r xs z b 0 c u hp hc hm dw hz hr hi (fun q a dc=>(er _).2 (by have:=(bh.1 dc).1;omega)) hu hq
  ·have h0:xs=[]:=List.eq_nil_of_length_eq_zero (by omega)
   subst h0;exact .mq _ _ _
end Ab
namespace Ab
open Go
def look{α:Type}(d:Nat):List (Nat×α)→Option α
 |[]=>none
 |(k,x)::r=>bif bQ k d then some x else look d r
def cT{α:Type}(d:Nat)(x:α):List (Nat×α)→List (Nat×α)
 |[]=>[(d,x)]
 |(k,y)::r=>bif bQ k d then(d,x)::r else bif sa d k then(d,x)::(k,y)::r else(k,y)::cT d x r
def del{α:Type}(d:Nat):List (Nat×α)→List (Nat×α)
 |[]=>[]
 |(k,y)::r=>bif bQ k d then del d r else(k,y)::del d r
inductive TK where
 |sc|str|int (k:IntKind)|bool
 |slice (e:Nat)
 |dj (fs:List (Nat×Nat))
 |arr (n e:Nat)
 |map (k e:Nat)
structure TI where
 k:TK
 size:Nat
 bytes:Nat
 zero:List Value
 ft:List Nat
abbrev nK:=Nat→Option TI
def TI.agg(i:TI):Bool:=match i.k with| .dj _=>true| .arr _ _=>true|_=>false
structure Pr where
 wrap:IntKind→Int→Int
 add:Int→Int→Int
 sub:Int→Int→Int
 mul:Int→Int→Int
 aU:Int→Int→Bool
 bg:Int→Int→Bool
 uT:Int→Int→Bool
 seq:ByteArray→ByteArray→Bool
 cat:ByteArray→ByteArray→ByteArray
 beq:Bool→Bool→Bool
 not:Bool→Bool
 pick:Bool→Bool→Bool→Bool
 SE:Int→Int→Int
 imax:Int→Int→Int
 fR:List (List AV)→Nat
 Py:ByteArray→Nat
 app:List (List AV)→List (List AV)→List (List AV)
 DW:List (List AV)→Int→Int→List (List AV)
 Kv:ByteArray→Int→Int→ByteArray
 flat:List (List AV)→List AV
 chunk:Nat→Nat→List AV→List (List AV)
 rep:Nat→List AV→List (List AV)
 set:List (List AV)→Nat→List AV→List (List AV)
 room:Nat→Nat→Nat→Prop
 within:Int→Int→Prop
 nat:Int→Nat
 CX:Int→Nat→Prop
 ny:Int→Int→Int→Prop
 nr:Nat→List (List AV)→Prop
 abx:Nat→Nat→List (List (List AV))→List (List AV)
 mutual
def uc(r:Nat):AV→Prop
  | .sl q xs=>q≠r∧pC r xs
  | .gs q _ xs=>q≠r∧pC r xs
  | .aR q cs _=>q≠r∧Em r cs
  | .lB q _ xs=>q≠r∧pC r xs
  | .ar _ _ xs=>pC r xs
  | .fn _ cs=>Em r cs
  | .bm _ cs=>Em r cs
  | .agg cs=>Em r cs
  | .gw cs=>Em r cs
  |_=>True
def Em(r:Nat):List AV→Prop
  |[]=>True
  |a::l=>uc r a∧Em r l
def pC(r:Nat):List (List AV)→Prop
  |[]=>True
  |a::l=>Em r a∧pC r l
end
def chunks(z:Nat):Nat→List AV→List (List AV)
 |0,_=>[]
 |n+1,l=>l.take z::chunks z n (l.drop z)
def al:Pr where
 wrap:=IntKind.wrap
 add:=(· + ·)
 sub:=(· - ·)
 mul:=(· * ·)
 aU:=fun a b=>decide (a=b)
 bg:=fun a b=>decide (a<b)
 uT:=fun a b=>decide (a≤b)
 seq:=fun a b=>decide (a=b)
 cat:=(· ++ ·)
 beq:=fun a b=>a==b
 not:=fun a=> !a
 pick:=fun c a b=>bif c then a else b
 SE:=fun a b=>if a≤b then a else b
 imax:=fun a b=>if a≤b then b else a
 fR:=List.length
 Py:=ByteArray.size
 app:=(· ++ ·)
 DW:=fun xs l h=>(xs.take h.toNat).drop l.toNat
 Kv:=fun b l h=>b.extract l.toNat h.toNat
 flat:=List.flatten
 chunk:=chunks
 rep:=List.replicate
 set:=List.set
 room:=fun n m b=>(n+m)*b≤70368744177664∧n+m≤70368744177664
 within:=fun n m=>0≤n∧n<m
 nat:=Int.toNat
 CX:=fun n b=>0≤n∧n≤9223372036854775807∧n*b≤140737488355328
 ny:=fun l h n=>0≤l∧l≤h∧h≤n
 nr:=pC
 abx:=fun r n ys=>(ys.take n).map fun row=>[.sl r row]
inductive Ex where
 |normal
 |exit (id:Nat)
 |ret
inductive LS where
 |rdy
 |busy
 |dn (e:Ex)
 |exh
inductive VK where
 |int (k:IntKind)
 |str
 |bool
inductive Yo where
 |sl (z:Nat)
 |mp (ks:List VK) (st:Option (Nat×Int))
 |g2 (z:Nat) (ys:List (List (List AV)))
def Yo.z:Yo→Nat
 | .sl z=>z
 | .mp ks _=>ks.length+1
 | .g2 z _=>z
inductive Ob where
 |box (cs:List AV)
 |arr (z:Nat) (xs:List (List AV))
 |ow (p:Yo) (rD:Option (Nat×Nat)) (xs:List (List AV))
 |lp (n:Nat×Nat) (t:List (Nat×AV)) (ps:List Nat) (nX body:Unit→Code) (st:LS)
structure Fr where
 n:Nat
 t:List (Nat×AV)
abbrev Path:=List (Nat×Bool)
structure St where
 n:Nat
 t:List (Nat×AV)
 b:List (Nat×Ob)
 c:List (Nat×Path)
 g:Nat→Option Ob
 nx:Nat
 up:List Fr:=[]
 fl:Bool:=false
def uC:Path→Path→Bool
 |[],_=>true
 |(d,w)::r,(e,v)::q=>bQ d e&&(w==v)&&uC r q
 |_::_,[]=>false
def isB(w:Bool):Option AV→Prop
 |some (.v (.bool g))=>g=w
 |_=>False
def bc(s:St):Path→Prop
 |[]=>True
 |(d,w)::r=>isB w (look d s.t)∧bc s r
def under(s:St)(p:Path)(X:Prop):Prop:=
 match p with
 |[]=>X
 |_=>bc s p→X
def Fk(s:St)(p:Path)(d:Nat):AV:=
 match look d s.t with
 |none=> .any
 |some a=>match look d s.c with
  |none=>a
  |some q=>bif uC q p then a else .any
def bP(s:St)(p:Path):Operand→AV
 | .tmp d=>Fk s p d
 | .const x=> .v x
 | .func f=> .fn (.func f) []
 | .global _=> .any
def St.put(s:St)(p:Path)(dst:Option Nat)(a:AV):St:=
 match dst with
 |none=>s
 |some d=>{s with t:=cT d a s.t,c:=match p with|[]=>del d s.c|_=>cT d p s.c}
def J8(d:Nat):Path→Bool
 |[]=>false
 |(e,_)::r=>bQ e d||J8 d r
def SD(d:Nat):List (Nat×Path)→Bool
 |[]=>false
 |(_,q)::r=>J8 d q||SD d r
def xn(s:St):Option Nat→Bool
 |none=>true
 |some d=>sa d s.n&& !SD d s.c
def isBool:Option AV→Bool
 |some (.v (.bool _))=>true
 |_=>false
def cellsOf:AV→List AV
 | .agg cs=>cs
 | .v (.agg cs)=>cs.toList.map .v
 |x=>[x]
def cut(l:List AV)(o n:Nat):List AV:=(l.drop o).take n
def bF(l:List AV)(o:Nat)(cs:List AV):List AV:=l.take o++cs++l.drop (o+cs.length)
def part(i:TI)(cs:List AV)(o:Nat):Option AV:=
 bif mM (o+i.size) cs.length then
  (bif i.agg then some (.agg (cut cs o i.size))else match cs[o]? with|some a=>some a|none=>none)
 else none
def rd(a:AV):AV:=rA (fun _=>true) a
def gD:Value:= .slice none 0 0
def fY(T:Tok→Bool):List (Nat×AV)→List (Nat×AV)
 |[]=>[]
 |(d,a)::r=>(d,rA T a)::fY T r
def yx(T:Tok→Bool):Ob→Ob
 | .box cs=> .box (mc T cs)
 | .arr z xs=> .arr z xs
 | .ow p l xs=> .ow p l xs
 | .lp n t ps nX body st=> .lp n (fY T t) ps nX body st
def lG(T:Tok→Bool):List Fr→List Fr
 |[]=>[]
 |f::r=>{n:=f.n,t:=fY T f.t}::lG T r
def fe(T:Tok→Bool):List (Nat×Ob)→List (Nat×Ob)
 |[]=>[]
 |(d,a)::r=>(d,yx T a)::fe T r
def Sh:Tok→Bool
 | .n _=>false
 |_=>true
def aX:Tok→Tok→Bool
 | .l d,.l e=>bQ d e
 | .c i o,.c j q=>bQ i j&&bQ o q
 | .n d,.n e=>bQ d e
 |_,_=>false
def bin(I:Pr):BinOp→Value→Value→Option Value
 | .add,.int k a,.int k' b=>bif k==k' then some (.int k (I.wrap k (I.add a b)))else none
 | .sub,.int k a,.int k' b=>bif k==k' then some (.int k (I.wrap k (I.sub a b)))else none
 | .mul,.int k a,.int k' b=>bif k==k' then some (.int k (I.wrap k (I.mul a b)))else none
 | .eql,.int k a,.int k' b=>bif k==k' then some (.bool (I.aU a b))else none
 | .neq,.int k a,.int k' b=>bif k==k' then some (.bool (I.not (I.aU a b)))else none
 | .lss,.int k a,.int k' b=>bif k==k' then some (.bool (I.bg a b))else none
 | .gtr,.int k a,.int k' b=>bif k==k' then some (.bool (I.bg b a))else none
 | .leq,.int k a,.int k' b=>bif k==k' then some (.bool (I.uT a b))else none
 | .geq,.int k a,.int k' b=>bif k==k' then some (.bool (I.uT b a))else none
 | .eql,.string a,.string b=>some (.bool (I.seq a b))
 | .neq,.string a,.string b=>some (.bool (I.not (I.seq a b)))
 |_,_,_=>none
def zJ:AV→Option Nat
 | .any=>none
 | .ar .. =>none
 | .v x=>some x.cells.size
 | .agg cs=>some cs.length
 | .gw _=>none
 |_=>some 1
def sy:Value→Bool
 | .agg _=>false
 | .tuple _=>false
 |_=>true
def V8:AV→Bool
 | .any=>false
 | .ar .. =>false
 | .v x=>sy x
 | .agg _=>false
 | .gw _=>false
 |_=>true
def oh:List AV→Bool
 |[]=>true
 |a::r=>V8 a&&oh r
def ep:List (List AV)→Bool
 |[]=>true
 |l::r=>oh l&&ep r
def Ix(fs:List (Nat×Nat)):List AV→List (Nat×AV)→Option (List AV)
 |cells,[]=>some cells
 |cells,(i,a)::r=>match fs[i]? with
  |none=>none
  |some (o,z)=>match zJ a with
   |none=>none
   |some k=>bif bQ k z&&mM (o+z) cells.length then Ix fs (bF cells o (cellsOf a)) r else none
def o5(z:Nat):List AV→List (Nat×AV)→Option (List AV)
 |cells,[]=>some cells
 |cells,(i,a)::r=>match zJ a with
   |none=>none
   |some k=>bif bQ k z&&mM (i*z+z) cells.length then o5 z (bF cells (i*z) (cellsOf a)) r else none
def ik(L:nK)(t f:Nat):Option Nat:=
 match L t with
 |some {k:= .dj fs,..}=>match fs[f]? with
  |some (o,z)=>bif bQ z 0 then none else some o
  |none=>none
 |_=>none
def amE:AV→Option AV
 | .ptr k off=>some (.ptr k off)
 | .aR r cs off=>some (.aR r cs off)
 | .ca k i off z=>some (.ca k i off z)
 | .lB r z xs=>some (.lB r z xs)
 |_=>none
def VZ(o:Nat):AV→Option AV
 | .ptr k off=>some (.ptr k (off+o))
 | .aR r cs off=>some (.aR r cs (off+o))
 | .ca k i off z=>some (.ca k i (off+o) z)
 |_=>none
def VY(s:St)(ti:TI):AV→Option AV
 | .ptr (.s d) off=>match look d s.b with
  |some (.box cs)=>part ti cs off
  |_=>none
 | .aR _ cs off=>part ti cs off
 |_=>none
def amG(I:Pr)(op:BinOp):AV→AV→Option AV
 | .v a,.v b=>match bin I op a b with|some v=>some (.v v)|none=>none
 |_,_=>none
def pUn(I:Pr):UnOp→AV→Option AV
 | .not,.v (.bool b)=>some (.v (.bool (I.not b)))
 |_,_=>none
def LU(i:Nat):AV→Option AV
 | .gw vs=>vs[i]?
 |_=>none
def OK(L:nK)(t:Nat)(ps:List (Nat×AV)):Option AV:=
 match L t with
 |some {k:= .dj fs,zero,..}=>match Ix fs (zero.map .v) ps with
  |some cs=>some (.agg cs)
  |none=>none
 |some {k:= .arr _ e,zero,..}=>match L e with
  |some ti=>match o5 ti.size (zero.map .v) ps with
   |some cs=>some (.agg cs)
   |none=>none
  |none=>none
 |_=>none
def amF(I:Pr):TK→AV→Option AV
 | .slice _,.sl _ xs=>some (.v (.int .i64 (I.fR xs)))
 | .slice _,.gs _ _ xs=>some (.v (.int .i64 (I.fR xs)))
 | .slice _,.eW _ n=>some (.v (.int .i64 n))
 | .str,.v (.string b)=>some (.v (.int .i64 (I.Py b)))
 | .slice _,.v (.slice _ n _)=>some (.v (.int .i64 n))
 | .arr n _,_=>some (.v (.int .i64 n))
 |_,_=>none
def VX(L:nK)(t f:Nat)(x:AV):Option AV:=
 match L t with
 |some {k:= .dj fs,ft,..}=>(match fs[f]?,ft[f]? with
  |some (o,_),some t'=>(match L t',x with
   |some tj,.agg cs=>part tj cs o
   |_,_=>none)
  |_,_=>none)
 |_=>none
def LV(I:Pr)(L:nK)(b:Builtin)(ts:List Nat)(args:List AV):Option AV:=
 match b,ts,args with
 | .len,[t],[x]=>match L t with
  |some ti=>amF I ti.k x
  |none=>none
 |_,_,_=>none
def sB(I:Pr)(L:nK)(s:St)(p:Path):Op→Option AV
 | .move x=>some (bP s p x)
 | .assign x=>some (bP s p x)
 | .nilCheck x=>amE (bP s p x)
 | .fieldAddr t x f=>match ik L t f with
  |none=>none
  |some o=>VZ o (bP s p x)
 | .load t x=>match L t with
  |none=>none
  |some ti=>VY s ti (bP s p x)
 | .binOp op _ x y _=>amG I op (bP s p x) (bP s p y)
 | .unOp op _ x=>pUn I op (bP s p x)
 | .extract x i=>LU i (bP s p x)
 | .build t parts=>OK L t (parts.toList.map fun q=>(q.1,bP s p q.2))
 | .field t x f=>VX L t f (bP s p x)
 | .call c=>match c.callee with
  | .builtin b=>LV I L b c.argTypes.toList (c.args.toList.map (bP s p))
  |_=>none
 |_=>none
 mutual
def sb(d:Nat)(F:Nat→AV)(A:Nat→AV):AV→AV
  | .ptr (.s e) off=>bif bQ e d then F off else .ptr (.s e) off
  | .eW (.s e) n=>bif bQ e d then A n else .eW (.s e) n
  | .ca (.s e) i off z=>bif bQ e d then .any else .ca (.s e) i off z
  | .nM (.s e)=>bif bQ e d then .any else .nM (.s e)
  | .mp (.s e)=>bif bQ e d then .any else .mp (.s e)
  | .ptr (.r e i) off=>bif bQ e d then .any else .ptr (.r e i) off
  | .eW (.r e i) n=>bif bQ e d then .any else .eW (.r e i) n
  | .ca (.r e j) i off z=>bif bQ e d then .any else .ca (.r e j) i off z
  | .nM (.r e i)=>bif bQ e d then .any else .nM (.r e i)
  | .mp (.r e i)=>bif bQ e d then .any else .mp (.r e i)
  | .fn f cs=> .fn f (RG d F A cs)
  | .agg cs=> .agg (RG d F A cs)
  | .gw cs=> .gw (RG d F A cs)
  |a=>a
def RG(d:Nat)(F:Nat→AV)(A:Nat→AV):List AV→List AV
  |[]=>[]
  |a::r=>sb d F A a::RG d F A r
end
def GV(d:Nat)(F:Nat→AV)(A:Nat→AV):List (Nat×AV)→List (Nat×AV)
 |[]=>[]
 |(k,a)::r=>(k,sb d F A a)::GV d F A r
def Ai(d:Nat)(F:Nat→AV)(A:Nat→AV):List (Nat×Ob)→List (Nat×Ob)
 |[]=>[]
 |(k,.box cs)::r=>(k,.box (RG d F A cs))::Ai d F A r
 |(k,.arr z xs)::r=>(k,.arr z xs)::Ai d F A r
 |(k,.ow p l xs)::r=>(k,.ow p l xs)::Ai d F A r
 |(k,.lp n t ps nX body st)::r=>(k,.lp n (GV d F A t) ps nX body st)::Ai d F A r
def Qd(d:Nat)(F:Nat→AV)(A:Nat→AV):List Fr→List Fr
 |[]=>[]
 |f::r=>{n:=f.n,t:=GV d F A f.t}::Qd d F A r
def shut(ρ d:Nat)(s:St):Option St:=
 match look d s.b with
 |some (.box cs)=>
  let cs':=mc (fun _=>true) cs
  bif cr cs' then
   let F:=fun off=>AV.aR ρ cs' off;let A:=fun _=>AV.any
   some {s with t:=GV d F A s.t,b:=Ai d F A (del d s.b),up:=Qd d F A s.up}
  else none
 |some (.arr z xs)=>
   let F:=fun off=>bif bQ off 0 then AV.lB ρ z xs else AV.any;let A:=fun n=>AV.sl ρ (xs.take n)
   some {s with t:=GV d F A s.t,b:=Ai d F A (del d s.b),up:=Qd d F A s.up}
 |some (.ow (.sl _) _ xs)=>
   let F:=fun _=>AV.any;let A:=fun n=>AV.sl ρ (xs.take n)
   some {s with t:=GV d F A s.t,b:=Ai d F A (del d s.b),up:=Qd d F A s.up}
 |some (.ow (.mp ..) ..)=>none
 |some (.ow (.g2 ..) ..)=>none
 |some (.lp ..)=>none
 |none=>none
 mutual
def AM:AV→List Nat
  | .ptr (.s d) _=>[d]
  | .eW (.s d) _=>[d]
  | .ca (.s d) _ _ _=>[d]
  | .nM (.s d)=>[d]
  | .mp (.s d)=>[d]
  | .fn _ cs=>kX cs
  | .agg cs=>kX cs
  | .gw cs=>kX cs
  |_=>[]
def kX:List AV→List Nat
  |[]=>[]
  |a::r=>AM a++kX r
end
def kF(ρ:Nat):List Nat→St→Option St
 |[],s=>some s
 |d::r,s=>match look d s.b with
  |none=>kF ρ r s
  |some _=>match shut ρ d s with
   |some s'=>kF ρ r s'
   |none=>none
abbrev bd:=AV→St→Prop
abbrev YH:=Nat→List AV→St→bd→Prop
abbrev pz:=(ρ:Nat)→(f:Nat)→(args:List AV)→(g:Nat→Option Ob)→(nx:Nat)→(r:AV)→(g':Nat→Option Ob)→(iP:Nat)→Prop
inductive Tree where
 |done
 |one (i:Nat) (t:Tree)
 |aj (i:Nat) (t:Tree) (more:Tree)
 |nil
structure dx where
 I:Pr
 L:nK
 ρ:Nat
 sh:List Nat
 tree:Nat→Tree
 call:pz
 base:Nat:=0
 op:List Nat:=[]
 tD:Nat→Bool:=fun _=>false
 inl:YH→Nat→List AV→St→bd→Prop:=fun _ _ _ _ _=>False
 B8:YH→Nat→List AV→St→bd→Prop:=fun _ _ _ _ _=>False
 yl:YH:=fun _ _ _ _=>False
 dead:Nat→List Nat:=fun _=>[]
 cl:Nat→Bool:=fun _=>false
 keys:Nat→Option (List VK):=fun _=>none
 eqs:Nat→Option (List VK):=fun _=>none
def Nf(d:Nat):List Nat→Bool
 |[]=>false
 |k::r=>bQ k d||Nf d r
def IH(op:List Nat):List (Nat×Ob)→List Nat
 |[]=>[]
 |(d,.arr _ _)::r=>bif Nf (d+6000) op then IH op r else d::IH op r
 |_::r=>IH op r
def yz:AV→Option (Nat×List (List AV))
 | .sl r xs=>some (r,xs)
 | .gs r _ xs=>some (r,xs)
 | .v (.slice none 0 0)=>some (0,[])
 |_=>none
def elemOf(L:nK)(t:Nat):Option (Nat×TI):=
 match L t with
 |some {k:= .slice e,..}=>match L e with
  |some ti=>some (e,ti)
  |none=>none
 |_=>none
def adt(I:Pr)(c:AV)(a b:AV):Option AV:=
 match c,a,b with
 | .v (.bool g),.v (.bool x),.v (.bool y)=>some (.v (.bool (I.pick g x y)))
 |_,_,_=>none
def Um:Operand→Option Nat
 | .tmp d=>some d
 |_=>none
def JY(C:dx)(s:St)(d:Nat)(cs:List AV)(K:AV→St→Prop):Prop:=
 bif Nf d C.sh then
  False
 else
  match look (C.base+d) s.b with
  |none=>K (.ptr (.s (C.base+d)) 0) {s with b:=cT (C.base+d) (.box cs) s.b}
  |some _=>False
def TY(C:dx)(p:Path)(c a b:Operand)(s:St)(K:bd):Prop:=
 match Um c with
 |none=>False
 |some d=>match adt C.I (bP s p c) (bP s (p++[(d,true)]) a) (bP s (p++[(d,false)]) b)with
  |some x=>K x s
  |none=>False
def aeI(C:dx)(d:Nat)(a:AV)(s:St)(K:bd):Prop:=
 match zJ a with
 |some _=>JY C s d (cellsOf a) K
 |none=>False
def NG(C:dx)(d e:Nat)(s:St)(K:bd):Prop:=
 match C.L e with
 |some ti=>match ti.k with
  | .arr n e'=>match C.L e',look (C.base+d) s.b with
   |some NK,none=>bif bQ (n*NK.size) ti.size&&(mM 1 NK.size&&mM n 1048576)then∃zs,(ti.zero=(List.replicate n NK.zero).flatten∧C.I.rep n (NK.zero.map .v)=zs)∧K (.ptr (.s (C.base+d)) 0) {s with b:=cT (C.base+d) (.arr NK.size zs) s.b}else False
   |_,_=>False
  |_=>JY C s d (ti.zero.map .v) K
 |none=>False
def qi(I:Pr)(ti:TI)(d off:Nat)(a:AV)(s:St)(K:bd):Prop:=
 match look d s.b with
 |some (.box cs)=>bif mM (off+ti.size) cs.length then(match a with
  | .gs r t xs=>Sh t=true∧K .any {s with t:=fY (aX t) s.t,up:=lG (aX t) s.up,b:=cT d (.box (bF (mc (aX t) cs) off [.gs r (.c d off) xs])) (fe (aX t) s.b)}
  |a=>K .any {s with b:=cT d (.box (bF cs off (cellsOf a))) s.b})else False
 |some (.arr z xs)=>match ti.k with
  | .arr n _=>off=0∧I.fR xs=n∧n*z=ti.size∧cr (cellsOf (rd a))=true∧K .any {s with b:=cT d (.arr z (I.chunk z n (cellsOf (rd a)))) s.b}
  |_=>False
 |_=>False
def Ad(I:Pr)(ti:TI)(d i off z:Nat)(a:AV)(s:St)(K:bd):Prop:=
 match look d s.b with
 |some (.arr z' xs)=> ∃cs,z=z'∧xs[i]? =some cs∧off+ti.size≤z∧cr (cellsOf (rd a))=true∧K .any {s with b:=cT d (.arr z (I.set xs i (bF cs off (cellsOf (rd a))))) s.b}
 |_=>False
def Jb(C:dx)(t:Nat)(x a:AV)(s:St)(K:bd):Prop:=
 match C.L t,zJ a with
 |some ti,some k=>k=ti.size∧oh (cellsOf a)=true∧
   (match x with
   | .ptr (.s d) off=>qi C.I ti d off a s K
   | .ca (.s d) i off z=>Ad C.I ti d i off z a s K
   |_=>False)
 |_,_=>False
def Lb(C:dx)(p:Path)(t:Nat)(x:AV)(s:St)(K:bd):Prop:=
 match C.L t with
 |none=>False
 |some ti=>match x with
  | .lB _ z xs=>match ti.k with
   | .arr n _=>(C.I.fR xs=n∧n*z=ti.size)∧K (.ar n z xs) s
   |_=>False
  | .ptr (.o i) off=> ∃cs a,under s p (s.g i=some (.box cs))∧part ti cs off=some a∧K a s
  | .ptr (.s d) off=>match look d s.b with
   |some (.arr z xs)=>match ti.k with
    | .arr n _=>(off=0∧under s p (C.I.fR xs=n)∧n*z=ti.size)∧K (.ar n z xs) s
    |_=>False
   |_=>False
  | .ca (.s d) i off z=>match look d s.b with
   |some (.arr z' xs)=> ∃cs a,z=z'∧under s p (xs[i]? =some cs)∧part ti cs off=some a∧K a s
   |some (.ow (.sl z') _ xs)=> ∃cs a,z=z'∧under s p (xs[i]? =some cs)∧part ti cs off=some a∧K a s
   |_=>False
  |_=>False
def isV:AV→Bool
 | .v _=>true
 |_=>false
def GJ:List AV→Bool
 |[]=>true
 |a::r=>isV a&&GJ r
def aos(ys:List (List (List AV)))(i j:Nat):Prop:= ∃row,ys[i]? =some row∧row.length=j∧1≤j
def aou(ys:List (List (List AV)))(i j:Nat)(cs:List AV):Prop:= ∃row,ys[i]? =some row∧row[j]? =some cs
def Nw(C:dx)(p:Path)(t:Nat)(x:AV)(s:St)(K:bd):Prop:=
 match x with
 | .ca (.s d) i off z=>match look d s.b with
  |some (.ow (.g2 _ ys) none [])=>match C.L t with
   |some ti=>bif bQ off 0&&(bQ ti.size 1&&(bQ z 1&& !ti.agg))then∃j,under s p (aos ys i j)∧K (.eW (.r d i) j) s else False
   |none=>False
  |_=>Lb C p t x s K
 | .ca (.r d i) j off z=>match C.L t,look d s.b with
  |some ti,some (.ow (.g2 z' ys) none [])=>bif bQ z z' then∃cs a,under s p (aou ys i j cs)∧part ti cs off=some a∧K a s else False
  |_,_=>False
 |_=>Lb C p t x s K
def aot(ys:List (List (List AV)))(i:Nat)(xs:List (List AV))(n:Nat)(zs:List (List (List AV))):Prop:=ys[i]? =some []∧xs.length=n∧1≤n∧(∀l∈xs,GJ l=true)∧ys.set i xs=zs
def aiY(ti:TI)(ys:List (List (List AV)))(i j off z:Nat)(cs1:List AV)(zs:List (List (List AV))):Prop:= ∃row cs,ys[i]? =some row∧row[j]? =some cs∧off+ti.size≤z∧GJ cs1=true∧ys.set i (row.set j (bF cs off cs1))=zs
def TZ(C:dx)(p:Path)(t:Nat)(n:Int)(x:AV)(s:St)(K:bd):Prop:=
 match x with
 | .eW k m=>match elemOf C.L t with
  |some (_,ti)=>under s p (C.I.within n m)∧K (.ca k (C.I.nat n) 0 ti.size) s
  |none=>False
 | .ptr (.s d) off=>match C.L t,look d s.b with
  |some ti,some (.arr z xs)=>match ti.k with
   | .arr m e=>match C.L e with
    |some tj=>off=0∧z=tj.size∧under s p (C.I.within n m)∧K (.ca (.s d) (C.I.nat n) 0 z) s
    |none=>False
   |_=>False
  |_,_=>False
 |a=>match yz a,elemOf C.L t with
  |some (r,xs),some (_,ti)=> ∃cs,under s p (0≤n∧xs[n.toNat]? =some cs∧cs.length=ti.size)∧K (.aR r cs 0) s
  |_,_=>False
def intOf:AV→Option Int
 | .v (.int _ n)=>some n
 |_=>none
def isStr(L:nK)(t:Nat):Bool:=match L t with|some ti=>(match ti.k with| .str=>true|_=>false)|none=>false
def Je(C:dx)(p:Path)(t:Nat)(n:Int)(x:AV)(s:St)(K:bd):Prop:=
 match x with
 | .v (.string b)=>bif isStr C.L t then∃c:UInt8,under s p (0≤n∧b[n.toNat]? =some c)∧K (.v (.int .u8 c.toNat)) s else False
 | .agg cs=>match C.L t with
  |some ti=>match ti.k with
   | .arr m e=>match C.L e with
    |some tj=>bif bQ tj.size 1&& !tj.agg then∃a,under s p (0≤n∧n<m∧cs[n.toNat]? =some a)∧K a s else False
    |none=>False
   |_=>False
  |none=>False
 |_=>False
def rR(C:dx)(p:Path)(t len d:Nat)(parts:List (Nat×Operand))(s:St)(K:bd):Prop:=
 match elemOf C.L t with
 |some (_,ti)=>match kF C.ρ (kX (parts.map fun q=>bP s p q.2)) s with
  |some s1=>match o5 ti.size ((List.replicate len (ti.zero.map AV.v)).flatten) (parts.map fun q=>(q.1,rd (bP s1 p q.2)))with
   |some cs=>bif cr cs&&(mM 1 ti.size&&mM (len*ti.size) 16777216)then K (.gs C.ρ (.l (C.base+d)) (chunks ti.size len cs)) {s1 with t:=fY (aX (.l (C.base+d))) s1.t,b:=fe (aX (.l (C.base+d))) s1.b,up:=lG (aX (.l (C.base+d))) s1.up}else False
   |none=>False
  |none=>False
 |none=>False
def closed(base:Nat)(op:List Nat):List Nat→List Nat
 |[]=>[]
 |d::r=>bif mM base d&& !Nf (d - base) op then d::closed base op r else closed base op r
def T0(C:dx)(p:Path)(f:Fn)(cap:List Operand)(s:St)(K:bd):Prop:=
 match kF C.ρ (closed C.base C.op (kX (cap.map (bP s p)))) s with
 |some s1=>K (.fn f (cap.map fun x=>rd (bP s1 p x))) s1
 |none=>False
def P1(C:dx)(t d:Nat)(n m:Int)(s:St)(K:bd):Prop:=
 match elemOf C.L t,look (C.base+d) s.b with
 |some (_,ti),none=>1≤ti.size∧n=m∧C.I.CX n ti.bytes∧K (.eW (.s (C.base+d)) n.toNat) {s with b:=cT (C.base+d) (.arr ti.size (C.I.rep n.toNat (ti.zero.map .v))) s.b}
 |_,_=>False
def ke(s:St)(p:Path)(auZ:Int):Option Operand→Option Int
 |none=>some auZ
 |some y=>intOf (bP s p y)
def BE(C:dx)(p:Path)(t:Nat)(lo hi:Option Operand)(x:AV)(s:St)(K:bd):Prop:=
 match x with
 | .v (.string b)=>bif isStr C.L t then
   (match ke s p 0 lo,ke s p (C.I.Py b) hi with
   |some l,some h=>under s p (C.I.ny l h (C.I.Py b))∧K (.v (.string (C.I.Kv b l h))) s
   |_,_=>False)
  else False
 | .eW k m=>match elemOf C.L t,lo,ke s p m hi with
  |some _,none,some h=>under s p (C.I.ny 0 h m)∧K (.eW k h.toNat) s
  |_,_,_=>False
 | .ptr (.s d) off=>match C.L t,look d s.b with
  |some ti,some (.arr z xs)=>match ti.k with
   | .arr m e=>match C.L e,lo,ke s p m hi with
    |some _,none,some h=>off=0∧C.I.fR xs=m∧m≤1048576∧under s p (C.I.ny 0 h m)∧K (.eW (.s d) h.toNat) s
    |_,_,_=>False
   |_=>False
  |_,_=>False
 |a=>match yz a,elemOf C.L t with
  |some (r,xs),some (_,ti)=>match ke s p 0 lo,ke s p (C.I.fR xs) hi with
   |some l,some h=>under s p (C.I.ny l h (C.I.fR xs)∧ ∀cs∈xs,cs.length=ti.size)∧K (.sl r (C.I.DW xs l h)) s
   |_,_=>False
  |_,_=>False
def mN(_:Tok):Bool:=false
def snap(I:Pr)(ρ:Nat)(b:List (Nat×Ob)):AV→AV
 | .eW (.s d) n=>match look d b with
  |some (.arr _ xs)=> .sl ρ (xs.take n)
  |some (.ow (.g2 _ ys) none [])=> .sl ρ (I.abx ρ n ys)
  |_=> .eW (.s d) n
 | .ptr (.s d) off=>match look d b with
  |some (.box cs)=>bif cr (mc (fun _=>true) cs)then .aR ρ (mc (fun _=>true) cs) off else .ptr (.s d) off
  |some (.arr z xs)=>bif bQ off 0 then .lB ρ z xs else .ptr (.s d) off
  |_=> .ptr (.s d) off
 |a=>a
def Ag(I:Pr)(ρ:Nat)(b:List (Nat×Ob)):AV→AV
 | .fn f cs=> .fn f (cs.map (snap I ρ b))
 | .agg cs=> .agg (cs.map (snap I ρ b))
 |a=>snap I ρ b a
def wFn(C:dx)(p:Path)(f:AV)(args:List AV)(s:St)(K:bd):Prop:=
 match f with
 | .fn (.func k) cap=>match p with
  |[]=>bif C.tD k then C.inl C.yl k (args++cap) s K
   else bif cr (args++cap)then∃r g' iP,C.call C.ρ k (args++cap) s.g s.nx r g' iP∧K r {s with t:=fY mN s.t,b:=fe mN s.b,up:=lG mN s.up,g:=g',nx:=iP}
   else(∀ρ,cr ((args++cap).map (Ag C.I ρ s.b))=true)∧ ∃r g' iP,(∀ρ,C.call C.ρ k ((args++cap).map (Ag C.I ρ s.b)) s.g s.nx r g' iP)∧K r {s with t:=fY mN s.t,b:=fe mN s.b,up:=lG mN s.up,g:=g',nx:=iP}
  |_=>bif cr (args++cap)then∃r,(bc s p→C.call C.ρ k (args++cap) s.g s.nx r s.g s.nx)∧K r {s with t:=fY mN s.t,b:=fe mN s.b,up:=lG mN s.up}
   else(∀ρ,cr ((args++cap).map (Ag C.I ρ s.b))=true)∧ ∃r,(bc s p→ ∀ρ,C.call C.ρ k ((args++cap).map (Ag C.I ρ s.b)) s.g s.nx r s.g s.nx)∧K r {s with t:=fY mN s.t,b:=fe mN s.b,up:=lG mN s.up}
 | .nM (.s d)=>match p with
  |[]=>C.yl d args s K
  |_=>False
 | .bm (.func k) cs=>match p with
  |[]=>bif cr (cs++args)then∃r g' iP,C.call C.ρ k (cs++args) s.g s.nx r g' iP∧K r {s with t:=fY mN s.t,b:=fe mN s.b,up:=lG mN s.up,g:=g',nx:=iP}else False
  |_=>False
 |_=>False
def Ra(C:dx)(ti:TI)(n:Nat)(ys:List (List AV)):Prop:=C.I.room n (C.I.fR ys) ti.bytes∧mM 1 ti.size=true∧ep ys=true∧ ∀l∈ys,l.length=ti.size
def Eb(C:dx)(t d:Nat)(x y:AV)(s:St)(K:bd):Prop:=
 match elemOf C.L t,yz y with
 |some (_,ti),some (_,ys)=>match x with
  | .gs r k xs=>Sh k=true∧Ra C ti (C.I.fR xs) ys∧(∀l∈xs,l.length=ti.size)∧
    K (.gs r (.l (C.base+d)) (C.I.app xs ys)) {s with t:=fY (fun q=>aX (.l (C.base+d)) q||aX k q) s.t,b:=fe (fun q=>aX (.l (C.base+d)) q||aX k q) s.b,up:=lG (fun q=>aX (.l (C.base+d)) q||aX k q) s.up}
  | .v (.slice none 0 0)=>Ra C ti 0 ys∧K (.gs C.ρ (.l (C.base+d)) ys) {s with t:=fY (aX (.l (C.base+d))) s.t,b:=fe (aX (.l (C.base+d))) s.b,up:=lG (aX (.l (C.base+d))) s.up}
  |_=>False
 |_,_=>False
def xIdx(C:dx)(p:Path)(t:Nat)(n:Int)(x:AV)(s:St)(K:bd):Prop:=
 match x with
 | .eW k m=>match elemOf C.L t with
  |some (_,ti)=> ∃j,under s p (C.I.within n m∧C.I.nat n=j)∧K (.ca k j 0 ti.size) s
  |none=>False
 | .ptr (.s d) off=>match C.L t,look d s.b with
  |some ti,some (.arr z xs)=>match ti.k with
   | .arr m e=>match C.L e with
    |some tj=> ∃j,(off=0∧z=tj.size∧under s p (C.I.within n m∧C.I.nat n=j))∧K (.ca (.s d) j 0 z) s
    |none=>False
   |_=>False
  |_,_=>False
 | .lB r z xs=>match C.L t with
  |some ti=>match ti.k with
   | .arr m e=>match C.L e with
    |some tj=> ∃cs,(C.I.fR xs=m∧z=tj.size∧under s p (0≤n∧xs[n.toNat]? =some cs))∧K (.aR r cs 0) s
    |none=>False
   |_=>False
  |none=>False
 |a=>TZ C p t n a s K
def alF(I:Pr)(ti:TI)(xs:List (List AV))(i off z z':Nat)(cs1:List AV)(zs:List (List AV)):Prop:=
 ∃cs,z=z'∧xs[i]? =some cs∧off+ti.size≤z∧cr cs1=true∧I.set xs i (bF cs off cs1)=zs
def IU(I:Pr)(ti:TI)(d off:Nat)(a:AV)(s:St)(K:bd):Prop:=
 match look d s.b with
 |some (.arr z xs)=>match ti.k with
  | .arr n _=> ∃zs,(off=0∧I.fR xs=n∧n*z=ti.size∧cr (cellsOf (rd a))=true∧I.chunk z n (cellsOf (rd a))=zs)∧K .any {s with b:=cT d (.arr z zs) s.b}
  |_=>False
 |_=>qi I ti d off a s K
def IV(I:Pr)(ti:TI)(d i off z:Nat)(a:AV)(s:St)(K:bd):Prop:=
 match look d s.b with
 |some (.arr z' xs)=> ∃zs,alF I ti xs i off z z' (cellsOf (rd a)) zs∧K .any {s with b:=cT d (.arr z zs) s.b}
 |_=>False
def IW(C:dx)(t:Nat)(x a:AV)(s:St)(K:bd):Prop:=
 match C.L t,zJ a with
 |some ti,some k=>k=ti.size∧oh (cellsOf a)=true∧
   (match x with
   | .ptr (.s d) off=>IU C.I ti d off a s K
   | .ca (.s d) i off z=>IV C.I ti d i off z a s K
   |_=>False)
 |_,_=>False
def EF(C:dx)(t:Nat)(x:AV)(n z:Nat)(ys:List (List AV))(s:St)(K:bd):Prop:=
 match C.L t,x with
 |some ti,.ptr (.s d) off=>match ti.k,look d s.b with
  | .arr m _,some (.arr z' xs)=>(off=0∧z'=z∧n=m∧C.I.fR xs=m∧m*z=ti.size∧ep ys=true)∧K .any {s with b:=cT d (.arr z ys) s.b}
  |_,_=>False
 |_,_=>False
def aif:Option Ob→Bool
 |some (.ow ..)=>true
 |_=>false
def IX(C:dx)(t:Nat)(x a:AV)(s:St)(K:bd):Prop:=
 match a with
 | .ar n z ys=>EF C t x n z ys s K
 |a=>IW C t x a s K
def aeu(C:dx)(d:Nat)(a:AV)(s:St)(K:bd):Prop:=
 match a with
 | .ar n z xs=>match look (C.base+d) s.b with
  |none=>(1≤z∧n≤1048576)∧K (.ptr (.s (C.base+d)) 0) {s with b:=cT (C.base+d) (.arr z xs) s.b}
  |some _=>False
 |a=>aeI C d a s K
def P0:AV→AV→Prop
 |_,.any=>True
 | .v (.slice none 0 0),.gs _ _ xs=>xs=[]
 | .v (.slice none 0 0),.sl _ xs=>xs=[]
 | .gs r _ xs,.sl r' xs'=>r=r'∧xs=xs'
 |a,b=>a=b
def wks:List AV→List AV→Prop
 |[],[]=>True
 |a::r,b::q=>P0 a b∧wks r q
 |_,_=>False
def wkL:List (List AV)→List (List AV)→Prop
 |[],[]=>True
 |a::r,b::q=>(wks a b∧cr b=true)∧wkL r q
 |_,_=>False
def Pz(xs zs:List (List AV)):Prop:= ∃ws,wkL xs ws∧ws=zs
def vZ(C:dx)(p:Path)(t len d:Nat)(parts:List (Nat×Operand))(s:St)(K:bd):Prop:=
 match elemOf C.L t with
 |some (_,ti)=>match kF C.ρ (kX (parts.map fun q=>bP s p q.2)) s with
  |some s1=>match o5 ti.size ((List.replicate len (ti.zero.map AV.v)).flatten) (parts.map fun q=>(q.1,rd (bP s1 p q.2)))with
   |some cs=>bif cr cs&&(mM 1 ti.size&&mM (len*ti.size) 16777216)then∃zs,Pz (chunks ti.size len cs) zs∧K (.gs C.ρ (.l (C.base+d)) zs) {s1 with t:=fY (aX (.l (C.base+d))) s1.t,b:=fe (aX (.l (C.base+d))) s1.b,up:=lG (aX (.l (C.base+d))) s1.up}else False
   |none=>False
  |none=>False
 |none=>False
def I3(C:dx)(t len d:Nat)(parts:List (Nat×Operand))(s:St)(K:bd):Prop:=
 match elemOf C.L t,look (C.base+d) s.b with
 |some (_,ti),none=>match o5 ti.size ((List.replicate len (ti.zero.map AV.v)).flatten) (parts.map fun q=>(q.1,rd (bP s [] q.2)))with
   |some cs=>bif cr cs&&(mM 1 ti.size&&mM (len*ti.size) 16777216)then∃zs,Pz (chunks ti.size len cs) zs∧K (.eW (.s (C.base+d)) len) {s with b:=cT (C.base+d) (.arr ti.size zs) s.b}else False
   |none=>False
 |_,_=>False
def am1(C:dx)(ti:TI)(n m:Int)(xs:List (List AV))(j:Nat):Prop:=1≤ti.size∧n=m∧C.I.CX n ti.bytes∧C.I.rep n.toNat (ti.zero.map .v)=xs∧n.toNat=j
def TP(C:dx)(t d:Nat)(n m:Int)(s:St)(K:bd):Prop:=
 match elemOf C.L t,look (C.base+d) s.b with
 |some (_,ti),none=> ∃xs j,am1 C ti n m xs j∧K (.eW (.s (C.base+d)) j) {s with b:=cT (C.base+d) (.arr ti.size xs) s.b}
 |_,_=>False
def Nu(C:dx)(p:Path)(t:Nat)(lo hi:Option Operand)(x:AV)(s:St)(K:bd):Prop:=
 match x with
 | .v (.string b)=>bif isStr C.L t then
   (match ke s p 0 lo,ke s p (C.I.Py b) hi with
   |some l,some h=> ∃b',under s p (C.I.ny l h (C.I.Py b)∧C.I.Kv b l h=b')∧K (.v (.string b')) s
   |_,_=>False)
  else False
 | .eW k m=>match elemOf C.L t,lo,ke s p m hi with
  |some _,none,some h=> ∃j,under s p (C.I.ny 0 h m∧h.toNat=j)∧K (.eW k j) s
  |_,_,_=>False
 | .ptr (.s d) off=>match C.L t,look d s.b with
  |some ti,some (.arr z xs)=>match ti.k with
   | .arr m e=>match C.L e,lo,ke s p m hi with
    |some _,none,some h=> ∃j,(off=0∧C.I.fR xs=m∧m≤1048576∧under s p (C.I.ny 0 h m∧h.toNat=j))∧K (.eW (.s d) j) s
    |_,_,_=>False
   |_=>False
  |_,_=>False
 | .lB r z xs=>match C.L t with
  |some ti=>match ti.k with
   | .arr m e=>match C.L e,ke s p 0 lo,ke s p m hi with
    |some tj,some l,some h=> ∃zs,((C.I.fR xs=m∧m≤1048576∧z=tj.size)∧mM 1 z=true∧under s p (C.I.ny l h m∧C.I.DW xs l h=zs))∧K (.sl r zs) s
    |_,_,_=>False
   |_=>False
  |none=>False
 |a=>match yz a,elemOf C.L t with
  |some (r,xs),some (_,ti)=>match ke s p 0 lo,ke s p (C.I.fR xs) hi with
   |some l,some h=> ∃zs,under s p ((C.I.ny l h (C.I.fR xs)∧ ∀cs∈xs,cs.length=ti.size)∧C.I.DW xs l h=zs)∧K (.sl r zs) s
   |_,_=>False
  |_,_=>False
def Yj(C:dx)(ti:TI)(xs ys zs:List (List AV)):Prop:=Ra C ti (C.I.fR xs) ys∧(∀l∈xs,l.length=ti.size)∧C.I.app xs ys=zs
def I4(C:dx)(t d:Nat)(x y:AV)(s:St)(K:bd):Prop:=
 match elemOf C.L t,yz y with
 |some (_,ti),some (_,ys)=>match x with
  | .gs r k xs=>Sh k=true∧ ∃zs,Yj C ti xs ys zs∧
    K (.gs r (.l (C.base+d)) zs) {s with t:=fY (fun q=>aX (.l (C.base+d)) q||aX k q) s.t,b:=fe (fun q=>aX (.l (C.base+d)) q||aX k q) s.b,up:=lG (fun q=>aX (.l (C.base+d)) q||aX k q) s.up}
  | .v (.slice none 0 0)=> ∃zs,Yj C ti [] ys zs∧K (.gs C.ρ (.l (C.base+d)) zs) {s with t:=fY (aX (.l (C.base+d))) s.t,b:=fe (aX (.l (C.base+d))) s.b,up:=lG (aX (.l (C.base+d))) s.up}
  |_=>False
 |_,_=>False
def eD(ρ:Nat):AV→AV
 | .v (.slice none 0 0)=> .sl ρ []
 |a=>a
def cq(ρ:Nat):List AV→List AV
 |[]=>[]
 |a::r=>eD ρ a::cq ρ r
def eX:Nat→AV:=fun _=> .any
def goO(r n:Nat)(b:Nat)(xs:List (List AV))(row:List AV)(C:dx)(zs:List (List AV))(n':Nat):Prop:=
 C.I.room n 1 b∧C.I.fR xs=n∧C.I.app xs [row]=zs∧C.I.fR zs=n'
def TS(C:dx)(t d:Nat)(x y:AV)(s:St)(K:bd):Prop:=
 match elemOf C.L t,yz y with
 |some (_,ti),some (r,[cs])=>bif GJ cs&&(bQ cs.length ti.size&&(mM 1 ti.size&&oh cs))then
   (match x with
   | .v (.slice none 0 0)=>(match look (C.base+d) s.b with
    |none=>C.I.room 0 1 ti.bytes∧ ∃zs n',([cq r cs]=zs∧C.I.fR zs=n')∧K (.eW (.s (C.base+d)) n') {s with b:=cT (C.base+d) (.ow (.sl ti.size) none zs) s.b}
    |some _=>False)
   | .eW (.s k) n=>bif bQ k (C.base+d)then
    (match look k s.b with
    |some (.ow (.sl z) none xs)=>z=ti.size∧ ∃zs n',goO r n ti.bytes xs (cq r cs) C zs n'∧
      K (.eW (.s k) n') {s with t:=GV k eX eX s.t,b:=cT k (.ow (.sl z) none zs) (Ai k eX eX (del k s.b)),up:=Qd k eX eX s.up}
    |_=>False)else False
   |_=>False)else False
 |_,_=>False
def TQ(C:dx)(t d:Nat)(x:AV)(s:St)(K:bd):Prop:=
 match C.L t,x with
 |some ti,.ca (.s k) i off z=>match ti.k,look k s.b with
  | .slice _,some (.ow (.sl z') none xs)=> ∃cs r ys,(z=z'∧xs[i]? =some cs∧cs[off]? =some (.sl r ys)∧ti.size=1)∧
    K (.gs r (.l (C.base+d)) ys) {s with t:=fY (aX (.n k)) s.t,b:=cT k (.ow (.sl z') (some (i,off)) xs) (fe (aX (.n k)) s.b),up:=lG (aX (.n k)) s.up}
  |_,_=>False
 |_,_=>False
def apj(C:dx)(xs:List (List AV))(i j off aaA r:Nat)(ys zs:List (List AV)):Prop:=
 i=j∧off=aaA∧ ∃cs,xs[i]? =some cs∧off<cs.length∧C.I.set xs i (bF cs off [.sl r ys])=zs
def PX(C:dx)(d i off z r:Nat)(t:Tok)(ys:List (List AV))(s:St)(K:bd):Prop:=
 match look d s.b with
 |some (.ow (.sl z') (some (j,aaA)) xs)=>Sh t=true∧z=z'∧ ∃zs,apj C xs i j off aaA r ys zs∧
   K .any {s with t:=fY (aX t) s.t,b:=cT d (.ow (.sl z') none zs) (fe (aX t) s.b),up:=lG (aX t) s.up}
 |_=>False
def nW:List VK→List AV→Bool
 |[],[]=>true
 | .int k::r,.v (.int k' _)::q=>(k==k')&&nW r q
 | .str::r,.v (.string _)::q=>nW r q
 | .bool::r,.v (.bool _)::q=>nW r q
 |_,_=>false
def Mq:AV→Bool
 | .v x=>sy x
 | .agg cs=>mM 2 cs.length
 |_=>false
def Db(ks:List VK)(k:AV):Bool:=Mq k&&nW ks (cellsOf k)
def yQ(xs:List (List AV))(kc:List AV):Option Nat→Prop
 |some i=> ∃row,xs[i]? =some row∧row.take kc.length=kc∧ ∀j row',j<i→xs[j]? =some row'→row'.take kc.length≠kc
 |none=> ∀row∈xs,row.take kc.length≠kc
def B7(C:dx)(t:Nat):Option (List VK×Nat×Nat×TI):=
 match C.L t with
 |some {k:= .map k e,..}=>match C.keys k,C.L e with
  |some ks,some ti=>some (ks,k,e,ti)
  |_,_=>none
 |_=>none
def am4(xs:List (List AV))(kc:List AV)(z a:AV):Prop:=
 (∃i row a0,yQ xs kc (some i)∧xs[i]? =some row∧row[kc.length]? =some a0∧P0 a0 a)∨(yQ xs kc none∧P0 z a)
def IZ(C:dx)(p:Path)(t:Nat)(m k:AV)(s:St)(K:bd):Prop:=
 match B7 C t,m with
 |some (ks,_,_,ti),.mp (.s d)=>match look d s.b,ti.zero with
  |some (.ow (.mp Tu none) none xs),[z]=>bif Db ks k&&(!ti.agg&&sy z)then
    ∃a,(ks=Tu∧ti.size=1∧bX a=true∧under s p (am4 xs (cellsOf k) (.v z) a))∧K a s else False
  |_,_=>False
 |_,_=>False
def EH(C:dx)(t d:Nat)(s:St)(K:bd):Prop:=
 match B7 C t,look (C.base+d) s.b with
 |some (ks,_,_,_),none=> ∃zs,([]:List (List AV))=zs∧K (.mp (.s (C.base+d))) {s with b:=cT (C.base+d) (.ow (.mp ks none) none zs) s.b}
 |_,_=>False
def I0(C:dx)(t:Nat)(m k v:AV)(s:St)(K:bd):Prop:=
 match B7 C t,m with
 |some (ks,_,_,ti),.mp (.s d)=>match look d s.b with
  |some (.ow (.mp Tu none) none xs)=>bif Db ks k&&(isV v&&V8 v)then
    ∃zs,(ks=Tu∧yQ xs (cellsOf k) none∧C.I.app xs [cellsOf k++[v]]=zs)∧K .any {s with b:=cT d (.ow (.mp Tu none) none zs) s.b}else False
  |_=>False
 |_,_=>False
def aoJ(C:dx)(r0:Nat)(xs:List (List AV))(kc:List AV)(zs:List (List AV))(i r:Nat)(ys:List (List AV)):Prop:=
 (yQ xs kc (some i)∧xs=zs∧ ∃row,xs[i]? =some row∧row[kc.length]? =some (.sl r ys))∨(yQ xs kc none∧C.I.app xs [kc++[.sl r0 []]]=zs∧C.I.fR xs=i∧r=r0∧ys=[])
def Ny(C:dx)(t d:Nat)(m k:AV)(s:St)(K:bd):Prop:=
 match B7 C t,m with
 |some (ks,_,_,ti),.mp (.s q)=>match ti.k,look q s.b with
  | .slice _,some (.ow (.mp Tu none) none xs)=>bif Db ks k then
    ∃zs i r ys,(ks=Tu∧ti.size=1∧ti.zero=[gD]∧aoJ C C.ρ xs (cellsOf k) zs i r ys)∧ ∀z:Int,
     K (.gw [.gs r (.l (C.base+d)) ys,.v (.int .i64 z)]) {s with t:=fY (aX (.n q)) s.t,b:=cT q (.ow (.mp Tu (some (i,z))) (some (i,Tu.length)) zs) (fe (aX (.n q)) s.b),up:=lG (aX (.n q)) s.up}else False
  |_,_=>False
 |_,_=>False
def aoL(C:dx)(kz:Nat)(xs:List (List AV))(i j:Nat)(z z':Int)(r:Nat)(ys zs:List (List AV)):Prop:=
 i=j∧z=z'∧ ∃cs,xs[i]? =some cs∧C.I.set xs i (bF cs kz [.sl r ys])=zs
def yW(C:dx)(m st v:AV)(s:St)(K:bd):Prop:=
 match m,st,v with
 | .mp (.s q),.v (.int .i64 z),.gs r t ys=>match look q s.b with
  |some (.ow (.mp ks (some (i,z'))) (some (j,off)) xs)=>Sh t=true∧off=ks.length∧ ∃zs,aoL C ks.length xs i j z z' r ys zs∧
    K .any {s with t:=fY (aX t) s.t,b:=cT q (.ow (.mp ks none) none zs) (fe (aX t) s.b),up:=lG (aX t) s.up}
  |_=>False
 |_,_,_=>False
def CG:AV→Option (List AV)
 | .agg cs=>some cs
 | .ar _ _ xs=>some xs.flatten
 |_=>none
def ai4(x y:AV)(b:Bool):Prop:= ∃xs ys,CG x=some xs∧CG y=some ys∧(b=true↔xs=ys)
def sk(C:dx)(t:Nat)(x:AV):Prop:=
 match C.eqs t,x with
 |some ks,.agg cs=>nW ks cs=true
 |some ks,.ar _ _ xs=>nW ks xs.flatten=true
 |_,_=>False
def xEq(C:dx)(p:Path)(neg:Bool)(t:Nat)(x y:AV)(s:St)(K:bd):Prop:=
 ∃b:Bool,under s p (sk C t x∧sk C t y∧ai4 x y b)∧K (.v (.bool (bif neg then C.I.not b else b))) s
def xO(L:nK)(t:Nat):Bool:=match L t with
 |some ti=>(match ti.k with| .bool=>true|_=>false)
 |none=>false
def tC(L:nK)(t:Nat):Bool:=match L t with
 |some ti=>(match ti.k with| .slice _=>true|_=>false)
 |none=>false
def Ro(C:dx)(p:Path)(neg:Bool)(t:Nat)(x y:AV)(s:St)(K:bd):Prop:=
 match x,y with
 | .v (.bool a),.v (.bool b)=>bif xO C.L t then K (.v (.bool (bif neg then C.I.not (C.I.beq a b)else C.I.beq a b))) s else False
 | .sl _ xs,.v (.slice none 0 0)=>bif tC C.L t then∀b:Bool,under s p (b=true→C.I.fR xs=0)→K (.v (.bool (bif neg then C.I.not b else b))) s else False
 |x,y=>xEq C p neg t x y s K
def D9(C:dx)(t:Nat)(x a:AV)(s:St)(K:bd):Prop:=
 match x,a with
 | .ca (.s d) i off z,.gs r tk ys=>bif aif (look d s.b)then(match C.L t with
   |some ti=>ti.size=1∧PX C d i off z r tk ys s K
   |none=>False)else IX C t x a s K
 |_,_=>IX C t x a s K
def adC(C:dx)(ti:TI)(n m:Int)(ys:List (List (List AV)))(j:Nat):Prop:=n=m∧C.I.CX n ti.bytes∧List.replicate n.toNat []=ys∧n.toNat=j
def Nv(C:dx)(t d:Nat)(n m:Int)(s:St)(K:bd):Prop:=
 match elemOf C.L t,look (C.base+d) s.b with
 |some (_,ti),none=>match ti.k,ti.zero with
  | .slice e,[.slice none 0 0]=>match C.L e with
   |some tj=>bif bQ ti.size 1&&mM 1 tj.size then∃ys j,adC C ti n m ys j∧K (.eW (.s (C.base+d)) j) {s with b:=cT (C.base+d) (.ow (.g2 tj.size ys) none []) s.b}else False
   |none=>False
  |_,_=>False
 |_,_=>False
def Ea(C:dx)(t:Nat)(x a:AV)(s:St)(K:bd):Prop:=
 match x,a with
 | .ca (.s d) i off z,.eW (.s e) n=>match look d s.b with
  |some (.ow (.g2 z' ys) none [])=>match C.L t,look e s.b with
   |some ti,some (.arr z2 xs)=>bif bQ off 0&&(bQ z 1&&(bQ z2 z'&&(bQ ti.size 1&& !bQ e d)))then
     ∃zs,aot ys i xs n zs∧
      (let s1:St:={s with t:=GV e eX eX s.t,b:=Ai e eX eX (del e s.b),up:=Qd e eX eX s.up}
       let F:=fun o=>AV.ptr (.s d) o;let A:=fun k=>AV.eW (.s d) k
       K .any {s1 with t:=GV d F A s1.t,b:=cT d (.ow (.g2 z' zs) none []) (Ai d F A s1.b),up:=Qd d F A s1.up})
    else False
   |_,_=>False
  |_=>D9 C t x a s K
 | .ca (.r d i) j off z,a=>match C.L t,zJ a,look d s.b with
  |some ti,some k,some (.ow (.g2 z' ys) none [])=>bif bQ z z'&&(bQ k ti.size&&oh (cellsOf a))then
    ∃zs,aiY ti ys i j off z (cellsOf (rd a)) zs∧K .any {s with t:=fY (aX (.n d)) s.t,b:=cT d (.ow (.g2 z' zs) none []) (fe (aX (.n d)) s.b),up:=lG (aX (.n d)) s.up}else False
  |_,_,_=>False
 |x,a=>D9 C t x a s K
def aoT(I:Pr)(ti:TI)(z n:Nat)(xs ys zs:List (List AV))(j:Int):Prop:=
 z=ti.size∧ep ys=true∧(∀l∈ys,l.length=ti.size)∧I.SE (I.fR ys) n=j∧I.app (I.DW ys 0 j) (I.DW xs j (I.fR xs))=zs
def TR(C:dx)(t:Nat)(x y:AV)(s:St)(K:bd):Prop:=
 match elemOf C.L t,x,yz y with
 |some (_,ti),.eW (.s d) n,some (_,ys)=>match look d s.b with
  |some (.arr z xs)=> ∃zs j,aoT C.I ti z n xs ys zs j∧K (.v (.int .i64 j)) {s with b:=cT d (.arr z zs) s.b}
  |_=>False
 |_,_,_=>False
def xa(C:dx)(k:Nat):Option Nat→Bool
 |some d=>Nf (d+k) C.op
 |none=>false
def noI(C:dx)(d:Option Nat):dx:=bif xa C 4000 d then{C with tD:=fun _=>false}else C
def zZ(C:dx)(p:Path)(b:Builtin)(dst:Option Nat)(ts:List Nat)(args:List AV)(s:St)(K:bd):Prop:=
 match b,p,dst,ts,args with
 | .append,[],some d,[t,t'],[x,y]=>bif bQ t t' then(bif xa C 1000 (some d)then TS C t d x y s K else I4 C t d x y s K)else False
 | .copy,[],_,[t,_],[x,y]=>TR C t x y s K
 | .len,_,_,_,_=>match LV C.I C.L .len ts args with
  |some (.v (.int k m))=> ∃z,m=z∧K (.v (.int k z)) s
  |_=>False
 |_,_,_,_,_=>False
def I1(C:dx)(p:Path)(t:Nat)(n:Int)(x:AV)(s:St)(K:bd):Prop:=
 match x with
 | .v (.string b)=>bif isStr C.L t then∃z:Int,under s p (0≤n∧ ∃c:UInt8,b[n.toNat]? =some c∧(c.toNat:Int)=z)∧K (.v (.int .u8 z)) s else False
 | .ar m z xs=>match C.L t with
  |some ti=>match ti.k with
   | .arr m' e=>match C.L e with
    |some tj=>bif bQ tj.size 1&&(!tj.agg&&(bQ m m'&&bQ z 1))then∃a,under s p (0≤n∧xs[n.toNat]? =some [a])∧K a s else False
    |none=>False
   |_=>False
  |none=>False
 |a=>Je C p t n a s K
def alD:List Nat→Nat→Nat
 |[],d=>d
 |x::r,d=>bif mM ((d+1)*1000000) x&&sa x ((d+2)*1000000)then x - (d+1)*1000000 else alD r d
def isLen:Op→Bool
 | .call {callee:= .builtin .len,..}=>true
 |_=>false
def CT(I:Pr)(L:nK)(s:St)(p:Path)(o:Op):Option AV:=bif isLen o then none else sB I L s p o
def YD(C:dx)(p:Path)(o:Oper)(s:St)(K:bd):Prop:=
 match o.op with
 | .makeMap t none=>match o.dst,p with
  |some d,[]=>EH C t d s K
  |_,_=>False
 | .insert t m k v=>match p with
  |[]=>I0 C t (bP s p m) (bP s p k) (bP s p v) s K
  |_=>False
 | .lookup t m k false=>IZ C p t (bP s p m) (bP s p k) s K
 | .mapEntry t m k=>match o.dst,p with
  |some d,[]=>Ny C t d (bP s p m) (bP s p k) s K
  |_,_=>False
 | .entryStore _ m st v=>match p with
  |[]=>yW C (bP s p m) (bP s p st) (bP s p v) s K
  |_=>False
 | .binOp .eql t x y _=>Ro C p false t (bP s p x) (bP s p y) s K
 | .binOp .neq t x y _=>Ro C p true t (bP s p x) (bP s p y) s K
 | .pick c a b=>TY C p c a b s K
 | .box _ x=>match o.dst,p with
  |some d,[]=>aeu C d (bP s p x) s K
  |_,_=>False
 | .alloc e=>match o.dst,p with
  |some d,[]=>NG C d e s K
  |_,_=>False
 | .store t x y=>match p with
  |[]=>Ea C t (bP s p x) (bP s p y) s K
  |_=>False
 | .load t x=>bif xa C 2000 o.dst then(match o.dst,p with
   |some d,[]=>TQ C t d (bP s p x) s K
   |_,_=>False)else Nw C p t (bP s p x) s K
 | .indexAddr t x y=>match intOf (bP s p y)with
  |some n=>xIdx C p t n (bP s p x) s K
  |none=>False
 | .index t x y=>match intOf (bP s p y)with
  |some n=>I1 C p t n (bP s p x) s K
  |none=>False
 | .buildSlice t len parts=>match o.dst with
  |some d=>bif Nf (d+3000) C.op then(match p with
   |[]=>I3 C t len d parts.toList s K
   |_=>False)else vZ C p t len (alD C.op d) parts.toList s K
  |none=>False
 | .makeFunc f first cap=>match first.toList with
  |[]=>T0 C p f cap.toList s K
  |l=>match cap.toList with
   |[]=>bif cr (l.map fun x=>rd (bP s p x))then K (.bm f (l.map fun x=>rd (bP s p x))) s else False
   |_=>False
 | .makeSlice t x y=>match o.dst,p,intOf (bP s p x),intOf (bP s p y)with
  |some d,[],some n,some m=>bif xa C 7000 (some d)then Nv C t d n m s K else TP C t d n m s K
  |_,_,_,_=>False
 | .slice t x lo hi mx=>match mx with
  |none=>Nu C p t lo hi (bP s p x) s K
  |some _=>False
 | .call c=>match c.callee with
  | .value f=>wFn (noI C o.dst) p (bP s p f) (c.args.toList.map fun x=>rd (bP s p x)) s K
  | .builtin b=>zZ C p b o.dst c.argTypes.toList (c.args.toList.map (bP s p)) s K
  |_=>False
 |_=>False
def eP(s:St)(d:Nat):Path:=match look d s.c with|some q=>q|none=>[]
def MP:Option Nat→Nat→Bool
 |some e,d=> !bQ e d
 |none,_=>true
def I8(C:dx)(all:List Oper)(o:Oper)(s:St)(K:St→Prop):Prop:=
  match o.guard with
  |none=>
    (match CT C.I C.L s [] o.op with
    |some a=>xn s o.dst=true∧K (s.put [] o.dst a)
    |none=>YD C [] o s (fun a s'=>xn s' o.dst=true∧K (s'.put [] o.dst a)))
  |some (j,b)=>match all[j]? with
   |none=>False
   |some og=>match og.dst with
    |none=>False
    |some d=>bif xn s o.dst&&(isBool (look d s.t)&&MP o.dst d)then
      (match CT C.I C.L s (eP s d++[(d,b)]) o.op with
      |some a=>xn s o.dst=true∧K (s.put (eP s d++[(d,b)]) o.dst a)
      |none=>YD C (eP s d++[(d,b)]) o s (fun a s'=>xn s' o.dst=true∧K (s'.put (eP s d++[(d,b)]) o.dst a)))
     else False
def TV(C:dx)(all:List Oper):List Oper→St→(St→Prop)→Prop
 |[],s,K=>K s
 |o::rest,s,K=>I8 C all o s (fun s'=>TV C all rest s' K)
def EI(C:dx)(all:List Oper):Tree→St→(St→Prop)→Prop
 | .done,s,K=>K s
 | .one i t,s,K=>match all[i]? with
  |some o=>I8 C all o s (fun s'=>EI C all t s' K)
  |none=>False
 | .aj i t u,s,K=>(match all[i]? with
  |some o=>I8 C all o s (fun s'=>EI C all t s' K)
  |none=>False)∧EI C all u s K
 | .nil,_,_=>True
def forget:List (Nat×Path)→List (Nat×AV)→List (Nat×AV)
 |[],t=>t
 |(d,_)::r,t=>forget r (del d t)
def St.clean(s:St):St:={s with t:=forget s.c s.t,c:=[]}
def XR:List Nat→List (Nat×AV)→List (Nat×AV)
 |[],t=>t
 |d::r,t=>XR r (del d t)
def St.Hj(s:St)(l:List Nat):St:={s with t:=XR l s.t}
def wkT(t:List (Nat×AV)):List (Nat×AV)→Prop
 |[]=>True
 |(d,b)::r=>(match look d t with|some a=>P0 a b|none=>P0 .any b)∧wkT t r
def alr:Ob→Ob→Prop
 | .box cs,.box cs'=>wks cs cs'
 | .arr z xs,.arr z' xs'=>z=z'∧xs=xs'
 | .ow p l xs,.ow p' l' xs'=>p=p'∧l=l'∧xs=xs'
 | .lp n t ps nX body st,.lp n' t' YG Yg MV st'=>n=n'∧wkT t t'∧ps=YG∧nX=Yg∧body=MV∧st=st'
 |_,_=>False
def wkU:List Fr→List Fr→Prop
 |[],[]=>True
 |f::r,f'::r'=>(f.n=f'.n∧wkT f.t f'.t)∧wkU r r'
 |_,_=>False
def wkB(t:List (Nat×Ob)):List (Nat×Ob)→Prop
 |[]=>True
 |(d,b)::r=>(match look d t with|some a=>alr a b|none=>False)∧wkB t r
def hasB(b:List (Nat×Ob)):List Nat→Bool
 |[]=>true
 |d::r=>(match look d b with|some _=>true|none=>false)&&hasB b r
def V9(b:List (Nat×Ob)):List (Nat×AV)→Bool
 |[]=>true
 |(_,a)::r=>hasB b (AM a)&&V9 b r
def okB(b:List (Nat×Ob)):List (Nat×Ob)→Bool
 |[]=>true
 |(_,.box cs)::r=>hasB b (kX cs)&&okB b r
 |(_,.arr _ _)::r=>okB b r
 |(_,.ow _ _ _)::r=>okB b r
 |(_,.lp _ t _ _ _ _)::r=>V9 b t&&okB b r
def okU(b:List (Nat×Ob)):List Fr→Bool
 |[]=>true
 |f::r=>V9 b f.t&&okU b r
def Sd(s:St):Bool:=V9 s.b s.t&&(okB s.b s.b&&okU s.b s.up)
def wk(s s':St):Prop:=
 s.n=s'.n∧s.c=[]∧s'.c=[]∧s.g=s'.g∧s.nx=s'.nx∧wkT s.t s'.t∧wkB s.b s'.b∧wkU s.up s'.up∧Sd s'=true∧s.fl=s'.fl
def Lq(ρ:Nat)(l:List Nat)(s:St)(K:St→Prop):Prop:=match kF ρ l s with
 |some s1=> ∃s2,wk s1 s2∧K s2
 |none=>False
def T3{α:Type}:List (Nat×α)→List (Nat×α)→List (Nat×α)
 |[],t=>t
 |(d,x)::r,t=>T3 r (cT d x t)
def rn(s:St)(vu:Option (List Fr))(vt:List (Nat×AV))(vb:List (Nat×Ob))(vg:Nat→Option Ob)(vn:Nat):St:=
 {s with t:=T3 vt s.t,b:=T3 vb s.b,g:=vg,nx:=vn,up:=match vu with|none=>s.up|some u=>u}
def Uu(R:St→Prop)(Q:Ex→St→Prop)(e:Ex)(s:St):Prop:=
 match e with
 | .normal=>R s
 |e=>Q e s
def dL(W:St→(Ex→St→Prop)→Prop)(Q:Ex→St→Prop):Nat→St→Prop
 |0,_=>False
 |n+1,s=>W s (Uu (fun s'=>dL W Q n s'∨ ∃s2,wk s' s2∧dL W Q n s2) Q)
def qD(W:St→(Ex→St→Prop)→Prop)(n:Nat)(s:St)(Q:Ex→St→Prop):Prop:=dL W Q n s∨ ∃s2,wk s s2∧dL W Q n s2
def PY(W:St→(Ex→St→Prop)→Prop)(s:St)(Q:Ex→St→Prop):Prop:= ∃n,qD W n s Q
def aik(b0:List (Nat×Ob))(l:List Nat)(d:Nat):Bool:=match look d b0 with|some _=>true|none=>Nf d l
def adD(b:List (Nat×Ob)):List Nat→List Nat
 |[]=>[]
 |d::r=>(match look d b with|some (.box cs)=>kX cs|_=>[])++adD b r
def reach(b:List (Nat×Ob)):Nat→List Nat→List Nat
 |0,l=>l
 |n+1,l=>match l with
  |[]=>[]
  |l=>l++reach b n (adD b l)
def xL(b0:List (Nat×Ob)):List (Nat×Ob)→List Nat
 |[]=>[]
 |(d,.box cs)::r=>(match look d b0 with|some _=>kX cs|none=>[])++xL b0 r
 |_::r=>xL b0 r
def yH(b0:List (Nat×Ob))(l:List Nat):List (Nat×Ob)→List (Nat×Ob)
 |[]=>[]
 |(d,o)::r=>bif aik b0 l d then(d,o)::yH b0 l r else yH b0 l r
def OI:List Nat→List AV→List (Nat×AV)→List (Nat×AV)
 |p::ps,a::aa,t=>OI ps aa (cT p a t)
 |_,_,t=>t
def MY(n:Nat):List Nat→Bool
 |[]=>true
 |p::r=>sa p n&&MY n r
def FR{α β:Type}:List α→List β→Bool
 |[],[]=>true
 |_::r,_::q=>FR r q
 |_,_=>false
def aaT:Ex→LS
 | .normal=> .rdy
 |e=> .dn e
def aih:Ex→Bool
 | .normal=>true
 |_=>false
def NY(kd l:Nat)(b0:List (Nat×Ob))(K:bd)(e:Ex)(s:St):Prop:=
 match s.up,look kd s.b with
 |f::u,some (.lp n t ps nX body .busy)=>
  n.1=l∧(fun s'=>(bif Sd s' then K (.v (.bool (aih e))) s' else False))
   {n:=f.n,t:=f.t,c:=[],g:=s.g,nx:=s.nx,up:=u,fl:=s.fl,b:=yH b0 (reach s.b 4 (xL b0 s.b)) (cT kd (.lp n t ps nX body (aaT e)) s.b)}
 |_,_=>False
def I6(kd:Nat)(ps:List Nat)(nX body:Unit→Code)(Wa Wb:St→(Ex→St→Prop)→Prop)(args:List AV)(s:St)(K:bd):Prop:=
 match look kd s.b with
 |some (.lp n t YG Yg MV .rdy)=>(YG=ps∧Yg=nX∧MV=body)∧
   (bif FR ps args&&MY n.2 ps&&cr args then
    Wa {s with n:=n.2,t:=OI ps args t,c:=[],up:={n:=s.n,t:=s.clean.t}::s.up} (fun e s4=>match e with
     | .normal=>(match look kd s4.b with
      |some (.lp n4 t ps nX body .rdy)=>n4.1=n.1∧Wb {s4 with b:=cT kd (.lp n4 t ps nX body .busy) s4.b} (NY kd n.1 s.b K)
      |_=>False)
     |_=>False)
   else False)
 |_=>False
def adm(kd l:Nat)(Q:Ex→St→Prop)(s:St):Prop:=
 match look kd s.b with
 |some (.lp n _ _ _ _ st)=>n.1=l∧(fun s'=>(bif Sd s' then(match st with| .rdy=>Q .normal s'| .dn e=>Q e s'|_=>False)else False)) {s.clean with b:=del kd s.b}
 |_=>False
def adj(W:St→(St→Prop)→Prop)(s:St)(Q:St→Prop):Prop:= ∃s',W s (fun s1=>s1=s'∨wk s1.clean s')∧ ∃s2,s'.clean=s2∧Q s2
def qA(C:dx):Code→St→(Ex→St→Prop)→Prop
 | .skip,s,Q=>Q .normal s
 | .label _,s,Q=>Q .normal s
 | .region id ops false,s,Q=>TV C ops.toList ops.toList s (fun s'=>bif Nf (id+5000) C.op then Lq C.ρ (IH C.op s'.b) (s'.clean.Hj (C.dead id)) (fun s2=>Q .normal s2)else Q .normal (s'.clean.Hj (C.dead id)))
 | .region id ops true,s,Q=>adj (fun s K=>EI C ops.toList (C.tree id) s K) s (fun s'=>bif Nf (id+5000) C.op then Lq C.ρ (IH C.op s'.b) (s'.Hj (C.dead id)) (fun s2=>Q .normal s2)else Q .normal (s'.Hj (C.dead id)))
 | .seq a b,s,Q=>qA C a s (fun e s'=>match e with| .normal=>qA C b s' Q|e=>Q e s')
 | .cond c a b,s,Q=>match bP s [] c with
  | .v (.bool x)=>(x=true→qA C a s Q)∧(x=false→qA C b s Q)
  |_=>False
 | .block id a,s,Q=>qA C a s (fun e s'=>match e with| .exit k=>(bif bQ k id then Q .normal s' else Q (.exit k) s')|e=>Q e s')
 | .loop a,s,Q=>PY (fun s Q=>qA C a s Q) s Q
 | .exit id,s,Q=>Q (.exit id) s
 | .ret,s,Q=>Q .ret s
 | .scope a,s,Q=>qA C a s Q
 | .rangeFunc g ps nX body,s,Q=>match bP s [] g,look (C.base+999) s.b with
  | .fn (.func k) cap,none=> ∀l:Nat,C.B8 (fun d args s2 K2=>bif bQ d (C.base+999)
    then I6 (C.base+999) ps.toList (fun _=>nX) (fun _=>body) (fun s Q=>qA C nX s Q) (fun s Q=>qA C body s Q) args s2 K2 else C.yl d args s2 K2)
    k (.nM (.s (C.base+999))::cap) {s.clean with b:=cT (C.base+999) (.lp (l,s.n) s.clean.t ps.toList (fun _=>nX) (fun _=>body) .rdy) s.b} (fun _ s2=>adm (C.base+999) l Q s2)
  |_,_=>False
 |_,_,_=>False
end Ab
namespace Ab
open Go
theorem zh{a b:Nat}(h:a≠b):bQ a b=false:=by
 cases hb:bQ a b with
 |false=>rfl
 |true=>exact absurd (cY hb) h
theorem eE(a:Nat):bQ a a=true:=XM a
theorem aC{α:Type}(d k:Nat)(x:α)(r:List (Nat×α)):look d ((k,x)::r)=if k=d then some x else look d r:=by
 simp only[look];by_cases h:k=d
 ·subst h;simp
 ·rw[zh h,if_neg h];rfl
theorem aF{α:Type}(d e:Nat)(x:α): ∀t,look d (cT e x t)=if e=d then some x else look d t
 |[]=>by simp[cT,aC,look]
 |(k,y)::r=>by
  simp only[cT];by_cases h1:k=e
  ·subst h1;rw[eE,aE,aC,aC];split<;>rfl
  ·rw[zh h1,aM];cases h2:sa e k with
   |true=>rw[aE,aC]
   |false=>
    rw[aM,aC,aC,aF d e x r];by_cases h3:k=d
    ·rw[if_pos h3,if_pos h3,if_neg];omega
    ·rw[if_neg h3,if_neg h3]
theorem bR{α:Type}(d:Nat)(x:α)(t:List (Nat×α)):look d (cT d x t)=some x:=by rw[aF,if_pos rfl]
theorem wO{α:Type}{d e:Nat}(x:α)(h:d≠e)(t:List (Nat×α)):look d (cT e x t)=look d t:=by rw[aF,if_neg (Ne.symm h)]
theorem gp{α:Type}(d e:Nat): ∀(t:List (Nat×α)),look d (del e t)=if e=d then none else look d t
 |[]=>by simp[del,look]
 |(k,y)::r=>by
  simp only[del];by_cases h1:k=e
  ·subst h1;rw[eE,aE,gp d k r,aC];split<;>rfl
  ·rw[zh h1,aM,aC,aC,gp d e r];by_cases h3:k=d
   ·rw[if_pos h3,if_pos h3,if_neg];omega
   ·rw[if_neg h3,if_neg h3]
theorem Mg{α:Type}{d e:Nat}(h:e≠d)(t:List (Nat×α)):look e (del d t)=look e t:=by rw[gp,if_neg (Ne.symm h)]
structure akn(P:Program)(t:Nat)(ti:TI):Prop where
 ex: ∃i d z,P.info? t=some i∧i.size=ti.size∧i.bytes=ti.bytes∧i.zero=some z∧z.cells.toList=ti.zero∧P.underlying t=some d∧
  (match ti.k with
   | .slice e=>d= .slice e
   | .dj fs=> ∃F:Array Field,d= .struct F∧F.size=fs.length∧ ∀(j o z:Nat),fs[j]? =some (o,z)→ ∃f i',F[j]? =some f∧f.offset=o∧P.info? f.type=some i'∧i'.size=z
   | .arr n e=>d= .array n e
   | .map k e=>d= .map k e
   | .int k=>d= .int k
   | .bool=>d= .bool
   | .str=>d= .string
   | .sc=>(match d with| .struct _=>False| .array _ _=>False|_=>True))
 KV:ti.zero.length=ti.size
 aqG: ∀x∈ti.zero,sy x=true
 zv:ti.agg=false→ ∀i z,P.info? t=some i→i.zero=some z→sy z=true
 fts: ∀F,P.underlying t=some (.struct F)→ ∀(j t':Nat),ti.ft[j]? =some t'→ ∃f:Field,F[j]? =some f∧f.type=t'
structure bj(P:Program)(L:nK):Prop where
 ok: ∀t ti,L t=some ti→akn P t ti
def zC:Ex→Option Code
 | .normal=>none
 | .exit k=>some (.exit k)
 | .ret=>some .ret
def akq:LS→LoopState→Option Code→Prop
 | .rdy,s,p=>s= .ready∧p=none
 | .busy,s,_=>s= .busy
 | .dn e,s,p=>s= .done∧p=zC e∧p≠none
 | .exh,s,_=>s= .exhausted
def sw(E:Env)(t:Tok)(r:Nat)(ys:List (List AV))(v:Value):Prop:=
 (ys=[]∧v= .slice none 0 0)∨ ∃z b c e cells,v= .slice (some ⟨b,0,none⟩) ys.length c∧ys.length≤c∧c≤maxLen∧(ys.length=0→c=0)∧0<z∧(∀l∈ys,l.length=z)∧E.dN b=r∧
  E.h[b]? =some (.cells cells e (0,0))∧cells.size=c*z∧E.own b= .tok t∧ ∀o,E.aI b o↔o<ys.length*z
def GH:Value→Option Nat
 | .slice (some a) _ _=>some a.block
 |_=>none
def Key.tok:Key→Tok
 | .s d=> .n d
 | .o d=> .n d
 | .r d _=> .n d
def Key.row:Key→Nat→Key
 | .s d,i=> .r d i
 | .o d,_=> .o d
 | .r d i,_=> .r d i
def O1(z:Nat):Option (Nat×Nat)→Nat→Prop
 |some (i,off),q=>q=i*z+off
 |none,_=>False
def Hs(E:Env)(t:Tok)(z:Nat)(rD:Option (Nat×Nat))(xs:List (List AV))(u:Nat→Value):Prop:=
 (∀(q r:Nat) (ys:List (List AV)),xs.flatten[q]? =some (.sl r ys)→ ¬O1 z rD q→sw E t r ys (u q))∧
 ∀(q q' r r':Nat) (ys BA:List (List AV)) (b:Nat),xs.flatten[q]? =some (.sl r ys)→xs.flatten[q']? =some (.sl r' BA)→ ¬O1 z rD q→ ¬O1 z rD q'→q≠q'→GH (u q)=some b→GH (u q')≠some b
def bE:List VK→List Value→Bool
 |[],[]=>true
 | .int k::r,.int k' _::q=>(k==k')&&bE r q
 | .str::r,.string _::q=>bE r q
 | .bool::r,.bool _::q=>bE r q
 |_,_=>false
def gE:List Value→Value
 |[x]=>x
 |l=> .agg l.toArray
theorem Key.Ur(k:Key)(i d:Nat):k.row i≠ .s d:=by cases k<;>exact fun h=>by cases h
def M6(E:Env)(k:Key)(i z:Nat):List (List AV)→Value→Prop
 |[],x=> ∃A cp,x= .slice A 0 cp
 |a::r,x=>E.live (k.row i)∧E.len (k.row i)=(r.length+1,r.length+1)∧r.length+1≤maxLen∧x= .slice (some ⟨E.m (k.row i),0,none⟩) (r.length+1) (r.length+1)∧E.own (E.m (k.row i))= .tok k.tok∧(∀o,¬E.aI (E.m (k.row i)) o)∧
   ∃c e,E.h[E.m (k.row i)]? =some (.cells c e (0,0))∧c.size=(r.length+1)*z∧(∀l∈a::r,l.length=z)∧ ∀(q:Nat) (b:AV),(a::r).flatten[q]? =some b→ ∃y,b= .v y∧c[q]? =some y
def sS(E:Env)(k:Key)(p:Yo)(len:Nat×Nat)(ob:Option Obj)(xs:List (List AV))(u:Nat→Value):Prop:=
 match p with
 | .g2 z ys=>xs=[]∧0<z∧ys.length=len.1∧len.1=len.2∧len.2≤maxLen∧(∃c e,ob=some (.cells c e (0,0))∧c.size=len.2∧ ∀(i:Nat) (row:List (List AV)),ys[i]? =some row→ ∃x,c[i]? =some x∧M6 E k i z row x)∧
   ∀(i i':Nat) (a a':List AV) (r r':List (List AV)),ys[i]? =some (a::r)→ys[i']? =some (a'::r')→E.m (k.row i)=E.m (k.row i')→i=i'
 | .sl z=>0<z∧(∀l∈xs,l.length=z)∧xs.length=len.1∧len.1≤len.2∧len.2≤maxLen∧ ∃c e,ob=some (.cells c e (0,0))∧c.size=len.2*z∧ ∀(q:Nat) (a:AV),xs.flatten[q]? =some a→c[q]? =some (u q)
 | .mp ks st=>(∀l∈xs,l.length=ks.length+1)∧ ∃es clock,ob=some (.map es clock)∧(∀i z,st=some (i,z)→ ∃e,es[i]? =some e∧(e.born:Int)=z)∧es.size=xs.length∧(∀(i:Nat) (e:MapEntry),es[i]? =some e→e.born<clock)∧
   (∀(i j:Nat) (e e':MapEntry),es[i]? =some e→es[j]? =some e'→e.born=e'.born→i=j)∧
   ∀(i:Nat) (row:List AV) (e:MapEntry),xs[i]? =some row→es[i]? =some e→ ∃kv:List Value,bE ks kv=true∧row.take ks.length=kv.map .v∧e.key=gE kv∧u (i*(ks.length+1)+ks.length)=e.val∧ ∀j x,kv[j]? =some x→u (i*(ks.length+1)+j)=x
def bM(E:Env)(k:Key):Ob→Prop
 | .box cs=>E.live k∧ ∃c e,E.h[E.m k]? =some (.cells c e (0,0))∧E.own (E.m k)= .key k∧(∀o,¬E.aI (E.m k) o)∧c.size=cs.length∧
   ∀(q:Nat) (a:AV) (x:Value),cs[q]? =some a→c[q]? =some x→Cz E a x
 | .arr z xs=>E.live k∧E.len k=(xs.length,xs.length)∧0<z∧(∀l∈xs,l.length=z)∧xs.length≤maxLen∧ ∃c e,E.h[E.m k]? =some (.cells c e (0,0))∧E.own (E.m k)= .key k∧(∀o,¬E.aI (E.m k) o)∧c.size=xs.length*z∧
   (∀(q:Nat) (a:AV),xs.flatten[q]? =some a→bX a=true)∧ ∀(q:Nat) (a:AV) (x:Value),xs.flatten[q]? =some a→c[q]? =some x→Cz E a x
 | .ow p rD xs=>E.live k∧E.own (E.m k)= .key k∧(∀o,¬E.aI (E.m k) o)∧(∀(q:Nat) (a:AV),xs.flatten[q]? =some a→bX a=true)∧ ∃u:Nat→Value,sS E k p (E.len k) E.h[E.m k]? xs u∧
   (∀(q:Nat) (a:AV),xs.flatten[q]? =some a→Cz E a (u q))∧Hs E k.tok p.z rD xs u
 | .lp n t ps nX body st=>E.live k∧E.own (E.m k)= .key k∧(∀o,¬E.aI (E.m k) o)∧ ∃rec:Loop,E.h[E.m k]? =some (.loop rec)∧rec.tmps.size=n.2∧rec.params.toList=ps∧rec.assign=nX ()∧rec.body=body ()∧akq st rec.state rec.pending∧E.m k=n.1∧
   ∀d x,look d t=some x→Cz E x (rec.tmps.getD d undef)
def avZ(E:Env)(a:Act)(f:Fr):Prop:=a.tmps.size=f.n∧ ∀d x,look d f.t=some x→Cz E x (a.tmps.getD d undef)
def jP(E:Env):List Act→List Fr→Prop
 |[],[]=>True
 |a::aa,f::fs=>avZ E a f∧jP E aa fs
 |_,_=>False
def Dfs(n0:Nat)(E:Env)(l:List Deferred):Prop:=
 ∃Bs:List Nat,l=Bs.map (fun B=>{target:= .collected B,args:= #[]})∧Bs.Nodup∧ ∀B∈Bs,E.h[B]? =some (.deferred (some []))∧E.own B= .kM∧n0≤B
def PJ(a:Act)(up:List Act):List Deferred:=a.defers++(up.map (·.defers)).flatten
def jk(w0 w:World):Prop:=w.os=w0.os∧w.tape=w0.tape∧w.output=w0.output
theorem jk.refl(w:World):jk w w:=⟨rfl,rfl,rfl⟩
theorem jk.trans{a b c:World}(h:jk a b)(k:jk b c):jk a c:=⟨k.1.trans h.1,k.2.1.trans h.2.1,k.2.2.trans h.2.2⟩
def du(o:Own):Prop:=o.du=true
def GOk(g:Nat→Option Ob):Prop:= ∀i ob,g i=some ob→match ob with
 | .box cs=> ∀(q:Nat) (a:AV),cs[q]? =some a→bX a=true
 | .arr _ _=>True
 | .ow .. =>False
 | .lp .. =>False
theorem sw.mono{E E':Env}{t:Tok}{r:Nat}{ys:List (List AV)}{v:Value}(h:sw E t r ys v)(hn: ∀b,E.own b= .tok t→b<E.h.size→E'.own b= .tok t∧E'.h[b]? =E.h[b]? ∧(∀o,E'.aI b o↔E.aI b o)∧E'.dN b=E.dN b):sw E' t r ys v:=by
 rcases h with h|⟨z,b,c,e,cells,h1,h2,h3,h4,h5,h6,h7,h8,h9,By,Kg⟩
 ·exact .inl h
 ·obtain⟨k1,k2,k3,k4⟩:=hn b By (Array.getElem?_eq_some_iff.1 h8).1;exact .inr ⟨z,b,c,e,cells,h1,h2,h3,h4,h5,h6,k4.trans h7,k2.trans h8,h9,k1,fun o=>(k3 o).trans (Kg o)⟩
theorem Hs.mono{E E':Env}{t:Tok}{z:Nat}{rD:Option (Nat×Nat)}{xs:List (List AV)}{u:Nat→Value}(h:Hs E t z rD xs u)(hn: ∀b,E.own b= .tok t→b<E.h.size→E'.own b= .tok t∧E'.h[b]? =E.h[b]? ∧(∀o,E'.aI b o↔E.aI b o)∧E'.dN b=E.dN b):Hs E' t z rD xs u:=
 ⟨fun q r ys hq hl=>(h.1 q r ys hq hl).mono hn,h.2⟩
theorem M6.move{E E':Env}{k:Key}{i z:Nat}{row:List (List AV)}{x:Value}(hr:E.live (k.row i)→E'.live (k.row i)∧E'.m (k.row i)=E.m (k.row i)∧E'.len (k.row i)=E.len (k.row i))
  (hn: ∀b,E.own b= .tok k.tok→b<E.h.size→(∀o,¬E.aI b o)→E'.own b= .tok k.tok∧E'.h[b]? =E.h[b]? ∧ ∀o,¬E'.aI b o)(h:M6 E k i z row x):M6 E' k i z row x:=by
 cases row with
 |nil=>exact h
 |cons a r=>
  obtain⟨h1,h2,h3,h4,h5,h6,c,e,h7,h8,h9⟩:=h;obtain⟨k1,k2,k3⟩:=hr h1;obtain⟨g1,g2,g3⟩:=hn _ h5 (Array.getElem?_eq_some_iff.1 h7).1 h6;exact⟨k1,k3.trans h2,h3,by rw[k2];exact h4,by rw[k2];exact g1,fun o=>by rw[k2];exact g3 o,c,e,by rw[k2,g2];exact h7,h8,h9⟩
theorem sS.adB{E E':Env}{k:Key}{p:Yo}{len:Nat×Nat}{ob:Option Obj}{xs:List (List AV)}{u:Nat→Value}(hr: ∀i,E.live (k.row i)→E'.live (k.row i)∧E'.m (k.row i)=E.m (k.row i)∧E'.len (k.row i)=E.len (k.row i))
  (hn: ∀b,E.own b= .tok k.tok→b<E.h.size→(∀o,¬E.aI b o)→E'.own b= .tok k.tok∧E'.h[b]? =E.h[b]? ∧ ∀o,¬E'.aI b o)(h:sS E k p len ob xs u):sS E' k p len ob xs u:=by
 cases p with
 |sl z=>exact h
 |mp ks st=>exact h
 |g2 z ys=>
  obtain⟨h0,hz,h1,h2,h3,⟨c,e,h4,h5,h6⟩,h7⟩:=h;refine⟨h0,hz,h1,h2,h3,⟨c,e,h4,h5,fun i row hi=>?_⟩,fun i i' a a' r r' hi Cb he=>?_⟩
  ·obtain⟨x,g1,g2⟩:=h6 i row hi;exact⟨x,g1,g2.move (hr i) hn⟩
  ·obtain⟨x,_,g2⟩:=h6 i _ hi;obtain⟨x',_,g2'⟩:=h6 i' _ Cb;exact h7 i i' a a' r r' hi Cb (by rw[←(hr i g2.1).2.1,←(hr i' g2'.1).2.1];exact he)
theorem sS.move{E E':Env}{k:Key}{p:Yo}{len:Nat×Nat}{ob:Option Obj}{xs:List (List AV)}{u:Nat→Value}(hr: ∀i,E.live (k.row i)→E'.live (k.row i)∧E'.m (k.row i)=E.m (k.row i)∧E'.len (k.row i)=E.len (k.row i))
  (hn: ∀b,E.own b= .tok k.tok→b<E.h.size→E'.own b= .tok k.tok∧E'.h[b]? =E.h[b]? ∧(∀o,E'.aI b o↔E.aI b o)∧E'.dN b=E.dN b)(h:sS E k p len ob xs u):sS E' k p len ob xs u:=
 h.adB hr fun b ho hb hs=>⟨(hn b ho hb).1,(hn b ho hb).2.1,fun o hh=>hs o (((hn b ho hb).2.2.1 o).1 hh)⟩
theorem sS.env{E E':Env}{k k':Key}{p:Yo}{len:Nat×Nat}{ob:Option Obj}{xs:List (List AV)}{u:Nat→Value}(h:sS E k p len ob xs u){q r:Nat}{ys:List (List AV)}(hq:xs.flatten[q]? =some (.sl r ys)):sS E' k' p len ob xs u:=by
 cases p with
 |sl z=>exact h
 |mp ks st=>exact h
 |g2 z ys=>rw[h.1]at hq;simp at hq
theorem xH{E E':Env}{k:Key}{p:Yo}{rD:Option (Nat×Nat)}{xs:List (List AV)}(hr: ∀i,E.live (k.row i)→E'.live (k.row i)∧E'.m (k.row i)=E.m (k.row i)∧E'.len (k.row i)=E.len (k.row i))(hl:E.live k→E'.live k)(hm:E'.m k=E.m k)(nQ:E'.len k=E.len k)(ho:E.own (E.m k)= .key k→E'.own (E.m k)= .key k∧E'.h[E.m k]? =E.h[E.m k]? ∧ ∀o,E'.aI (E.m k) o→E.aI (E.m k) o)
  (hc: ∀(a:AV) (x:Value),bX a=true→Cz E a x→Cz E' a x)(hn: ∀b,E.own b= .tok k.tok→b<E.h.size→E'.own b= .tok k.tok∧E'.h[b]? =E.h[b]? ∧(∀o,E'.aI b o↔E.aI b o)∧E'.dN b=E.dN b)(h:bM E k (.ow p rD xs)):bM E' k (.ow p rD xs):=by
 obtain⟨h1,h2,h3,h4,u,h5,h6,h7⟩:=h;obtain⟨k1,k2,k3⟩:=ho h2;exact⟨hl h1,by rw[hm];exact k1,fun o=>by rw[hm];exact fun hh=>h3 o (k3 o hh),h4,u,by rw[hm,nQ,k2];exact h5.move hr hn,fun q a ha=>hc a _ (h4 q a ha) (h6 q a ha),h7.mono hn⟩
structure bq(E0 E:Env)(w0 w:World)(s:St)(a:Act):Prop where
 heap:w.heap=E.h
 wf:Wf E
 Kp:Dfs E0.h.size E (PJ a E0.up)
 up:jP E E0.up s.up
 sz:a.tmps.size=s.n
 tm: ∀d x,look d s.t=some x→bc s (eP s d)→Cz E x (a.tmps.getD d undef)
 cu: ∀d q,look d s.c=some q→ ¬bc s q→a.tmps.getD d undef=undef
 bx: ∀d ob,look d s.b=some ob→bM E (.s d) ob
 lv: ∀d,E.live (.s d)→ ∃ob,look d s.b=some ob
 gx: ∀i ob,s.g i=some ob→bM E (.o i) ob
 gl: ∀i,E.live (.o i)↔i<s.nx
 ext:Ext du E0 E
 wI: ∀b,b<E0.h.size→(E.own b).loc=false
 same:jk w0 w
 gk:GOk s.g
 nl: ∀k,k.loc=true→ ¬E0.live k
 ng: ∀b,¬du (E.own b)
 lo:s.fl=true→ ∀b,¬du (E0.own b)∧ ∀o,E0.aI b o→E0.dN b<1000000
theorem CU{s:St}: ∀{q p:Path},uC q p=true→bc s p→bc s q
 |[],_,_,_=>trivial
 |(d,w)::r,[],h,_=>by simp[uC]at h
 |(d,w)::r,(e,v)::p,h,hp=>by
  simp only[uC,Bool.and_eq_true]at h;have h1:d=e:=cY h.1.1
  have h2:w=v:=by simpa using h.1.2
  subst h1;subst h2;exact⟨hp.1,CU h.2 hp.2⟩
theorem bq.slot{E0 E:Env}{w0 w:World}{s:St}{a:Act}(h:bq E0 E w0 w s a){p:Path}(hp:bc s p)(d:Nat):Cz E (Fk s p d) (a.tmps.getD d undef):=by
 unfold Fk;cases h1:look d s.t with
 |none=>exact .any _
 |some x=>
  have ht:=h.tm d x h1
  unfold eP at ht;cases h2:look d s.c with
  |none=>rw[h2]at ht;exact ht trivial
  |some q=>
   rw[h2]at ht;dsimp only;by_cases h3:uC q p=true
   ·rw[h3];exact ht (CU h3 hp)
   ·simp only[h3,aM];exact .any _
theorem bq.ev{E0 E:Env}{w0 w:World}{s:St}{a:Act}(h:bq E0 E w0 w s a){p:Path}(hp:bc s p)(x:Operand):Cz E (bP s p x) (a.eval x):=by
 cases x with
 |tmp d=>exact h.slot hp d
 |const x=>exact .v _
 |global g=>exact .any _
 |func f=>exact .fn _ [] [] rfl (fun q a y h _=>by simp at h)
theorem j7{s s':St}: ∀{p:Path},(∀d,J8 d p=true→look d s'.t=look d s.t)→(bc s' p↔bc s p)
 |[],_=>Iff.rfl
 |(d,w)::r,h=>by
  simp only[bc];rw[h d (by simp[J8]),j7 (p:=r) (fun e he=>h e (by simp[J8,he]))]
theorem AP{c:List (Nat×Path)}{d e:Nat}{q:Path}(h:look d c=some q)(he:J8 e q=true):SD e c=true:=by
 induction c with
 |nil=>simp[look]at h
 |cons x r ih=>
  obtain⟨k,y⟩:=x;rw[aC]at h;by_cases h1:k=d
  ·rw[if_pos h1]at h;cases h;simp[SD,he]
  ·rw[if_neg h1]at h;simp[SD,ih h]
theorem wa(a:Act)(d e:Nat)(x:Value)(hd:d<a.tmps.size):(a.put (some d) x).tmps.getD e undef=if e=d then x else a.tmps.getD e undef:=by
 simp only[Act.put,Array.getD_eq_getD_getElem?];by_cases h:e=d
 ·subst h;simp[hd]
 ·rw[if_neg h,Array.getElem?_setIfInBounds_ne (Ne.symm h)]
theorem bq.put{E0 E:Env}{w0 w:World}{s:St}{a:Act}(h:bq E0 E w0 w s a){p:Path}{dst:Option Nat}(hd:xn s dst=true)(wU: ∀d,dst=some d→J8 d p=false){r:AV}{x:Value}
  (hx:(bc s p∧Cz E r x)∨(¬bc s p∧x=undef)):bq E0 E w0 w (s.put p dst r) (a.put dst x):=by
 cases dst with
 |none=>exact h
 |some d=>
  simp only[xn,Bool.and_eq_true,Bool.not_eq_true']at hd;have hd1:d<s.n:=by simpa using hd.1
  have hdn:d<a.tmps.size:=by rw[h.sz];exact hd1
  have Bu: ∀e q,look e s.c=some q→J8 d q=false:=fun e q hq=>by
   by_cases hh:J8 d q=true
   ·rw[AP hq hh]at hd;exact absurd hd.2 (by simp)
   ·simpa using hh
  have Il: ∀q:Path,J8 d q=false→(bc (s.put p (some d) r) q↔bc s q):=fun q hq=>
   j7 fun e he=>by
    have:e≠d:=fun hh=>by subst hh;rw[he]at hq;cases hq
    exact wO r this _
  have hp:=Il p (wU d rfl)
  have hc: ∀e,e≠d→look e (s.put p (some d) r).c=look e s.c:=fun e he=>by
   cases p with
   |nil=>exact Mg he _
   |cons _ _=>exact wO _ he _
  have hlp: ∀e,e≠d→eP (s.put p (some d) r) e=eP s e:=fun e he=>by unfold eP;rw[hc e he]
  have abl: ∀e,J8 d (eP s e)=false:=fun e=>by
   unfold eP;cases h2:look e s.c with
   |none=>rfl
   |some q=>exact Bu e q h2
  refine⟨h.heap,h.wf,h.Kp,h.up,by simp[Act.put,St.put,h.sz],?_,?_,h.bx,h.lv,h.gx,h.gl,h.ext,h.wI,h.same,h.gk,h.nl,h.ng,h.lo⟩
  ·intro e y he hpe;rw[wa a d e x hdn];by_cases Ph:e=d
   ·subst Ph;rw[if_pos rfl];have:look e (cT e r s.t)=some r:=bR e r s.t
    have nR:look e (cT e r s.t)=some y:=he
    rw[this]at nR;cases nR;rcases hx with hx|hx
    ·exact hx.2
    ·exfalso;cases p with
     |nil=>exact hx.1 trivial
     |cons p0 pr=>
      have:eP (s.put (p0::pr) (some e) r) e=p0::pr:=by unfold eP;rw[show look e (s.put (p0::pr) (some e) r).c=some (p0::pr)from bR e _ _]
      rw[this]at hpe;exact hx.1 (hp.1 hpe)
   ·rw[if_neg Ph];rw[hlp e Ph]at hpe;exact h.tm e y (by rw[←wO r Ph s.t];exact he) ((Il _ (abl e)).1 hpe)
  ·intro e q he hpe;rw[wa a d e x hdn];by_cases Ph:e=d
   ·subst Ph;rw[if_pos rfl];cases p with
    |nil=>
     have:look e (del e s.c)=none:=by rw[gp,if_pos rfl]
     have nR:look e (del e s.c)=some q:=he
     rw[this]at nR;cases nR
    |cons p0 pr=>
     have:look e (s.put (p0::pr) (some e) r).c=some (p0::pr):=bR e _ _
     rw[this]at he;cases he;rcases hx with hx|hx
     ·exact absurd (hp.2 hx.1) hpe
     ·exact hx.2
   ·rw[if_neg Ph];rw[hc e Ph]at he;exact h.cu e q he (fun hh=>hpe ((Il q (Bu e q he)).2 hh))
end Ab
namespace Ab
open Go
variable{P:Program}{L:nK}{E0 E:Env}{w0 w:World}{s:St}{a:Act}{p:Path}
theorem eV{t:Nat}{d:TypeDesc}(h:P.underlying t=some d)(w:World):(underlying t).run P w= .ok d w:=by simp[underlying,go_sem,h]
theorem j0{t:Nat}{i:TypeInfo}(h:P.info? t=some i)(w:World):(Go.sizeOf t).run P w= .ok i.size w:=by simp[Go.sizeOf,typeInfo,go_sem,h]
theorem ew(b o k:Nat):(⟨b,o,none⟩:Addr).add k=⟨b,o+k,none⟩:=by unfold Addr.add;split<;>simp_all
theorem mr(hL:bj P L){t f o:Nat}(hf:ik L t f=some o)(b q:Nat)(w:World):(Instr.fieldAt t (.pointer (some ⟨b,q,none⟩)) f).run P w= .ok (.pointer (some ⟨b,q+o,none⟩)) w:=by
 unfold ik at hf;cases ht:L t with
 |none=>simp[ht]at hf
 |some ti=>
  obtain⟨k,size,bytes,zero⟩:=ti;rw[ht]at hf;cases k with
  |dj fs=>
   obtain⟨i,d,z,h1,h2,h3,h4,h5,h6,F,h7,h8,h9⟩:=(hL.ok t _ ht).ex;dsimp only at hf;cases hfs:fs[f]? with
   |none=>simp[hfs]at hf
   |some oz=>
    obtain⟨o',z'⟩:=oz;rw[hfs]at hf;dsimp only at hf;by_cases hz:z'=0
    ·subst hz;simp at hf
    ·rw[zh hz]at hf;simp only[aM,Option.some.injEq]at hf;subst hf;obtain⟨fd,i',g1,g2,g3,g4⟩:=h9 f o' z' hfs;subst h7;simp[Instr.fieldAt,fieldPlace,underlying,Go.sizeOf,typeInfo,Instr.sureAddr,go_sem,h6,g1,g3,g4,hz,g2,ew]
  |_=>simp at hf
theorem run_loadCells(P:Program)(w:World)(b o:Nat): ∀(n i:Nat) (acc:Array Value) (ys:List Value),ys.length=n→(∀(q:Nat) (y:Value),ys[q]? =some y→aO w.heap b (o+i+q)=some y)→
  (loadCellsFrom ⟨b,o,none⟩ i n acc).run P w= .ok (acc++ys.toArray) w
 |0,i,acc,ys,hl,h=>by
  have:ys=[]:=List.eq_nil_of_length_eq_zero hl
  subst this;simp[loadCellsFrom,go_sem]
 |n+1,i,acc,ys,hl,h=>by
  cases ys with
  |nil=>simp at hl
  |cons y r=>
   have h0:w.cell? ⟨b,o+i,none⟩=some y:=by rw[kq];simpa using h 0 y (by simp)
   have ih:=run_loadCells P w b o n (i+1) (acc.push y) r (by simpa using hl) (fun q z hz=>by have:=h (q+1) z (by simpa using hz);rw[show o+(i+1)+q=o+i+(q+1)from by omega];exact this)
   unfold loadCellsFrom;simp only[ew];rw[show((do let v←load ⟨b,o+i,none⟩;loadCellsFrom ⟨b,o,none⟩ (i+1) n (acc.push v)):Sem (Array Value)).run P w=(loadCellsFrom ⟨b,o,none⟩ (i+1) n (acc.push y)).run P w from by simp[go_sem,load,h0,Sem.run,Result.andThen]];rw[ih];simp
theorem gU(hL:bj P L){t:Nat}{ti:TI}(ht:L t=some ti){cs:List AV}{off b o:Nat}{r:AV}(ig:part ti cs off=some r)
  (Ir: ∀(q:Nat) (a:AV),cs[q]? =some a→ ∃y,aO w.heap b (o+q)=some y∧Cz E a y):
  ∃x,(Instr.loadAt t (.pointer (some ⟨b,o+off,none⟩))).run P w= .ok x w∧Cz E r x:=by
 obtain⟨i,d,z,h1,h2,h3,h4,h5,h6,h7⟩:=(hL.ok t _ ht).ex;unfold part at ig;cases hle:mM (off+ti.size) cs.length with
 |false=>simp[hle]at ig
 |true=>
  have aiF:off+ti.size≤cs.length:=by simpa using hle
  rw[hle,aE]at ig;cases tM:ti.agg with
  |true=>
   rw[tM,aE]at ig;cases ig;have hex: ∀n,n≤ti.size→ ∃ys:List Value,ys.length=n∧(∀(q:Nat) (y:Value),ys[q]? =some y→aO w.heap b (o+off+q)=some y)∧ ∀(q:Nat) (a:AV) (y:Value),(cut cs off ti.size)[q]? =some a→ys[q]? =some y→Cz E a y:=by
    intro n
    induction n with
    |zero=>intro _;exact⟨[],rfl,fun q y h=>by simp at h,fun q a y _ h=>by simp at h⟩
    |succ n ih=>
     intro hn;obtain⟨ys,hl,hc,hz⟩:=ih (by omega);obtain⟨y,zw,hy2⟩:=Ir (off+n) (cs[off+n]'(by omega)) (by simp);refine⟨ys++[y],by simp[hl],fun q y' hq=>?_,fun q a' y' ha hq=>?_⟩
     ·by_cases aV:q<n
      ·exact hc q y' (by rw[iq (by omega)]at hq;exact hq)
      ·have:q=n:=by
        have:=(bh.1 hq).1
        simp at this;omega
       subst this;rw[ji (by omega)]at hq;simp[hl]at hq;subst hq;rw[Nat.add_assoc];exact zw
     ·by_cases aV:q<n
      ·exact hz q a' y' ha (by rw[iq (by omega)]at hq;exact hq)
      ·have:q=n:=by
        have:=(bh.1 hq).1
        simp at this;omega
       subst this;rw[ji (by omega)]at hq;simp[hl]at hq;subst hq;simp only[cut,List.getElem?_take,List.getElem?_drop]at ha;rw[if_pos (by omega)]at ha;rw[fp (by omega)]at ha;cases ha;exact hy2
   obtain⟨ys,hl,hc,hz⟩:=hex ti.size (Nat.le_refl _);refine⟨.agg ys.toArray,?_,.agg _ ys (by rw[hl];simp[cut];omega) hz⟩;have QD:=run_loadCells P w b (o+off) ti.size 0 #[] ys hl (by simpa using hc)
   have F7: ∀w,(isAgg t).run P w= .ok true w:=by
    intro w;unfold TI.agg at tM;cases hk:ti.k with
    |dj fs=>rw[hk]at h7;obtain⟨F,h7,_⟩:=h7;subst h7;simp[isAgg,underlying,go_sem,h6]
    |arr n e=>rw[hk]at h7;subst h7;simp[isAgg,underlying,go_sem,h6]
    |_=>rw[hk]at tM;simp at tM
   simp only[Instr.loadAt,Instr.sureAddr,loadVar,loadCells];simp[go_sem,F7,Go.sizeOf,typeInfo,h1,h2,QD]
  |false=>
   rw[tM,aM]at ig;cases hg:cs[off]? with
   |none=>rw[hg]at ig;simp at ig
   |some a0=>
    rw[hg]at ig;simp only[Option.some.injEq]at ig;subst ig;obtain⟨y,zw,hy2⟩:=Ir off a0 hg;refine⟨y,?_,hy2⟩;have F7: ∀w,(isAgg t).run P w= .ok false w:=by
     intro w;unfold TI.agg at tM;cases hk:ti.k with
     |dj fs=>rw[hk]at tM;simp at tM
     |arr n e=>rw[hk]at tM;simp at tM
     |sc=>rw[hk]at h7;dsimp only at h7;cases d<;>simp_all [isAgg,underlying,go_sem]
     |_=>rw[hk]at h7;dsimp only at h7;subst h7;simp[isAgg,underlying,go_sem,h6]
    have h0:w.cell? ⟨b,o+off,none⟩=some y:=by rw[kq];exact zw
    simp[Instr.loadAt,Instr.sureAddr,loadVar,go_sem,F7,load,h0,Sem.run]
theorem lU{a:AV}{x:Value}(h:Cz E a x){k:Nat}(hk:zJ a=some k):x.cells.size=k∧(cellsOf a).length=k∧ ∀(q:Nat) (a':AV) (y:Value),(cellsOf a)[q]? =some a'→x.cells[q]? =some y→Cz E a' y:=by
 have one: ∀(a:AV) (x:Value),Cz E a x→x.cells= #[x]→cellsOf a=[a]→x.cells.size=1∧(cellsOf a).length=1∧ ∀(q:Nat) (a':AV) (y:Value),(cellsOf a)[q]? =some a'→x.cells[q]? =some y→Cz E a' y:=
  fun a x h hx ha=>by
   rw[hx,ha];refine⟨rfl,rfl,fun q a' y h1 h2=>?_⟩;cases q with
   |zero=>simp at h1 h2;subst h1;subst h2;exact h
   |succ q=>simp at h1
 cases h with
 |any x=>simp[zJ]at hk
 |gw=>simp[zJ]at hk
 |v x=>
  simp only[zJ,Option.some.injEq]at hk;subst hk;cases x with
  |agg c=>
   refine⟨rfl,by simp[cellsOf,Value.cells],fun q a' y h1 h2=>?_⟩;simp only[cellsOf,List.getElem?_map,Array.getElem?_toList]at h1;simp only[Value.cells]at h2;rw[h2]at h1;simp at h1;subst h1;exact .v _
  |_=>exact one _ _ (.v _) rfl rfl
 |agg cs ys hl hq=>
  simp only[zJ,Option.some.injEq]at hk;subst hk;exact⟨by simp[Value.cells,hl],rfl,fun q a' y h1 h2=>hq q a' y h1 (by simpa[Value.cells]using h2)⟩
 |mq r A c=>cases hk;exact one _ _ (.mq _ _ _) rfl rfl
 |sl r xs z b o c u h1 h2 h3 h4 h5 h6 h7 h8 h9 By=>cases hk;exact one _ _ (.sl r xs z b o c u h1 h2 h3 h4 h5 h6 h7 h8 h9 By) rfl rfl
 |rH r t=>cases hk;exact one _ _ (.rH _ _) rfl rfl
 |gs r t xs z b c e cells u h1 h2 h3 h4 h5 h6 h7 h8 h9 By Kg qq h13=>cases hk;exact one _ _ (.gs r t xs z b c e cells u h1 h2 h3 h4 h5 h6 h7 h8 h9 By Kg qq h13) rfl rfl
 |aR r cs off b o u h1 h2 h3 h4 h5=>cases hk;exact one _ _ (.aR r cs off b o u h1 h2 h3 h4 h5) rfl rfl
 |ptr k off hl=>cases hk;exact one _ _ (.ptr _ _ hl) rfl rfl
 |eW k n h1 h2 h3 h4=>cases hk;exact one _ _ (.eW _ _ h1 h2 h3 h4) rfl rfl
 |ca k i off z hl=>cases hk;exact one _ _ (.ca _ _ _ _ hl) rfl rfl
 |mp k hl=>cases hk;exact one _ _ (.mp _ hl) rfl rfl
 |ar=>simp[zJ]at hk
 |nM k hl=>cases hk;exact one _ _ (.nM _ hl) rfl rfl
 |bm f cs ys hl hi hq=>cases hk;exact one _ _ (.bm f cs ys hl hi hq) rfl rfl
 |lB r z xs x hz h=>
  cases hk;have h':=h
  cases h with
  |aR=>exact one _ _ (.lB r z xs _ hz h') rfl rfl
 |fn f cap ys hl hq=>cases hk;exact one _ _ (.fn f cap ys hl hq) rfl rfl
theorem PF{n z:Nat}{xs:List (List AV)}{x:Value}(h:Cz E (.ar n z xs) x):Cz E (.agg xs.flatten) x∧xs.length=n∧(∀l∈xs,l.length=z)∧cr xs.flatten=true:=by
 cases h with
 |ar _ _ _ ys hn hz hl hi hq=>exact⟨.agg _ ys (by rw[hl,aB hz,hn]) hq,hn,hz,xP hi⟩
theorem Yk{n z:Nat}{xs:List (List AV)}{x:Value}(h:Cz E (.agg xs.flatten) x)(hn:xs.length=n)(hz: ∀l∈xs,l.length=z)(hi: ∀(q:Nat) (a:AV),xs.flatten[q]? =some a→bX a=true):Cz E (.ar n z xs) x:=by
 cases h with
 |agg _ ys hl hq=>exact .ar n z xs ys hn hz (by rw[hl,aB hz,hn]) hi hq
def Row(E:Env)(cs:List AV)(c:Array Value):Prop:=c.size=cs.length∧ ∀(q:Nat) (a:AV) (y:Value),cs[q]? =some a→c[q]? =some y→Cz E a y
theorem mF(off:Nat): ∀(vs:List Value) (k:Nat) (c:Array Value),off+k+vs.length≤c.size→
  ((vs.zipIdx k).foldl (fun cs (x,j)=>cs.setIfInBounds (off+j) x) c).size=c.size∧
  ∀q,((vs.zipIdx k).foldl (fun cs (x,j)=>cs.setIfInBounds (off+j) x) c)[q]? =if off+k≤q∧q<off+k+vs.length then vs[q - (off+k)]? else c[q]?
 |[],k,c,_=>⟨rfl,fun q=>by simp;omega⟩
 |v::r,k,c,h=>by
  simp only[List.length_cons]at h;obtain⟨h1,h2⟩:=mF off r (k+1) (c.setIfInBounds (off+k) v) (by simp;omega);simp only[List.zipIdx_cons,List.foldl_cons];refine⟨by rw[h1];simp,fun q=>?_⟩;rw[h2];by_cases hq:q=off+k
  ·subst hq;rw[if_neg (by omega),if_pos ⟨by omega,by simp⟩];rw[Array.getElem?_setIfInBounds_self,if_pos (by omega)];simp
  ·rw[Array.getElem?_setIfInBounds_ne (by omega)];by_cases aV:off+k≤q∧q<off+k+(r.length+1)
   ·rw[if_pos ⟨by omega,by omega⟩,if_pos (by simpa using aV)];rw[show q - (off+k)=(q - (off+(k+1)))+1 from by omega];simp
   ·rw[if_neg (by omega),if_neg (by simpa using aV)]
theorem uo{cs vs:List AV}{o q:Nat}(h:o+vs.length≤cs.length):(bF cs o vs)[q]? =if o≤q∧q<o+vs.length then vs[q - o]? else cs[q]? :=by
 unfold bF;by_cases h1:q<o
 ·rw[if_neg (by omega),List.append_assoc,iq (by simp;omega),List.getElem?_take,if_pos h1]
 ·rw[List.append_assoc,ji (by simp;omega)];have hm:min o cs.length=o:=by omega
  simp only[List.length_take,hm];by_cases h2:q<o+vs.length
  ·rw[if_pos ⟨by omega,h2⟩,iq (by omega)]
  ·rw[if_neg (by omega),ji (by omega),List.getElem?_drop];congr 1;omega
theorem jm{cs vs:List AV}{o:Nat}(h:o+vs.length≤cs.length):(bF cs o vs).length=cs.length:=by
 unfold bF;simp;omega
theorem Row.bF{cs vs:List AV}{c:Array Value}{o:Nat}{ys:List Value}(h:Row E cs c)(ho:o+vs.length≤cs.length)(hl:ys.length=vs.length)
  (hy: ∀(q:Nat) (a:AV) (y:Value),vs[q]? =some a→ys[q]? =some y→Cz E a y):Row E (Ab.bF cs o vs) (ys.zipIdx.foldl (fun cs (x,j)=>cs.setIfInBounds (o+j) x) c):=by
 obtain⟨h1,h2⟩:=mF o ys 0 c (by rw[h.1];omega);refine⟨by rw[h1,jm ho];exact h.1,fun q a y ha hq=>?_⟩;rw[uo ho]at ha;rw[h2]at hq;by_cases hc:o≤q∧q<o+vs.length
 ·rw[if_pos hc]at ha;rw[if_pos (by simpa[hl]using hc)]at hq;exact hy _ a y ha (by simpa using hq)
 ·rw[if_neg hc]at ha;rw[if_neg (by simpa[hl]using hc)]at hq;exact h.2 q a y ha hq
def xw(E:Env)(ps:List (Nat×AV))(vs:List (Nat×Value)):Prop:=ps.length=vs.length∧ ∀(q:Nat) (a:Nat×AV) (y:Nat×Value),ps[q]? =some a→vs[q]? =some y→a.1=y.1∧Cz E a.2 y.2
theorem xw.cons{p:Nat×AV}{ps:List (Nat×AV)}{vs:List (Nat×Value)}(h:xw E (p::ps) vs): ∃y ys,vs=y::ys∧p.1=y.1∧Cz E p.2 y.2∧xw E ps ys:=by
 cases vs with
 |nil=>simp[xw]at h
 |cons y ys=>
  have h0:=h.2 0 p y (by simp) (by simp)
  exact⟨y,ys,rfl,h0.1,h0.2,by have:=h.1;simpa using this,fun q a y ha hy=>h.2 (q+1) a y (by simpa using ha) (by simpa using hy)⟩
theorem Gh{fs:List (Nat×Nat)}{place:Nat→Option (Nat×Nat)}(hp: ∀j o z,fs[j]? =some (o,z)→place j=some (o,z)):
  ∀{ps:List (Nat×AV)} {vs:List (Nat×Value)} {cs cs':List AV} {c:Array Value},xw E ps vs→Row E cs c→Ix fs cs ps=some cs'→ ∃c',Instr.fill place c vs=some c'∧Row E cs' c'
 |[],vs,cs,cs',c,h,hr,hf=>by
  have:vs=[]:=List.eq_nil_of_length_eq_zero (by have:=h.1;simp at this;omega)
  subst this;simp only[Ix,Option.some.injEq]at hf;subst hf;exact⟨c,by simp[Instr.fill],hr⟩
 |(i,a)::ps,vs,cs,cs',c,h,hr,hf=>by
  obtain⟨⟨i',y⟩,ys,rfl,h1,h2,h3⟩:=h.cons;dsimp only at h1 h2;subst h1;simp only[Ix]at hf;cases hfs:fs[i]? with
  |none=>rw[hfs]at hf;simp at hf
  |some oz=>
   obtain⟨o,z⟩:=oz;rw[hfs]at hf;dsimp only at hf;cases hk:zJ a with
   |none=>rw[hk]at hf;simp at hf
   |some k=>
    rw[hk]at hf;dsimp only at hf;cases hb:bQ k z&&mM (o+z) cs.length with
    |false=>rw[hb]at hf;simp at hf
    |true=>
     rw[hb,aE]at hf;simp only[Bool.and_eq_true]at hb;have YZ:k=z:=cY hb.1
     have hle:o+z≤cs.length:=by simpa using hb.2
     obtain⟨c1,c2,c3⟩:=lU h2 hk;have fo:=hr.bF (o:=o) (vs:=cellsOf a) (ys:=y.cells.toList) (by omega) (by simp;omega) (fun q a' y' h1 h2=>c3 q a' y' h1 (by simpa using h2))
     obtain⟨c',g1,g2⟩:=Gh hp h3 fo hf;refine⟨c',?_,g2⟩;simp only[Instr.fill,hp i o z hfs];rw[if_neg (by simp only[Bool.or_eq_true,bne_iff_ne,decide_eq_true_eq,ne_eq,not_or,Decidable.not_not];exact⟨by omega,by rw[hr.1];omega⟩)];rw[←g1];congr 1;rw[←Array.foldl_toList];simp
theorem De{z:Nat}:
  ∀{ps:List (Nat×AV)} {vs:List (Nat×Value)} {cs cs':List AV} {c:Array Value},xw E ps vs→Row E cs c→o5 z cs ps=some cs'→ ∃c',Instr.fill (fun i=>some (i*z,z)) c vs=some c'∧Row E cs' c'
 |[],vs,cs,cs',c,h,hr,hf=>by
  have:vs=[]:=List.eq_nil_of_length_eq_zero (by have:=h.1;simp at this;omega)
  subst this;simp only[o5,Option.some.injEq]at hf;subst hf;exact⟨c,by simp[Instr.fill],hr⟩
 |(i,a)::ps,vs,cs,cs',c,h,hr,hf=>by
  obtain⟨⟨i',y⟩,ys,rfl,h1,h2,h3⟩:=h.cons;dsimp only at h1 h2;subst h1;simp only[o5]at hf;cases hk:zJ a with
  |none=>rw[hk]at hf;simp at hf
  |some k=>
   rw[hk]at hf;dsimp only at hf;cases hb:bQ k z&&mM (i*z+z) cs.length with
   |false=>rw[hb]at hf;simp at hf
   |true=>
    rw[hb,aE]at hf;simp only[Bool.and_eq_true]at hb;have YZ:k=z:=cY hb.1
    have hle:i*z+z≤cs.length:=by simpa using hb.2
    obtain⟨c1,c2,c3⟩:=lU h2 hk;have fo:=hr.bF (o:=i*z) (vs:=cellsOf a) (ys:=y.cells.toList) (by omega) (by simp;omega) (fun q a' y' h1 h2=>c3 q a' y' h1 (by simpa using h2))
    obtain⟨c',g1,g2⟩:=De h3 fo hf;refine⟨c',?_,g2⟩;simp only[Instr.fill];rw[if_neg (by simp only[Bool.or_eq_true,bne_iff_ne,decide_eq_true_eq,ne_eq,not_or,Decidable.not_not];exact⟨by omega,by rw[hr.1];omega⟩)];rw[←g1];congr 1;rw[←Array.foldl_toList];simp
theorem Lv{α β:Type}(P:Program){g:α→Sem β}{h:α→β}(w:World): ∀(l:List α),(∀x∈l,(g x).run P w= .ok (h x) w)→(l.mapM g).run P w= .ok (l.map h) w
 |[],_=>by simp[go_sem]
 |x::r,hx=>by
  have h1:=hx x (by simp)
  have h2:=Lv P w r (fun y hy=>hx y (by simp[hy]))
  rw[List.mapM_cons];simp[go_sem,h1,h2]
theorem Lw{α β:Type}(P:Program){g:α→Sem β}{h:α→β}(w:World)(l:Array α)(hx: ∀x∈l.toList,(g x).run P w= .ok (h x) w):(l.mapM g).run P w= .ok (l.map h) w:=by
 rw[Array.mapM_eq_mapM_toList];have:=Lv P w l.toList hx
 simp[go_sem,this];exact Array.toList_inj.1 (by simp)
theorem run_build(hL:bj P L){t:Nat}{ps:List (Nat×AV)}{r:AV}(hr:OK L t ps=some r){vs:Array (Nat×Value)}(hv:xw E ps vs.toList)(w:World):
  ∃x,(Instr.build t vs).run P w= .ok x w∧Cz E r x:=by
 unfold OK at hr;cases ht:L t with
 |none=>rw[ht]at hr;simp at hr
 |some ti=>
  have iQ:=hL.ok t ti ht
  rw[ht]at hr;obtain⟨k,size,bytes,zero⟩:=ti;cases k with
  |dj fs=>
   dsimp only at hr;obtain⟨i,d,z,h1,h2,h3,h4,h5,h6,F,h7,h8,h9⟩:=iQ.ex;cases hf:Ix fs (zero.map .v) ps with
   |none=>rw[hf]at hr;simp at hr
   |some cs=>
    rw[hf]at hr;simp only[Option.some.injEq]at hr;subst hr;subst h7;dsimp only at h5 h8 h9;let Qb:Field→Nat:=fun f=>((P.info? f.type).map (·.size)).getD 0;have hpl:((F.mapM fun f=>do pure (f.offset,←Go.sizeOf f.type):Sem (Array (Nat×Nat)))).run P w= .ok (F.map fun f=>(f.offset,Qb f)) w:=by
     refine Lw P w F fun f hfm=>?_;obtain⟨j,hj,he⟩:=List.getElem_of_mem hfm;have hj':j<fs.length:=by rw[←h8];simpa using hj
     obtain⟨f',i',g1,g2,g3,g4⟩:=h9 j (fs[j]).1 (fs[j]).2 (fp hj');have:f'=f:=by
      have:F[j]? =some f:=by rw[←he];simp
      rw[this]at g1;cases g1;rfl
     subst this;simp[go_sem,Go.sizeOf,typeInfo,g3,Qb]
    have fo:Row E (zero.map AV.v) z.cells:=by
     refine⟨by rw[List.length_map,←h5];simp,fun q a y ha hy=>?_⟩;rw[←h5,List.getElem?_map,Array.getElem?_toList,hy]at ha;simp at ha;subst ha;exact .v _
    obtain⟨c',g1,g2⟩:=Gh (place:=((F.map fun f=>(f.offset,Qb f))[·]?)) (fun j o zz hj=>by
     obtain⟨f',i',g1,g2,g3,g4⟩:=h9 j o zz hj;simp[g1,g2,Qb,g3,g4]) hv fo hf
    refine⟨.agg c',?_,?_⟩
    ·have hz: ∀w,(zeroValue t).run P w= .ok z w:=by intro w;simp[zeroValue,typeInfo,go_sem,h1,h4]
     have hu: ∀w,(underlying t).run P w= .ok (.struct F) w:=eV h6
     simp only[bind_pure_comp]at hpl;unfold Instr.build;simp only[Sem.run_bind,hz,hu,hpl,Result.andThen,bind_pure_comp];simp only[g1];rfl
    ·have:=Cz.agg (E:=E) cs c'.toList (by simpa using g2.1) (fun q a y ha hy=>g2.2 q a y ha (by simpa using hy))
     simpa using this
  |arr n e=>
   dsimp only at hr;obtain⟨i,d,z,h1,h2,h3,h4,h5,h6,h7⟩:=iQ.ex;dsimp only at h5 h7;subst h7;cases he:L e with
   |none=>rw[he]at hr;simp at hr
   |some te=>
    rw[he]at hr;dsimp only at hr;obtain⟨ie,de,ze,g1,g2,_⟩:=(hL.ok e te he).ex;cases hf:o5 te.size (zero.map .v) ps with
    |none=>rw[hf]at hr;simp at hr
    |some cs=>
     rw[hf]at hr;simp only[Option.some.injEq]at hr;subst hr;have fo:Row E (zero.map AV.v) z.cells:=by
      refine⟨by rw[List.length_map,←h5];simp,fun q a y ha hy=>?_⟩;rw[←h5,List.getElem?_map,Array.getElem?_toList,hy]at ha;simp at ha;subst ha;exact .v _
     obtain⟨c',k1,k2⟩:=De (z:=te.size) hv fo hf;refine⟨.agg c',?_,?_⟩
     ·have hz: ∀w,(zeroValue t).run P w= .ok z w:=by intro w;simp[zeroValue,typeInfo,go_sem,h1,h4]
      have hu: ∀w,(underlying t).run P w= .ok (.array n e) w:=eV h6
      have hs: ∀w,(Go.sizeOf e).run P w= .ok te.size w:=fun w=>by rw[←g2];exact j0 g1 w
      unfold Instr.build;simp only[Sem.run_bind,hz,hu,hs,Result.andThen];simp only[k1];rfl
     ·have:=Cz.agg (E:=E) cs c'.toList (by simpa using k2.1) (fun q a y ha hy=>k2.2 q a y ha (by simpa using hy))
      simpa using this
  |_=>dsimp only at hr;simp at hr
theorem bN{x:Value}{k:Value}(h:Cz E (.v k) x):x=k:=by cases h;rfl
theorem VW(h:bq E0 E w0 w s a)(hp:bc s p)(parts:List (Nat×Operand)):xw E (parts.map fun q=>(q.1,bP s p q.2)) (parts.map fun q=>(q.1,a.eval q.2)):=by
 refine⟨by simp,fun q x y hx hy=>?_⟩;simp only[List.getElem?_map]at hx hy;cases hq:parts[q]? with
 |none=>rw[hq]at hx;simp at hx
 |some z=>rw[hq]at hx hy;simp at hx hy;subst hx;subst hy;exact⟨rfl,h.ev hp _⟩
theorem MT(a b:ByteArray):(a.toList==b.toList)=decide (a=b):=by
 have:a.toList=b.toList↔a=b:=⟨fun h=>by
  have ha:a.data.toList=b.data.toList:=by
   have e: ∀c:ByteArray,c.toList=c.data.toList:=fun c=>ByteArray.toList_eq c
   rw[←e,←e];exact h
  cases a;cases b;simp at ha;simp[ha],fun h=>by rw[h]⟩
 by_cases h:a=b
 ·subst h;simp
 ·have h': ¬a.toList=b.toList:=fun hh=>h (this.1 hh)
  simp[h,h']
theorem IF{op:BinOp}{t:Nat}{x y r:Value}(h:bin al op x y=some r)(w:World):(binOp op t x y).run P w= .ok r w:=by
 unfold bin at h
 split at h<;>first
  |(rename_i k a k' b
    cases hk:k==k' with
    |false=>rw[hk]at h;simp at h
    |true=>
     have hkk:k=k':=by simpa using hk
     subst hkk;rw[hk,aE]at h;cases h;first
      |(simp[binOp,Op.intArith,Op.intCmp,go_sem,al];done)
      |(simp[binOp,Op.intArith,Op.intCmp,go_sem,al];rfl))
  |(cases h
    simp[binOp,Op.stringOp,go_sem,al,MT]
    done)
  |(cases h
    simp[binOp,Op.stringOp,go_sem,al,MT];rfl)
  |(simp at h)
theorem Cz.len{x:Value}{r:Nat}{xs:List (List AV)}(h:Cz E (.sl r xs) x): ∃A c,x= .slice A xs.length c:=by
 cases h with
 |mq r A c=>exact⟨A,c,rfl⟩
 |sl=>exact⟨_,_,rfl⟩
def Yd:Op→Bool
 | .load _ _=>false
 | .build _ _=>false
 |_=>true
theorem LR(hL:bj P L){t f:Nat}{x r:AV}{v:Value}(h:VX L t f x=some r)(hc:Cz E x v): ∃y,(∀w,(Instr.field t v f).run P w= .ok y w)∧Cz E r y:=by
 unfold VX at h
 split at h
 ·rename_i fs size bytes zero ft rE
  split at h
  ·rename_i o z t' hf ht';cases KS:L t' with
   |none=>rw[KS]at h;cases h
   |some tj=>
    rw[KS]at h;(obtain⟨cs,rfl⟩: ∃cs,x= .agg cs:=by cases x<;>first|exact⟨_,rfl⟩|cases h);dsimp only at h;cases hc with
    |agg _ ys hlen hq=>
    have iQ:=hL.ok t _ rE
    obtain⟨i,d,zz,h1,h2,h3,h4,h5,h6,F,h7,h8,h9⟩:=iQ.ex;obtain⟨ff,i',g1,g2,g3,g4⟩:=h9 f o z hf;obtain⟨ff',g5,g6⟩:=iQ.fts F (h7▸h6) f t' ht';have hff:ff'=ff:=by rw[g1]at g5;exact(oJ g5).symm
    subst hff;obtain⟨i2,d2,z2,k1,k2,k3,k4,k5,k6,k7⟩:=(hL.ok t' tj KS).ex;have anx: ∀w,(underlying t).run P w= .ok (.struct F) w:=fun w=>by rw[run_underlying h6,h7]
    have adO: ∀w,(underlying t').run P w= .ok d2 w:=fun w=>run_underlying k6 w
    unfold part at h;cases hle:mM (o+tj.size) cs.length with
    |false=>rw[hle]at h;cases h
    |true=>
     rw[hle,aE]at h;have aiF:o+tj.size≤cs.length:=FT hle
     cases tM:tj.agg with
     |true=>
      rw[tM,aE]at h;cases h;have Xf: ∀w,(isAgg t').run P w= .ok true w:=fun w=>by
       unfold TI.agg at tM;unfold isAgg;rw[Sem.run_bind,adO];simp only[Result.andThen];cases hk:tj.k<;>rw[hk]at tM k7<;>try cases tM
       ·obtain⟨F2,hF2,_⟩:=k7;rw[hF2];rfl
       ·dsimp only at k7;rw[k7];rfl
      refine⟨.agg (ys.toArray.extract o (o+tj.size)),fun w=>?_,?_⟩
      ·simp[Instr.field,Sem.run_bind,anx,Result.andThen,g1,g6,g2,asAgg,Go.part,Xf,j0 k1,k2]
      ·have e:ys.toArray.extract o (o+tj.size)=((ys.drop o).take tj.size).toArray:=by
        apply Array.toList_inj.1;rw[Array.toList_extract,List.extract_eq_take_drop];simp
       rw[e];refine .agg _ _ (by simp[cut,hlen]) fun q a y ha hy=>?_;unfold cut at ha;rw[List.getElem?_take]at ha hy
       split at ha
       ·rw[List.getElem?_drop]at ha;rw[if_pos (by assumption),List.getElem?_drop]at hy;exact hq _ a y ha hy
       ·cases ha
     |false=>
      rw[tM,aM]at h;cases Ir:cs[o]? with
      |none=>rw[Ir]at h;cases h
      |some b=>
       rw[Ir]at h;cases h;have aV:o<ys.length:=by rw[hlen];exact(bh.1 Ir).1
       have hy:ys[o]? =some ys[o]:=by simp[aV]
       have Xf: ∀w,(isAgg t').run P w= .ok false w:=fun w=>by
        unfold TI.agg at tM;unfold isAgg;rw[Sem.run_bind,adO];simp only[Result.andThen];(cases hk:tj.k<;>rw[hk]at tM k7<;>try cases tM);all_goals first
         |(dsimp only at k7;subst k7;rfl)
         |(dsimp only at k7;cases d2<;>first|rfl|exact k7.elim)
       refine⟨ys[o],fun w=>?_,hq o _ _ Ir hy⟩;simp[Instr.field,Sem.run_bind,anx,Result.andThen,g1,g6,g2,asAgg,Go.part,Xf,aV]
  ·cases h
 ·cases h
theorem wu(hL:bj P L)(h:bq E0 E w0 w s a)(hp:bc s p){o:Oper}{r:AV}(hr:sB al L s p o.op=some r):
  ∃x,(∀w',(Yd o.op=false→w'=w)→(execOp a.eval o).run P w'= .ok (.value x) w')∧Cz E r x:=by
 unfold sB at hr
 split at hr
 ·rename_i x he;cases hr;exact⟨a.eval x,fun _ _=>by simp[execOp,he,go_sem],h.ev hp x⟩
 ·rename_i x he;cases hr;exact⟨a.eval x,fun _ _=>by simp[execOp,he,go_sem],h.ev hp x⟩
 ·rename_i x he;have hx:=h.ev hp x
  unfold amE at hr
  split at hr
  ·rename_i dK;cases hr;rw[dK]at hx;cases dD:a.eval x<;>rw[dD]at hx<;>cases hx;rename_i hl;exact⟨.pointer (some ⟨E.m _,_,none⟩),fun w' DM=>by simp only[execOp,he,dD];simp[go_sem],.ptr _ _ hl⟩
  ·rename_i rr cs off dK;cases hr;rw[dK]at hx;cases dD:a.eval x<;>rw[dD]at hx<;>cases hx;rename_i b q u k1 k2 k3 k4 k5;exact⟨.pointer (some ⟨b,q+off,none⟩),fun w' DM=>by simp only[execOp,he,dD];simp[go_sem],.aR _ cs off b q u k5 k1 k2 k3 k4⟩
  ·rename_i dK;cases hr;rw[dK]at hx;cases dD:a.eval x<;>rw[dD]at hx<;>cases hx;rename_i hl;exact⟨.pointer (some ⟨E.m _,_,none⟩),fun w' DM=>by simp only[execOp,he,dD];simp[go_sem],.ca _ _ _ _ hl⟩
  ·rename_i rr z xs dK;cases hr;rw[dK]at hx;have WX:=hx
   cases hx with
   |lB _ _ _ _ hz hc=>
   cases dD:a.eval x<;>rw[dD]at hc WX<;>cases hc;rename_i b q u k1 k2 k3 k4 k5;exact⟨.pointer (some ⟨b,q+0,none⟩),fun w' DM=>by simp only[execOp,he,dD];simp[go_sem],WX⟩
  ·simp at hr
 ·rename_i t x f he;have hx:=h.ev hp x
  cases hf:ik L t f with
  |none=>rw[hf]at hr;simp at hr
  |some o'=>
   rw[hf]at hr;dsimp only at hr;unfold VZ at hr
   split at hr
   ·rename_i k off dK;cases hr;rw[dK]at hx;cases dD:a.eval x<;>rw[dD]at hx<;>cases hx;rename_i hl;exact⟨.pointer (some ⟨E.m k,off+o',none⟩),fun w' DM=>by simp only[execOp,he,dD];simp[mr hL hf],.ptr _ _ hl⟩
   ·rename_i rr cs off dK;cases hr;rw[dK]at hx;cases dD:a.eval x<;>rw[dD]at hx<;>cases hx;rename_i b q u g1 g2 g3 g4 g5;exact⟨.pointer (some ⟨b,q+off+o',none⟩),fun w' DM=>by simp only[execOp,he,dD];simp[mr hL hf],by rw[Nat.add_assoc];exact .aR _ cs (off+o') b q u g5 g1 g2 g3 g4⟩
   ·rename_i k i off z dK;cases hr;rw[dK]at hx;cases dD:a.eval x<;>rw[dD]at hx<;>cases hx;rename_i hl;exact⟨.pointer (some ⟨E.m k,i*z+off+o',none⟩),fun w' DM=>by simp only[execOp,he,dD];simp[mr hL hf],by rw[Nat.add_assoc];exact .ca k i (off+o') z hl⟩
   ·simp at hr
 ·rename_i t x he;have hx:=h.ev hp x
  cases ht:L t with
  |none=>rw[ht]at hr;simp at hr
  |some ti=>
   rw[ht]at hr;dsimp only at hr;unfold VY at hr
   split at hr
   ·rename_i d off dK;rw[dK]at hx
    split at hr
    ·rename_i cs eu;cases dD:a.eval x<;>rw[dD]at hx<;>cases hx;obtain⟨hl,c,e,hb,ho,hs,dg,hq⟩:=h.bx d _ eu;obtain⟨y,g1,g2⟩:=gU (P:=P) (E:=E) (w:=w) hL ht (b:=E.m (.s d)) (o:=0) hr (fun q a' ha=>by
      have aV:q<c.size:=by rw[dg];exact(bh.1 ha).1
      refine⟨c[q],by simp[aO,h.heap,hb,aV],hq q a' _ ha (by simp)⟩)
     refine⟨y,?_,g2⟩;rw[Nat.zero_add]at g1;intro w' DM;have e:=DM (by rw[he];rfl);subst e
     simp only[execOp,he,dD];simp[g1]
    ·simp at hr
   ·rename_i rr cs off dK;rw[dK]at hx;cases dD:a.eval x<;>rw[dD]at hx<;>cases hx;rename_i b q u k1 k2 k3 k4 k5;obtain⟨y,g1,g2⟩:=gU (P:=P) (E:=E) (w:=w) hL ht (b:=b) (o:=q) hr (fun j a' ha=>⟨u j,by rw[h.heap];exact k3 j a' ha,k4 j a' ha⟩);exact⟨y,fun w' DM=>by have e:=DM (by rw[he];rfl);subst e;simp only[execOp,he,dD];simp[g1],g2⟩
   ·simp at hr
 ·rename_i op t x y t' he;have hx:=h.ev hp x
  have hy:=h.ev hp y
  unfold amG at hr
  split at hr
  ·rename_i u v hu hv;rw[hu]at hx;rw[hv]at hy;cases hb:bin al op u v with
   |none=>rw[hb]at hr;simp at hr
   |some z=>
    rw[hb]at hr;cases hr;refine⟨z,?_,.v _⟩;have e1:=bN hx
    have e2:=bN hy
    have hg: ∀w,(eqGuard op t x y (a.eval x) (a.eval y)).run P w= .ok () w:=by
     intro w;rw[e1,e2];unfold bin at hb
     split at hb<;>first|(simp[eqGuard,go_sem];done)|(simp at hb)
    simp only[e1,e2]at hg;intro w' _;simp only[execOp,he,e1,e2];simp[Sem.run_bind,hg,IF hb,Result.andThen]
  ·simp at hr
 ·rename_i op t x he;have hx:=h.ev hp x
  unfold pUn at hr
  split at hr
  ·rename_i b dK;cases hr;rw[dK]at hx;have e1:=bN hx
   exact⟨.bool (!b),fun w' DM=>by simp only[execOp,he,e1];simp[go_sem,Op.unary],.v _⟩
  ·simp at hr
 ·rename_i x i he;have hx:=h.ev hp x
  unfold LU at hr
  split at hr
  ·rename_i vs dK;rw[dK]at hx;cases dD:a.eval x<;>rw[dD]at hx<;>cases hx;rename_i ys hl hq;have aV:i<ys.length:=by rw[hl];exact(bh.1 hr).1
   exact⟨ys[i],fun w' DM=>by simp only[execOp,he,dD];simp[go_sem,Instr.extract,aV],hq i r _ hr (by simp)⟩
  ·simp at hr
 ·rename_i t parts he;obtain⟨x,g1,g2⟩:=run_build hL hr (vs:=parts.map fun q=>(q.1,a.eval q.2)) (by simpa using VW h hp parts.toList) w;refine⟨x,?_,g2⟩;intro w' DM;have e:=DM (by rw[he];rfl);subst e
  have:(parts.map fun(i,x)=>(i,a.eval x))=parts.map fun q=>(q.1,a.eval q.2):=rfl
  simp[execOp,he,Sem.run_bind,this,g1,Result.andThen]
 ·rename_i t x f he;obtain⟨y,h1,h2⟩:=LR hL hr (h.ev hp x);exact⟨y,fun w' _=>by simp only[execOp,he];simp[Sem.run_bind,h1,Result.andThen],h2⟩
 ·rename_i c he
  split at hr
  ·rename_i b hb;unfold LV at hr
   split at hr
   ·rename_i t x Tx dt;cases rE:L t with
    |none=>rw[rE]at hr;simp at hr
    |some ti=>
     rw[rE]at hr;dsimp only at hr;obtain⟨y,hy⟩: ∃y,c.args= #[y]:=by
      cases hc:c.args.toList with
      |nil=>rw[hc]at dt;simp at dt
      |cons y r=>cases r with
       |nil=>exact⟨y,Array.toList_inj.1 hc⟩
       |cons _ _=>rw[hc]at dt;simp at dt
     have ht:c.argTypes= #[t]:=Array.toList_inj.1 Tx
     rw[hy]at dt;simp only[List.map_cons,List.map_nil,List.cons.injEq,and_true]at dt;have hx:=h.ev hp y
     rw[dt]at hx;obtain⟨i,d,z,h1,h2,h3,h4,h5,h6,h7⟩:=(hL.ok t ti rE).ex;have key: ∀(n:Int) (w:World),(Builtin.len_ #[t] o.type #[a.eval y]).run P w= .ok (.int .i64 n) w→(execOp a.eval o).run P w= .ok (.value (.int .i64 n)) w:=fun n w hn=>by
      simp[execOp,he,resolve,hb,invoke,builtin,hy,ht,Sem.run_bind,hn,Result.andThen]
     unfold amF at hr
     split at hr
     ·rename_i e rr xs hk;cases hr;rw[hk]at h7;dsimp only at h7;subst h7;obtain⟨A,cc,dD⟩:=hx.len;exact⟨.int .i64 xs.length,fun w' _=>key _ w' (by rw[dD];simp[Builtin.len_,go_sem,underlying,h6,goInt]),.v _⟩
     ·rename_i e rr tt xs hk;cases hr;rw[hk]at h7;dsimp only at h7;subst h7;obtain⟨A,cc,dD⟩:=hx.read.len;exact⟨.int .i64 xs.length,fun w' _=>key _ w' (by rw[dD];simp[Builtin.len_,go_sem,underlying,h6,goInt]),.v _⟩
     ·rename_i e kk n hk;cases hr;rw[hk]at h7;dsimp only at h7;subst h7;cases dD:a.eval y<;>rw[dD]at hx<;>cases hx;exact⟨.int .i64 n,fun w' _=>key _ w' (by rw[dD];simp[Builtin.len_,go_sem,underlying,h6,goInt]),.v _⟩
     ·rename_i b hk;cases hr;rw[hk]at h7;dsimp only at h7;subst h7;have dD:=bN hx
      exact⟨.int .i64 b.size,fun w' _=>key _ w' (by rw[dD];simp[Builtin.len_,go_sem,underlying,h6,goInt]),.v _⟩
     ·rename_i e A n cc hk;cases hr;rw[hk]at h7;dsimp only at h7;subst h7;have dD:=bN hx
      exact⟨.int .i64 n,fun w' _=>key _ w' (by rw[dD];simp[Builtin.len_,go_sem,underlying,h6,goInt]),.v _⟩
     ·rename_i n e hk;cases hr;rw[hk]at h7;dsimp only at h7;subst h7;exact⟨.int .i64 n,fun w' _=>key _ w' (by simp[Builtin.len_,go_sem,underlying,h6,goInt]),.v _⟩
     ·simp at hr
   ·simp at hr
  ·simp at hr
 ·simp at hr
theorem uA(hL:bj P L)(h:bq E0 E w0 w s a)(hp:bc s p){o:Oper}{r:AV}(hr:sB al L s p o.op=some r):
  ∃x,(execOp a.eval o).run P w= .ok (.value x) w∧Cz E r x:=
 let⟨x,h1,h2⟩:=wu hL h hp hr
 ⟨x,h1 w fun _=>rfl,h2⟩
end Ab
namespace Ab
open Go
variable{P:Program}{L:nK}{E0 E E':Env}{w0 w w':World}{s:St}{a:Act}{p:Path}
theorem tz(T:Tok→Bool)(d:Nat): ∀t,look d (fY T t)=(look d t).map (rA T)
 |[]=>rfl
 |(k,x)::r=>by
  simp only[fY,aC,tz T d r]
  split<;>rfl
theorem cE(T:Tok→Bool)(d:Nat): ∀t,look d (fe T t)=(look d t).map (yx T)
 |[]=>rfl
 |(k,x)::r=>by
  simp only[fe,aC,cE T d r]
  split<;>rfl
def St.rA(T:Tok→Bool)(s:St):St:={s with t:=fY T s.t,b:=fe T s.b,up:=lG T s.up}
theorem jr(T:Tok→Bool): ∀{p:Path},bc (s.rA T) p↔bc s p
 |[]=>Iff.rfl
 |(d,b)::r=>by
  simp only[bc,St.rA,tz];have ih:=jr T (p:=r)
  simp only[St.rA]at ih;rw[ih];refine and_congr_left fun _=>?_;cases look d s.t with
  |none=>rfl
  |some x=>
   cases x with
   |gs rr t xs=>cases ht:T t<;>simp[Ab.rA,ht,isB]
   |_=>rfl
def KG(C:Own→Prop):Prop:= ∀o,C o→o.loc=true∨du o
theorem Ext.xZ{C:Own→Prop}(h:Ext du E0 E)(k:Ext C E E')(hC:KG C)(hold: ∀b,b<E0.h.size→(E.own b).loc=false):Ext du E0 E':=
 ⟨Nat.le_trans h.size k.size,
  fun b o hs=>by obtain⟨h1,h2,h3⟩:=h.aI b o hs;obtain⟨k1,k2,k3⟩:=k.aI b o h1;exact⟨k1,k2.trans h2,k3.trans h3⟩,
  fun q hl=>by obtain⟨h1,h2,h3⟩:=h.live q hl;obtain⟨k1,k2,k3⟩:=k.live q h1;exact⟨k1,k2.trans h2,k3.trans h3⟩,
  fun b hb hn=>by
  obtain⟨h1,h2,h3,h4⟩:=h.bw b hb hn;obtain⟨k1,k2,k3,k4⟩:=k.bw b (Nat.lt_of_lt_of_le hb h.size) (fun hc=>by
   rcases hC _ hc with hl|hg
   ·rw[hold b hb]at hl;cases hl
   ·rw[h1]at hg;exact hn hg)
  exact⟨k1.trans h1,k2.trans h2,fun o=>(k3 o).trans (h3 o),k4.trans h4⟩⟩
theorem Ext.wI{C:Own→Prop}(k:Ext C E E')(hC:KG C)(h:Ext du E0 E)(hold: ∀b,b<E0.h.size→(E.own b).loc=false)
  (zy: ∀b,b<E0.h.size→C (E.own b)→(E'.own b).loc=false): ∀b,b<E0.h.size→(E'.own b).loc=false:=fun b hb=>by
 by_cases hc:C (E.own b)
 ·exact zy b hb hc
 ·rw[(k.bw b (Nat.lt_of_lt_of_le hb h.size) hc).1];exact hold b hb
theorem xF{C:Own→Prop}(hE:Ext C E E')(hw:Wf E)(T:Tok→Bool)(hT: ∀t,C (.tok t)→T t=true){t:List (Nat×AV)}{A:Array Value}(h: ∀d x,look d t=some x→Cz E x (A.getD d undef)):
  ∀d x,look d (fY T t)=some x→Cz E' x (A.getD d undef):=by
 intro d x hd;rw[tz]at hd;cases hh:look d t with
 |none=>rw[hh]at hd;simp at hd
 |some y=>rw[hh]at hd;simp at hd;subst hd;exact((h d y hh).ext hE hw T hT).1
theorem bM.move{C:Own→Prop}(hE:Ext C E E')(hw:Wf E)(T:Tok→Bool)(hT: ∀t,C (.tok t)→T t=true){k:Key}{ob:Ob}(hk: ¬C (.key k))(hkn:aif (some ob)=true→ ¬C (.tok k.tok))(h:bM E k ob):bM E' k (yx T ob):=by
 cases ob with
 |ow p rD xs=>
  replace hkn:=hkn rfl;have h0:=h
  obtain⟨hl,ho,_⟩:=h0;obtain⟨l1,l2,l3⟩:=hE.live k hl;have aV:E.m k<E.h.size:=hw.own _ (by rw[ho];simp)
  obtain⟨k1,k2,k3,k4⟩:=hE.bw (E.m k) aV (by rw[ho];exact hk);exact xH (fun i hi=>hE.live _ hi) (fun _=>l1) l2 l3 (fun ho=>⟨k1.trans ho,k2,fun o=>(k3 o).1⟩) (fun a x hi hc=>(hc.ext hE hw T hT).2 hi) (fun b hb aV=>by
   obtain⟨q1,q2,q3,q4⟩:=hE.bw b aV (by rw[hb];exact hkn);exact⟨q1.trans hb,q2,q3,q4⟩) h
 |box cs=>
  obtain⟨hl,c,e,hb,ho,hs,dg,hq⟩:=h;obtain⟨l1,l2,l3⟩:=hE.live k hl;have aV:E.m k<E.h.size:=hw.own _ (by rw[ho];simp)
  obtain⟨k1,k2,k3,k4⟩:=hE.bw (E.m k) aV (by rw[ho];exact hk);refine⟨l1,c,e,?_,?_,?_,?_,?_⟩
  ·rw[l2,k2];exact hb
  ·rw[l2,k1];exact ho
  ·intro o;rw[l2,k3];exact hs o
  ·rw[dy];exact dg
  ·intro q a x ha hx;rw[qH]at ha;cases hh:cs[q]? with
   |none=>rw[hh]at ha;simp at ha
   |some a'=>rw[hh]at ha;simp at ha;subst ha;exact((hq q a' x hh hx).ext hE hw T hT).1
 |arr z xs=>
  obtain⟨hl,nQ,dw,hz,hm,c,e,hb,ho,hs,dg,hi,hq⟩:=h;obtain⟨l1,l2,l3⟩:=hE.live k hl;have aV:E.m k<E.h.size:=hw.own _ (by rw[ho];simp)
  obtain⟨k1,k2,k3,k4⟩:=hE.bw (E.m k) aV (by rw[ho];exact hk);refine⟨l1,l3.trans nQ,dw,hz,hm,c,e,?_,?_,?_,dg,hi,fun q a x ha hx=>((hq q a x ha hx).ext hE hw T hT).2 (hi q a ha)⟩
  ·rw[l2,k2];exact hb
  ·rw[l2,k1];exact ho
  ·intro o;rw[l2,k3];exact hs o
 |lp n t ps nX body st=>
  obtain⟨hl,ho,hs,rec,hb,h1,h2,h3,h4,h5,h6,hq⟩:=h;obtain⟨l1,l2,l3⟩:=hE.live k hl;have aV:E.m k<E.h.size:=hw.own _ (by rw[ho];simp)
  obtain⟨k1,k2,k3,k4⟩:=hE.bw (E.m k) aV (by rw[ho];exact hk);refine⟨l1,?_,?_,rec,?_,h1,h2,h3,h4,h5,l2.trans h6,xF hE hw T hT hq⟩
  ·rw[l2,k1];exact ho
  ·intro o;rw[l2,k3];exact hs o
  ·rw[l2,k2];exact hb
theorem jP.move{C:Own→Prop}(hE:Ext C E E')(hw:Wf E)(T:Tok→Bool)(hT: ∀t,C (.tok t)→T t=true): ∀{aa:List Act} {fs:List Fr},jP E aa fs→jP E' aa (lG T fs)
 |[],[],_=>trivial
 |a::aa,f::fs,h=>⟨⟨h.1.1,xF hE hw T hT h.1.2⟩,jP.move hE hw T hT h.2⟩
 |[],_::_,h=>h.elim
 |_::_,[],h=>h.elim
theorem Dfs.move{C:Own→Prop}(hE:Ext C E E')(hC: ¬C .kM){n0:Nat}{l:List Deferred}(h:Dfs n0 E l):Dfs n0 E' l:=by
 obtain⟨Bs,h1,h2,h3⟩:=h;refine⟨Bs,h1,h2,fun B hB=>?_⟩;obtain⟨h4,h5,h6⟩:=h3 B hB;obtain⟨k1,k2,_⟩:=hE.bw B (Array.getElem?_eq_some_iff.1 h4).1 (by rw[h5];exact hC);exact⟨k2.trans h4,k1.trans h5,h6⟩
theorem KG.kM{C:Own→Prop}(h:KG C): ¬C .kM:=fun hc=>by
 rcases h _ hc with h|h
 ·cases h
 ·cases h
def GN(T:Tok→Bool):Prop:= ∀t,T t=false
 mutual
theorem lb{T:Tok→Bool}(h:GN T): ∀a,Ab.rA T a=a
  | .gs r t xs=>by simp[Ab.rA,h t]
  | .fn f cs=>by simp[Ab.rA,Ah h cs]
  | .agg cs=>by simp[Ab.rA,Ah h cs]
  | .gw cs=>by simp[Ab.rA,Ah h cs]
  | .any=>rfl
  | .v _=>rfl
  | .sl _ _=>rfl
  | .aR _ _ _=>rfl
  | .ptr _ _=>rfl
  | .eW _ _=>rfl
  | .ca _ _ _ _=>rfl
  | .mp _=>rfl
  | .nM _=>rfl
  | .ar _ _ _=>rfl
  | .bm _ _=>rfl
  | .lB _ _ _=>rfl
theorem Ah{T:Tok→Bool}(h:GN T): ∀a,Ab.mc T a=a
  |[]=>rfl
  |a::r=>by simp[mc,lb h a,Ah h r]
end
theorem lX{T:Tok→Bool}(h:GN T): ∀t,fY T t=t
 |[]=>rfl
 |(d,a)::r=>by simp[fY,lb h,lX h r]
theorem oI{T:Tok→Bool}(h:GN T)(o:Ob):yx T o=o:=by cases o<;>simp[yx,Ah h,lX h]
theorem qj{T:Tok→Bool}(h:GN T): ∀t,lG T t=t
 |[]=>rfl
 |f::r=>by simp[lG,lX h,qj h r]
theorem Qc{T:Tok→Bool}(h:GN T): ∀t,fe T t=t
 |[]=>rfl
 |(d,a)::r=>by simp[fe,oI h,Qc h r]
theorem St.lb{T:Tok→Bool}(h:GN T):s.rA T=s:=by cases s;simp[St.rA,lX h,Qc h,qj h]
theorem bq.giveUp(h:bq E0 E w0 w s a)(T:Tok→Bool):bq E0 E w0 w (s.rA T) a:=by
 have hE:=Ext.refl (fun _=>False) E
 have hT: ∀t,(fun _:Own=>False) (.tok t)→T t=true:=fun _ hf=>hf.elim
 refine⟨h.heap,h.wf,h.Kp,jP.move hE h.wf T hT h.up,h.sz,?_,?_,?_,?_,h.gx,h.gl,h.ext,h.wI,h.same,h.gk,h.nl,h.ng,h.lo⟩
 ·intro d x hd hp;have nN:look d (fY T s.t)=some x:=hd
  rw[tz]at nN;cases hh:look d s.t with
  |none=>rw[hh]at nN;simp at nN
  |some y=>rw[hh]at nN;simp at nN;subst nN;exact((h.tm d y hh ((jr T).1 hp)).ext hE h.wf T hT).1
 ·intro d q hd hp;exact h.cu d q hd (fun hh=>hp ((jr T).2 hh))
 ·intro d ob hd;have nN:look d (fe T s.b)=some ob:=hd
  rw[cE]at nN;cases hh:look d s.b with
  |none=>rw[hh]at nN;simp at nN
  |some y=>rw[hh]at nN;simp at nN;subst nN;exact bM.move hE h.wf T hT (fun hf=>hf.elim) (fun _ hf=>hf.elim) (h.bx d y hh)
 ·intro d hl;obtain⟨ob,ho⟩:=h.lv d hl;exact⟨yx T ob,by show look d (fe T s.b)=_;rw[cE,ho];rfl⟩
theorem bq.draw(h:bq E0 E w0 w s a)(hh:w'.heap=w.heap)(hs:jk w w'):bq E0 E w0 w' s a:=
 ⟨hh.trans h.heap,h.wf,h.Kp,h.up,h.sz,h.tm,h.cu,h.bx,h.lv,h.gx,h.gl,h.ext,h.wI,h.same.trans hs,h.gk,h.nl,h.ng,h.lo⟩
 mutual
theorem Qz{T:Tok→Bool}: ∀{a:AV},bX a=true→Ab.rA T a=a
  | .gs r t xs,h=>by simp[bX]at h
  | .fn f cs,h=>by simp only[Ab.rA,wR (show cr cs=true by simpa[bX]using h)]
  | .agg cs,h=>by simp only[Ab.rA,wR (show cr cs=true by simpa[bX]using h)]
  | .gw cs,h=>by simp only[Ab.rA,wR (show cr cs=true by simpa[bX]using h)]
  | .any,_=>rfl
  | .v _,_=>rfl
  | .sl _ _,_=>rfl
  | .aR _ _ _,_=>rfl
  | .ptr _ _,_=>rfl
  | .eW _ _,_=>rfl
  | .ca _ _ _ _,_=>rfl
  | .mp _,_=>rfl
  | .nM _,_=>rfl
  | .ar _ _ _,_=>rfl
  | .bm _ _,_=>rfl
  | .lB _ _ _,_=>rfl
theorem wR{T:Tok→Bool}: ∀{a:List AV},cr a=true→mc T a=a
  |[],_=>rfl
  |a::r,h=>by
   simp only[cr,Bool.and_eq_true]at h;simp only[mc,Qz h.1,wR h.2]
end
theorem bM.shared{C:Own→Prop}(hE:Ext C E E')(hw:Wf E)(T:Tok→Bool)(hT: ∀t,C (.tok t)→T t=true){i:Nat}{ob:Ob}(hk: ¬C (.key (.o i)))
  (hg:match ob with
   | .box cs=> ∀(q:Nat) (a:AV),cs[q]? =some a→bX a=true
   | .arr _ _=>True
   | .ow .. =>False
   | .lp .. =>False)(h:bM E (.o i) ob):bM E' (.o i) ob:=by
 have hm:=bM.move hE hw T hT hk (fun ho=>by cases ob<;>first|(cases ho;done)|exact hg.elim) h
 cases ob with
 |arr z xs=>exact hm
 |lp=>exact hg.elim
 |ow=>exact hg.elim
 |box cs=>
  obtain⟨hl,c,e,hb,ho,hs,dg,hqq⟩:=hm;obtain⟨_,c0,e0,GY,_,_,abh,hq0⟩:=h;refine⟨hl,c,e,hb,ho,hs,by rw[dg,dy],fun q a x ha hx=>?_⟩;have:=hqq q (Ab.rA T a) x (by rw[qH,ha];rfl) hx
  rwa [Qz (hg q a ha)]at this
theorem bq.xZ(h:bq E0 E w0 w s a){C:Own→Prop}{T:Tok→Bool}(hE:Ext C E E')(hT: ∀t,C (.tok t)→T t=true)(hC:KG C)(DM:Wf E')(hh:w'.heap=E'.h)(FZ:jk w w')
  (zy: ∀b,b<E0.h.size→C (E.own b)→(E'.own b).loc=false)(b':List (Nat×Ob))(g':Nat→Option Ob)(iP:Nat)
  (hb: ∀d ob,look d b'=some ob→(∃ob0,look d s.b=some ob0∧ob=yx T ob0∧ ¬C (.key (.s d))∧ ¬C (.tok (.n d)))∨bM E' (.s d) ob)
  (hlv: ∀d,E'.live (.s d)→ ∃ob,look d b'=some ob)
  (hg: ∀i ob,g' i=some ob→(s.g i=some ob∧ ¬C (.key (.o i)))∨bM E' (.o i) ob)
  (hgl: ∀i,E'.live (.o i)↔i<iP)(SP:GOk g')(hng: ∀b,¬du (E'.own b)):
  bq E0 E' w0 w' {s with t:=fY T s.t,b:=b',g:=g',nx:=iP,up:=lG T s.up} a:=by
 refine⟨hh,DM,h.Kp.move hE hC.kM,jP.move hE h.wf T hT h.up,h.sz,?_,?_,?_,hlv,?_,hgl,h.ext.xZ hE hC h.wI,Ext.wI hE hC h.ext h.wI zy,h.same.trans FZ,SP,h.nl,hng,h.lo⟩
 ·intro d x hd hp;have nN:look d (fY T s.t)=some x:=hd
  rw[tz]at nN;have hp':bc (s.rA T) (eP s d):=(j7 (s:=s.rA T) (s':={s with t:=fY T s.t,b:=b',g:=g',nx:=iP,up:=lG T s.up}) (fun _ _=>rfl)).1 hp
  cases hk:look d s.t with
  |none=>rw[hk]at nN;simp at nN
  |some y=>rw[hk]at nN;simp at nN;subst nN;exact((h.tm d y hk ((jr T).1 hp')).ext hE h.wf T hT).1
 ·intro d q hd hp;exact h.cu d q hd (fun hk=>hp ((j7 (s:=s.rA T) (s':={s with t:=fY T s.t,b:=b',g:=g',nx:=iP,up:=lG T s.up}) (fun _ _=>rfl)).2 ((jr T).2 hk)))
 ·intro d ob hd;rcases hb d ob hd with⟨ob0,h1,h2,h3,h4⟩|h1
  ·subst h2;exact(h.bx d ob0 h1).move hE h.wf T hT h3 (fun _=>h4)
  ·exact h1
 ·intro i ob hi;rcases hg i ob hi with⟨h1,h2⟩|h1
  ·exact(h.gx i ob h1).shared hE h.wf T hT h2 (h.gk i ob h1)
  ·exact h1
end Ab
namespace Ab
open Go
variable{P:Program}{L:nK}{E0 E E':Env}{w0 w w':World}{s:St}{a:Act}{p:Path}{C:dx}
def Out(E0:Env)(w0:World)(a:Act)(K:bd)(x:Value)(w':World):Prop:= ∃r s' E',K r s'∧bq E0 E' w0 w' s' a∧Cz E' r x
def fb(E0:Env)(w0:World)(o:Oper)(a:Act)(K:bd):Act→World→Prop:=fun a' w'=> ∃x,a'=a.put o.dst x∧Out E0 w0 a K x w'
def EP(P:Program)(o:Oper)(a:Act)(K:Act→World→Prop):Result Next→Prop
 | .ok (.value v) w'=>K (a.put o.dst v) w'
 | .ok .skip w'=>K (a.put o.dst undef) w'
 | .ok (.enter f args) w'=>Calls P f args w' fun e T1=> ∃x,e= .returned x∧K (a.put o.dst x) T1
 | .ok (.round l f tmps nX body) w'=>RoundIn Fence.wide 0 P l f tmps nX body w' fun e T1=> ∃x,e= .returned x∧K (a.put o.dst x) T1
 |_=>False
def lz(P:Program)(o:Oper)(a:Act)(w:World)(K:Act→World→Prop)(_:Exit→Act→World→Prop):Prop:=EP P o a K ((execOp a.eval o).run P w)
theorem lz.mono{o:Oper}{Q:Exit→Act→World→Prop}{K K':Act→World→Prop}(h: ∀a w,K a w→K' a w)(hh:lz P o a w K Q):lz P o a w K' Q:=by
 unfold lz at*;generalize (execOp a.eval o).run P w=r at*;cases r with
 |ok n w'=>
  cases n<;>simp only[EP]at hh ⊢ <;>
   first
    |exact h _ _ hh
    |exact Calls.mono hh (fun e T1 ⟨x,e1,e2⟩=>⟨x,e1,h _ _ e2⟩)
    |exact RoundIn.mono hh (fun e T1 ⟨x,e1,e2⟩=>⟨x,e1,h _ _ e2⟩)
 |halt x w'=>simp only[EP]at hh
theorem cP{o:Oper}{Q:Exit→Act→World→Prop}{K:bd}{x:Value}(h:(execOp a.eval o).run P w= .ok (.value x) w')(k:Out E0 w0 a K x w'):lz P o a w (fb E0 w0 o a K) Q:=by
 unfold lz;rw[h];exact⟨x,rfl,k⟩
theorem sU{o:Oper}{Q:Exit→Act→World→Prop}{K:bd}(h:(execOp a.eval o).run P w= .ok .skip w')(k:Out E0 w0 a K undef w'):lz P o a w (fb E0 w0 o a K) Q:=by
 unfold lz;rw[h];exact⟨undef,rfl,k⟩
theorem iB(P:Program)(e:Nat)(c:Array Value)(w:World):(newRow e c).run P w= .ok ⟨w.heap.size,0,none⟩ (w.alloc (.cells c e)):=rfl
def Env.addKey(E:Env)(k:Key)(o:Obj)(n:Nat:=0):Env:=
 {E with len:=fun q=>if q=k then(n,n)else E.len q,h:=E.h.push o,m:=fun q=>if q=k then E.h.size else E.m q,live:=fun q=>q=k∨E.live q,own:=fun b=>if b=E.h.size then .key k else E.own b}
theorem zI(h:Array Obj)(o:Obj){b:Nat}(hb:b<h.size)(i:Nat):aO (h.push o) b i=aO h b i:=by
 unfold aO;rw[Array.getElem?_push,if_neg (by omega)]
theorem ot(hw:Wf E){k:Key}(hk: ¬E.live k)(o:Obj)(n:Nat:=0):Ext (fun _=>False) E (E.addKey k o n):=
 ⟨by simp[Env.addKey],
  fun b i hs=>⟨hs,zI _ _ (hw.aI b i hs) i,rfl⟩,
  fun q hq=>⟨.inr hq,by simp only[Env.addKey];rw[if_neg (fun e=>by subst e;exact hk hq)],by simp only[Env.addKey];rw[if_neg (fun e=>by subst e;exact hk hq)]⟩,
  fun b hb _=>⟨by simp only[Env.addKey];rw[if_neg (by omega)],by simp only[Env.addKey];rw[Array.getElem?_push,if_neg (by omega)],fun _=>Iff.rfl,rfl⟩⟩
theorem IM(hw:Wf E)(k:Key)(o:Obj)(n:Nat:=0):Wf (E.addKey k o n):=
 ⟨fun b i hs=>by have:=hw.aI b i hs;simp[Env.addKey];omega,
  fun b hb=>by
  simp only[Env.addKey]at hb ⊢;by_cases h:b=E.h.size
  ·subst h;simp
  ·rw[if_neg h]at hb;have:=hw.own b hb;simp;omega,
  fun b i hs hr=>by
  obtain⟨c,e,h⟩:=hw.fz b i hs hr;have:=hw.aI b i hs
  exact⟨c,e,by simp only[Env.addKey];rw[Array.getElem?_push,if_neg (by omega)];exact h⟩⟩
theorem qT:KG (fun _=>False):=fun _ h=>h.elim
theorem uq(w:World)(o:Obj):jk w (w.alloc o):=⟨rfl,rfl,rfl⟩
theorem IN(h: ∀b,¬du (E.own b))(d:Nat){o:Obj}{n:Nat}(b:Nat): ¬du ((E.addKey (.s d) o n).own b):=by
 simp only[Env.addKey]
 split
 ·simp[du,Own.du,Key.loc]
 ·exact h b
theorem bq.Si(h:bq E0 E w0 w s a){d:Nat}(hd:look d s.b=none){ob:Ob}{c:Array Value}{e n:Nat}(qf:bM (E.addKey (.s d) (.cells c e (0,0)) n) (.s d) ob):
  bq E0 (E.addKey (.s d) (.cells c e (0,0)) n) w0 (w.alloc (.cells c e)) {s with b:=cT d ob s.b} a:=by
 have xR: ¬E.live (.s d):=fun hl=>by obtain⟨ob,ho⟩:=h.lv d hl;rw[hd]at ho;cases ho
 have hE:=ot h.wf xR (.cells c e (0,0)) n
 have hs:=h.xZ (T:=fun _=>false) hE (fun _ hf=>hf.elim) qT (IM h.wf _ _ n) (w':=w.alloc (.cells c e)) (by show w.heap.push _=_;rw[h.heap];rfl) (uq _ _) (fun _ _ hf=>hf.elim)
  (cT d ob s.b) s.g s.nx (fun d' DF h'=>by
   rw[aF]at h';by_cases rF:d=d'
   ·rw[if_pos rF]at h';cases h';subst rF;exact .inr qf
   ·rw[if_neg rF]at h';exact .inl ⟨DF,h',(oI (fun _=>rfl) DF).symm,(fun hf=>hf),fun hf=>hf⟩)
  (fun d' hl=>by
   rw[aF];by_cases rF:d=d'
   ·exact⟨ob,by rw[if_pos rF]⟩
   ·rw[if_neg rF];rcases hl with hl|hl
    ·exact absurd (by injection hl with hl;exact hl.symm) rF
    ·exact h.lv d' hl)
  (fun i DF h'=> .inl ⟨h',fun hf=>hf⟩)
  (fun i=>by
   constructor
   ·rintro(hl|hl)
    ·cases hl
    ·exact(h.gl i).1 hl
   ·exact fun hl=> .inr ((h.gl i).2 hl)) h.gk (fun b=>IN h.ng d b)
 have:fY (fun _=>false) s.t=s.t:=lX (fun _=>rfl) _
 rw[this,qj (fun _=>rfl)]at hs;exact hs
theorem PL(h:bq E0 E w0 w s a){k:Key}(hk: ¬E.live k){cs:List AV}{c:Array Value}(hr:Row E cs c)(e:Nat):bM (E.addKey k (.cells c e (0,0))) k (.box cs):=by
 have hE:=ot h.wf hk (.cells c e (0,0))
 refine⟨.inl rfl,c,e,by simp[Env.addKey],by simp[Env.addKey],fun o hs=>?_,hr.1,fun q a x ha hx=>?_⟩
 ·simp only[Env.addKey,if_true]at hs;have:=h.wf.aI _ _ hs;omega
 ·have:=((hr.2 q a x ha hx).ext hE h.wf (fun _=>false) (fun _ hf=>hf.elim)).1
  rwa [lb (fun _=>rfl)]at this
theorem AE(h:bq E0 E w0 w s a){d e:Nat}{cs:List AV}{c:Array Value}(hr:Row E cs c){K:bd}(hk:JY C s d cs K):
  Out E0 w0 a K (.pointer (some ⟨w.heap.size,0,none⟩)) (w.alloc (.cells c e)):=by
 unfold JY at hk;cases Bu:Nf d C.sh with
 |true=>
  rw[Bu,aE]at hk;exact hk.elim
 |false=>
  rw[Bu,aM]at hk;generalize C.base+d=d at hk;cases hl:look d s.b with
  |some _=>rw[hl]at hk;exact hk.elim
  |none=>
   rw[hl]at hk;have xR: ¬E.live (.s d):=fun rB=>by obtain⟨ob,ho⟩:=h.lv d rB;rw[hl]at ho;cases ho
   refine⟨_,_,_,hk,h.Si hl (PL h xR hr e),?_⟩;have:(E.addKey (.s d) (.cells c e (0,0))).m (.s d)=w.heap.size:=by simp[Env.addKey,h.heap]
   rw[←this];exact .ptr _ _ (.inl rfl)
theorem NF(h:bq E0 E w0 w s a){o:Oper}{e d:Nat}{x:Operand}(he:o.op= .box e x){K:bd}{Q:Exit→Act→World→Prop}(hk:aeI C d (bP s [] x) s K):lz P o a w (fb E0 w0 o a K) Q:=by
 unfold aeI at hk;cases hz:zJ (bP s [] x)with
 |none=>rw[hz]at hk;exact hk.elim
 |some k=>
  rw[hz]at hk;have hx:=h.ev (p:=[]) trivial x
  obtain⟨c1,c2,c3⟩:=lU hx hz;have:=AE h (e:=e) (c:=(a.eval x).cells) ⟨by rw[c1,c2],c3⟩ hk
  refine cP (x:= .pointer (some ⟨w.heap.size,0,none⟩)) (w':=w.alloc (.cells (a.eval x).cells e)) ?_ this;simp only[execOp,he,Instr.box,newVar];simp[iB]
theorem TJ{z:Value}{l:List Value}(h:z.cells.toList=l):Row E (l.map AV.v) z.cells:=by
 refine⟨by rw[List.length_map,←h];simp,fun q a y ha hy=>?_⟩;rw[←h,List.getElem?_map,Array.getElem?_toList,hy]at ha;simp at ha;subst ha;exact .v _
theorem HJ{e:Nat}{z:Value}{i:TypeInfo}(h:P.info? e=some i)(hz:i.zero=some z)(w:World):(Instr.alloc e true (.tuple #[])).run P w= .ok (.pointer (some ⟨w.heap.size,0,none⟩)) (w.alloc (.cells z.cells e)):=by
 have h1: ∀w,(zeroValue e).run P w= .ok z w:=fun w=>by simp[zeroValue,typeInfo,go_sem,h,hz]
 unfold Instr.alloc;simp[Sem.run_bind,h1,Result.andThen,newVar,iB]
theorem ail(l:List Value):cr (l.map AV.v)=true:=xP fun q a h=>by
 rw[List.getElem?_map]at h;cases hq:l[q]? with
 |none=>rw[hq]at h;simp at h
 |some x=>rw[hq]at h;simp at h;subst h;rfl
theorem Mx{a b:List AV}(ha:cr a=true)(hb:cr b=true):cr (a++b)=true:=by
 induction a with
 |nil=>exact hb
 |cons x r ih=>simp only[cr,Bool.and_eq_true,List.cons_append]at ha ⊢;exact⟨ha.1,ih ha.2⟩
theorem uS(n:Nat){l:List AV}(h:cr l=true):cr (List.replicate n l).flatten=true:=by
 induction n with
 |zero=>rfl
 |succ n ih=>rw[List.replicate_succ,List.flatten_cons];exact Mx h ih
theorem Lc: ∀(n:Nat) (l:List Value),(List.replicate n (l.map AV.v)).flatten=((List.replicate n l).flatten).map AV.v
 |0,_=>rfl
 |n+1,l=>by rw[List.replicate_succ,List.replicate_succ,List.flatten_cons,List.flatten_cons,List.map_append,Lc n l]
theorem GK(h:bq E0 E w0 w s a){k:Key}(hk: ¬E.live k){z:Nat}{n:Nat}{l:List Value}(hz:0<z)(hl:l.length=z)(hn:n≤maxLen){c:Array Value}(hc:c.toList=(List.replicate n l).flatten)(e:Nat):
  bM (E.addKey k (.cells c e (0,0)) n) k (.arr z (List.replicate n (l.map AV.v))):=by
 have hlen: ∀x∈List.replicate n l,x.length=z:=fun x hx=>by rw[(List.mem_replicate.1 hx).2];exact hl
 refine⟨.inl rfl,by simp[Env.addKey],hz,fun x hx=>by rw[(List.mem_replicate.1 hx).2];simp[hl],by simpa using hn,c,e,by simp[Env.addKey],by simp[Env.addKey],fun o hs=>?_,?_,?_,?_⟩
 ·simp only[Env.addKey,if_true]at hs;have:=h.wf.aI _ _ hs;omega
 ·have:c.toList.length=n*z:=by rw[hc,aB hlen];simp
  simpa using this
 ·exact bf (uS n (ail l))
 ·intro q a x ha hx;rw[Lc,List.getElem?_map,←hc,Array.getElem?_toList,hx]at ha;simp at ha;subst ha;exact .v _
theorem ss{z:Nat}: ∀{n:Nat} {l:List AV},l.length=n*z→(chunks z n l).flatten=l∧(chunks z n l).length=n∧ ∀x∈chunks z n l,x.length=z
 |0,l,h=>by
  have:l=[]:=List.eq_nil_of_length_eq_zero (by simpa using h)
  subst this;simp[chunks]
 |n+1,l,h=>by
  rw[Nat.succ_mul]at h;obtain⟨h1,h2,h3⟩:=ss (z:=z) (n:=n) (l:=l.drop z) (by simp;omega);refine⟨by simp[chunks,h1],by simp[chunks,h2],fun x hx=>?_⟩;simp only[chunks,List.mem_cons]at hx;rcases hx with rfl|hx
  ·simp;omega
  ·exact h3 x hx
theorem Dq(h:bq E0 E w0 w s a){k:Key}(hk: ¬E.live k){z n:Nat}{cs:List AV}(hz:0<z)(hn:n≤maxLen){c:Array Value}(hl:cs.length=n*z)(hi:cr cs=true)(hr:Row E cs c)(e:Nat):
  bM (E.addKey k (.cells c e (0,0)) n) k (.arr z (chunks z n cs)):=by
 obtain⟨f1,f2,f3⟩:=ss hl;have hE:=ot h.wf hk (.cells c e (0,0)) n
 refine⟨.inl rfl,by simp[Env.addKey,f2],hz,f3,by rw[f2];exact hn,c,e,by simp[Env.addKey],by simp[Env.addKey],fun o hs=>?_,by rw[f2,hr.1,hl],?_,?_⟩
 ·simp only[Env.addKey,if_true]at hs;have:=h.wf.aI _ _ hs;omega
 ·rw[f1];exact bf hi
 ·rw[f1];intro q a x ha hx;have:=((hr.2 q a x ha hx).ext hE h.wf (fun _=>false) (fun _ hf=>hf.elim)).1
  rwa [lb (fun _=>rfl)]at this
theorem Jf(hL:bj P C.L)(hI:C.I=al)(h:bq E0 E w0 w s a){o:Oper}{e d:Nat}(he:o.op= .alloc e){K:bd}{Q:Exit→Act→World→Prop}(hk:NG C d e s K):lz P o a w (fb E0 w0 o a K) Q:=by
 unfold NG at hk;cases ht:C.L e with
 |none=>rw[ht]at hk;exact hk.elim
 |some ti=>
  rw[ht]at hk;dsimp only at hk;obtain⟨i,dd,z,h1,h2,h3,h4,h5,h6,h7⟩:=(hL.ok e ti ht).ex;have eB:(execOp a.eval o).run P w= .ok (.value (.pointer (some ⟨w.heap.size,0,none⟩))) (w.alloc (.cells z.cells e)):=by
   simp only[execOp,he];simp[HJ h1 h4]
  refine cP eB ?_
  split at hk
  ·rename_i n e' jH
   split at hk
   ·rename_i NK ht' eu;cases hb:bQ (n*NK.size) ti.size&&(mM 1 NK.size&&mM n 1048576)with
    |false=>rw[hb]at hk;exact hk.elim
    |true=>
     rw[hb,aE]at hk;simp only[Bool.and_eq_true]at hb;have b1:n*NK.size=ti.size:=cY hb.1
     have b2:1≤NK.size:=by simpa using hb.2.1
     have b3:n≤1048576:=by simpa using hb.2.2
     generalize C.base+d=d at hk eu;have xR: ¬E.live (.s d):=fun rB=>by obtain⟨ob,ho⟩:=h.lv d rB;rw[eu]at ho;cases ho
     obtain⟨zs,⟨hz1,SG⟩,hk⟩:=hk;rw[hI]at SG;have SG:List.replicate n (NK.zero.map AV.v)=zs:=SG
     subst SG;refine⟨_,_,_,hk,h.Si eu (GK h xR (z:=NK.size) (n:=n) (l:=NK.zero) (c:=z.cells) b2 (hL.ok e' NK ht').KV (by unfold maxLen;omega) (by rw[h5,hz1]) e),?_⟩;have:(E.addKey (.s d) (.cells z.cells e (0,0)) n).m (.s d)=w.heap.size:=by simp[Env.addKey,h.heap]
     rw[←this];exact .ptr _ _ (.inl rfl)
   ·exact hk.elim
  ·exact AE h (TJ h5) hk
theorem Js(w:World)(b o:Nat)(v:Value){c:Array Value}{e:Nat}{fr:Nat×Nat}(h:w.heap[b]? =some (.cells c e fr)):
  (w.setCell ⟨b,o,none⟩ v).heap=w.heap.setIfInBounds b (.cells (c.setIfInBounds o v) e fr):=by
 obtain⟨aV,hb⟩:=Array.getElem?_eq_some_iff.1 h;apply Array.ext
 ·simp[World.setCell]
 ·intro i h1 h2;simp only[World.setCell];by_cases hi:i=b
  ·subst hi;rw[Array.getElem_modify_self,Array.getElem_setIfInBounds_self,hb];obtain⟨x,y⟩:=fr;rfl
  ·rw[Array.getElem_modify_of_ne (Ne.symm hi),Array.getElem_setIfInBounds_ne (by simpa[World.setCell]using h1) (Ne.symm hi)]
theorem gT(P:Program)(b off e:Nat): ∀(vs:List Value) (i:Nat) (w:World) (c:Array Value),w.heap[b]? =some (.cells c e (0,0))→off+i+vs.length≤c.size→(∀v∈vs,sy v=true)→
  ∃w',(storeCells ⟨b,off,none⟩ vs i).run P w= .ok () w'∧w'.heap=w.heap.setIfInBounds b (.cells ((vs.zipIdx i).foldl (fun cs (x,j)=>cs.setIfInBounds (off+j) x) c) e (0,0))∧jk w w'
 |[],i,w,c,hb,_,_=>by
  refine⟨w,by simp[storeCells,go_sem],?_,jk.refl _⟩;obtain⟨aV,dM⟩:=Array.getElem?_eq_some_iff.1 hb;apply Array.ext
  ·simp
  ·intro j h1 h2;by_cases hj:j=b
   ·subst hj;rw[Array.getElem_setIfInBounds_self];simpa using dM
   ·rw[Array.getElem_setIfInBounds_ne h1 (Ne.symm hj)]
 |v::r,i,w,c,hb,hlen,hv=>by
  simp only[List.length_cons]at hlen;have tJ:w.cell? ⟨b,off+i,none⟩=some c[off+i]:=by rw[kq,aO,hb];simp
  have hfr:w.frozen? ⟨b,off+i,none⟩=false:=by simp[World.frozen?,hb]
  have h0:=hv v (by simp)
  have er:(store ⟨b,off+i,none⟩ v).run P w= .ok () (w.setCell ⟨b,off+i,none⟩ v):=by
   unfold store;cases v<;>first|(simp[sy]at h0;done)|(simp[Sem.run,tJ,hfr])
  have MC:=Js w b (off+i) v hb
  have aV:b<w.heap.size:=(Array.getElem?_eq_some_iff.1 hb).1
  obtain⟨w',g1,g2,g3⟩:=gT P b off e r (i+1) (w.setCell ⟨b,off+i,none⟩ v) (c.setIfInBounds (off+i) v) (by rw[MC];simp[aV]) (by simp;omega) (fun x hx=>hv x (by simp[hx]));refine⟨w',?_,?_,?_⟩
  ·simp only[storeCells,ew];simp[Sem.run_bind,er,Result.andThen,g1]
  ·rw[g2,MC];simp
  ·exact jk.trans ⟨rfl,rfl,rfl⟩ g3
theorem run_store(hL:bj P L){t:Nat}{ti:TI}(ht:L t=some ti){b off e:Nat}{c:Array Value}{v:Value}(hb:w.heap[b]? =some (.cells c e (0,0)))(dg:v.cells.size=ti.size)(hle:off+ti.size≤c.size)
  (hv: ∀x∈v.cells.toList,sy x=true):
  ∃w',(Instr.storeAt t (.pointer (some ⟨b,off,none⟩)) v).run P w= .ok () w'∧w'.heap=w.heap.setIfInBounds b (.cells (v.cells.toList.zipIdx.foldl (fun cs (x,j)=>cs.setIfInBounds (off+j) x) c) e (0,0))∧jk w w':=by
 obtain⟨i,d,z,h1,h2,h3,h4,h5,h6,h7⟩:=(hL.ok t ti ht).ex;obtain⟨w',g1,g2,g3⟩:=gT P b off e v.cells.toList 0 w c hb (by simp;omega) hv;refine⟨w',?_,g2,g3⟩;unfold Instr.storeAt storeVar;simp only[Instr.sureAddr];simp[Sem.run_bind,Go.sizeOf,typeInfo,Sem.run,program,h1,h2,dg,Result.andThen,g1]
theorem Av{cs:List AV}{c:Array Value}(hr:Row E cs c)(h:oh cs=true): ∀x∈c.toList,sy x=true:=by
 have key: ∀(q:Nat) (a:AV),cs[q]? =some a→V8 a=true:=by
  clear hr
  induction cs with
  |nil=>intro q a ha;simp at ha
  |cons y r ih=>
   simp only[oh,Bool.and_eq_true]at h;intro q a ha;cases q with
   |zero=>simp at ha;subst ha;exact h.1
   |succ q=>exact ih h.2 q a (by simpa using ha)
 intro x hx;obtain⟨q,hq,he⟩:=List.getElem_of_mem hx;have vG:q<cs.length:=by rw[←hr.1];simpa using hq
 have h1:=key q cs[q] (by simp)
 have h2:=hr.2 q cs[q] x (by simp) (by rw[←he];simp)
 cases Ir:cs[q]<;>rw[Ir]at h1 h2<;>cases h2<;>first|rfl|(simp[V8]at h1;done)|exact h1|(rename_i hc;cases hc;rfl)
def Env.write(E:Env)(k:Key)(o:Obj):Env:={E with h:=E.h.setIfInBounds (E.m k) o}
theorem jl{k:Key}(ho:E.own (E.m k)= .key k)(hs: ∀o,¬E.aI (E.m k) o)(o:Obj):Ext (fun x=>x= .key k) E (E.write k o):=
 ⟨by simp[Env.write],
  fun b i hb=>⟨hb,by
   have:b≠E.m k:=fun e=>by subst e;exact hs i hb
   simp only[Env.write,aO];rw[Array.getElem?_setIfInBounds_ne (Ne.symm this)],rfl⟩,
  fun q hq=>⟨hq,rfl,rfl⟩,
  fun b hb hn=>⟨rfl,by
   have:b≠E.m k:=fun e=>by subst e;exact hn ho
   simp only[Env.write];rw[Array.getElem?_setIfInBounds_ne (Ne.symm this)],fun _=>Iff.rfl,rfl⟩⟩
theorem TU(hw:Wf E)(k:Key)(o:Obj)(hn: ∀i,¬E.aI (E.m k) i):Wf (E.write k o):=
 ⟨fun b i hs=>by have:=hw.aI b i hs;simpa[Env.write]using this,fun b hb=>by have:=hw.own b hb;simpa[Env.write]using this,
  fun b i hs hr=>by
  obtain⟨c,e,h⟩:=hw.fz b i hs hr;have:b≠E.m k:=fun e=>by subst e;exact hn i hs
  exact⟨c,e,by simp only[Env.write];rw[Array.getElem?_setIfInBounds_ne (Ne.symm this)];exact h⟩⟩
theorem Mb(k:Key):KG (fun x=>x= .key k):=fun o h=>by subst h;cases k<;>simp[Own.loc,du,Own.du,Key.loc]
theorem fX(k:Key): ∀t,(fun x=>x=Own.key k) (.tok t)→(fun _:Tok=>false) t=true:=fun t h=>by cases h
theorem bq.pB(h:bq E0 E w0 w s a){d:Nat}{ob ob0:Ob}(eu:look d s.b=some ob0){o:Obj}(qf:bM (E.write (.s d) o) (.s d) ob)(hh:w'.heap=w.heap.setIfInBounds (E.m (.s d)) o)(FZ:jk w w')
  (ho:E.own (E.m (.s d))= .key (.s d))(hs: ∀o,¬E.aI (E.m (.s d)) o):bq E0 (E.write (.s d) o) w0 w' {s with b:=cT d ob s.b} a:=by
 have hE:=jl ho hs o
 have hx:=h.xZ (T:=fun _=>false) hE (fX _) (Mb _) (TU h.wf _ _ hs) (w':=w') (by rw[hh,h.heap];rfl) FZ
  (fun b hb hc=>by have:=h.wI b hb;rw[hc]at this;simp[Own.loc,Key.loc]at this) (cT d ob s.b) s.g s.nx
  (fun d' DF h'=>by
   rw[aF]at h';by_cases rF:d=d'
   ·rw[if_pos rF]at h';cases h';subst rF;exact .inr qf
   ·rw[if_neg rF]at h';exact .inl ⟨DF,h',(oI (fun _=>rfl) DF).symm,(fun hf=>rF (by injection hf with hf;injection hf with hf;exact hf.symm)),fun hf=>by cases hf⟩)
  (fun d' hl=>by
   rw[aF];by_cases rF:d=d'
   ·exact⟨ob,by rw[if_pos rF]⟩
   ·rw[if_neg rF];exact h.lv d' hl)
  (fun i DF h'=> .inl ⟨h',fun hf=>by cases hf⟩) (fun i=>h.gl i) h.gk h.ng
 have:fY (fun _=>false) s.t=s.t:=lX (fun _=>rfl) _
 rw[this,qj (fun _=>rfl)]at hx;exact hx
theorem BC{k:Key}{cs vs:List AV}{c:Array Value}{e off:Nat}{ys:List Value}(hw:Wf E)(hl:E.live k)(hb:E.h[E.m k]? =some (.cells c e (0,0)))(ho:E.own (E.m k)= .key k)(hs: ∀o,¬E.aI (E.m k) o)
  (hr:Row E cs c)(hle:off+vs.length≤cs.length)(YR:ys.length=vs.length)(hy: ∀(q:Nat) (a:AV) (y:Value),vs[q]? =some a→ys[q]? =some y→Cz E a y):
  bM (E.write k (.cells (ys.zipIdx.foldl (fun cs (x,j)=>cs.setIfInBounds (off+j) x) c) e (0,0))) k (.box (bF cs off vs)):=by
 have Bt:=hr.bF hle YR hy
 have hE:=jl ho hs (.cells (ys.zipIdx.foldl (fun cs (x,j)=>cs.setIfInBounds (off+j) x) c) e (0,0))
 have aV:E.m k<E.h.size:=(Array.getElem?_eq_some_iff.1 hb).1
 refine⟨hl,_,e,by simp[Env.write,aV],ho,hs,Bt.1,fun q a x ha hx=>?_⟩;have:=((Bt.2 q a x ha hx).ext hE hw (fun _=>false) (fX _)).1
 rwa [lb (fun _=>rfl)]at this
theorem Cz.giveUp{av:AV}{v:Value}(hw:Wf E)(h:Cz E av v)(T:Tok→Bool):Cz E (Ab.rA T av) v:=(h.ext (Ext.refl (fun _=>False) E) hw T (fun _ hf=>hf.elim)).1
theorem KD(T:Tok→Bool)(av:AV):zJ (Ab.rA T av)=zJ av:=by
 cases av with
 |gs r t xs=>simp only[Ab.rA];split<;>rfl
 |agg cs=>simp[Ab.rA,zJ,dy]
 |_=>rfl
theorem BD{k:Key}{z:Nat}{xs xs':List (List AV)}{vs:List AV}{c:Array Value}{e off:Nat}{ys:List Value}(hw:Wf E)(hl:E.live k)(nQ:E.len k=(xs'.length,xs'.length))(dw:0<z)(hm:xs'.length≤maxLen)(hz: ∀l∈xs',l.length=z)
  (hb:E.h[E.m k]? =some (.cells c e (0,0)))(ho:E.own (E.m k)= .key k)(hs: ∀o,¬E.aI (E.m k) o)
  (hr:Row E xs.flatten c)(hi: ∀(q:Nat) (a:AV),xs.flatten[q]? =some a→bX a=true)(hiv:cr vs=true)(hle:off+vs.length≤xs.flatten.length)(fS:xs'.flatten=bF xs.flatten off vs)
  (YR:ys.length=vs.length)(hy: ∀(q:Nat) (a:AV) (y:Value),vs[q]? =some a→ys[q]? =some y→Cz E a y):
  bM (E.write k (.cells (ys.zipIdx.foldl (fun cs (x,j)=>cs.setIfInBounds (off+j) x) c) e (0,0))) k (.arr z xs'):=by
 have Bt:=hr.bF hle YR hy
 generalize (ys.zipIdx.foldl (fun cs (x,j)=>cs.setIfInBounds (off+j) x) c)=F at Bt ⊢;have hE:=jl ho hs (.cells F e (0,0))
 have aV:E.m k<E.h.size:=(Array.getElem?_eq_some_iff.1 hb).1
 rw[←fS]at Bt;refine⟨hl,nQ,dw,hz,hm,F,e,by simp[Env.write,aV],ho,hs,by have:=Bt.1;rw[aB hz]at this;exact this,?_,fun q a x ha hx=>?_⟩
 ·intro q a ha;rw[fS,uo hle]at ha
  split at ha
  ·exact bf hiv _ a ha
  ·exact hi q a ha
 ·have:=((Bt.2 q a x ha hx).ext hE hw (fun _=>false) (fX _)).1
  rwa [lb (fun _=>rfl)]at this
theorem oZ{z:Nat}: ∀{xs:List (List AV)} {i:Nat} {cs vs:List AV} {off:Nat},(∀l∈xs,l.length=z)→xs[i]? =some cs→off+vs.length≤z→(xs.set i (bF cs off vs)).flatten=bF xs.flatten (i*z+off) vs
 |[],i,cs,vs,off,_,h,_=>by simp at h
 |l::r,0,cs,vs,off,hz,h,hle=>by
  simp at h;subst h;have hl:=hz l (by simp)
  simp only[List.set_cons_zero,List.flatten_cons,Nat.zero_mul,Nat.zero_add];unfold bF;rw[List.take_append_of_le_length (by omega),List.drop_append_of_le_length (by omega)];simp
 |l::r,i+1,cs,vs,off,hz,h,hle=>by
  have hl:=hz l (by simp)
  have ih:=oZ (xs:=r) (i:=i) (fun l' rB=>hz l' (by simp[rB])) (by simpa using h) hle
  simp only[List.set_cons_succ,List.flatten_cons,ih];unfold bF;rw[Nat.succ_mul,List.take_append,List.drop_append,List.take_of_length_le (l:=l) (by omega),@List.drop_eq_nil_of_le _ l _ (by omega)];rw[show i*z+z+off - l.length=i*z+off from by omega,show i*z+z+off+vs.length - l.length=i*z+off+vs.length from by omega];simp
def Env.dm(E:Env)(t t':Tok):Env:={E with own:=fun b=>match E.own b with| .tok q=>if q=t then .tok t' else .tok q|x=>x}
theorem sZ{t t':Tok}{b:Nat}(h:E.own b≠ .tok t):(E.dm t t').own b=E.own b:=by
 simp only[Env.dm]
 split
 ·rename_i q hq;rw[if_neg (fun e=>h (by rw[hq,e]))];exact hq.symm
 ·rfl
theorem s7(t t':Tok):Ext (fun x=>x= .tok t) E (E.dm t t'):=
 ⟨Nat.le_refl _,fun _ _ h=>⟨h,rfl,rfl⟩,fun _ h=>⟨h,rfl,rfl⟩,fun b _ hn=>⟨sZ hn,rfl,fun _=>Iff.rfl,rfl⟩⟩
theorem iG(t:Tok): ¬du (.tok t):=by cases t<;>simp[du,Own.du,Tok.loc]
theorem Lz(h: ∀b,¬du (E.own b))(t t':Tok)(b:Nat): ¬du ((E.dm t t').own b):=by
 have:=h b
 simp only[Env.dm]
 split
 ·split<;>exact iG _
 ·exact this
theorem Ly(hw:Wf E)(t t':Tok):Wf (E.dm t t'):=⟨hw.aI,fun b hb=>hw.own b (fun e=>hb (by simp only[Env.dm];rw[e])),hw.fz⟩
theorem kB(t q:Tok):aX t q=true↔t=q:=by
 cases t<;>cases q<;>simp[aX]
theorem Cz.dm{r:Nat}{t t':Tok}{xs:List (List AV)}{x:Value}(hw:Wf E)(h:Cz E (.gs r t xs) x):Cz (E.dm t t') (.gs r t' xs) x:=by
 cases h with
 |rH=>exact .rH _ _
 |gs _ _ _ z b c e cells u hc hm h0 dw hz hr hb dg ho er hi hu hq=>
  exact .gs r t' xs z b c e cells u hc hm h0 dw hz hr hb dg (by simp only[Env.dm];rw[ho];simp) er hi hu
   (fun q a ha=>((hq q a ha).ext (s7 t t') hw (aX t) (fun q' vG=>(kB _ _).2 (by cases vG;rfl))).2 (hi q a ha))
theorem bq.dm(h:bq E0 E w0 w s a)(t t':Tok)(QC:Sh t=true):bq E0 (E.dm t t') w0 w (s.rA (aX t)) a:=by
 have hE:=s7 (E:=E) t t'
 have hC:KG (fun x=>x=Own.tok t):=fun o ho=>by subst ho;left;cases t<;>rfl
 have hx:=h.xZ (T:=aX t) hE (fun t ht=>(kB _ _).2 (by cases ht;rfl)) hC (Ly h.wf _ _) (w':=w) h.heap (jk.refl _)
  (fun b hb hc=>by
   have:=h.wI b hb
   rw[hc]at this;cases t<;>simp[Own.loc,Tok.loc]at this) (fe (aX t) s.b) s.g s.nx
  (fun d ob hd=>by
   rw[cE]at hd;cases hh:look d s.b with
   |none=>rw[hh]at hd;simp at hd
   |some y=>rw[hh]at hd;simp at hd;exact .inl ⟨y,rfl,hd.symm,(fun hf=>by cases hf),fun hf=>by cases hf;cases QC⟩)
  (fun d hl=>by
   obtain⟨ob,ho⟩:=h.lv d hl;exact⟨yx (aX t) ob,by rw[cE,ho];rfl⟩)
  (fun i ob hi=> .inl ⟨hi,fun hf=>by cases hf⟩) (fun i=>h.gl i) h.gk (Lz h.ng t t')
 exact hx
theorem yq(hL:bj P C.L)(h:bq E0 E w0 w s a){t:Nat}{ti:TI}(ht:C.L t=some ti){d off:Nat}{av:AV}{v:Value}(hv:Cz E av v){k:Nat}(hk:zJ av=some k)(YZ:k=ti.size)(wV:oh (cellsOf av)=true){K:bd}
  (hK:qi al ti d off av s K): ∃w',(Instr.storeAt t (.pointer (some ⟨E.m (.s d),off,none⟩)) v).run P w= .ok () w'∧Out E0 w0 a K undef w':=by
 obtain⟨c1,c2,c3⟩:=lU hv hk;have FY:=Av (E:=E) (c:=v.cells) ⟨by rw[c1,c2],c3⟩ wV
 unfold qi at hK
 split at hK
 ·rename_i cs eu;cases hle:mM (off+ti.size) cs.length with
  |false=>rw[hle]at hK;exact hK.elim
  |true=>
   rw[hle,aE]at hK;have aiF:off+ti.size≤cs.length:=by simpa using hle
   split at hK
   ·rename_i r t0 xs;simp only[zJ,Option.some.injEq]at hk;obtain⟨QC,hK⟩:=hK;have h2:=h.dm t0 (.c d off) QC
    have SM:look d (fe (aX t0) s.b)=some (.box (mc (aX t0) cs)):=by rw[cE,eu];rfl
    obtain⟨hl,c,e,hb,ho,hs,dg,hq⟩:=h2.bx d _ SM;have hv2:=hv.dm (t':= .c d off) h.wf
    obtain⟨w',g1,g2,g3⟩:=run_store (w:=w) hL ht (b:=E.m (.s d)) (off:=off) (e:=e) (c:=c) (v:=v) (by rw[h.heap];exact hb) (by omega) (by rw[dg,dy];omega) FY;have hvc:v.cells= #[v]:=by cases hv<;>rfl
    refine⟨w',g1,_,_,_,hK,h2.pB SM (BC h2.wf hl hb ho hs ⟨dg,hq⟩ (vs:=[.gs r (.c d off) xs]) (by rw[dy];simp;omega) (by simp[hvc]) (fun q' a' y h1 h2=>?_)) g2 g3 ho hs,.any _⟩;rw[hvc]at h2;cases q' with
    |zero=>simp at h1 h2;subst h1;subst h2;exact hv2
    |succ q'=>simp at h1
   obtain⟨hl,c,e,hb,ho,hs,dg,hq⟩:=h.bx d _ eu;obtain⟨w',g1,g2,g3⟩:=run_store (w:=w) hL ht (b:=E.m (.s d)) (off:=off) (e:=e) (c:=c) (v:=v) (by rw[h.heap];exact hb) (by omega) (by omega) FY;refine⟨w',g1,_,_,_,hK,h.pB eu (BC h.wf hl hb ho hs ⟨dg,hq⟩ (by omega) (by simp;omega) (fun q a y h1 h2=>c3 q a y h1 (by simpa using h2))) g2 g3 ho hs,.any _⟩
 ·rename_i z xs eu
  split at hK
  ·rename_i n e' jH;obtain⟨e0,e1,e2,hi,hK⟩:=hK;have e1:xs.length=n:=e1
   subst e0;subst e1;obtain⟨hl,nQ,dw,hz,hm,c,e,hb,ho,hs,dg,kY,hq⟩:=h.bx d _ eu;have fS:=aB hz
   have hvr:=hv.giveUp h.wf (fun _=>true)
   obtain⟨d1,d2,d3⟩:=lU hvr (k:=k) (by rw[KD];exact hk);have hlen:(cellsOf (rd av)).length=xs.length*z:=by
    show(cellsOf (Ab.rA _ av)).length=_;rw[d2,YZ,e2]
   obtain⟨f1,f2,f3⟩:=ss hlen;obtain⟨w',g1,g2,g3⟩:=run_store (w:=w) hL ht (b:=E.m (.s d)) (off:=0) (e:=e) (c:=c) (v:=v) (by rw[h.heap];exact hb) (by omega) (by omega) FY;refine⟨w',g1,_,_,_,hK,h.pB eu (BD h.wf hl (by show _=((chunks _ _ _).length,(chunks _ _ _).length);rw[f2];exact nQ) dw (by show(chunks _ _ _).length≤_;rw[f2];exact hm) f3 hb ho hs ⟨by rw[dg,fS],hq⟩ kY hi (off:=0) (by rw[hlen,fS];omega) ?_ (by simp;omega) (fun q a y h1 h2=>d3 q a y h1 (by simpa using h2))) g2 g3 ho hs,.any _⟩;show(chunks _ _ _).flatten=_;rw[f1];unfold bF;rw[hlen,←fS];simp
  ·exact hK.elim
 ·exact hK.elim
theorem G7(hL:bj P C.L)(h:bq E0 E w0 w s a){t:Nat}{ti:TI}(ht:C.L t=some ti){d i off z:Nat}{av:AV}{v:Value}(hv:Cz E av v){k:Nat}(hk:zJ av=some k)(YZ:k=ti.size)(wV:oh (cellsOf av)=true){K:bd}
  (hK:Ad al ti d i off z av s K): ∃w',(Instr.storeAt t (.pointer (some ⟨E.m (.s d),i*z+off,none⟩)) v).run P w= .ok () w'∧Out E0 w0 a K undef w':=by
 obtain⟨c1,c2,c3⟩:=lU hv hk;have FY:=Av (E:=E) (c:=v.cells) ⟨by rw[c1,c2],c3⟩ wV
 unfold Ad at hK
 split at hK
 ·rename_i z' xs eu;obtain⟨cs,e0,e1,e2,hi,hK⟩:=hK;subst e0;obtain⟨hl,nQ,dw,hz,hm,c,e,hb,ho,hs,dg,kY,hq⟩:=h.bx d _ eu;have fS:=aB hz
  have hvr:=hv.giveUp h.wf (fun _=>true)
  obtain⟨d1,d2,d3⟩:=lU hvr (k:=k) (by rw[KD];exact hk);have hlen:(cellsOf (rd av)).length=ti.size:=by show(cellsOf (Ab.rA _ av)).length=_;rw[d2,YZ]
  have vR:i<xs.length:=(bh.1 e1).1
  have hmul:i*z+z≤xs.length*z:=by rw[←Nat.succ_mul];exact Nat.mul_le_mul_right _ vR
  have zB:cs.length=z:=hz cs (by rw[fp vR]at e1;cases e1;simp)
  obtain⟨w',g1,g2,g3⟩:=run_store (w:=w) hL ht (b:=E.m (.s d)) (off:=i*z+off) (e:=e) (c:=c) (v:=v) (by rw[h.heap];exact hb) (by omega) (by omega) FY;refine⟨w',g1,_,_,_,hK,h.pB eu (BD h.wf hl (by show _=((List.set _ _ _).length,(List.set _ _ _).length);simpa using nQ) dw (by show(List.set _ _ _).length≤_;simpa using hm) ?_ hb ho hs ⟨by rw[dg,fS],hq⟩ kY hi (off:=i*z+off) (by rw[fS];omega) (oZ hz e1 (by omega)) (by simp;omega) (fun q a y h1 h2=>d3 q a y h1 (by simpa using h2))) g2 g3 ho hs,.any _⟩;intro l rB;rcases List.mem_or_eq_of_mem_set rB with h1|h1
  ·exact hz l h1
  ·rw[h1,jm (by omega)];exact zB
 ·exact hK.elim
theorem Cr{z:Nat}: ∀{xs:List (List AV)},(∀l∈xs,l.length=z)→chunks z xs.length xs.flatten=xs
 |[],_=>rfl
 |l::r,h=>by
  have hl:=h l (by simp)
  have ih:=Cr (xs:=r) (fun l' rB=>h l' (by simp[rB]))
  simp only[List.length_cons,chunks,List.flatten_cons];rw[←hl,List.take_left,List.drop_left,hl,ih]
theorem L0{ys:List (List AV)}(h:ep ys=true):oh ys.flatten=true:=by
 induction ys with
 |nil=>rfl
 |cons l r ih=>
  simp only[ep,Bool.and_eq_true]at h;rw[List.flatten_cons];have:=ih h.2
  generalize r.flatten=q at this;have h1:=h.1
  clear ih h
  induction l with
  |nil=>exact this
  |cons a l ih=>simp only[oh,Bool.and_eq_true,List.cons_append]at h1 ⊢;exact⟨h1.1,ih h1.2⟩
theorem EE(hL:bj P C.L)(hI:C.I=al)(h:bq E0 E w0 w s a){o:Oper}{t:Nat}{x y:Operand}(he:o.op= .store t x y){n z:Nat}{ys:List (List AV)}(dK:bP s [] y= .ar n z ys){K:bd}{Q:Exit→Act→World→Prop}(hk:EF C t (bP s [] x) n z ys s K):lz P o a w (fb E0 w0 o a K) Q:=by
 unfold EF at hk;have hx:=h.ev (p:=[]) trivial x
 have hy:=h.ev (p:=[]) trivial y
 rw[dK]at hy;obtain⟨zw,hn,hz,hi⟩:=PF hy
 split at hk
 ·rename_i ti d off rE hex
  split at hk
  ·rename_i m e' z' xs jH eu;obtain⟨⟨k1,k2,k3,k4,k5,k6⟩,hk⟩:=hk;subst k1;subst k2;subst k3;rw[hex]at hx;cases dD:a.eval x<;>rw[dD]at hx<;>cases hx;have QF:cellsOf (rd (.agg ys.flatten))=ys.flatten:=by show mc _ _=_;exact wR hi
   have fS:=aB hz
   obtain⟨w',g1,g2⟩:=yq (C:=C) (K:=K) (k:=ys.flatten.length) hL h rE (d:=d) (off:=0) (av:= .agg ys.flatten) zw rfl (by rw[fS,hn];exact k5) (L0 k6) (by
    unfold qi;rw[eu];dsimp only;rw[jH];dsimp only;rw[hI]at k4;refine⟨rfl,k4,k5,by rw[QF];exact hi,?_⟩;rw[QF];show K .any {s with b:=cT d (.arr z' (chunks z' n ys.flatten)) s.b};rw[←hn,Cr hz];exact hk)
   refine sU ?_ g2;simp only[execOp,he,dD];simp[g1]
  ·exact hk.elim
 ·exact hk.elim
theorem Nz(h:bq E0 E w0 w s a){o:Oper}{e d:Nat}{x:Operand}(he:o.op= .box e x){K:bd}{Q:Exit→Act→World→Prop}(hk:aeu C d (bP s [] x) s K):lz P o a w (fb E0 w0 o a K) Q:=by
 unfold aeu at hk
 split at hk
 ·rename_i n z xs dK;generalize C.base+d=d at hk;have hx:=h.ev (p:=[]) trivial x
  rw[dK]at hx
  split at hk
  ·rename_i eu;obtain⟨⟨k1,k2⟩,hk⟩:=hk;obtain⟨zw,hn,hz,hi⟩:=PF hx;have xR: ¬E.live (.s d):=fun rB=>by obtain⟨ob,ho⟩:=h.lv d rB;rw[eu]at ho;cases ho
   generalize hv:a.eval x=v at zw;cases zw with
   |agg _ ys hl hq=>
    have qf:=Dq (h:=h) xR (z:=z) (n:=n) (cs:=xs.flatten) (c:=ys.toArray) k1 (by unfold maxLen;omega) (by rw[aB hz,hn]) hi ⟨by simpa using hl,fun q b y hb hy=>hq q b y hb (by simpa using hy)⟩ e
    rw[←hn,Cr hz]at qf;refine cP (x:= .pointer (some ⟨w.heap.size,0,none⟩)) (w':=w.alloc (.cells ys.toArray e)) ?_ ⟨_,_,_,hk,h.Si eu qf,?_⟩
    ·simp only[execOp,he,Instr.box,newVar,hv];simp[iB,Value.cells]
    ·have:(E.addKey (.s d) (.cells ys.toArray e (0,0)) xs.length).m (.s d)=w.heap.size:=by simp[Env.addKey,h.heap]
     rw[←this];exact .ptr _ _ (.inl rfl)
  ·exact hk.elim
 ·exact NF h he hk
theorem Ja(hL:bj P C.L)(hI:C.I=al)(h:bq E0 E w0 w s a){o:Oper}{t:Nat}{x y:Operand}(he:o.op= .store t x y){K:bd}{Q:Exit→Act→World→Prop}(hk:Jb C t (bP s [] x) (bP s [] y) s K):lz P o a w (fb E0 w0 o a K) Q:=by
 unfold Jb at hk
 split at hk
 ·rename_i ti k rE hz;obtain⟨k1,k2,k3⟩:=hk;have hx:=h.ev (p:=[]) trivial x
  have hy:=h.ev (p:=[]) trivial y
  have fin: ∀w',(Instr.storeAt t (a.eval x) (a.eval y)).run P w= .ok () w'→Out E0 w0 a K undef w'→lz P o a w (fb E0 w0 o a K) Q:=fun w' g1 g2=>by
   refine sU ?_ g2;simp only[execOp,he];simp[g1]
  rw[hI]at k3
  split at k3
  ·rename_i d off dK;rw[dK]at hx;cases dD:a.eval x<;>rw[dD]at hx<;>cases hx;obtain⟨w',g1,g2⟩:=yq hL h rE hy hz k1 k2 k3;exact fin w' (by rw[dD];exact g1) g2
  ·rename_i d i off z dK;rw[dK]at hx;cases dD:a.eval x<;>rw[dD]at hx<;>cases hx;obtain⟨w',g1,g2⟩:=G7 hL h rE hy hz k1 k2 k3;exact fin w' (by rw[dD];exact g1) g2
  ·exact k3.elim
 ·exact hk.elim
def Reads(P:Program)(E:Env)(w:World)(a:Act)(o:Oper)(s:St)(p:Path)(K:bd):Prop:= ∃r,K r s∧(bc s p→ ∃x,(execOp a.eval o).run P w= .ok (.value x) w∧Cz E r x)
theorem bC{X:Prop}(h:under s p X)(hp:bc s p):X:=by
 unfold under at h
 split at h
 ·exact h
 ·exact h hp
theorem dE{z:Nat}: ∀{xs:List (List AV)} {i:Nat} {cs:List AV},(∀l∈xs,l.length=z)→xs[i]? =some cs→ ∀q,q<z→xs.flatten[i*z+q]? =cs[q]?
 |[],i,cs,_,h,q,_=>by simp at h
 |l::r,0,cs,hz,h,q,hq=>by
  simp at h;subst h;have hl:=hz l (by simp)
  rw[List.flatten_cons,iq (by omega)];simp
 |l::r,i+1,cs,hz,h,q,hq=>by
  have hl:=hz l (by simp)
  have ih:=dE (xs:=r) (i:=i) (fun l' rB=>hz l' (by simp[rB])) (by simpa using h) q hq
  rw[List.flatten_cons,ji (by rw[Nat.succ_mul];omega),Nat.succ_mul,show i*z+z+q - l.length=i*z+q from by omega];exact ih
theorem v7(hL:bj P C.L)(hI:C.I=al)(h:bq E0 E w0 w s a){o:Oper}{t:Nat}{x:Operand}(he:o.op= .load t x){K:bd}(hk:Lb C p t (bP s p x) s K):Reads P E w a o s p K:=by
 unfold Lb at hk;cases ht:C.L t with
 |none=>rw[ht]at hk;exact hk.elim
 |some ti=>
  rw[ht]at hk;dsimp only at hk;have fin: ∀v y,a.eval x=v→(Instr.loadAt t v).run P w= .ok y w→(execOp a.eval o).run P w= .ok (.value y) w:=fun v y hv hy=>by
   simp only[execOp,he,hv];simp[hy]
  split at hk
  ·rename_i rr z xs dK
   split at hk
   ·rename_i n e' jH;obtain⟨⟨k2,k3⟩,hk⟩:=hk;rw[hI]at k2;have k2:xs.length=n:=k2
    refine⟨_,hk,fun hp=>?_⟩;have hx:=h.ev hp x
    rw[dK]at hx;cases hx with
    |lB _ _ _ _ hz hc=>
    generalize dD:a.eval x=v at hc;cases hc with
    |aR _ _ _ b o u hr hi er hu hq=>
    have fS:=aB hz
    have tM:ti.agg=true:=by unfold TI.agg;rw[jH]
    have ig:part ti xs.flatten 0=some (.agg xs.flatten):=by
     have h1:mM (0+ti.size) xs.flatten.length=true:=by rw[wP];rw[fS,k2,k3];omega
     unfold part;rw[h1,tM];simp only[aE,cut,List.drop_zero];rw[List.take_of_length_le (by rw[fS,k2,k3];exact Nat.le_refl _)]
    obtain⟨y,g1,g2⟩:=gU (P:=P) (E:=E) (w:=w) hL ht (b:=b) (o:=o) ig (fun q a' ha=>⟨u q,by rw[h.heap];exact hu q a' ha,hq q a' ha⟩);exact⟨y,fin _ _ dD g1,Yk g2 k2 hz (fun q a ha=>hi q a ha)⟩
   ·exact hk.elim
  ·rename_i i off dK;obtain⟨cs,r,hg,ig,hk⟩:=hk;refine⟨r,hk,fun hp=>?_⟩;have hx:=h.ev hp x
   rw[dK]at hx;cases dD:a.eval x<;>rw[dD]at hx<;>cases hx;obtain⟨hl,c,e,hb,ho,hs,dg,hq⟩:=h.gx i _ (bC hg hp);obtain⟨y,g1,g2⟩:=gU (P:=P) (E:=E) (w:=w) hL ht (b:=E.m (.o i)) (o:=0) ig (fun q a' ha=>by
    have aV:q<c.size:=by rw[dg];exact(bh.1 ha).1
    exact⟨c[q],by simp[aO,h.heap,hb,aV],hq q a' _ ha (by simp)⟩)
   rw[Nat.zero_add]at g1;exact⟨y,fin _ _ dD g1,g2⟩
  ·rename_i d off dK
   split at hk
   ·rename_i z xs eu
    split at hk
    ·rename_i n e' jH;obtain⟨⟨k1,k2,k3⟩,hk⟩:=hk;rw[hI]at k2;subst k1;refine⟨_,hk,fun hp=>?_⟩;have k2:xs.length=n:=bC k2 hp
     have hx:=h.ev hp x
     rw[dK]at hx;cases dD:a.eval x<;>rw[dD]at hx<;>cases hx;obtain⟨hl,nQ,dw,hz,hm,c,e,hb,ho,hs,dg,kY,hq⟩:=h.bx d _ eu;have fS:=aB hz
     have tM:ti.agg=true:=by unfold TI.agg;rw[jH]
     have ig:part ti xs.flatten 0=some (.agg xs.flatten):=by
      have h1:mM (0+ti.size) xs.flatten.length=true:=by rw[wP];rw[fS,k2,k3];omega
      unfold part;rw[h1,tM];simp only[aE,cut,List.drop_zero];rw[List.take_of_length_le (by rw[fS,k2,k3];exact Nat.le_refl _)]
     obtain⟨y,g1,g2⟩:=gU (P:=P) (E:=E) (w:=w) hL ht (b:=E.m (.s d)) (o:=0) ig (fun q a' ha=>by
      have aV:q<c.size:=by rw[dg,←fS];exact(bh.1 ha).1
      exact⟨c[q],by simp[aO,h.heap,hb,aV],hq q a' _ ha (by simp)⟩)
     exact⟨y,fin _ _ dD (by simpa using g1),Yk g2 k2 hz kY⟩
    ·exact hk.elim
   ·exact hk.elim
  ·rename_i d i off z dK
   split at hk
   ·rename_i z' xs eu;obtain⟨cs,r,e0,hg,ig,hk⟩:=hk;subst e0;refine⟨r,hk,fun hp=>?_⟩;have hx:=h.ev hp x
    rw[dK]at hx;cases dD:a.eval x<;>rw[dD]at hx<;>cases hx;obtain⟨hl,nQ,dw,hz,hm,c,e,hb,ho,hs,dg,kY,hq⟩:=h.bx d _ eu;have fS:=aB hz
    have Io:=bC hg hp
    have vR:i<xs.length:=(bh.1 Io).1
    have hmul:i*z+z≤xs.length*z:=by rw[←Nat.succ_mul];exact Nat.mul_le_mul_right _ vR
    have zB:cs.length=z:=hz cs (by rw[fp vR]at Io;cases Io;simp)
    obtain⟨y,g1,g2⟩:=gU (P:=P) (E:=E) (w:=w) hL ht (b:=E.m (.s d)) (o:=i*z) ig (fun q a' ha=>by
     have vG:q<z:=by rw[←zB];exact(bh.1 ha).1
     have aV:i*z+q<c.size:=by omega
     exact⟨c[i*z+q],by simp[aO,h.heap,hb,aV],hq (i*z+q) a' _ (by rw[dE hz Io q vG];exact ha) (by simp)⟩)
    exact⟨y,fin _ _ dD g1,g2⟩
   ·rename_i z' rD xs eu;obtain⟨cs,r,e0,hg,ig,hk⟩:=hk;subst e0;refine⟨r,hk,fun hp=>?_⟩;have hx:=h.ev hp x
    rw[dK]at hx;cases dD:a.eval x<;>rw[dD]at hx<;>cases hx;obtain⟨hl,ho,hs,kY,u,⟨dw,hz,nQ,hle,hm,c,e,hb,dg,hu⟩,hq,_⟩:=h.bx d _ eu;have Io:=bC hg hp
    have vR:i<xs.length:=(bh.1 Io).1
    have zB:cs.length=z:=hz cs (by rw[fp vR]at Io;cases Io;simp)
    obtain⟨y,g1,g2⟩:=gU (P:=P) (E:=E) (w:=w) hL ht (b:=E.m (.s d)) (o:=i*z) ig (fun q a' ha=>by
     have vG:q<z:=by rw[←zB];exact(bh.1 ha).1
     have hfa:xs.flatten[i*z+q]? =some a':=by rw[dE hz Io q vG];exact ha
     exact⟨u (i*z+q),by simp[aO,h.heap,hb,hu _ _ hfa],hq _ _ hfa⟩)
    exact⟨y,fin _ _ dD g1,g2⟩
   ·exact hk.elim
  ·exact hk.elim
theorem j4(hL:bj P L){t e:Nat}{ti:TI}(ht:elemOf L t=some (e,ti))(k:IntKind)(n:Int)(b o m c:Nat)(h0:0≤n)(h1:n<m)(w:World):
  (Instr.indexAt t (.slice (some ⟨b,o,none⟩) m c) (.int k n)).run P w= .ok (.pointer (some ⟨b,o+n.toNat*ti.size,none⟩)) w:=by
 unfold elemOf at ht;cases hl:L t with
 |none=>rw[hl]at ht;simp at ht
 |some tj=>
  obtain⟨kk,size,bytes,zero⟩:=tj;rw[hl]at ht;cases kk with
  |slice e'=>
   dsimp only at ht;cases he:L e' with
   |none=>rw[he]at ht;simp at ht
   |some tk=>
    rw[he]at ht;simp only[Option.some.injEq,Prod.mk.injEq]at ht;obtain⟨rfl,rfl⟩:=ht;obtain⟨i,d,z,g1,g2,g3,g4,g5,g6,g7⟩:=(hL.ok t _ hl).ex;obtain⟨i',d',z',k1,k2,k3,k4,k5,k6,k7⟩:=(hL.ok e' _ he).ex;dsimp only at g7;subst g7;simp[Instr.indexAt,go_sem,underlying,g6,Go.sizeOf,typeInfo,k1,k2,h0,h1,ew]
  |_=>simp at ht
theorem Al(hL:bj P L){t n' e:Nat}{ti:TI}(ht:L t=some ti)(hk:ti.k= .arr n' e){tj:TI}(he:L e=some tj)(k:IntKind)(n:Int)(b o:Nat)(h0:0≤n)(h1:n<n')(w:World):
  (Instr.indexAt t (.pointer (some ⟨b,o,none⟩)) (.int k n)).run P w= .ok (.pointer (some ⟨b,o+n.toNat*tj.size,none⟩)) w:=by
 obtain⟨i,d,z,g1,g2,g3,g4,g5,g6,g7⟩:=(hL.ok t _ ht).ex;obtain⟨i',d',z',k1,k2,k3,k4,k5,k6,k7⟩:=(hL.ok e _ he).ex;rw[hk]at g7;dsimp only at g7;subst g7;simp[Instr.indexAt,go_sem,underlying,g6,Go.sizeOf,typeInfo,k1,k2,h0,h1,ew,Instr.sureAddr]
theorem dU{x:Operand}{n:Int}(hn:intOf (bP s p x)=some n)(h:bq E0 E w0 w s a)(hp:bc s p): ∃k,a.eval x= .int k n:=by
 unfold intOf at hn
 split at hn
 ·rename_i k m dK;cases hn;have hx:=h.ev hp x
  rw[dK]at hx;exact⟨k,bN hx⟩
 ·simp at hn
theorem oL{av:AV}{v:Value}{r:Nat}{xs:List (List AV)}(hr:yz av=some (r,xs))(h:Cz E av v):Cz E (.sl r xs) v:=by
 unfold yz at hr
 split at hr
 ·cases hr;exact h
 ·cases hr;exact h.read
 ·cases hr;have:=bN h;subst this;exact .mq _ _ _
 ·simp at hr
theorem Cz.elem{r:Nat}{xs:List (List AV)}{v:Value}(h:Cz E (.sl r xs) v){i:Nat}{cs:List AV}(hi:xs[i]? =some cs):
  ∃b o c,v= .slice (some ⟨b,o,none⟩) xs.length c∧Cz E (.aR r cs 0) (.pointer (some ⟨b,o+i*cs.length,none⟩)):=by
 cases h with
 |mq=>simp at hi
 |sl _ _ z b o c u hp hc hm dw hz hr Xh hs hu hq=>
  have jh:cs.length=z:=hz cs (by rw[bh]at hi;obtain⟨h1,h2⟩:=hi;rw[←h2];simp)
  have get: ∀q a,cs[q]? =some a→xs.flatten[i*z+q]? =some a:=fun q a ha=>by
   rw[dE hz hi q (by rw[←jh];exact(bh.1 ha).1)];exact ha
  refine⟨b,o,c,rfl,?_⟩;have:=Cz.aR (E:=E) r cs 0 b (o+i*z) (fun q=>u (i*z+q)) (fun q a ha=>hr) (fun q a ha=>Xh _ a (get q a ha)) (fun q a ha=>by rw[Nat.add_assoc];exact hs _ a (get q a ha))
   (fun q a ha=>by rw[Nat.add_assoc];exact hu _ a (get q a ha)) (fun q a ha=>hq _ a (get q a ha))
  rw[jh];simpa using this
theorem ND(hL:bj P C.L)(hI:C.I=al)(h:bq E0 E w0 w s a){o:Oper}{t:Nat}{x y:Operand}(he:o.op= .indexAddr t x y){n:Int}(hn:intOf (bP s p y)=some n){K:bd}(hk:TZ C p t n (bP s p x) s K):Reads P E w a o s p K:=by
 have fin: ∀v z k,a.eval x=v→a.eval y= .int k n→(Instr.indexAt t v (.int k n)).run P w= .ok z w→(execOp a.eval o).run P w= .ok (.value z) w:=fun v z k hv hk hy=>by
  simp only[execOp,he,hv,hk];simp[hy]
 unfold TZ at hk;rw[hI]at hk
 split at hk
 ·rename_i k m dK
  split at hk
  ·rename_i e ti sg;obtain⟨hb,hk⟩:=hk;refine⟨_,hk,fun hp=>?_⟩;obtain⟨h0,h1⟩:0≤n∧n<(m:Int):=by
    have q:=bC hb hp
    skip
    exact q
   obtain⟨ki,hy⟩:=dU hn h hp;have hx:=h.ev hp x
   rw[dK]at hx;cases dD:a.eval x<;>rw[dD]at hx<;>cases hx;rename_i hl _ _;exact⟨_,fin _ _ _ dD hy (j4 hL sg ki n _ _ _ _ h0 h1 w),by
    have:=Cz.ca (E:=E) k n.toNat 0 ti.size (by assumption)
    show Cz E (.ca _ n.toNat _ _) _;simpa using this⟩
  ·exact hk.elim
 ·rename_i d off dK
  split at hk
  ·rename_i ti z xs rE eu
   split at hk
   ·rename_i m e jH
    split at hk
    ·rename_i tj KS;obtain⟨k1,k2,hb,hk⟩:=hk;subst k1;subst k2;refine⟨_,hk,fun hp=>?_⟩;obtain⟨h0,h1⟩:0≤n∧n<(m:Int):=by
      have q:=bC hb hp
      skip
      exact q
     obtain⟨ki,hy⟩:=dU hn h hp;have hx:=h.ev hp x
     rw[dK]at hx;cases dD:a.eval x<;>rw[dD]at hx<;>cases hx;rename_i hl;exact⟨_,fin _ _ _ dD hy (Al hL rE jH KS ki n _ _ h0 h1 w),by
      have:=Cz.ca (E:=E) (.s d) n.toNat 0 tj.size hl
      show Cz E (.ca _ n.toNat _ _) _;simpa using this⟩
    ·exact hk.elim
   ·exact hk.elim
  ·exact hk.elim
 ·split at hk
  ·rename_i r xs e ti QF sg;obtain⟨cs,hb,hk⟩:=hk;refine⟨_,hk,fun hp=>?_⟩;obtain⟨h0,h1,h2⟩:=bC hb hp;obtain⟨ki,hy⟩:=dU hn h hp;have hx:=oL QF (h.ev hp x)
   obtain⟨b,o',c,hv,hc⟩:=hx.elem h1;refine⟨_,fin _ _ _ hv hy (j4 hL sg ki n b o' xs.length c h0 (by
    have:=(bh.1 h1).1;omega) w),?_⟩
   rw[←h2];exact hc
  ·exact hk.elim
theorem Ak(hL:bj P L){t:Nat}(ht:isStr L t=true)(k:IntKind)(n:Int)(b:ByteArray){c:UInt8}(h0:0≤n)(h1:b[n.toNat]? =some c)(w:World):
  (Instr.index t (.string b) (.int k n)).run P w= .ok (.int .u8 c.toNat) w:=by
 unfold isStr at ht;cases hl:L t with
 |none=>rw[hl]at ht;simp at ht
 |some ti=>
  rw[hl]at ht;dsimp only at ht;obtain⟨i,d,z,g1,g2,g3,g4,g5,g6,g7⟩:=(hL.ok t _ hl).ex
  split at ht
  ·rename_i hk;rw[hk]at g7;dsimp only at g7;subst g7;simp[Instr.index,go_sem,underlying,g6,h0,h1]
  ·simp at ht
theorem Am(hL:bj P L){t m e:Nat}{ti tj:TI}(ht:L t=some ti)(hk:ti.k= .arr m e)(he:L e=some tj)(h1:tj.size=1)(h2:tj.agg=false)(k:IntKind)(n:Int)(cs:Array Value){y:Value}(h0:0≤n)(hn:n<m)(hy:cs[n.toNat]? =some y)(w:World):
  (Instr.index t (.agg cs) (.int k n)).run P w= .ok y w:=by
 obtain⟨i,d,z,g1,g2,g3,g4,g5,g6,g7⟩:=(hL.ok t _ ht).ex;obtain⟨i',d',z',k1,k2,k3,k4,k5,k6,k7⟩:=(hL.ok e _ he).ex;rw[hk]at g7;dsimp only at g7;subst g7;have F7: ∀w,(isAgg e).run P w= .ok false w:=by
  intro w;unfold TI.agg at h2;cases hk:tj.k with
  |dj fs=>rw[hk]at h2;simp at h2
  |arr n e=>rw[hk]at h2;simp at h2
  |sc=>rw[hk]at k7;dsimp only at k7;cases d'<;>simp_all [isAgg,underlying,go_sem]
  |_=>rw[hk]at k7;dsimp only at k7;subst k7;simp[isAgg,underlying,go_sem,k6]
 simp[Instr.index,go_sem,underlying,g6,Go.sizeOf,typeInfo,k1,k2,h1,h0,hn,Go.part,F7,hy]
theorem Jd(hL:bj P C.L)(h:bq E0 E w0 w s a){o:Oper}{t:Nat}{x y:Operand}(he:o.op= .index t x y){n:Int}(hn:intOf (bP s p y)=some n){K:bd}(hk:Je C p t n (bP s p x) s K):Reads P E w a o s p K:=by
 have fin: ∀v z k,a.eval x=v→a.eval y= .int k n→(Instr.index t v (.int k n)).run P w= .ok z w→(execOp a.eval o).run P w= .ok (.value z) w:=fun v z k hv hk hy=>by
  simp only[execOp,he,hv,hk];simp[hy]
 unfold Je at hk
 split at hk
 ·rename_i b dK;cases hs:isStr C.L t with
  |false=>rw[hs]at hk;exact hk.elim
  |true=>
   rw[hs,aE]at hk;obtain⟨c,hb,hk⟩:=hk;refine⟨_,hk,fun hp=>?_⟩;obtain⟨h0,h1⟩:=bC hb hp;obtain⟨ki,hy⟩:=dU hn h hp;have hx:=h.ev hp x
   rw[dK]at hx;exact⟨_,fin _ _ _ (bN hx) hy (Ak hL hs ki n b h0 h1 w),.v _⟩
 ·rename_i cs dK
  split at hk
  ·rename_i ti rE
   split at hk
   ·rename_i m e jH
    split at hk
    ·rename_i tj KS;cases dM:bQ tj.size 1&& !tj.agg with
     |false=>rw[dM]at hk;exact hk.elim
     |true=>
      rw[dM,aE]at hk;simp only[Bool.and_eq_true,Bool.not_eq_true']at dM;obtain⟨r,hb,hk⟩:=hk;refine⟨_,hk,fun hp=>?_⟩;obtain⟨h0,h1,h2⟩:=bC hb hp;obtain⟨ki,hy⟩:=dU hn h hp;have hx:=h.ev hp x
      rw[dK]at hx;cases dD:a.eval x<;>rw[dD]at hx<;>cases hx;rename_i ys hl hq;have aV:n.toNat<ys.length:=by rw[hl];exact(bh.1 h2).1
      exact⟨ys[n.toNat],fin _ _ _ dD hy (Am hL rE jH KS (cY dM.1) dM.2 ki n _ h0 h1 (by simp[aV]) w),hq _ r _ h2 (by simp)⟩
    ·exact hk.elim
   ·exact hk.elim
  ·exact hk.elim
 ·exact hk.elim
theorem v5(hI:C.I=al)(h:bq E0 E w0 w s a){o:Oper}{c x y:Operand}(he:o.op= .pick c x y){K:bd}(hk:TY C p c x y s K):Reads P E w a o s p K:=by
 unfold TY at hk
 split at hk
 ·exact hk.elim
 ·rename_i d hd
  split at hk
  ·rename_i r QG;refine⟨r,hk,fun hp=>?_⟩;unfold adt at QG
   split at QG
   ·rename_i g u v h1 h2 h3;cases QG;have hc:=h.ev hp c
    rw[h1]at hc;have ec:=bN hc
    have anI:c= .tmp d:=by unfold Um at hd;split at hd<;>simp_all
    have hcd: ∃q,look d s.t=some (.v (.bool g))∧q=g:=by
     subst anI;have:Fk s p d= .v (.bool g):=h1
     unfold Fk at this;cases hl:look d s.t with
     |none=>rw[hl]at this;simp at this
     |some z=>
      rw[hl]at this;dsimp only at this
      split at this
      ·subst this;exact⟨g,rfl,rfl⟩
      ·rename_i q _;cases hpb:uC q p with
       |true=>rw[hpb,aE]at this;subst this;exact⟨g,rfl,rfl⟩
       |false=>rw[hpb,aM]at this;cases this
    obtain⟨_,jh,_⟩:=hcd;have LO: ∀(w:Bool),g=w→bc s (p++[(d,w)]):=fun w hw=>by
     have: ∀q:Path,bc s q→bc s (q++[(d,w)]):=fun q=>by
      induction q with
      |nil=>intro _;exact⟨by rw[jh];exact hw,trivial⟩
      |cons z r ih=>intro hq;exact⟨hq.1,ih hq.2⟩
     exact this p hp
    rw[hI];refine⟨.bool (bif g then u else v),?_,.v _⟩;cases g with
    |true=>
     have hx:=h.ev (LO true rfl) x
     rw[h2]at hx;have ex:=bN hx
     simp only[execOp,he,ec,ex];simp[asBool,go_sem]
    |false=>
     have hx:=h.ev (LO false rfl) y
     rw[h3]at hx;have ex:=bN hx
     simp only[execOp,he,ec,ex];simp[asBool,go_sem]
   ·simp at QG
  ·exact hk.elim
theorem JP{d n:Int}{y:Option Operand}(hn:ke s p d y=some n)(h:bq E0 E w0 w s a)(hp:bc s p):(y=none∧n=d)∨ ∃x k,y=some x∧a.eval x= .int k n:=by
 unfold ke at hn;cases y with
 |none=>cases hn;exact .inl ⟨rfl,rfl⟩
 |some x=>obtain⟨k,hk⟩:=dU hn h hp;exact .inr ⟨x,k,rfl,hk⟩
theorem qJ(P:Program)(isS:Bool)(len cap:Nat)(lo hi:Option Value)(l h:Nat)(hlo:(lo=none∧l=0)∨ ∃k,lo=some (.int k l))(hhi:(hi=none∧h=len)∨ ∃k,hi=some (.int k h))(h1:l≤h)(h2:h≤len)(h3:len≤cap)(w:World):
  (Instr.sliceBounds isS len cap lo hi none).run P w= .ok (l,h,cap) w:=by
 rcases hlo with⟨rfl,rfl⟩|⟨k,rfl⟩<;>rcases hhi with⟨rfl,rfl⟩|⟨k',rfl⟩
 ·simp[Instr.sliceBounds,go_sem]
 ·have t:h≤cap:=by omega
  simp[Instr.sliceBounds,Instr.sliceBound,asIntOf,go_sem,t]
 ·simp[Instr.sliceBounds,Instr.sliceBound,asIntOf,go_sem,h1]
 ·have t1:h≤cap:=by omega
  simp[Instr.sliceBounds,Instr.sliceBound,asIntOf,go_sem,t1,h1]
theorem oO{d n:Int}{y:Option Operand}(hn:ke s p d y=some n)(h:bq E0 E w0 w s a)(hp:bc s p)(h0:0≤n):((y.map a.eval)=none∧n=d)∨ ∃k,(y.map a.eval)=some (.int k (n.toNat:Int)):=by
 rcases JP hn h hp with⟨rfl,rfl⟩|⟨x,k,rfl,hx⟩
 ·exact .inl ⟨rfl,rfl⟩
 ·exact .inr ⟨k,by simp[hx,EV h0]⟩
theorem Jt(hL:bj P L){t:Nat}(ht:isStr L t=true)(b:ByteArray){lo hi:Option Value}{l h:Nat}(hb: ∀w,(Instr.sliceBounds false b.size b.size lo hi none).run P w= .ok (l,h,b.size) w)(w:World):
  (Instr.sliceAt t (.string b) lo hi none).run P w= .ok (.string (b.extract l h)) w:=by
 unfold isStr at ht;cases hl:L t with
 |none=>rw[hl]at ht;simp at ht
 |some ti=>
  rw[hl]at ht;dsimp only at ht;obtain⟨i,d,z,g1,g2,g3,g4,g5,g6,g7⟩:=(hL.ok t _ hl).ex
  split at ht
  ·rename_i hk;rw[hk]at g7;dsimp only at g7;subst g7;have hu: ∀w,(underlying t).run P w= .ok .string w:=eV g6
   unfold Instr.sliceAt;simp[Sem.run_bind,hu,Result.andThen,Instr.slice,hb]
  ·simp at ht
theorem gr(hL:bj P L){t e:Nat}{ti:TI}(ht:elemOf L t=some (e,ti)):P.underlying t=some (.slice e)∧L e=some ti∧ ∃i,P.info? e=some i∧i.size=ti.size∧i.bytes=ti.bytes∧ ∃z,i.zero=some z∧z.cells.toList=ti.zero:=by
 unfold elemOf at ht;cases hl:L t with
 |none=>rw[hl]at ht;simp at ht
 |some tj=>
  obtain⟨kk,size,bytes,zero⟩:=tj;rw[hl]at ht;cases kk with
  |slice e'=>
   dsimp only at ht;cases he:L e' with
   |none=>rw[he]at ht;simp at ht
   |some tk=>
    rw[he]at ht;simp only[Option.some.injEq,Prod.mk.injEq]at ht;obtain⟨rfl,rfl⟩:=ht;obtain⟨i,d,z,g1,g2,g3,g4,g5,g6,g7⟩:=(hL.ok t _ hl).ex;obtain⟨i',d',z',k1,k2,k3,k4,k5,k6,k7⟩:=(hL.ok e' _ he).ex;dsimp only at g7;subst g7;exact⟨g6,he,i',k1,k2,k3,z',k4,k5⟩
  |_=>simp at ht
theorem CO(hL:bj P L){t e:Nat}{ti:TI}(ht:elemOf L t=some (e,ti))(A:Option Addr)(n c:Nat){lo hi:Option Value}{l h m:Nat}(hb: ∀w,(Instr.sliceBounds true n c lo hi none).run P w= .ok (l,h,m) w)(w:World):
  (Instr.sliceAt t (.slice A n c) lo hi none).run P w= .ok (.slice (if m=l then A else A.map (·.add (l*ti.size))) (h - l) (m - l)) w:=by
 obtain⟨g6,_,i,k1,k2,_⟩:=gr hL ht;have hu: ∀w,(underlying t).run P w= .ok (.slice e) w:=eV g6
 have hz: ∀w,(Go.sizeOf e).run P w= .ok ti.size w:=fun w=>by rw[←k2];exact j0 k1 w
 unfold Instr.sliceAt;simp[Sem.run_bind,hu,Result.andThen,Instr.slice,hb,hz]
theorem Ju(hL:bj P L){t n e:Nat}{ti:TI}(ht:L t=some ti)(hk:ti.k= .arr n e)(b:Nat){lo hi:Option Value}{h m:Nat}(hb: ∀w,(Instr.sliceBounds false n n lo hi none).run P w= .ok (0,h,m) w){tj:TypeInfo}(he:P.info? e=some tj)(w:World):
  (Instr.sliceAt t (.pointer (some ⟨b,0,none⟩)) lo hi none).run P w= .ok (.slice (some ⟨b,0,none⟩) h m) w:=by
 obtain⟨i,d,z,g1,g2,g3,g4,g5,g6,g7⟩:=(hL.ok t _ ht).ex;rw[hk]at g7;dsimp only at g7;subst g7;have hu: ∀w,(underlying t).run P w= .ok (.array n e) w:=eV g6
 have hz: ∀w,(Go.sizeOf e).run P w= .ok tj.size w:=fun w=>j0 he w
 unfold Instr.sliceAt;simp only[Instr.sureAddr];simp[Sem.run_bind,hu,Result.andThen,hb,hz,ew]
theorem Hb(hL:bj P L){t n e:Nat}{ti:TI}(ht:L t=some ti)(hk:ti.k= .arr n e)(b o:Nat){lo hi:Option Value}{l h m:Nat}(hb: ∀w,(Instr.sliceBounds false n n lo hi none).run P w= .ok (l,h,m) w){tj:TypeInfo}(he:P.info? e=some tj)(w:World):
  (Instr.sliceAt t (.pointer (some ⟨b,o,none⟩)) lo hi none).run P w= .ok (.slice (some (if m=l then⟨b,o,none⟩else⟨b,o+l*tj.size,none⟩)) (h - l) (m - l)) w:=by
 obtain⟨i,d,z,g1,g2,g3,g4,g5,g6,g7⟩:=(hL.ok t _ ht).ex;rw[hk]at g7;dsimp only at g7;subst g7;have hu: ∀w,(underlying t).run P w= .ok (.array n e) w:=eV g6
 have hz: ∀w,(Go.sizeOf e).run P w= .ok tj.size w:=fun w=>j0 he w
 unfold Instr.sliceAt;simp only[Instr.sureAddr];simp[Sem.run_bind,hu,Result.andThen,hb,hz,ew]
theorem S0{xs:List (List AV)}{z l k:Nat}(hz: ∀cs∈xs,cs.length=z)(hl:l≤xs.length){q:Nat}{a:AV}(ha:((xs.take k).drop l).flatten[q]? =some a):xs.flatten[l*z+q]? =some a:=by
 by_cases hk:k≤l
 ·rw[List.drop_eq_nil_of_le (by simp;omega)]at ha;simp at ha
 have ek:xs.take l++(xs.take k).drop l=xs.take k:=by
  have:=List.take_append_drop l (xs.take k)
  rwa [List.take_take,Nat.min_eq_left (by omega)]at this
 have e1:xs.flatten=((xs.take l).flatten++((xs.take k).drop l).flatten)++(xs.drop k).flatten:=by
  rw[←List.flatten_append,ek,←List.flatten_append,List.take_append_drop]
 have e2:(xs.take l).flatten.length=l*z:=by rw[aB fun c hc=>hz c (List.mem_of_mem_take hc),List.length_take,Nat.min_eq_left hl]
 have hq:=(bh.1 ha).1
 rw[e1,iq (by simp only[List.length_append,e2];omega),ji (by omega),e2,Nat.add_sub_cancel_left];exact ha
theorem Cz.cut{r:Nat}{xs:List (List AV)}{A:Option Addr}{n c:Nat}(h:Cz E (.sl r xs) (.slice A n c)){l k z:Nat}(hz: ∀cs∈xs,cs.length=z)(h1:l≤k)(h2:k≤xs.length):
  n=xs.length∧Cz E (.sl r ((xs.take k).drop l)) (.slice (if c=l then A else A.map (·.add (l*z))) (k - l) (c - l))∧xs.length≤c∨(xs=[]∧n=0):=by
 cases h with
 |mq=>exact .inr ⟨rfl,rfl⟩
 |sl _ _ z' b o c u hp hc hm dw vF hr hi hs hu hq=>
  left;have SF:z'=z:=by
   cases xs with
   |nil=>simp at hp
   |cons x r=>rw[←vF x (by simp),hz x (by simp)]
  subst SF;refine⟨rfl,?_,hc⟩;by_cases hk:k=l
  ·subst hk;have:(xs.take k).drop k=[]:=by simp
   rw[this,Nat.sub_self];exact .mq _ _ _
  ·have jh:c≠l:=by omega
   rw[if_neg jh];simp only[Option.map_some,ew];have hlen:((xs.take k).drop l).length=k - l:=by simp;omega
   have get: ∀q a,((xs.take k).drop l).flatten[q]? =some a→xs.flatten[l*z'+q]? =some a:=fun q a ha=>by
    have ek:xs.take l++(xs.take k).drop l=xs.take k:=by
     have:=List.take_append_drop l (xs.take k)
     rwa [List.take_take,Nat.min_eq_left h1]at this
    have e1:xs.take l++((xs.take k).drop l++xs.drop k)=xs:=by rw[←List.append_assoc,ek,List.take_append_drop]
    have e2:xs.flatten=(xs.take l).flatten++(((xs.take k).drop l).flatten++(xs.drop k).flatten):=by
     rw[←List.flatten_append,←List.flatten_append,e1]
    have e3:(xs.take l).flatten.length=l*z':=by
     rw[aB (z:=z') (fun x hx=>vF x (List.mem_of_mem_take hx))];rw[List.length_take,Nat.min_eq_left (by omega)]
    rw[e2,ji (by omega),e3,show l*z'+q - l*z'=q from by omega];rw[iq (bh.1 ha).1];exact ha
   have:=Cz.sl (E:=E) r ((xs.take k).drop l) z' b (o+l*z') (c - l) (fun q=>u (l*z'+q)) (by omega) (by omega) (by omega) dw (fun x hx=>vF x (List.mem_of_mem_take (List.mem_of_mem_drop hx))) hr (fun q a ha=>hi _ a (get q a ha))
    (fun q a ha=>by rw[Nat.add_assoc];exact hs _ a (get q a ha)) (fun q a ha=>by rw[Nat.add_assoc];exact hu _ a (get q a ha)) (fun q a ha=>hq _ a (get q a ha))
   rw[hlen]at this;exact this
theorem Jc(hL:bj P C.L)(hI:C.I=al)(h:bq E0 E w0 w s a){o:Oper}{t:Nat}{x:Operand}{lo hi:Option Operand}(he:o.op= .slice t x lo hi none){K:bd}(hk:BE C p t lo hi (bP s p x) s K):Reads P E w a o s p K:=by
 have fin: ∀v y,a.eval x=v→(Instr.sliceAt t v (lo.map a.eval) (hi.map a.eval) none).run P w= .ok y w→(execOp a.eval o).run P w= .ok (.value y) w:=fun v y hv hy=>by
  simp only[execOp,he,hv,Option.map_none];simp[hy]
 unfold BE at hk;rw[hI]at hk
 split at hk
 ·rename_i b dK;cases hs:isStr C.L t with
  |false=>rw[hs]at hk;exact hk.elim
  |true=>
   rw[hs,aE]at hk
   split at hk
   ·rename_i l k hl hh;obtain⟨hb,hk⟩:=hk;refine⟨_,hk,fun hp=>?_⟩;obtain⟨h0,h1,h2⟩:=bC hb hp;have h2:k≤(b.size:Int):=h2
    have hx:=h.ev hp x
    rw[dK]at hx;have e1:(l.toNat:Int)=l:=EV h0
    have e2:(k.toNat:Int)=k:=EV (by omega)
    refine⟨_,fin _ _ (bN hx) (Jt hL hs b (l:=l.toNat) (h:=k.toNat) (fun w=>qJ P false b.size b.size _ _ _ _ ?_ ?_ (by omega) (by omega) (Nat.le_refl _) w) w),.v _⟩
    ·rcases oO hl h hp h0 with⟨g1,g2⟩|⟨q,g⟩
     ·exact .inl ⟨g1,by omega⟩
     ·exact .inr ⟨q,g⟩
    ·rcases oO hh h hp (by omega)with⟨g1,g2⟩|⟨q,g⟩
     ·exact .inl ⟨g1,by have g2:k=(b.size:Int):=g2;omega⟩
     ·exact .inr ⟨q,g⟩
   ·exact hk.elim
 ·rename_i kk m dK
  split at hk
  ·rename_i ee k sg hh;obtain⟨e',ti⟩:=ee;obtain⟨hb,hk⟩:=hk;refine⟨_,hk,fun hp=>?_⟩;obtain⟨_,h0,h1⟩:=bC hb hp;have hx:=h.ev hp x
   rw[dK]at hx;cases dD:a.eval x<;>rw[dD]at hx<;>cases hx;have hcn:m≤(E.len kk).1:=by assumption
   have Y3:(E.len kk).1≤(E.len kk).2:=by assumption
   have e2:(k.toNat:Int)=k:=EV h0
   refine⟨_,fin _ _ dD (CO hL sg _ _ _ (l:=0) (h:=k.toNat) (m:=(E.len kk).2) (fun w=>qJ P true m (E.len kk).2 _ _ _ _ (.inl ⟨rfl,rfl⟩) ?_ (by omega) (by omega) (by omega) w) w),?_⟩
   ·rcases oO hh h hp h0 with⟨g1,g2⟩|⟨q,g⟩
    ·exact .inl ⟨g1,by omega⟩
    ·exact .inr ⟨q,g⟩
   ·have:=Cz.eW (E:=E) kk k.toNat (by assumption) (by omega) Y3 (by assumption)
    simp only[Option.map_some,ew,Nat.zero_mul,Nat.sub_zero,ite_self];exact this
  ·exact hk.elim
 ·rename_i d off dK
  split at hk
  ·rename_i ti z xs rE eu
   split at hk
   ·rename_i m e jH
    split at hk
    ·rename_i tj k KS hh;obtain⟨k1,k2,k3,hb,hk⟩:=hk;subst k1;have k2:xs.length=m:=k2
     refine⟨_,hk,fun hp=>?_⟩;obtain⟨_,h0,h1⟩:=bC hb hp;have hx:=h.ev hp x
     rw[dK]at hx;cases dD:a.eval x<;>rw[dD]at hx<;>cases hx;rename_i hl;have e2:(k.toNat:Int)=k:=EV h0
     have nQ:E.len (.s d)=(m,m):=by rw[←k2];exact(h.bx d _ eu).2.1
     have aoj:=Cz.eW (E:=E) (.s d) k.toNat hl (by rw[nQ];dsimp only;omega) (by rw[nQ];exact Nat.le_refl _) (by rw[nQ];unfold maxLen;dsimp only;omega)
     rw[nQ]at aoj;obtain⟨i,dd,zz,g1,g2,g3,g4,g5,g6,g7⟩:=(hL.ok e _ KS).ex;refine⟨_,fin _ _ dD (Ju hL rE jH (E.m (.s d)) (h:=k.toNat) (m:=m) (fun w=>qJ P false m m _ _ _ _ (.inl ⟨rfl,rfl⟩) ?_ (by omega) (by omega) (Nat.le_refl _) w) g1 w),aoj⟩;rcases oO hh h hp h0 with⟨g1,g2⟩|⟨q,g⟩
     ·exact .inl ⟨g1,by omega⟩
     ·exact .inr ⟨q,g⟩
    ·exact hk.elim
   ·exact hk.elim
  ·exact hk.elim
 ·split at hk
  ·rename_i r xs e ti QF sg
   split at hk
   ·rename_i l k hl hh;obtain⟨hb,hk⟩:=hk;refine⟨_,hk,fun hp=>?_⟩;obtain⟨⟨h0,h1,h2⟩,hz⟩:=bC hb hp;have h2:k≤(xs.length:Int):=h2
    have hx:=oL QF (h.ev hp x)
    obtain⟨A,c,hv⟩:=hx.len;rw[hv]at hx;have e1:(l.toNat:Int)=l:=EV h0
    have e2:(k.toNat:Int)=k:=EV (by omega)
    have Pk:xs.length≤c:=by
     cases hx with
     |mq=>simp
     |sl=>assumption
    refine⟨_,fin _ _ hv (CO hL sg A xs.length c (l:=l.toNat) (h:=k.toNat) (m:=c) (fun w=>qJ P true xs.length c _ _ _ _ ?_ ?_ (by omega) (by omega) Pk w) w),?_⟩
    ·rcases oO hl h hp h0 with⟨g1,g2⟩|⟨q,g⟩
     ·exact .inl ⟨g1,by omega⟩
     ·exact .inr ⟨q,g⟩
    ·rcases oO hh h hp (by omega)with⟨g1,g2⟩|⟨q,g⟩
     ·exact .inl ⟨g1,by have g2:k=(xs.length:Int):=g2;omega⟩
     ·exact .inr ⟨q,g⟩
    ·rcases hx.cut (z:=ti.size) hz (l:=l.toNat) (k:=k.toNat) (by omega) (by omega)with⟨_,g,_⟩|⟨g,_⟩
     ·exact g
     ·subst g;have:k.toNat - l.toNat=0:=by simp at h2;omega
      rw[this];show Cz E (.sl r ((List.take _ []).drop _)) _;simp only[List.take_nil,List.drop_nil];exact .mq _ _ _
   ·exact hk.elim
  ·exact hk.elim
 mutual
theorem Kb{d:Nat}{F A:Nat→AV}: ∀{a:AV},bX a=true→sb d F A a=a
  | .gs r t xs,h=>by simp[bX]at h
  | .fn f cs,h=>by simp only[sb,Er (show cr cs=true by simpa[bX]using h)]
  | .agg cs,h=>by simp only[sb,Er (show cr cs=true by simpa[bX]using h)]
  | .gw cs,h=>by simp only[sb,Er (show cr cs=true by simpa[bX]using h)]
  | .any,_=>rfl
  | .v _,_=>rfl
  | .sl _ _,_=>rfl
  | .aR _ _ _,_=>rfl
  | .ptr (.s e) _,h=>by simp[bX,Key.loc]at h
  | .ptr (.o e) _,_=>rfl
  | .eW (.s e) _,h=>by simp[bX,Key.loc]at h
  | .eW (.o e) _,_=>rfl
  | .ca (.s e) _ _ _,h=>by simp[bX,Key.loc]at h
  | .ca (.o e) _ _ _,_=>rfl
  | .mp (.s e),h=>by simp[bX,Key.loc]at h
  | .mp (.o e),_=>rfl
  | .nM (.s e),h=>by simp[bX,Key.loc]at h
  | .nM (.o e),_=>rfl
  | .ar _ _ _,_=>rfl
  | .bm _ _,_=>rfl
  | .lB _ _ _,_=>rfl
theorem Er{d:Nat}{F A:Nat→AV}: ∀{a:List AV},cr a=true→RG d F A a=a
  |[],_=>rfl
  |a::r,h=>by
   simp only[cr,Bool.and_eq_true]at h;simp only[RG,Kb h.1,Er h.2]
end
theorem iA(d:Nat)(F A:Nat→AV)(cs:List AV)(q:Nat):(RG d F A cs)[q]? =(cs[q]?).map (sb d F A):=by
 induction cs generalizing q with
 |nil=>simp[RG]
 |cons a r ih=>cases q<;>simp[RG,ih]
theorem cZ(d:Nat)(F A:Nat→AV)(cs:List AV):(RG d F A cs).length=cs.length:=by
 induction cs with
 |nil=>rfl
 |cons a r ih=>simp[RG,ih]
theorem oR(d:Nat)(F A:Nat→AV)(e:Nat): ∀t,look e (GV d F A t)=(look e t).map (sb d F A)
 |[]=>rfl
 |(k,x)::r=>by
  simp only[GV,aC,oR d F A e r]
  split<;>rfl
def NV(d:Nat)(F A:Nat→AV):Ob→Ob
 | .box cs=> .box (RG d F A cs)
 | .arr z xs=> .arr z xs
 | .ow p l xs=> .ow p l xs
 | .lp n t ps nX body st=> .lp n (GV d F A t) ps nX body st
theorem gn(d:Nat)(F A:Nat→AV)(e:Nat): ∀t,look e (Ai d F A t)=(look e t).map (NV d F A)
 |[]=>rfl
 |(k,.box x)::r=>by
  simp only[Ai,aC,gn d F A e r]
  split<;>rfl
 |(k,.arr z x)::r=>by
  simp only[Ai,aC,gn d F A e r]
  split<;>rfl
 |(k,.ow p l x)::r=>by
  simp only[Ai,aC,gn d F A e r]
  split<;>rfl
 |(k,.lp n t ps nX body st)::r=>by
  simp only[Ai,aC,gn d F A e r]
  split<;>rfl
def Env.shut(E:Env)(ρ d n:Nat):Env:=
 {E with aI:=fun b o=>E.aI b o∨(b=E.m (.s d)∧o<n),dN:=fun b=>if b=E.m (.s d)then ρ else E.dN b,live:=fun k=>k≠ .s d∧E.live k,own:=fun b=>if b=E.m (.s d)then .Wd else E.own b}
structure sQ(E:Env)(d:Nat):Prop where
 own:E.own (E.m (.s d))= .key (.s d)
 aI: ∀o,¬E.aI (E.m (.s d)) o
 cell: ∃c e,E.h[E.m (.s d)]? =some (.cells c e (0,0))
theorem eg{ρ d n:Nat}(hs:sQ E d){a:AV}{x:Value}(h:Cz E a x):bX a=true→Cz (E.shut ρ d n) a x:=by
 induction h with
 |any x=>exact fun _=> .any _
 |v x=>exact fun _=> .v _
 |mq r A c=>exact fun _=> .mq _ _ _
 |sl r xs z b o c u hp hc hm dw hz hr hi er hu hq ih=>
  intro _;have hf:=aB hz
  obtain⟨a0,ha0⟩:=qR (l:=xs.flatten) (by rw[hf];exact Nat.mul_pos hp dw);have ct:b≠E.m (.s d):=fun e=>by have:=er 0 a0 ha0;rw[e]at this;exact hs.aI _ this
  exact .sl r xs z b o c u hp hc hm dw hz (by simp only[Env.shut];rw[if_neg ct];exact hr) hi (fun q a dc=> .inl (er q a dc)) hu (fun q a dc=>ih q a dc (hi q a dc))
 |rH r t=>exact fun _=> .rH _ _
 |gs r t xs=>intro hi;simp[bX]at hi
 |aR r cs off b o u hr hi er hu hq ih=>
  intro _;exact .aR r cs off b o u (fun q a dc=>by
   have ct:b≠E.m (.s d):=fun e=>by have:=er q a dc;rw[e]at this;exact hs.aI _ this
   simp only[Env.shut];rw[if_neg ct];exact hr q a dc) hi (fun q a dc=> .inl (er q a dc)) hu (fun q a dc=>ih q a dc (hi q a dc))
 |ptr k off hl=>intro hi;exact Cz.ptr (E:=E.shut ρ d n) k off ⟨fun e=>by subst e;simp[bX,Key.loc]at hi,hl⟩
 |eW k m hl hn hc hm=>intro hi;exact Cz.eW (E:=E.shut ρ d n) k m ⟨fun e=>by subst e;simp[bX,Key.loc]at hi,hl⟩ hn hc hm
 |ca k i off z hl=>intro hi;exact Cz.ca (E:=E.shut ρ d n) k i off z ⟨fun e=>by subst e;simp[bX,Key.loc]at hi,hl⟩
 |mp k hl=>intro hi;exact Cz.mp (E:=E.shut ρ d n) k ⟨fun e=>by subst e;simp[bX,Key.loc]at hi,hl⟩
 |nM k hl=>intro hi;exact Cz.nM (E:=E.shut ρ d n) k ⟨fun e=>by subst e;simp[bX,Key.loc]at hi,hl⟩
 |ar n' z xs ys hn hz hl hi hq ih=>exact fun _=> .ar n' z xs ys hn hz hl hi fun q a y ha hy=>ih q a y ha hy (hi q a ha)
 |bm f cs ys hl hi hq ih=>exact fun _=> .bm f cs ys hl hi fun q a y ha hy=>ih q a y ha hy (hi q a ha)
 |lB r z xs x hz h ih=>exact fun _=> .lB r z xs x hz (ih rfl)
 |fn f cap ys hl hq ih=>intro hi;exact .fn f cap ys hl fun q a y ha hy=>ih q a y ha hy (bf (by simpa[bX]using hi) q a ha)
 |agg cs ys hl hq ih=>intro hi;exact .agg cs ys hl fun q a y ha hy=>ih q a y ha hy (bf (by simpa[bX]using hi) q a ha)
 |gw cs ys hl hq ih=>intro hi;exact .gw cs ys hl fun q a y ha hy=>ih q a y ha hy (bf (by simpa[bX]using hi) q a ha)
theorem Jp{ρ d n:Nat}(hs:sQ E d){F A:Nat→AV}(hF: ∀off,Cz (E.shut ρ d n) (F off) (.pointer (some ⟨E.m (.s d),off,none⟩)))
  (hA: ∀m c,m≤(E.len (.s d)).1→c=(E.len (.s d)).2→(E.len (.s d)).1≤c→c≤maxLen→Cz (E.shut ρ d n) (A m) (.slice (some ⟨E.m (.s d),0,none⟩) m c)){a:AV}{x:Value}(h:Cz E a x):Cz (E.shut ρ d n) (sb d F A a) x:=by
 induction h with
 |any x=>exact .any _
 |v x=>exact .v _
 |mq r A c=>exact .mq _ _ _
 |sl r xs z b o c u hp hc hm dw hz hr hi er hu hq ih=>exact eg hs (.sl r xs z b o c u hp hc hm dw hz hr hi er hu hq) rfl
 |rH r t=>exact .rH _ _
 |gs r t xs z b c e cells u hc hm h0 dw hz hr hb dg ho er hi hu hq ih=>
  have ct:b≠E.m (.s d):=fun e=>by rw[e,hs.own]at ho;cases ho
  exact Cz.gs (E:=E.shut ρ d n) r t xs z b c e cells u hc hm h0 dw hz (by simp only[Env.shut];rw[if_neg ct];exact hr) hb dg (by simp only[Env.shut];rw[if_neg ct];exact ho)
   (fun o=>by simp only[Env.shut];rw[←er o];exact⟨fun h=>h.resolve_right (fun h=>ct h.1),.inl⟩) hi hu (fun q a ha=>eg hs (hq q a ha) (hi q a ha))
 |aR r cs off b o u hr hi er hu hq ih=>exact eg hs (.aR r cs off b o u hr hi er hu hq) rfl
 |ptr k off hl=>
  cases k with
  |o i=>exact eg hs (.ptr _ _ hl) rfl
  |r e j=>simp only[sb];cases hb:bQ e d with
   |true=>exact .any _
   |false=>exact Cz.ptr (E:=E.shut ρ d n) (.r e j) off ⟨(fun hh=>by cases hh),hl⟩
  |s e=>
   simp only[sb];by_cases h:e=d
   ·subst h;rw[eE,aE];exact hF off
   ·rw[zh h,aM];exact Cz.ptr (E:=E.shut ρ d n) (.s e) off ⟨fun hh=>h (by injection hh),hl⟩
 |eW k m hl hn hc hm=>
  cases k with
  |o i=>exact eg hs (.eW _ _ hl hn hc hm) rfl
  |r e j=>simp only[sb];cases hb:bQ e d with
   |true=>exact .any _
   |false=>exact Cz.eW (E:=E.shut ρ d n) (.r e j) m ⟨(fun hh=>by cases hh),hl⟩ hn hc hm
  |s e=>
   simp only[sb];by_cases h:e=d
   ·subst h;rw[eE,aE];exact hA m _ hn rfl hc hm
   ·rw[zh h,aM];exact Cz.eW (E:=E.shut ρ d n) (.s e) m ⟨fun hh=>h (by injection hh),hl⟩ hn hc hm
 |ca k i off z hl=>
  cases k with
  |o i=>exact eg hs (.ca _ _ _ _ hl) rfl
  |r e j=>simp only[sb];cases hb:bQ e d with
   |true=>exact .any _
   |false=>exact Cz.ca (E:=E.shut ρ d n) (.r e j) i off z ⟨(fun hh=>by cases hh),hl⟩
  |s e=>
   simp only[sb];by_cases h:e=d
   ·subst h;rw[eE,aE];exact .any _
   ·rw[zh h,aM];exact Cz.ca (E:=E.shut ρ d n) (.s e) i off z ⟨fun hh=>h (by injection hh),hl⟩
 |mp k hl=>
  cases k with
  |o i=>exact eg hs (.mp _ hl) rfl
  |r e j=>simp only[sb];cases hb:bQ e d with
   |true=>exact .any _
   |false=>exact Cz.mp (E:=E.shut ρ d n) (.r e j) ⟨(fun hh=>by cases hh),hl⟩
  |s e=>
   simp only[sb];by_cases h:e=d
   ·subst h;rw[eE,aE];exact .any _
   ·rw[zh h,aM];exact Cz.mp (E:=E.shut ρ d n) (.s e) ⟨fun hh=>h (by injection hh),hl⟩
 |nM k hl=>
  cases k with
  |o i=>exact eg hs (.nM _ hl) rfl
  |r e j=>simp only[sb];cases hb:bQ e d with
   |true=>exact .any _
   |false=>exact Cz.nM (E:=E.shut ρ d n) (.r e j) ⟨(fun hh=>by cases hh),hl⟩
  |s e=>
   simp only[sb];by_cases h:e=d
   ·subst h;rw[eE,aE];exact .any _
   ·rw[zh h,aM];exact Cz.nM (E:=E.shut ρ d n) (.s e) ⟨fun hh=>h (by injection hh),hl⟩
 |ar n' z xs ys hn hz hl hi hq ih=>exact eg hs (.ar n' z xs ys hn hz hl hi hq) rfl
 |bm f cs ys hl hi hq ih=>exact eg hs (.bm f cs ys hl hi hq) rfl
 |lB r z xs x hz h ih=>exact eg hs (.lB r z xs x hz h) rfl
 |fn f cap ys hl hq ih=>
  simp only[sb];exact .fn f _ ys (by rw[cZ];exact hl) fun q a y ha hy=>by
   rw[iA]at ha;cases h:cap[q]? with
   |none=>simp[h]at ha
   |some a'=>simp[h]at ha;subst ha;exact ih q a' y h hy
 |agg cs ys hl hq ih=>
  simp only[sb];exact .agg _ ys (by rw[cZ];exact hl) fun q a y ha hy=>by
   rw[iA]at ha;cases h:cs[q]? with
   |none=>simp[h]at ha
   |some a'=>simp[h]at ha;subst ha;exact ih q a' y h hy
 |gw cs ys hl hq ih=>
  simp only[sb];exact .gw _ ys (by rw[cZ];exact hl) fun q a y ha hy=>by
   rw[iA]at ha;cases h:cs[q]? with
   |none=>simp[h]at ha
   |some a'=>simp[h]at ha;subst ha;exact ih q a' y h hy
def St.sb(d:Nat)(F A:Nat→AV)(s:St):St:={s with t:=GV d F A s.t,b:=Ai d F A (del d s.b),up:=Qd d F A s.up}
theorem qL(d:Nat)(F A:Nat→AV)(hF: ∀o g,F o≠ .v (.bool g))(hA: ∀o g,A o≠ .v (.bool g)): ∀{p:Path},bc (s.sb d F A) p↔bc s p
 |[]=>Iff.rfl
 |(e,b)::r=>by
  have ih:=qL d F A hF hA (p:=r)
  simp only[bc,St.sb,oR];simp only[St.sb]at ih;rw[ih];refine and_congr_left fun _=>?_;cases look e s.t with
  |none=>rfl
  |some x=>
   have nb: ∀y:AV,(∀g,y≠ .v (.bool g))→(isB b (some y)↔False):=fun y hy=>by
    unfold isB
    split
    ·rename_i g hg;injection hg with hg;exact absurd hg (hy g)
    ·exact Iff.rfl
   cases x with
   |ptr k off=>
    cases k with
    |o i=>rfl
    |r e' j=>
     simp only[Option.map_some,Ab.sb];cases bQ e' d<;>rfl
    |s e'=>
     simp only[Option.map_some,Ab.sb];cases bQ e' d with
     |true=>rw[aE,nb _ (hF off)];rfl
     |false=>rfl
   |mp k=>
    cases k with
    |o i=>rfl
    |r e' j=>
     simp only[Option.map_some,Ab.sb];cases bQ e' d<;>rfl
    |s e'=>
     simp only[Option.map_some,Ab.sb];cases bQ e' d<;>rfl
   |eW k n=>
    cases k with
    |o i=>rfl
    |r e' j=>
     simp only[Option.map_some,Ab.sb];cases bQ e' d<;>rfl
    |s e'=>
     simp only[Option.map_some,Ab.sb];cases bQ e' d with
     |true=>rw[aE,nb _ (hA n)];rfl
     |false=>rfl
   |ca k i off z=>
    cases k with
    |o i=>rfl
    |r e' j=>
     simp only[Option.map_some,Ab.sb];cases bQ e' d<;>rfl
    |s e'=>
     simp only[Option.map_some,Ab.sb];cases bQ e' d<;>rfl
   |nM k=>
    cases k with
    |o i=>rfl
    |r e' j=>
     simp only[Option.map_some,Ab.sb];cases bQ e' d<;>rfl
    |s e'=>
     simp only[Option.map_some,Ab.sb];cases bQ e' d<;>rfl
   |_=>rfl
theorem Ln{ρ d n:Nat}(hs:sQ E d){F A:Nat→AV}(hF: ∀off,Cz (E.shut ρ d n) (F off) (.pointer (some ⟨E.m (.s d),off,none⟩)))
  (hA: ∀m c,m≤(E.len (.s d)).1→c=(E.len (.s d)).2→(E.len (.s d)).1≤c→c≤maxLen→Cz (E.shut ρ d n) (A m) (.slice (some ⟨E.m (.s d),0,none⟩) m c)){t:List (Nat×AV)}{T:Array Value}(h: ∀e x,look e t=some x→Cz E x (T.getD e undef)):
  ∀e x,look e (GV d F A t)=some x→Cz (E.shut ρ d n) x (T.getD e undef):=by
 intro e x hd;rw[oR]at hd;cases hh:look e t with
 |none=>rw[hh]at hd;simp at hd
 |some y=>rw[hh]at hd;simp at hd;subst hd;exact Jp hs hF hA (h e y hh)
theorem jP.sb{ρ d n:Nat}(hs:sQ E d){F A:Nat→AV}(hF: ∀off,Cz (E.shut ρ d n) (F off) (.pointer (some ⟨E.m (.s d),off,none⟩)))
  (hA: ∀m c,m≤(E.len (.s d)).1→c=(E.len (.s d)).2→(E.len (.s d)).1≤c→c≤maxLen→Cz (E.shut ρ d n) (A m) (.slice (some ⟨E.m (.s d),0,none⟩) m c)): ∀{aa:List Act} {fs:List Fr},jP E aa fs→jP (E.shut ρ d n) aa (Qd d F A fs)
 |[],[],_=>trivial
 |a::aa,f::fs,h=>⟨⟨h.1.1,Ln hs hF hA h.1.2⟩,jP.sb hs hF hA h.2⟩
 |[],_::_,h=>h.elim
 |_::_,[],h=>h.elim
theorem bq.sb(h:bq E0 E w0 w s a){ρ d n:Nat}(hs:sQ E d)(hl:E.live (.s d))(hn: ∀c e fr,E.h[E.m (.s d)]? =some (.cells c e fr)→n≤c.size){F A:Nat→AV}(hF: ∀off,Cz (E.shut ρ d n) (F off) (.pointer (some ⟨E.m (.s d),off,none⟩)))
  (hA: ∀m c,m≤(E.len (.s d)).1→c=(E.len (.s d)).2→(E.len (.s d)).1≤c→c≤maxLen→Cz (E.shut ρ d n) (A m) (.slice (some ⟨E.m (.s d),0,none⟩) m c))(hF': ∀o g,F o≠ .v (.bool g))(hA': ∀o g,A o≠ .v (.bool g)):bq E0 (E.shut ρ d n) w0 w (s.sb d F A) a:=by
 have aV:E.m (.s d)<E.h.size:=h.wf.own _ (by rw[hs.own];simp)
 have kg:E0.h.size≤E.m (.s d):=by
  rcases Nat.lt_or_ge (E.m (.s d)) E0.h.size with hh|hh
  ·have:=h.wI _ hh;rw[hs.own]at this;simp[Own.loc,Key.loc]at this
  ·exact hh
 have obs: ∀k ob,k≠ .s d→bM E k ob→bM (E.shut ρ d n) k (NV d F A ob):=by
  intro k ob hk ho;have hm: ∀o:Own,E.own (E.m k)= .key k→E.m k≠E.m (.s d):=fun _ ho e=>by rw[e,hs.own]at ho;injection ho with ho;exact hk ho.symm
  cases ob with
  |box cs=>
   obtain⟨g1,c,e,g2,g3,g4,g5,g6⟩:=ho;have ct:=hm .Wd g3
   refine⟨⟨hk,g1⟩,c,e,g2,by simp only[Env.shut];rw[if_neg ct];exact g3,fun o hh=>?_,by rw[cZ];exact g5,fun q a x ha hx=>?_⟩
   ·rcases hh with hh|hh
    ·exact g4 o hh
    ·exact ct hh.1
   ·rw[iA]at ha;cases hc:cs[q]? with
    |none=>rw[hc]at ha;simp at ha
    |some a'=>rw[hc]at ha;simp at ha;subst ha;exact Jp hs hF hA (g6 q a' x hc hx)
  |arr z xs=>
   obtain⟨g1,gl,gz,gz',gm,c,e,g2,g3,g4,g5,g6,g7⟩:=ho;have ct:=hm .Wd g3
   refine⟨⟨hk,g1⟩,gl,gz,gz',gm,c,e,g2,by simp only[Env.shut];rw[if_neg ct];exact g3,fun o hh=>?_,g5,g6,fun q a x ha hx=>eg hs (g7 q a x ha hx) (g6 q a ha)⟩;rcases hh with hh|hh
   ·exact g4 o hh
   ·exact ct hh.1
  |ow p rD xs=>
   have ho0:=ho
   obtain⟨g1,g3,_⟩:=ho0;have ct:=hm .Wd g3
   refine xH (fun i hi=>⟨⟨Key.Ur _ _ _,hi⟩,rfl,rfl⟩) (fun g1=>⟨hk,g1⟩) rfl rfl (fun g3=>⟨by simp only[Env.shut];rw[if_neg ct];exact g3,rfl,fun o hh=>hh.resolve_right fun hh=>ct hh.1⟩) (fun a x hi hc=>eg hs hc hi) (fun b hb aV=>?_) ho;have hbn:b≠E.m (.s d):=fun e=>by rw[e,hs.own]at hb;cases hb
   exact⟨by simp only[Env.shut];rw[if_neg hbn];exact hb,rfl,fun o=>⟨fun hh=>hh.resolve_right fun hh=>hbn hh.1,.inl⟩,by simp only[Env.shut];rw[if_neg hbn]⟩
  |lp n t ps nX body st=>
   obtain⟨g1,g3,g4,rec,g2,g5,g6,g7,g8,g9,Xz,gq⟩:=ho;have ct:=hm .Wd g3
   refine⟨⟨hk,g1⟩,by simp only[Env.shut];rw[if_neg ct];exact g3,fun o hh=>?_,rec,g2,g5,g6,g7,g8,g9,Xz,Ln hs hF hA gq⟩;rcases hh with hh|hh
   ·exact g4 o hh
   ·exact ct hh.1
 have hdf:Dfs E0.h.size (E.shut ρ d n) (PJ a E0.up):=by
  obtain⟨Bs,q1,q2,q3⟩:=h.Kp;refine⟨Bs,q1,q2,fun B hB=>?_⟩;obtain⟨q4,q5,q6⟩:=q3 B hB;refine⟨q4,?_,q6⟩;simp only[Env.shut];rw[if_neg (fun e=>by rw[e,hs.own]at q5;cases q5)];exact q5
 refine⟨h.heap,⟨fun b o hh=>?_,fun b hh=>?_,fun b o hh hr=>?_⟩,hdf,h.up.sb hs hF hA,h.sz,?_,?_,?_,?_,?_,?_,⟨h.ext.size,fun b o hh=>?_,fun k hk=>?_,fun b hb hg=>?_⟩,fun b hb=>?_,h.same,h.gk,h.nl,fun b=>by
  have:=h.ng b
  simp only[Env.shut]
  split
  ·simp[du,Own.du]
  ·exact this,h.lo⟩
 ·rcases hh with hh|⟨rfl,_⟩
  ·exact h.wf.aI b o hh
  ·exact aV
 ·simp only[Env.shut]at hh;by_cases e:b=E.m (.s d)
  ·rw[e];exact aV
  ·rw[if_neg e]at hh;exact h.wf.own b hh
 ·rcases hh with hh|⟨rfl,_⟩
  ·have ct:b≠E.m (.s d):=fun e=>by subst e;exact hs.aI _ hh
   simp only[Env.shut]at hr;rw[if_neg ct]at hr;exact h.wf.fz b o hh hr
  ·exact hs.cell
 ·intro e x he hp;have nR:look e (GV d F A s.t)=some x:=he
  rw[oR]at nR;cases hh:look e s.t with
  |none=>rw[hh]at nR;simp at nR
  |some y=>rw[hh]at nR;simp at nR;subst nR;exact Jp hs hF hA (h.tm e y hh ((qL d F A hF' hA').1 hp))
 ·intro e q he hp;exact h.cu e q he (fun hh=>hp ((qL d F A hF' hA').2 hh))
 ·intro e ob he;have nR:look e (Ai d F A (del d s.b))=some ob:=he
  rw[gn,gp]at nR;by_cases Y2:d=e
  ·rw[if_pos Y2]at nR;simp at nR
  ·rw[if_neg Y2]at nR;cases hh:look e s.b with
   |none=>rw[hh]at nR;simp at nR
   |some y=>
    rw[hh]at nR;simp at nR;subst nR;exact obs _ _ (fun hh=>Y2 (by injection hh with hh;exact hh.symm)) (h.bx e y hh)
 ·intro e he;obtain⟨ob,ho⟩:=h.lv e he.2;refine⟨NV d F A ob,?_⟩;show look e (Ai d F A (del d s.b))=_;rw[gn,gp,if_neg (fun hh=>he.1 (by rw[hh])),ho];rfl
 ·intro i ob hi;have h1:=obs (.o i) ob (fun hh=>by cases hh) (h.gx i ob hi)
  have SP:=h.gk i ob hi
  cases ob with
  |arr z xs=>exact h1
  |lp=>exact SP.elim
  |ow=>exact SP.elim
  |box cs=>
   obtain⟨g1,c,e,g2,g3,g4,g5,g6⟩:=h1;obtain⟨_,_,_,_,_,_,k5,_⟩:=h.gx i _ hi;refine⟨g1,c,e,g2,g3,g4,by rw[g5,cZ],fun q a x ha hx=>?_⟩;have:=g6 q (Ab.sb d F A a) x (by rw[iA,ha];rfl) hx
   rwa [Kb (SP q a ha)]at this
 ·intro i;exact⟨fun hh=>(h.gl i).1 hh.2,fun hh=>⟨(fun e=>by cases e),(h.gl i).2 hh⟩⟩
 ·obtain⟨k1,k2,k3⟩:=h.ext.aI b o hh;have ct:b≠E.m (.s d):=fun e=>by rw[e]at k1;exact hs.aI _ k1
  exact⟨.inl k1,k2,by simp only[Env.shut];rw[if_neg ct];exact k3⟩
 ·obtain⟨k1,k2,k3⟩:=h.ext.live k hk;exact⟨⟨fun e=>by subst e;exact h.nl (.s d) rfl hk,k1⟩,k2,k3⟩
 ·obtain⟨k1,k2,k3,k4⟩:=h.ext.bw b hb hg;have ct:b≠E.m (.s d):=by omega
  exact⟨by simp only[Env.shut];rw[if_neg ct];exact k1,k2,fun o=>⟨fun hh=>(k3 o).1 (hh.resolve_right (fun hh=>ct hh.1)),fun hh=> .inl ((k3 o).2 hh)⟩,by simp only[Env.shut];rw[if_neg ct];exact k4⟩
 ·have ct:b≠E.m (.s d):=by omega
  simp only[Env.shut];rw[if_neg ct];exact h.wI b hb
theorem Z9(h:bq E0 E w0 w s a){ρ d:Nat}{s':St}{p:Yo}{rD:Option (Nat×Nat)}{xs:List (List AV)}(hl:look d s.b=some (.ow p rD xs))(hs:Ab.shut ρ d s=some s'): ∃n F A,bq E0 (E.shut ρ d n) w0 w s' a∧s'=s.sb d F A∧sQ E d:=by
 unfold Ab.shut at hs;rw[hl]at hs;cases p with
 |mp=>dsimp only at hs;cases hs
 |g2=>dsimp only at hs;cases hs
 |sl z=>
  dsimp only at hs;cases hs;obtain⟨g1,g2,g3,gi,u,⟨gz0,gz,gln,gle,gm,c,e,gh,gc,gu⟩,g6,_⟩:=h.bx d _ hl;have iQ:sQ E d:=⟨g2,g3,c,e,gh⟩
  have fS:=aB gz
  have Pk:xs.length*z≤c.size:=by rw[gc,gln];exact Nat.mul_le_mul_right _ gle
  have hA: ∀m cc,m≤(E.len (.s d)).1→cc=(E.len (.s d)).2→(E.len (.s d)).1≤cc→cc≤maxLen→Cz (E.shut ρ d (xs.length*z)) (.sl ρ (xs.take m)) (.slice (some ⟨E.m (.s d),0,none⟩) m cc):=by
   intro m cc h1 h2 h3 h4;have hlen:(xs.take m).length=m:=by rw[List.length_take];omega
   by_cases hm:m=0
   ·subst hm;simp only[List.take_zero];exact .mq _ _ _
   ·have get: ∀q a,(xs.take m).flatten[q]? =some a→xs.flatten[q]? =some a:=fun q a ha=>by
     have:xs.flatten=(xs.take m).flatten++(xs.drop m).flatten:=by rw[←List.flatten_append,List.take_append_drop]
     rw[this,iq (bh.1 ha).1];exact ha
    have:=Cz.sl (E:=E.shut ρ d (xs.length*z)) ρ (xs.take m) z (E.m (.s d)) 0 cc u (by omega) (by omega) h4 gz0 (fun l hl=>gz l (List.mem_of_mem_take hl)) (by simp[Env.shut]) (fun q a ha=>gi q a (get q a ha))
     (fun q a ha=> .inr ⟨rfl,by have:=(bh.1 (get q a ha)).1;omega⟩)
     (fun q a ha=>by simp[aO,Env.shut,gh,gu q a (get q a ha)])
     (fun q a ha=>eg iQ (g6 q a (get q a ha)) (gi q a (get q a ha)))
    rw[hlen]at this;exact this
  exact⟨xs.length*z,_,_,h.sb iQ g1 (fun c' e' fr hh=>by rw[gh]at hh;cases hh;omega) (fun off=> .any _) hA (fun o g hh=>by cases hh) (fun o g hh=>by cases hh),rfl,iQ⟩
theorem NS(h:bq E0 E w0 w s a){ρ d:Nat}{s':St}(hs:Ab.shut ρ d s=some s'): ∃n F A,bq E0 (E.shut ρ d n) w0 w s' a∧s'=s.sb d F A∧sQ E d:=by
 have hs0:=hs
 unfold Ab.shut at hs;cases hl:look d s.b with
 |none=>rw[hl]at hs;simp at hs
 |some ob=>
  rw[hl]at hs;cases ob with
  |box cs=>
   dsimp only at hs;cases hi:cr (mc (fun _=>true) cs)with
   |false=>rw[hi]at hs;simp at hs
   |true=>
    rw[hi,aE]at hs;cases hs;obtain⟨g1,c,e,g2,g3,g4,g5,g6⟩:=h.bx d _ hl;have iQ:sQ E d:=⟨g3,g4,c,e,g2⟩
    have hF: ∀off,Cz (E.shut ρ d cs.length) (.aR ρ (mc (fun _=>true) cs) off) (.pointer (some ⟨E.m (.s d),off,none⟩)):=by
     intro off;have:=Cz.aR (E:=E.shut ρ d cs.length) ρ (mc (fun _=>true) cs) off (E.m (.s d)) 0 (fun q=>c[q]?.getD undef) (fun q a ha=>by simp[Env.shut]) (bf hi)
      (fun q a ha=> .inr ⟨rfl,by have:=(bh.1 ha).1;rw[dy]at this;omega⟩)
      (fun q a ha=>by
       have hq:q<c.size:=by have:=(bh.1 ha).1;rw[dy]at this;omega
       simp[aO,Env.shut,g2,hq])
      (fun q a ha=>by
       have hq:q<c.size:=by have:=(bh.1 ha).1;rw[dy]at this;omega
       have hia:=bf hi q a ha
       rw[qH]at ha;cases hc:cs[q]? with
       |none=>rw[hc]at ha;simp at ha
       |some a'=>
        rw[hc]at ha;simp at ha;subst ha;refine eg iQ ?_ hia;exact(g6 q a' _ hc (by simp[hq])).giveUp h.wf _)
     simpa using this
    exact⟨cs.length,_,_,h.sb iQ g1 (fun c' e' fr hh=>by rw[g2]at hh;cases hh;omega) hF (fun m c _ _ _ _=> .any _) (fun o g hh=>by cases hh) (fun o g hh=>by cases hh),rfl,iQ⟩
  |lp=>dsimp only at hs;cases hs
  |ow p rD xs=>exact Z9 h hl hs0
  |arr z xs=>
   dsimp only at hs;cases hs;obtain⟨g1,gl,gz0,gz,gm,c,e,g2,g3,g4,g5,gi,g6⟩:=h.bx d _ hl;have iQ:sQ E d:=⟨g3,g4,c,e,g2⟩
   have fS:=aB gz
   have hA: ∀m cc,m≤(E.len (.s d)).1→cc=(E.len (.s d)).2→(E.len (.s d)).1≤cc→cc≤maxLen→Cz (E.shut ρ d (xs.length*z)) (.sl ρ (xs.take m)) (.slice (some ⟨E.m (.s d),0,none⟩) m cc):=by
    intro m cc h1 h2 h5 h3;rw[gl]at h1 h2;dsimp only at h1 h2;have hlen:(xs.take m).length=m:=by rw[List.length_take];omega
    by_cases hm:m=0
    ·subst hm;simp only[List.take_zero];exact .mq _ _ _
    ·have get: ∀q a,(xs.take m).flatten[q]? =some a→xs.flatten[q]? =some a:=fun q a ha=>by
      have:xs.flatten=(xs.take m).flatten++(xs.drop m).flatten:=by rw[←List.flatten_append,List.take_append_drop]
      rw[this,iq (bh.1 ha).1];exact ha
     have:=Cz.sl (E:=E.shut ρ d (xs.length*z)) ρ (xs.take m) z (E.m (.s d)) 0 cc (fun q=>c[q]?.getD undef) (by omega) (by omega) h3 gz0 (fun l hl=>gz l (List.mem_of_mem_take hl)) (by simp[Env.shut]) (fun q a ha=>gi q a (get q a ha))
      (fun q a ha=> .inr ⟨rfl,by have:=(bh.1 (get q a ha)).1;omega⟩)
      (fun q a ha=>by
       have hq:q<c.size:=by have:=(bh.1 (get q a ha)).1;omega
       simp[aO,Env.shut,g2,hq])
      (fun q a ha=>by
       have hq:q<c.size:=by have:=(bh.1 (get q a ha)).1;omega
       exact eg iQ (g6 q a _ (get q a ha) (by simp[hq])) (gi q a (get q a ha)))
     rw[hlen]at this;exact this
   have hF: ∀off,Cz (E.shut ρ d (xs.length*z)) (bif bQ off 0 then AV.lB ρ z xs else .any) (.pointer (some ⟨E.m (.s d),off,none⟩)):=fun off=>by
    cases ho:bQ off 0 with
    |false=>exact .any _
    |true=>
     have h0:=cY ho
     subst h0;refine .lB _ _ _ _ gz ?_;have:=Cz.aR (E:=E.shut ρ d (xs.length*z)) ρ xs.flatten 0 (E.m (.s d)) 0 (fun q=>c[q]?.getD undef) (fun q a ha=>by simp[Env.shut]) gi
      (fun q a ha=> .inr ⟨rfl,by have:=(bh.1 ha).1;omega⟩)
      (fun q a ha=>by
       have hq:q<c.size:=by have:=(bh.1 ha).1;omega
       simp[aO,Env.shut,g2,hq])
      (fun q a ha=>by
       have hq:q<c.size:=by have:=(bh.1 ha).1;omega
       exact eg iQ (g6 q a _ ha (by simp[hq])) (gi q a ha))
     simpa using this
   exact⟨xs.length*z,_,_,h.sb iQ g1 (fun c' e' fr hh=>by rw[g2]at hh;cases hh;omega) hF hA (fun o g hh=>by cases ho:bQ o 0<;>rw[ho]at hh<;>cases hh) (fun o g hh=>by cases hh),rfl,iQ⟩
theorem Jq{ρ d:Nat}{s':St}(hs:Ab.shut ρ d s=some s'): ∃F A,s'=s.sb d F A∧(∀o g,F o≠ .v (.bool g))∧(∀o g,A o≠ .v (.bool g)):=by
 unfold Ab.shut at hs;cases hl:look d s.b with
 |none=>rw[hl]at hs;simp at hs
 |some ob=>
  rw[hl]at hs;cases ob with
  |box cs=>
   dsimp only at hs;cases hi:cr (mc (fun _=>true) cs)with
   |false=>rw[hi]at hs;simp at hs
   |true=>rw[hi,aE]at hs;cases hs;exact⟨_,_,rfl,(fun o g hh=>by cases hh),(fun o g hh=>by cases hh)⟩
  |arr z xs=>dsimp only at hs;cases hs;exact⟨_,_,rfl,(fun o g hh=>by cases ho:bQ o 0<;>rw[ho]at hh<;>cases hh),(fun o g hh=>by cases hh)⟩
  |ow p rD xs=>cases p with
   |mp=>dsimp only at hs;cases hs
   |g2=>dsimp only at hs;cases hs
   |sl z=>dsimp only at hs;cases hs;exact⟨_,_,rfl,(fun o g hh=>by cases hh),(fun o g hh=>by cases hh)⟩
  |lp=>dsimp only at hs;cases hs
theorem eZ{ρ:Nat}: ∀{l:List Nat} {E:Env} {s s':St},bq E0 E w0 w s a→kF ρ l s=some s'→ ∃E',bq E0 E' w0 w s' a∧(∀p,bc s' p↔bc s p)
 |[],E,s,s',h,hs=>by simp only[kF,Option.some.injEq]at hs;subst hs;exact⟨E,h,fun _=>Iff.rfl⟩
 |d::r,E,s,s',h,hs=>by
  simp only[kF]at hs;cases hl:look d s.b with
  |none=>rw[hl]at hs;exact eZ h hs
  |some ob=>
   rw[hl]at hs;dsimp only at hs;cases h1:Ab.shut ρ d s with
   |none=>rw[h1]at hs;simp at hs
   |some s1=>
    rw[h1]at hs;obtain⟨n,F,A,g1,g2,g3⟩:=NS h h1;obtain⟨F',A',q1,q2,q3⟩:=Jq h1;obtain⟨E',k1,k2⟩:=eZ g1 hs;exact⟨E',k1,fun p=>(k2 p).trans (by rw[q1];exact qL d F' A' q2 q3)⟩
def M5(P:Program)(E0:Env)(w0 w:World)(a:Act)(o:Oper)(s:St)(p:Path)(K:bd):Prop:=
 ∃r s' E',K r s'∧bq E0 E' w0 w s' a∧(∀q,bc s' q↔bc s q)∧(bc s p→ ∃x,(execOp a.eval o).run P w= .ok (.value x) w∧Cz E' r x)
theorem Ec(h:bq E0 E w0 w s a)(hp:bc s p)(T:Tok→Bool): ∀(l:List Operand) (q:Nat) (b:AV) (y:Value),(l.map fun x=>Ab.rA T (bP s p x))[q]? =some b→(l.map a.eval)[q]? =some y→Cz E b y:=by
 intro l q b y h1 h2;rw[List.getElem?_map]at h1 h2;cases hq:l[q]? with
 |none=>rw[hq]at h1;simp at h1
 |some x=>rw[hq]at h1 h2;simp at h1 h2;subst h1;subst h2;exact(h.ev hp x).giveUp h.wf T
theorem CF(h:bq E0 E w0 w s a){o:Oper}{f:Fn}{first cap:Array Operand}(he:o.op= .makeFunc f first cap)(hf:first.toList=[]){K:bd}(hk:T0 C p f cap.toList s K):M5 P E0 w0 w a o s p K:=by
 unfold T0 at hk
 split at hk
 ·rename_i s1 zx;obtain⟨E',g1,g2⟩:=eZ h zx;refine⟨_,s1,E',hk,g1,g2,fun hp=>⟨.func f #[] (cap.map a.eval),?_,?_⟩⟩
  ·(have:first= #[]:=Array.toList_inj.1 hf);simp only[execOp,he,this];simp[Instr.makeFunc]
  ·have:=Cz.fn (E:=E') f (cap.toList.map fun x=>rd (bP s1 p x)) (cap.toList.map a.eval) (by simp) (fun q b y h1 h2=>Ec g1 ((g2 p).2 hp) _ cap.toList q b y h1 h2)
   have e:(cap.toList.map a.eval).toArray=cap.map a.eval:=Array.toList_inj.1 (by simp)
   rw[e]at this;exact this
 ·exact hk.elim
theorem Hy(h:bq E0 E w0 w s a){o:Oper}{f:Fn}{first cap:Array Operand}(he:o.op= .makeFunc f first cap)(hc:cap.toList=[])(hi:cr (first.toList.map fun x=>rd (bP s p x))=true){K:bd}(hk:K (.bm f (first.toList.map fun x=>rd (bP s p x))) s):M5 P E0 w0 w a o s p K:=
 ⟨_,s,E,hk,h,fun _=>Iff.rfl,fun hp=>⟨.func f (first.map a.eval) #[],by
  have:cap= #[]:=Array.toList_inj.1 hc
  simp only[execOp,he,this];simp[Instr.makeFunc],by
  have:=Cz.bm (E:=E) f (first.toList.map fun x=>rd (bP s p x)) (first.toList.map a.eval) (by simp) (fun q b hq=>bf hi q b hq) (fun q b y h1 h2=>Ec h hp _ first.toList q b y h1 h2)
  have e:(first.toList.map a.eval).toArray=first.map a.eval:=Array.toList_inj.1 (by simp)
  rw[e]at this;exact this⟩⟩
end Ab
namespace Ab
open Go
variable{P:Program}{L:nK}{E0 E E':Env}{w0 w w':World}{s:St}{a:Act}{p:Path}{C:dx}
def Env.fV(E:Env)(t:Tok)(ρ n:Nat)(o:Obj):Env:=
 {E with h:=E.h.push o,aI:=fun b i=>E.aI b i∨(b=E.h.size∧i<n),dN:=fun b=>if b=E.h.size then ρ else E.dN b,own:=fun b=>if b=E.h.size then .tok t else E.own b}
theorem zM(hw:Wf E)(t:Tok)(ρ n:Nat)(o:Obj):Ext (fun _=>False) E (E.fV t ρ n o):=
 ⟨by simp[Env.fV],
  fun b i hs=>⟨.inl hs,zI _ _ (hw.aI b i hs) i,by have:=hw.aI b i hs;simp only[Env.fV];rw[if_neg (by omega)]⟩,
  fun q hq=>⟨hq,rfl,rfl⟩,
  fun b hb _=>⟨by simp only[Env.fV];rw[if_neg (by omega)],by simp only[Env.fV];rw[Array.getElem?_push,if_neg (by omega)],
   fun i=>⟨fun hh=>hh.resolve_right (fun hh=>by omega),.inl⟩,by simp only[Env.fV];rw[if_neg (by omega)]⟩⟩
theorem IL(hw:Wf E)(t:Tok)(ρ n:Nat)(o:Obj)(qf: ∃c e,o= .cells c e (0,0)):Wf (E.fV t ρ n o):=
 ⟨fun b i hs=>by
  rcases hs with hs|⟨rfl,_⟩
  ·have:=hw.aI b i hs;simp[Env.fV];omega
  ·simp[Env.fV],
  fun b hb=>by
  simp only[Env.fV]at hb ⊢;by_cases h:b=E.h.size
  ·subst h;simp
  ·rw[if_neg h]at hb;have:=hw.own b hb;simp;omega,
  fun b i hs hr=>by
  simp only[Env.fV]at hr ⊢;rcases hs with hs|⟨rfl,_⟩
  ·have:=hw.aI b i hs
   rw[if_neg (by omega)]at hr;obtain⟨c,e,h⟩:=hw.fz b i hs hr;exact⟨c,e,by rw[Array.getElem?_push,if_neg (by omega)];exact h⟩
  ·obtain⟨c,e,rfl⟩:=qf;exact⟨c,e,by simp⟩⟩
theorem bq.asF(h:bq E0 E w0 w s a)(t:Tok)(ρ n:Nat)(c:Array Value)(e:Nat):bq E0 (E.fV t ρ n (.cells c e (0,0))) w0 (w.alloc (.cells c e)) s a:=by
 have hE:=zM h.wf t ρ n (.cells c e (0,0))
 have hs:=h.xZ (T:=fun _=>false) hE (fun _ hf=>hf.elim) qT (IL h.wf _ _ _ _ ⟨_,_,rfl⟩) (w':=w.alloc (.cells c e)) (by show w.heap.push _=_;rw[h.heap];rfl) (uq _ _) (fun _ _ hf=>hf.elim)
  s.b s.g s.nx (fun d' DF h'=> .inl ⟨DF,h',(oI (fun _=>rfl) DF).symm,(fun hf=>hf),fun hf=>hf⟩) (fun d' hl=>h.lv d' hl)
  (fun i DF h'=> .inl ⟨h',fun hf=>hf⟩) (fun i=>h.gl i) h.gk (fun b=>by
   have:=h.ng b
   simp only[Env.fV]
   split
   ·cases t<;>simp[du,Own.du,Tok.loc]
   ·exact this)
 have:fY (fun _=>false) s.t=s.t:=lX (fun _=>rfl) _
 rw[this,qj (fun _=>rfl)]at hs;exact hs
theorem Qo(h:bq E0 E w0 w s a){t:Tok}{ρ z n:Nat}{cs:List AV}{c:Array Value}{e cap:Nat}(hz:0<z)(hl:cs.length=n*z)(hi:cr cs=true)(hr: ∀(q:Nat) (a:AV) (y:Value),cs[q]? =some a→c[q]? =some y→Cz E a y)
  (hc:c.size=cap*z)(hn:n≤cap)(hm:cap≤maxLen)(h0:n=0→cap=0):Cz (E.fV t ρ (n*z) (.cells c e (0,0))) (.gs ρ t (chunks z n cs)) (.slice (some ⟨w.heap.size,0,none⟩) n cap):=by
 obtain⟨f1,f2,f3⟩:=ss hl;have hE:=zM h.wf t ρ (n*z) (.cells c e (0,0))
 have hle:n*z≤cap*z:=Nat.mul_le_mul_right _ hn
 have:=Cz.gs (E:=E.fV t ρ (n*z) (.cells c e (0,0))) ρ t (chunks z n cs) z E.h.size cap e c (fun q=>c[q]?.getD undef) (by rw[f2];exact hn) hm (by rw[f2];exact h0) hz f3 (by simp[Env.fV]) (by simp[Env.fV]) hc (by simp[Env.fV])
  (fun o=>by
   simp only[Env.fV,f2];exact⟨fun hh=>by rcases hh with hh|hh;(have:=h.wf.aI _ _ hh;omega);exact hh.2,fun hh=> .inr (by simpa using hh)⟩)
  (by rw[f1];exact bf hi)
  (by
   rw[f1];intro q a ha;have hq:q<c.size:=by have:=(bh.1 ha).1;omega
   simp[aO,Env.fV,hq])
  (by
   rw[f1];intro q a ha;have hq:q<c.size:=by have:=(bh.1 ha).1;omega
   have:=((hr q a (c[q]?.getD undef) ha (by simp[hq])).ext hE h.wf (fun _=>false) (fun _ hf=>hf.elim)).1
   rwa [lb (fun _=>rfl)]at this)
 rw[f2]at this;rw[h.heap];exact this
theorem xb{z:Nat}: ∀{ps:List (Nat×AV)} {vs:List (Nat×Value)} {cs cs':List AV} {c:Array Value},xw E ps vs→Row E cs c→o5 z cs ps=some cs'→ ∃c',Instr.fill (fun i=>some (i*z,z)) c vs=some c'∧Row E cs' c'
 |[],vs,cs,cs',c,h,hr,hf=>by
  have:vs=[]:=List.eq_nil_of_length_eq_zero (by have:=h.1;simp at this;omega)
  subst this;simp only[o5,Option.some.injEq]at hf;subst hf;exact⟨c,by simp[Instr.fill],hr⟩
 |(i,a)::ps,vs,cs,cs',c,h,hr,hf=>by
  obtain⟨⟨i',y⟩,ys,rfl,h1,h2,h3⟩:=h.cons;dsimp only at h1 h2;subst h1;simp only[o5]at hf;cases hk:zJ a with
  |none=>rw[hk]at hf;simp at hf
  |some k=>
   rw[hk]at hf;dsimp only at hf;cases hb:bQ k z&&mM (i*z+z) cs.length with
   |false=>rw[hb]at hf;simp at hf
   |true=>
    rw[hb,aE]at hf;simp only[Bool.and_eq_true]at hb;have YZ:k=z:=cY hb.1
    have hle:i*z+z≤cs.length:=by simpa using hb.2
    obtain⟨c1,c2,c3⟩:=lU h2 hk;have fo:=hr.bF (o:=i*z) (vs:=cellsOf a) (ys:=y.cells.toList) (by omega) (by simp;omega) (fun q a' y' h1 h2=>c3 q a' y' h1 (by simpa using h2))
    obtain⟨c',g1,g2⟩:=xb h3 fo hf;refine⟨c',?_,g2⟩;simp only[Instr.fill];rw[if_neg (by simp only[Bool.or_eq_true,bne_iff_ne,decide_eq_true_eq,ne_eq,not_or,Decidable.not_not];exact⟨by omega,by rw[hr.1];omega⟩)];rw[←g1];congr 1;rw[←Array.foldl_toList];simp
theorem Qf{l:List AV}{z:Nat}(hl:l.length=z): ∀(n q:Nat),q<n*z→(List.replicate n l).flatten[q]? =l[q % z]?
 |0,q,h=>by simp at h
 |n+1,q,h=>by
  rw[Nat.succ_mul]at h;rw[List.replicate_succ,List.flatten_cons];by_cases hq:q<z
  ·rw[iq (by omega),Nat.mod_eq_of_lt hq]
  ·rw[ji (by omega),hl,Qf hl n (q - z) (by omega),←Nat.mod_eq_sub_mod (by omega)]
theorem Hv{z:Value}{l:List Value}(hz:z.cells.toList=l){k:Nat}(hl:l.length=k)(n:Nat):Row E (List.replicate n (l.map AV.v)).flatten ((Array.range (n*k)).map fun q=>z.cells[q % z.cells.size]!):=by
 have dg:z.cells.size=k:=by rw[←hl,←hz];simp
 refine⟨by rw[aB (z:=k) (fun x hx=>by rw[(List.mem_replicate.1 hx).2];simp[hl])];simp,fun q a y ha hy=>?_⟩;have aV:q<n*k:=by
  have:=(bh.1 ha).1
  rwa [aB (z:=k) (fun x hx=>by rw[(List.mem_replicate.1 hx).2];simp[hl]),List.length_replicate]at this
 rw[Qf (z:=k) (by simp[hl]) n q aV,List.getElem?_map,←hz,Array.getElem?_toList]at ha;have hk:0<k:=by rcases Nat.eq_zero_or_pos k with h|h;(·subst h;simp at aV);(·exact h)
 have hm:q % k<z.cells.size:=by rw[dg];exact Nat.mod_lt _ hk
 rw[Array.getElem?_eq_getElem hm]at ha;simp at ha;subst ha;simp only[Array.getElem?_map,dg]at hy;rw[Array.getElem?_range]at hy;rw[if_pos aV]at hy;simp only[Option.map_some,Option.some.injEq]at hy;rw[getElem!_pos z.cells (q % k) hm]at hy;subst hy;exact .v _
theorem acR{av:AV}{k:Nat}(h:zJ av=some k):(cellsOf av).length=k:=by
 cases av with
 |any=>simp[zJ]at h
 |gw vs=>simp[zJ]at h
 |ar n z xs=>simp[zJ]at h
 |agg cs=>simp only[zJ,Option.some.injEq]at h;exact h
 |v x=>
  simp only[zJ,Option.some.injEq]at h;subst h;cases x<;>simp[cellsOf,Value.cells]
 |_=>simp only[zJ,Option.some.injEq]at h;subst h;rfl
theorem Cm{z:Nat}: ∀{ps:List (Nat×AV)} {cs cs':List AV},o5 z cs ps=some cs'→cs'.length=cs.length
 |[],cs,cs',hh=>by simp only[o5,Option.some.injEq]at hh;rw[hh]
 |(j,b)::r,cs,cs',hh=>by
  simp only[o5]at hh;cases hk:zJ b with
  |none=>rw[hk]at hh;simp at hh
  |some k=>
   rw[hk]at hh;dsimp only at hh;cases hb:bQ k z&&mM (j*z+z) cs.length with
   |false=>rw[hb]at hh;simp at hh
   |true=>
    rw[hb,aE]at hh;simp only[Bool.and_eq_true]at hb;have YZ:k=z:=cY hb.1
    have hle:j*z+z≤cs.length:=by simpa using hb.2
    rw[Cm hh,jm (by rw[acR hk,YZ];exact hle)]
theorem wh{t e:Nat}{i:TypeInfo}{zv:Value}(hu:P.underlying t=some (.slice e))(hi:P.info? e=some i)(hz:i.zero=some zv)(h1:1≤i.size){len:Nat}(hle:len*i.size≤16777216){vs:Array (Nat×Value)}{c':Array Value}
  (hf:Instr.fill (fun j=>some (j*i.size,i.size)) ((Array.range (len*i.size)).map fun q=>zv.cells[q % zv.cells.size]!) vs.toList=some c')(w:World):
  (Instr.buildSlice t len vs).run P w= .ok (.slice (some ⟨w.heap.size,0,none⟩) len len) (w.alloc (.cells c' e)):=by
 have h2: ∀w,(underlying t).run P w= .ok (.slice e) w:=eV hu
 have h3: ∀w,(Go.sizeOf e).run P w= .ok i.size w:=fun w=>j0 hi w
 have h4: ∀w,(zeroValue e).run P w= .ok zv w:=fun w=>by simp[zeroValue,typeInfo,go_sem,hi,hz]
 unfold Instr.buildSlice;by_cases h0:len=0
 ·subst h0;have hr0:Array.range 0= #[]:=rfl
  simp only[Nat.zero_mul,hr0,List.map_toArray,List.map_nil]at hf;simp[Sem.run_bind,h2,h3,Result.andThen,hr0,hf,iB]
 ·have h5: ¬(len*i.size > 2 ^ 24):=by omega
  have h6: ¬(len*i.size=0):=by
   intro hh;rcases Nat.mul_eq_zero.1 hh with hh|hh<;>omega
  simp only[Sem.run_bind,h2,h3,Result.andThen,if_neg h5,if_neg h6];simp[Sem.run_bind,h4,Result.andThen,hf,iB]
theorem rQ(hL:bj P C.L)(h:bq E0 E w0 w s a){o:Oper}{t len:Nat}{parts:Array (Nat×Operand)}(he:o.op= .buildSlice t len parts){d:Nat}{K:bd}(hk:rR C p t len d parts.toList s K):
  ∃r s' E1 E2 w2,K r s'∧bq E0 E1 w0 w s' a∧(∀q,bc s' q↔bc s q)∧bq E0 E2 w0 w2 s' a∧(bc s p→ ∃x,(execOp a.eval o).run P w= .ok (.value x) w2∧Cz E2 r x):=by
 unfold rR at hk;generalize C.base+d=d at hk;cases sg:elemOf C.L t with
 |none=>rw[sg]at hk;exact hk.elim
 |some et=>
  obtain⟨e,ti⟩:=et;rw[sg]at hk;dsimp only at hk;obtain⟨hu,Kf,i,i1,i2,i3,zv,i4,i5⟩:=gr hL sg;cases hsh:kF C.ρ (kX (parts.toList.map fun q=>bP s p q.2)) s with
  |none=>rw[hsh]at hk;exact hk.elim
  |some s1=>
   rw[hsh]at hk;dsimp only at hk;obtain⟨E1,g1,g2⟩:=eZ h hsh;cases hf:o5 ti.size ((List.replicate len (ti.zero.map AV.v)).flatten) (parts.toList.map fun q=>(q.1,rd (bP s1 p q.2)))with
   |none=>rw[hf]at hk;exact hk.elim
   |some cs=>
    rw[hf]at hk;dsimp only at hk;cases hb:cr cs&&(mM 1 ti.size&&mM (len*ti.size) 16777216)with
    |false=>rw[hb]at hk;exact hk.elim
    |true=>
     rw[hb,aE]at hk;simp only[Bool.and_eq_true]at hb;have b2:1≤ti.size:=by simpa using hb.2.1
     have b3:len*ti.size≤16777216:=by simpa using hb.2.2
     have g1':=g1.giveUp (aX (.l d))
     have Ca:=(hL.ok e ti Kf).KV
     by_cases hp:bc s p
     ·
      have O9:xw E1 (parts.toList.map fun q=>(q.1,rd (bP s1 p q.2))) (parts.toList.map fun q=>(q.1,a.eval q.2)):=by
       refine⟨by simp,fun q x y hx hy=>?_⟩;simp only[List.getElem?_map]at hx hy;cases hq:parts.toList[q]? with
       |none=>rw[hq]at hx;simp at hx
       |some zz=>rw[hq]at hx hy;simp at hx hy;subst hx;subst hy;exact⟨rfl,(g1.ev ((g2 p).2 hp) _).giveUp g1.wf _⟩
      obtain⟨c',k1,k2⟩:=xb O9 (Hv i5 Ca len) hf;have hlen:cs.length=len*ti.size:=by
       rw[Cm hf,aB (z:=ti.size) (fun x hx=>by rw[(List.mem_replicate.1 hx).2];simp[Ca])];simp
      refine⟨_,_,E1,_,_,hk,g1',fun q=>(jr _).trans (g2 q),g1'.asF (.l d) C.ρ (len*ti.size) c' e,fun _=>⟨.slice (some ⟨w.heap.size,0,none⟩) len len,?_,?_⟩⟩
      ·have eB:=wh (P:=P) hu i1 i4 (by omega) (len:=len) (by rw[i2];exact b3) (vs:=parts.map fun q=>(q.1,a.eval q.2)) (c':=c') (by rw[i2,←k1];congr 1;simp) w
       have W9:(parts.map fun(i,x)=>(i,a.eval x))=parts.map fun q=>(q.1,a.eval q.2):=rfl
       simp only[execOp,he,W9];simp[eB]
      ·exact Qo g1' b2 hlen hb.1 k2.2 (by rw[k2.1,hlen]) (Nat.le_refl _) (by
        have:len≤len*ti.size:=Nat.le_mul_of_pos_right _ b2
        unfold maxLen;omega) (fun hh=>hh)
     ·exact⟨_,_,E1,E1,w,hk,g1',fun q=>(jr _).trans (g2 q),g1',fun hh=>absurd hh hp⟩
theorem LA{l:List Value}{z:Nat}(hl:l.length=z): ∀(n q:Nat),q<n*z→(List.replicate n l).flatten[q]? =l[q % z]?
 |0,q,h=>by simp at h
 |n+1,q,h=>by
  rw[Nat.succ_mul]at h;rw[List.replicate_succ,List.flatten_cons];by_cases hq:q<z
  ·rw[iq (by omega),Nat.mod_eq_of_lt hq]
  ·rw[ji (by omega),hl,LA hl n (q - z) (by omega),←Nat.mod_eq_sub_mod (by omega)]
theorem EC{z:Value}{l:List Value}(hz:z.cells.toList=l){k:Nat}(hl:l.length=k)(n:Nat):((Array.range (n*k)).map fun q=>z.cells[q % z.cells.size]!).toList=(List.replicate n l).flatten:=by
 have dg:z.cells.size=k:=by rw[←hl,←hz];simp
 have hlen:(List.replicate n l).flatten.length=n*k:=by rw[aB (z:=k) (fun x hx=>by rw[(List.mem_replicate.1 hx).2];exact hl)];simp
 apply List.ext_getElem?;intro q;by_cases aV:q<n*k
 ·have hk:0<k:=by rcases Nat.eq_zero_or_pos k with h|h;(·subst h;simp at aV);(·exact h)
  have hm:q % k<z.cells.size:=by rw[dg];exact Nat.mod_lt _ hk
  rw[LA hl n q aV,Array.getElem?_toList,Array.getElem?_map,Array.getElem?_range,if_pos aV,Option.map_some,dg,getElem!_pos z.cells (q % k) hm,←hz,Array.getElem?_toList,Array.getElem?_eq_getElem hm]
 ·rw[List.getElem?_eq_none (l:=(List.replicate n l).flatten) (by omega),Array.getElem?_toList,Array.getElem?_map,Array.getElem?_range,if_neg aV];rfl
theorem run_makeSlice{t e:Nat}{i:TypeInfo}{zv:Value}(hu:P.underlying t=some (.slice e))(hi:P.info? e=some i)(hz:i.zero=some zv)(h1:1≤i.size){k k':IntKind}{n:Nat}(hn:n≤9223372036854775807)(hb:n*i.bytes≤140737488355328)(w:World):
  (Instr.makeSlice t (.int k n) (.int k' n)).run P w= .ok (.slice (some ⟨w.heap.size,0,none⟩) n n) (w.alloc (.cells ((Array.range (n*i.size)).map fun q=>zv.cells[q % zv.cells.size]!) e)):=by
 have h2: ∀w,(underlying t).run P w= .ok (.slice e) w:=eV hu
 have h3: ∀w,(Go.sizeOf e).run P w= .ok i.size w:=fun w=>j0 hi w
 have h4: ∀w,(zeroValue e).run P w= .ok zv w:=fun w=>by simp[zeroValue,typeInfo,go_sem,hi,hz]
 have h5: ∀w,(typeInfo e).run P w= .ok i w:=fun w=>by simp[typeInfo,go_sem,hi]
 have hw:IntKind.i64.wrap (n:Int)=n:=IntWalk.i64_in _ (by omega)
 have e48:(2:Int) ^ 48=281474976710656:=by decide
 have dM:(i.bytes:Int)*(n:Int)≤140737488355328:=by
  have:((n*i.bytes:Nat):Int)≤((140737488355328:Nat):Int):=Int.ofNat_le.2 hb
  rw[Int.natCast_mul]at this;rw[Int.mul_comm];exact this
 have c1: ¬((i.bytes:Int)*(n:Int) > 2 ^ 48):=by
  rw[e48];omega
 have c2: ¬((n:Int)<0):=by omega
 have c3: ¬((n:Int) > (n:Int)):=by omega
 have tG: ∀w,(askRoom (n*i.bytes)).run P w= .ok () w:=fun w=>by
  unfold askRoom;rw[if_neg (by unfold roomBytes;omega)];simp[go_sem]
 have key: ∀w,(do
   let n:=n*(←Go.sizeOf e);let zero←if n=0 then pure #[]else do pure (←zeroValue e).cells
   newRow e ((Array.range n).map (zero[· % zero.size]!)):Sem Addr).run P w= .ok ⟨w.heap.size,0,none⟩ (w.alloc (.cells ((Array.range (n*i.size)).map fun q=>zv.cells[q % zv.cells.size]!) e)):=by
  intro w;by_cases h0:n*i.size=0
  ·have hr0:Array.range 0= #[]:=rfl
   simp only[Sem.run_bind,h3,Result.andThen,h0,if_true,hr0];rw[show(pure #[]:Sem (Array Value)).run P w= .ok #[] w from rfl];simp[iB]
  ·simp only[Sem.run_bind,h3,Result.andThen,if_neg h0,h4];rfl
 have ha: ∀(k:IntKind) w,(asInt (.int k (n:Int))).run P w= .ok (n:Int) w:=fun _ _=>rfl
 have hc:(decide ((n:Int)<0)||decide ((i.bytes:Int)*(n:Int) > 2 ^ 48)||decide ((n:Int)<0)||decide ((n:Int) > (n:Int)))=false:=by
  simp only[bT c1,bT c2,bT c3,Bool.or_false]
 have ht:(n:Int).toNat=n:=Int.toNat_natCast n
 unfold Instr.makeSlice;simp only[Sem.run_bind,h2,ha,h5,Result.andThen,hw,hc,ht];simp only[Bool.false_eq_true,if_false,Sem.run_bind,tG,Result.andThen,h3];by_cases h0:n*i.size=0
 ·have hr0:Array.range 0= #[]:=rfl
  simp only[h0,if_true,hr0];simp[iB]
 ·simp only[if_neg h0,Sem.run_bind,h4,Result.andThen];simp[iB]
theorem La(hL:bj P C.L)(hI:C.I=al)(h:bq E0 E w0 w s a){o:Oper}{t:Nat}{x y:Operand}(he:o.op= .makeSlice t x y){d:Nat}{n m:Int}(hn:intOf (bP s [] x)=some n)(hm:intOf (bP s [] y)=some m){K:bd}{Q:Exit→Act→World→Prop}
  (hk:P1 C t d n m s K):lz P o a w (fb E0 w0 o a K) Q:=by
 unfold P1 at hk;generalize C.base+d=d at hk;cases sg:elemOf C.L t with
 |none=>rw[sg]at hk;exact hk.elim
 |some et=>
  obtain⟨e,ti⟩:=et;rw[sg]at hk;obtain⟨hu,Kf,i,i1,i2,i3,zv,i4,i5⟩:=gr hL sg;cases eu:look d s.b with
  |some _=>rw[eu]at hk;exact hk.elim
  |none=>
   rw[eu]at hk;dsimp only at hk;obtain⟨k1,k2,WS,hk⟩:=hk;rw[hI]at WS;obtain⟨k3,k4,k5⟩:0≤n∧n≤9223372036854775807∧n*ti.bytes≤140737488355328:=WS;subst k2;rw[hI]at hk;obtain⟨q1,e1⟩:=dU hn h trivial;obtain⟨q2,e2⟩:=dU hm h trivial;obtain⟨n',Im⟩:=Int.eq_ofNat_of_zero_le k3;subst Im;have hb:n'*i.bytes≤140737488355328:=by
    rw[i3];rw[←Int.natCast_mul]at k5;exact Int.ofNat_le.1 k5
   have Ca:=(hL.ok e ti Kf).KV
   have eB:=run_makeSlice (P:=P) hu i1 i4 (by omega) (k:=q1) (k':=q2) (n:=n') (by omega) hb w
   have xR: ¬E.live (.s d):=fun rB=>by obtain⟨ob,ho⟩:=h.lv d rB;rw[eu]at ho;cases ho
   have qf:=GK h (c:=(Array.range (n'*i.size)).map fun q=>zv.cells[q % zv.cells.size]!) (k:= .s d) xR (z:=ti.size) (n:=n') (l:=ti.zero) (by omega) Ca (by unfold maxLen;omega) (by rw[i2];exact EC i5 Ca n') e
   refine cP (x:= .slice (some ⟨w.heap.size,0,none⟩) n' n') (w':=w.alloc _) ?_ ⟨_,_,_,hk,h.Si eu qf,?_⟩
   ·simp only[execOp,he,e1,e2];simp[eB]
   ·have hmk:(E.addKey (.s d) (.cells ((Array.range (n'*i.size)).map fun q=>zv.cells[q % zv.cells.size]!) e (0,0)) n').m (.s d)=w.heap.size:=by simp[Env.addKey,h.heap]
    have:=Cz.eW (E:=E.addKey (.s d) (.cells ((Array.range (n'*i.size)).map fun q=>zv.cells[q % zv.cells.size]!) e (0,0)) n') (.s d) n' (.inl rfl) (by simp[Env.addKey]) (by simp[Env.addKey]) (by simp[Env.addKey];unfold maxLen;omega)
    rw[hmk]at this;simpa[Env.addKey]using this
theorem uj(v:Value):sy v=v.oneCell':=by cases v<;>rfl
theorem chunks_flatten{z:Nat}: ∀{xs:List (List AV)},(∀l∈xs,l.length=z)→chunks z xs.length xs.flatten=xs
 |[],_=>rfl
 |l::r,h=>by
  have hl:=h l (by simp)
  simp only[List.length_cons,chunks,List.flatten_cons];rw[List.take_append_of_le_length (by omega),List.take_of_length_le (by omega),List.drop_append_of_le_length (by omega),List.drop_of_length_le (by omega),List.nil_append,chunks_flatten (fun x hx=>h x (by simp[hx]))]
theorem zf: ∀{xs:List (List AV)},ep xs=true→oh xs.flatten=true
 |[],_=>rfl
 |l::r,h=>by
  simp only[ep,Bool.and_eq_true]at h;have ih:=zf h.2
  rw[List.flatten_cons];have: ∀{a b:List AV},oh a=true→oh b=true→oh (a++b)=true:=by
   intro a b ha hb
   induction a with
   |nil=>exact hb
   |cons x r ih=>simp only[oh,Bool.and_eq_true,List.cons_append]at ha ⊢;exact⟨ha.1,ih ha.2⟩
  exact this h.1 ih
theorem Cz.cells{r:Nat}{xs:List (List AV)}{v:Value}(hE:w.heap=E.h)(h:Cz E (.sl r xs) v)(hp:0<xs.length){z:Nat}(hz: ∀l∈xs,l.length=z):
  ∃b o c,v= .slice (some ⟨b,o,none⟩) xs.length c∧ ∃ns:List Value,ns.length=xs.length*z∧(∀(j:Nat) (u:Value),ns[j]? =some u→w.cell? ((⟨b,o,none⟩:Addr).add j)=some u)∧
   (∀(q:Nat) (a:AV),xs.flatten[q]? =some a→bX a=true)∧ ∀(q:Nat) (a:AV) (y:Value),xs.flatten[q]? =some a→ns[q]? =some y→Cz E a y:=by
 cases h with
 |mq=>simp at hp
 |sl _ _ z' b o c u hp hc hm dw vF hr hi hs hu hq=>
  have SF:z'=z:=by
   cases xs with
   |nil=>simp at hp
   |cons x r=>rw[←vF x (by simp),hz x (by simp)]
  subst SF;have fS:=aB hz
  refine⟨b,o,c,rfl,(List.range (xs.length*z')).map u,by simp,fun j v hj=>?_,hi,fun q a y ha hy=>?_⟩
  ·have aV:j<xs.length*z':=by have:=(bh.1 hj).1;simpa using this
   have:v=u j:=by simp[aV]at hj;exact hj.symm
   subst this;rw[ew,kq,hE];exact hu j (xs.flatten[j]'(by omega)) (by simp)
  ·have aV:q<xs.length*z':=by have:=(bh.1 ha).1;omega
   have:y=u q:=by simp[aV]at hy;exact hy.symm
   subst this;exact hq q a ha
theorem BS{cs:List AV}{ns:List Value}(hl:ns.length=cs.length)(hq: ∀(q:Nat) (a:AV) (y:Value),cs[q]? =some a→ns[q]? =some y→Cz E a y)(h:oh cs=true): ∀u∈ns,u.oneCell'=true:=by
 intro u hu;have:=Av (E:=E) (c:=ns.toArray) ⟨by simpa using hl,fun q a y h1 h2=>hq q a y h1 (by simpa using h2)⟩ h u (by simpa using hu)
 rw[←uj];exact this
structure App(P:Program)(E:Env)(w:World)(t:Nat)(ty:Nat)(x y:Value)(tk tk':Tok)(r:Nat)(zs:List (List AV))(x':Value)(w':World)(E':Env):Prop where
 run:(Builtin.append_ #[t,t] ty #[x,y]).run P w= .ok x' w'
 heap:w'.heap=E'.h
 wf:Wf E'
 same:jk w w'
 ext:Ext (fun o=>o= .tok tk) E E'
 cz:Cz E' (.gs r tk' zs) x'
 own: ∀b,b<E.h.size→E.own b= .tok tk→E'.own b= .tok tk∨E'.own b= .tok tk'
 live: ∀k,E'.live k↔E.live k
 ng:(∀b,¬du (E.own b))→ ∀b,¬du (E'.own b)
def Env.grow(E:Env)(b:Nat)(tk':Tok)(n:Nat)(o:Obj):Env:=
 {E with h:=E.h.setIfInBounds b o,aI:=fun b' i=>if b'=b then i<n else E.aI b' i,own:=fun b'=>if b'=b then .tok tk' else E.own b'}
theorem DB{t ty e:Nat}{i:TypeInfo}(hu:P.underlying t=some (.slice e))(hi:P.info? e=some i)(A B:Option Addr)(n c m:Nat)(hc:n≤c)(w:World):
  (Builtin.append_ #[t,t] ty #[.slice A n c,.slice B 0 m]).run P w= .ok (.slice A n c) w:=by
 have h2: ∀w,(underlying t).run P w= .ok (.slice e) w:=eV hu
 have h3: ∀w,(Go.sizeOf e).run P w= .ok i.size w:=fun w=>j0 hi w
 cases A<;>cases B<;>
  simp[Builtin.append_,Sem.run_bind,h2,h3,Result.andThen,Builtin.lenOf,hc,Builtin.firstCells,loadCells,loadCellsFrom,storeCells]
theorem RL{r:Nat}{tk tk':Tok}{xs:List (List AV)}{x y:Value}{t ty:Nat}(hw:Wf E)(hh:w.heap=E.h)(hx:Cz E (.gs r tk xs) x)(eB:(Builtin.append_ #[t,t] ty #[x,y]).run P w= .ok x w):App P E w t ty x y tk tk' r xs x w (E.dm tk tk'):=
 ⟨eB,hh,Ly hw _ _,jk.refl _,s7 _ _,hx.dm hw,fun b _ ho=> .inr (by simp only[Env.dm];rw[ho];simp),fun _=>Iff.rfl,fun h=>Lz h _ _⟩
theorem qx(z:Array Value)(n:Nat):(Builtin.zeroCells z n).size=n*z.size:=by simp[Builtin.zeroCells]
theorem Qn{e:Nat}{i:TypeInfo}{zv:Value}(h:bq E0 E w0 w s a)(Ca:zv.cells.size=i.size)(h1:1≤i.size){r:Nat}{tk tk':Tok}{zs:List (List AV)}{x y:Value}{t ty:Nat}(SF: ∀l∈zs,l.length=i.size)
  {ns:List Value}(hl:ns.length=zs.length*i.size)(kY: ∀(q:Nat) (a:AV),zs.flatten[q]? =some a→bX a=true)(hq: ∀(q:Nat) (a:AV) (y:Value),zs.flatten[q]? =some a→ns[q]? =some y→Cz E a y){cap:Nat}(hc:zs.length≤cap)(hm:cap≤maxLen)(ct:0<zs.length)
  (eB:(Builtin.append_ #[t,t] ty #[x,y]).run P w= .ok (.slice (some ⟨w.heap.size,0,none⟩) zs.length cap) (w.drew.alloc (.cells (ns.toArray++Builtin.zeroCells zv.cells (cap - zs.length)) e))):
  ∃x' w' E',App P E w t ty x y tk tk' r zs x' w' E':=by
 have hd:=h.draw (w':=w.drew) rfl ⟨rfl,rfl,rfl⟩
 have hgs:=Qo hd (t:=tk') (ρ:=r) (z:=i.size) (n:=zs.length) (cs:=zs.flatten) (c:=ns.toArray++Builtin.zeroCells zv.cells (cap - zs.length)) (e:=e) (cap:=cap) (by omega) (aB SF) (xP kY)
  (fun q b y' g1 g2=>hq q b y' g1 (by
   have aV:q<ns.length:=by rw[hl,←aB SF];exact(bh.1 g1).1
   rw[Array.getElem?_append_left (by simpa using aV)]at g2;simpa using g2))
  (by simp only[Array.size_append,qx,Ca];simp only[List.size_toArray,hl];rw[←Nat.add_mul];congr 1;omega) hc hm (fun hh=>by omega)
 rw[chunks_flatten SF]at hgs;refine⟨_,_,_,eB,?_,IL h.wf tk' r (zs.length*i.size) _ ⟨_,_,rfl⟩,⟨rfl,rfl,rfl⟩,(zM h.wf _ _ _ _).mono (fun _ hf=>hf.elim),hgs,fun b hb ho=> .inl ?_,fun _=>Iff.rfl,fun hg b=>(by
  have:=hg b
  simp only[Env.fV]
  split
  ·exact iG _
  ·exact this)⟩
 ·show w.heap.push _=_;rw[h.heap];rfl
 ·simp only[Env.fV];rw[if_neg (by omega)];exact ho
theorem Dp{t ty e:Nat}{i:TypeInfo}{zv:Value}(h:bq E0 E w0 w s a)(hu:P.underlying t=some (.slice e))(hi:P.info? e=some i)(hz:i.zero=some zv)(Ca:zv.cells.size=i.size)(h1:1≤i.size)
  {r r2:Nat}{tk tk':Tok}{xs ys:List (List AV)}{x y:Value}(hx:Cz E (.gs r tk xs) x)(hy:Cz E (.sl r2 ys) y)(hxz: ∀l∈xs,l.length=i.size)(hyz: ∀l∈ys,l.length=i.size)(wV:oh ys.flatten=true)
  (hb:(xs.length+ys.length)*i.bytes≤70368744177664)(hn:xs.length+ys.length≤70368744177664): ∃x' w' E',App P E w t ty x y tk tk' r (xs++ys) x' w' E':=by
 by_cases hy0:ys.length=0
 ·have:ys=[]:=List.eq_nil_of_length_eq_zero hy0
  subst this;obtain⟨B,m,QB⟩:=hy.len;rw[List.append_nil];subst QB;have hxv: ∃A c,x= .slice A xs.length c∧xs.length≤c:=by
   cases hx with
   |rH=>exact⟨_,_,rfl,Nat.zero_le _⟩
   |gs=>exact⟨_,_,rfl,by assumption⟩
  obtain⟨A,c,rfl,hc⟩:=hxv;exact⟨_,_,_,RL h.wf h.heap hx (DB hu hi A B xs.length c m hc w)⟩
 ·obtain⟨b2,o2,c2,rfl,ns,n1,n2,n3,n4⟩:=hy.cells h.heap (by omega) hyz;have anR:=BS (E:=E) (by rw[n1,aB hyz]) n4 wV
  cases hx with
  |rH=>
   have eB:=run_append_nil (P:=P) w t ty e i zv hu hi hz ⟨b2,o2,none⟩ ys.length c2 ns n1 n2 (by omega) (by omega) (by simp at hb;omega)
   rw[List.nil_append];exact Qn h Ca h1 hyz n1 n3 n4 (grownCap_ge w ys.length 0 e) (grownCap_le_maxLen w ys.length 0 e (by unfold maxLen;omega)) (by omega) eB
  |gs _ _ _ z b c e' cells u hc hm h0 dw vF hr QL dg ho er kY huq vG=>
   have Ip:=aB hxz
   have TA:=aB hyz
   have abf: ∀l∈xs++ys,l.length=i.size:=fun l hl=>by
    rcases List.mem_append.1 hl with hl|hl
    ·exact hxz l hl
    ·exact hyz l hl
   have hlx:(xs++ys).length=xs.length+ys.length:=by simp
   have hold: ∀(j:Nat) (v:Value),((List.range (xs.length*i.size)).map u)[j]? =some v→w.cell? ((⟨b,0,none⟩:Addr).add j)=some v:=fun j v hj=>by
    have aV:j<xs.length*i.size:=by have:=(bh.1 hj).1;simpa using this
    have:v=u j:=by simp[aV]at hj;exact hj.symm
    subst this;rw[ew,kq,h.heap];exact huq j (xs.flatten[j]'(by omega)) (by simp)
   have aiK: ∀(q:Nat) (a:AV),(xs++ys).flatten[q]? =some a→bX a=true:=fun q a ha=>by
    rw[List.flatten_append]at ha;by_cases aV:q<xs.flatten.length
    ·rw[iq aV]at ha;exact kY q a ha
    ·rw[ji (by omega)]at ha;exact n3 _ a ha
   by_cases tG:xs.length+ys.length≤c
   ·
    have hxp:0<xs.length:=by
     rcases Nat.eq_zero_or_pos xs.length with hh|hh
     ·have:=h0 hh;omega
     ·exact hh
    have SF:z=i.size:=by
     cases xs with
     |nil=>simp at hxp
     |cons l r=>rw[←vF l (by simp),hxz l (by simp)]
    subst SF;have hmul:(xs.length+ys.length)*i.size≤c*i.size:=Nat.mul_le_mul_right _ tG
    rw[Nat.add_mul]at hmul;obtain⟨w',g1,g2,g3⟩:=gT P b (xs.length*i.size) e' ns 0 w cells (by rw[h.heap];exact QL) (by omega) (fun v hv=>by rw[uj];exact anR v hv);obtain⟨f1,f2⟩:=mF (xs.length*i.size) ns 0 cells (by omega);generalize (ns.zipIdx.foldl (fun cs (x,j)=>cs.setIfInBounds (xs.length*i.size+j) x) cells)=F at g2 f1 f2;have aV:b<E.h.size:=(Array.getElem?_eq_some_iff.1 QL).1
    have eB:(Builtin.append_ #[t,t] ty #[.slice (some ⟨b,0,none⟩) xs.length c,.slice (some ⟨b2,o2,none⟩) ys.length c2]).run P w= .ok (.slice (some ⟨b,0,none⟩) (xs.length+ys.length) c) w':=by
     have h2: ∀w,(underlying t).run P w= .ok (.slice e) w:=eV hu
     have h3: ∀w,(Go.sizeOf e).run P w= .ok i.size w:=fun w=>j0 hi w
     have hf:=run_firstCells_some (P:=P) w i.size ys.length ⟨b2,o2,none⟩ ys.length c2 ns n1 n2
     simp[Builtin.append_,Sem.run_bind,h2,h3,Result.andThen,Builtin.lenOf,tG,hf,ew,g1]
    have hEh:w'.heap=(E.grow b tk' ((xs.length+ys.length)*i.size) (.cells F e' (0,0))).h:=by rw[g2,h.heap];rfl
    have SQ:Ext (fun o=>o= .tok tk) E (E.grow b tk' ((xs.length+ys.length)*i.size) (.cells F e' (0,0))):=
     ⟨by simp[Env.grow],
      fun b' q hs=>by
      by_cases tK:b'=b
      ·subst tK;have vG:=(er q).1 hs
       refine⟨by simp only[Env.grow,if_true];rw[Nat.add_mul];omega,?_,rfl⟩;simp only[Env.grow,aO];rw[Array.getElem?_setIfInBounds_self_of_lt aV,QL];dsimp only;rw[f2,if_neg (by omega)]
      ·refine⟨by simp only[Env.grow];rw[if_neg tK];exact hs,?_,rfl⟩;simp only[Env.grow,aO];rw[Array.getElem?_setIfInBounds_ne (Ne.symm tK)],
      fun k hk=>⟨hk,rfl,rfl⟩,
      fun b' dM ct=>by
      have tK:b'≠b:=fun hh=>by subst hh;exact ct ho
      exact⟨by simp only[Env.grow];rw[if_neg tK],by simp only[Env.grow];rw[Array.getElem?_setIfInBounds_ne (Ne.symm tK)],fun q=>by simp only[Env.grow];rw[if_neg tK],rfl⟩⟩
    have hwf:Wf (E.grow b tk' ((xs.length+ys.length)*i.size) (.cells F e' (0,0))):=
     ⟨fun b' q hs=>by
      simp only[Env.grow]at hs ⊢;by_cases tK:b'=b
      ·subst tK;simpa using aV
      ·rw[if_neg tK]at hs;simpa using h.wf.aI b' q hs,
      fun b' hs=>by
      simp only[Env.grow]at hs ⊢;by_cases tK:b'=b
      ·subst tK;simpa using aV
      ·rw[if_neg tK]at hs;simpa using h.wf.own b' hs,
      fun b' q hs hr=>by
      simp only[Env.grow]at hs hr ⊢;by_cases tK:b'=b
      ·subst tK;exact⟨F,e',by rw[Array.getElem?_setIfInBounds_self_of_lt aV]⟩
      ·rw[if_neg tK]at hs;obtain⟨c',e'',hc⟩:=h.wf.fz b' q hs hr;exact⟨c',e'',by rw[Array.getElem?_setIfInBounds_ne (Ne.symm tK)];exact hc⟩⟩
    refine⟨_,w',_,eB,hEh,hwf,g3,SQ,?_,fun b' _ C6=>?_,fun _=>Iff.rfl,fun hg b'=>(by
     have:=hg b'
     simp only[Env.grow]
     split
     ·exact iG _
     ·exact this)⟩
    ·have:=Cz.gs (E:=E.grow b tk' ((xs.length+ys.length)*i.size) (.cells F e' (0,0))) r tk' (xs++ys) i.size b c e' F (fun q=>F[q]?.getD undef) (by rw[hlx];exact tG) hm (by rw[hlx];omega) (by omega) abf hr
      (by simp[Env.grow,aV]) (by rw[f1];exact dg) (by simp[Env.grow]) (fun q=>by simp[Env.grow]) aiK
      (fun q a' ha=>by
       have hq:q<F.size:=by
        have:=(bh.1 ha).1
        rw[aB abf,hlx,Nat.add_mul]at this;rw[f1,dg];omega
       simp[aO,Env.grow,aV,hq])
      (fun q a' ha=>by
       have hq:q<(xs.length+ys.length)*i.size:=by
        have:=(bh.1 ha).1
        rwa [aB abf,hlx]at this
       rw[Nat.add_mul]at hq;have hfq:=f2 q
       have ad0: ∀y',Cz E a' y'→F[q]? =some y'→Cz (E.grow b tk' ((xs.length+ys.length)*i.size) (.cells F e' (0,0))) a' (F[q]?.getD undef):=fun y' g1 g2=>by
        rw[g2];exact(g1.ext SQ h.wf (aX tk) (fun t ht=>(kB _ _).2 (by cases ht;rfl))).2 (aiK q a' ha)
       rw[List.flatten_append]at ha;by_cases Pb:q<xs.flatten.length
       ·rw[iq Pb]at ha;rw[if_neg (by omega)]at hfq;have h5:=huq q a' ha
        simp only[Nat.zero_add,aO,QL]at h5;exact ad0 _ (vG q a' ha) (hfq.trans h5)
       ·rw[ji (by omega)]at ha;rw[if_pos ⟨by omega,by omega⟩]at hfq;have aiC:q - (xs.length*i.size+0)<ns.length:=by omega
        have h6:ns[q - (xs.length*i.size+0)]? =some ns[q - (xs.length*i.size+0)]:=by simp[aiC]
        exact ad0 _ (n4 _ a' _ ha (by rw[Ip];exact h6)) (hfq.trans h6))
     rw[hlx]at this;exact this
    ·by_cases tK:b'=b
     ·subst tK;exact .inr (by simp[Env.grow])
     ·exact .inl (by simp only[Env.grow];rw[if_neg tK];exact C6)
   ·have eB:=run_append_grow (P:=P) w t ty e i zv hu hi hz ⟨b,0,none⟩ xs.length c ((List.range (xs.length*i.size)).map u) (by simp) hold ⟨b2,o2,none⟩ ys.length c2 ns n1 n2 (by omega) (by omega)
     (growslice_fits (by omega) (by omega))
    have aum:((List.range (xs.length*i.size)).map u).toArray++ns.toArray=(((List.range (xs.length*i.size)).map u)++ns).toArray:=by simp
    rw[aum]at eB;rw[←hlx]at eB;refine Qn h Ca h1 abf (ns:=((List.range (xs.length*i.size)).map u)++ns) (by rw[hlx,List.length_append,n1,Nat.add_mul];simp) aiK (fun q a' y' g1 g2=>?_) (by exact grownCap_ge w _ c e) (grownCap_le_maxLen w _ c e (by unfold maxLen;omega)) (by omega) eB;rw[List.flatten_append]at g1;by_cases aV:q<xs.flatten.length
    ·rw[iq aV]at g1;rw[iq (by simp;omega)]at g2;have:y'=u q:=by simp[show q<xs.length*i.size from by omega]at g2;exact g2.symm
     subst this;exact vG q a' g1
    ·rw[ji (by omega)]at g1;rw[ji (by simp;omega)]at g2;exact n4 _ a' y' g1 (by simpa[Ip]using g2)
theorem II(hI:C.I=al){ti:TI}{n:Nat}{ys:List (List AV)}(h:Ra C ti n ys):(n+ys.length)*ti.bytes≤70368744177664∧n+ys.length≤70368744177664∧1≤ti.size∧oh ys.flatten=true∧ ∀l∈ys,l.length=ti.size:=by
 obtain⟨qq,h3,h4,h5⟩:=h;rw[hI]at qq;obtain⟨h1,h2⟩:(n+ys.length)*ti.bytes≤70368744177664∧n+ys.length≤70368744177664:=qq;exact⟨h1,h2,by simpa using h3,zf h4,h5⟩
theorem Uo(d:Nat)(k:Tok): ∀t,(fun o=>o=Own.tok k) (.tok t)→(fun q=>aX (.l d) q||aX k q) t=true:=fun t ht=>by
 cases ht;simp[(kB k k).2 rfl]
theorem G8(hL:bj P C.L)(hI:C.I=al)(h:bq E0 E w0 w s a){o:Oper}{t t' d:Nat}{x y:Operand}{c:Call}(he:o.op= .call c)(hc:c.callee= .builtin .append)(dt:c.args= #[x,y])(Tx:c.argTypes= #[t,t'])(htt:t'=t){K:bd}{Q:Exit→Act→World→Prop}
  (hk:Eb C t d (bP s [] x) (bP s [] y) s K):lz P o a w (fb E0 w0 o a K) Q:=by
 subst htt;unfold Eb at hk;generalize C.base+d=d at hk;have hx:=h.ev (p:=[]) trivial x
 have hy:=h.ev (p:=[]) trivial y
 have fin: ∀x' w',(Builtin.append_ #[t',t'] o.type #[a.eval x,a.eval y]).run P w= .ok x' w'→Out E0 w0 a K x' w'→lz P o a w (fb E0 w0 o a K) Q:=fun x' w' g1 g2=>by
  refine cP (x:=x') (w':=w') ?_ g2;simp only[execOp,he,resolve,hc,invoke,builtin,dt,Tx];simp[Sem.run_bind,invoke,builtin,g1,Result.andThen]
 cases sg:elemOf C.L t' with
 |none=>rw[sg]at hk;exact hk.elim
 |some et=>
  obtain⟨e,ti⟩:=et;rw[sg]at hk;obtain⟨hu,Kf,i,i1,i2,i3,zv,i4,i5⟩:=gr hL sg;have Ca:zv.cells.size=i.size:=by rw[i2,←(hL.ok e ti Kf).KV,←i5];simp
  cases QF:yz (bP s [] y)with
  |none=>rw[QF]at hk;exact hk.elim
  |some ry=>
   obtain⟨r2,ys⟩:=ry;rw[QF]at hk;dsimp only at hk;have Tw:=oL QF hy
   split at hk
   ·rename_i r k xs dK;obtain⟨QC,k1,k2,hk⟩:=hk;rw[hI]at k1 hk;obtain⟨q1,q2,q3,q4,q5⟩:=II (C:=C) (ti:=ti) (n:=xs.length) (ys:=ys) hI k1;rw[dK]at hx;obtain⟨x',w',E',g⟩:=Dp (P:=P) (t:=t') (ty:=o.type) (tk':= .l d) h hu i1 i4 Ca (by omega) hx Tw (by rw[i2];exact k2) (by rw[i2];exact q5) q4 (by rw[i3];exact q1) q2;refine fin x' w' g.run ⟨_,_,E',hk,?_,g.cz⟩;refine h.xZ g.ext (Uo d k) (fun o ho=>by subst ho;left;first|rfl|(cases k<;>rfl)) g.wf g.heap g.same (fun b hb Y3=>by have:=h.wI b hb;rw[Y3]at this;first|(simp[Own.loc,Tok.loc]at this;done)|(cases k<;>simp[Own.loc,Tok.loc]at this)) _ s.g s.nx (fun d' ob hd=>?_) (fun d' hl=>?_) (fun j ob hj=> .inl ⟨hj,fun hf=>by cases hf⟩)
     (fun j=>(g.live _).trans (h.gl j)) h.gk (g.ng h.ng)
    ·rw[cE]at hd;cases hh:look d' s.b with
     |none=>rw[hh]at hd;simp at hd
     |some z=>rw[hh]at hd;simp at hd;exact .inl ⟨z,rfl,hd.symm,(fun hf=>by cases hf),fun hf=>by first|(cases hf;done)|(cases hf;cases QC)⟩
    ·obtain⟨ob,ho⟩:=h.lv d' ((g.live _).1 hl);exact⟨_,by rw[cE,ho];rfl⟩
   ·rename_i dK;obtain⟨k1,hk⟩:=hk;obtain⟨q1,q2,q3,q4,q5⟩:=II (C:=C) (ti:=ti) (n:=0) (ys:=ys) hI k1;rw[dK]at hx;have ex:=bN hx
    have hgs:Cz E (.gs C.ρ (.l d) []) (a.eval x):=by rw[ex];exact .rH _ _
    obtain⟨x',w',E',g⟩:=Dp (P:=P) (t:=t') (ty:=o.type) (tk':= .l d) h hu i1 i4 Ca (by omega) hgs Tw (fun l hl=>by simp at hl) (by rw[i2];exact q5) q4 (by rw[i3];simpa using q1) (by simpa using q2);refine fin x' w' g.run ⟨_,_,E',hk,?_,by simpa using g.cz⟩;have hT: ∀t,(fun o=>o=Own.tok (.l d)) (.tok t)→aX (.l d) t=true:=fun t ht=>(kB _ _).2 (by cases ht;rfl)
    refine h.xZ g.ext hT (fun o ho=>by subst ho;left;first|rfl|(cases k<;>rfl)) g.wf g.heap g.same (fun b hb Y3=>by have:=h.wI b hb;rw[Y3]at this;first|(simp[Own.loc,Tok.loc]at this;done)|(cases k<;>simp[Own.loc,Tok.loc]at this)) _ s.g s.nx (fun d' ob hd=>?_) (fun d' hl=>?_) (fun j ob hj=> .inl ⟨hj,fun hf=>by cases hf⟩)
     (fun j=>(g.live _).trans (h.gl j)) h.gk (g.ng h.ng)
    ·rw[cE]at hd;cases hh:look d' s.b with
     |none=>rw[hh]at hd;simp at hd
     |some z=>rw[hh]at hd;simp at hd;exact .inl ⟨z,rfl,hd.symm,(fun hf=>by cases hf),fun hf=>by first|(cases hf;done)|(cases hf;cases QC)⟩
    ·obtain⟨ob,ho⟩:=h.lv d' ((g.live _).1 hl);exact⟨_,by rw[cE,ho];rfl⟩
   ·exact hk.elim
theorem Row.of{cs:List AV}{c:Array Value}(h1:c.size=cs.length)(h2: ∀(q:Nat) (a:AV) (y:Value),cs[q]? =some a→c[q]? =some y→Cz E a y):Row E cs c:=⟨h1,h2⟩
theorem Ll{a b:List AV}(h:b.length≤a.length):bF a 0 b=b++a.drop b.length:=by simp[bF]
theorem K3(hL:bj P C.L)(hI:C.I=al)(h:bq E0 E w0 w s a){o:Oper}{t t':Nat}{x y:Operand}{c:Call}(he:o.op= .call c)(hc:c.callee= .builtin .copy)(dt:c.args= #[x,y])(Tx:c.argTypes= #[t,t']){K:bd}{Q:Exit→Act→World→Prop}
  (hk:TR C t (bP s [] x) (bP s [] y) s K):lz P o a w (fb E0 w0 o a K) Q:=by
 unfold TR at hk;have hx:=h.ev (p:=[]) trivial x
 have hy:=h.ev (p:=[]) trivial y
 have fin: ∀x' w',(Builtin.copy_ #[t,t'] o.type #[a.eval x,a.eval y]).run P w= .ok x' w'→Out E0 w0 a K x' w'→lz P o a w (fb E0 w0 o a K) Q:=fun x' w' g1 g2=>by
  refine cP (x:=x') (w':=w') ?_ g2;simp only[execOp,he,resolve,hc,invoke,builtin,dt,Tx];simp[Sem.run_bind,invoke,builtin,g1,Result.andThen]
 split at hk
 ·rename_i e ti d n r2 ys sg hxe QF;obtain⟨hu,Kf,i,i1,i2,i3,zv,i4,i5⟩:=gr hL sg;have Tw:=oL QF hy
  rw[hxe]at hx;generalize a.eval x=xv at hx fin;generalize a.eval y=yv at Tw fin
  split at hk
  ·rename_i z xs eu;obtain⟨zs,j,⟨e1,e2,e3,e4,e5⟩,hK⟩:=hk;rw[hI]at e4 e5;obtain⟨hl,nQ,dw,hz,hm,cc,ce,hb,ho,hs,dg,kY,hq⟩:=h.bx d _ eu;have fS:=aB hz
   cases hx with
   |eW _ _ hlv hn Pk hmx=>
   rw[nQ]at hn Pk hmx fin;dsimp only at hn;have hj:j=((min ys.length n:Nat):Int):=by
    rw[←e4];simp only[al];split<;>omega
   generalize hmm:min ys.length n=m at hj;have hmy:m≤ys.length:=by omega
   have anU:m≤xs.length:=by omega
   have hzs:zs=ys.take m++xs.drop m:=by rw[←e5,hj];simp[al]
   obtain⟨B,cy,QB⟩:=Tw.len;have h2: ∀w,(underlying t).run P w= .ok (.slice e) w:=eV hu
   have h3: ∀w,(Go.sizeOf e).run P w= .ok i.size w:=fun w=>j0 i1 w
   have hiz:i.size=z:=by rw[i2,e1]
   have QE: ∃ns:List Value,ns.length=m*z∧(Builtin.firstCells i.size m yv).run P w= .ok ns.toArray w∧(∀(q:Nat) (a:AV),(ys.take m).flatten[q]? =some a→bX a=true)∧
     (∀(q:Nat) (a:AV) (y:Value),(ys.take m).flatten[q]? =some a→ns[q]? =some y→Cz E a y)∧(∀v∈ns,sy v=true):=by
    by_cases hm0:m=0
    ·refine⟨[],by rw[hm0];simp,?_,fun q a ha=>by rw[hm0]at ha;simp at ha,fun q a y ha=>by rw[hm0]at ha;simp at ha,fun v hv=>by cases hv⟩;rw[QB,hm0];cases B<;>simp[Builtin.firstCells,loadCells,loadCellsFrom,go_sem]
    ·have hp:0<ys.length:=by omega
     obtain⟨b2,o2,c2,atm,ns,n1,n2,n3,n4⟩:=Tw.cells h.heap hp (z:=z) (fun l hl=>by rw[e3 l hl,e1]);have wV:=BS (E:=E) (cs:=ys.flatten) (by rw[n1,aB (z:=z) (fun l hl=>by rw[e3 l hl,e1])]) n4 (zf e2)
     have hmz:m*z≤ys.length*z:=Nat.mul_le_mul_right _ hmy
     have htf: ∀(q:Nat) (a:AV),(ys.take m).flatten[q]? =some a→ys.flatten[q]? =some a:=fun q a ha=>by
      have:ys.flatten=(ys.take m).flatten++(ys.drop m).flatten:=by rw[←List.flatten_append,List.take_append_drop]
      rw[this,iq (bh.1 ha).1];exact ha
     refine⟨ns.take (m*z),by simp;omega,?_,fun q a ha=>n3 q a (htf q a ha),fun q a y ha hy=>n4 q a y (htf q a ha) ?_,fun v hv=>by rw[uj];exact wV v (List.mem_of_mem_take hv)⟩
     ·rw[atm,hiz];simp only[Builtin.firstCells,loadCells];have:=run_loadCells P w b2 o2 (m*z) 0 #[] (ns.take (m*z)) (by simp;omega) (fun q y hy=>by
       rw[List.getElem?_take]at hy
       split at hy
       ·have:=n2 q y hy;rw[ew,kq]at this;simpa using this
       ·cases hy)
      rw[this];simp
     ·rw[List.getElem?_take]at hy
      split at hy
      ·exact hy
      ·cases hy
   obtain⟨ns,n1,n2,n3,n4,n5⟩:=QE;have aV:E.m (.s d)<E.h.size:=(Array.getElem?_eq_some_iff.1 hb).1
   have SH:m*z≤xs.length*z:=Nat.mul_le_mul_right _ anU
   obtain⟨w',g1,g2,g3⟩:=gT P (E.m (.s d)) 0 ce ns 0 w cc (by rw[h.heap];exact hb) (by omega) n5;have hyt: ∀l∈ys.take m,l.length=z:=fun l hl=>by rw[e3 l (List.mem_of_mem_take hl),e1]
   have YR:(ys.take m).flatten.length=m*z:=by rw[aB hyt,List.length_take,Nat.min_eq_left hmy]
   have adM:zs.length=xs.length:=by rw[hzs];simp;omega
   refine fin (.int .i64 j) w' ?_ ⟨_,_,_,hK,h.pB eu (BD h.wf hl (xs:=xs) (xs':=zs) (vs:=(ys.take m).flatten) (off:=0) (ys:=ns) (by rw[adM];exact nQ) dw (by rw[adM];exact hm) ?_ hb ho hs ⟨by rw[dg,fS],hq⟩ kY (xP n3) (by rw[fS,YR];omega) ?_ (by rw[n1,YR]) n4) g2 g3 ho hs,.v _⟩
   ·rw[QB];unfold Builtin.copy_;simp[Sem.run_bind,h2,h3,Result.andThen,Builtin.lenOf];rw[show ys.length.min n=m from hmm,←QB,n2];simp[Sem.run_bind,Result.andThen,g1];rw[hj];rfl
   ·intro l hl;rw[hzs]at hl;rcases List.mem_append.1 hl with hl|hl
    ·exact hyt l hl
    ·exact hz l (List.mem_of_mem_drop hl)
   ·rw[Ll (by rw[fS,YR];omega),hzs,List.flatten_append,YR];congr 1;have:xs.flatten=(xs.take m).flatten++(xs.drop m).flatten:=by rw[←List.flatten_append,List.take_append_drop]
    have aV:(xs.take m).flatten.length=m*z:=by rw[aB (fun l hl=>hz l (List.mem_of_mem_take hl)),List.length_take,Nat.min_eq_left anU]
    rw[this,←aV];simp
  ·exact hk.elim
 ·exact hk.elim
end Ab
