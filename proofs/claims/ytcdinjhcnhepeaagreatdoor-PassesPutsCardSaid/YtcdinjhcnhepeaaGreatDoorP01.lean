/- PassesPuts holds of every core (no condition): a part of the proof: an abstract interpreter of the code that is proved sound, models of the functions, and laws of these models. -/
import Derived.Test.YtcdinjhcnhepeaaGreatDoorP00
import Derived.MapKept
import Derived.Laws.StructEq
import Derived.Lib.SliceRun
import Derived.Laws.Cover3
import Derived.TacticsIn
import Derived.OrdersIn
import Derived.Orders
import Derived.Stop.Looks
import Derived.Deep.LoopGhost
import Derived.Test.YtcdinjhcnhepeaaGreatDoorProg
set_option linter.unusedVariables false
set_option linter.unusedSimpArgs false
namespace Ab
open Go
variable{P:Program}{L:nv}{E0 E E':Env}{w0 w w':World}{s:St}{a:Act}{p:Path}{C:dK}
def Env.kill(E:Env)(d:Nat):Env:={E with live:=fun k=>k≠ .s d∧E.live k}
theorem Cz.eL{d:Nat}{av:AV}{x:Value}(h:Cz E av x):cq av=true→Cz (E.kill d) av x:=by
 induction h with
 |any x=>exact fun _=> .any _
 |v x=>exact fun _=> .v _
 |mZ r A c=>exact fun _=> .mZ _ _ _
 |sl r xs z b o c u hp hc hm dQ hz hr hi fP hu hq ih=>exact fun _=> .sl r xs z b o c u hp hc hm dQ hz hr hi fP hu (fun q a cZ=>ih q a cZ (hi q a cZ))
 |sq r t=>exact fun _=> .sq _ _
 |gs r t xs=>intro hi;simp[cq]at hi
 |aP r cs off b o u hr hi fP hu hq ih=>exact fun _=> .aP r cs off b o u hr hi fP hu (fun q a cZ=>ih q a cZ (hi q a cZ))
 |ptr k off hl=>intro hi;exact Cz.ptr (E:=E.kill d) k off ⟨fun e=>by subst e;simp[cq,Key.loc]at hi,hl⟩
 |iq k n hl hn hc hm=>intro hi;exact Cz.iq (E:=E.kill d) k n ⟨fun e=>by subst e;simp[cq,Key.loc]at hi,hl⟩ hn hc hm
 |cQ k i off z hl=>intro hi;exact Cz.cQ (E:=E.kill d) k i off z ⟨fun e=>by subst e;simp[cq,Key.loc]at hi,hl⟩
 |mp k hl=>intro hi;exact Cz.mp (E:=E.kill d) k ⟨fun e=>by subst e;simp[cq,Key.loc]at hi,hl⟩
 |po k hl=>intro hi;exact Cz.po (E:=E.kill d) k ⟨fun e=>by subst e;simp[cq,Key.loc]at hi,hl⟩
 |ar n z xs ys hn hz hl hi hq ih=>exact fun _=> .ar n z xs ys hn hz hl hi fun q a y ha hy=>ih q a y ha hy (hi q a ha)
 |bm f cs ys hl hi hq ih=>exact fun _=> .bm f cs ys hl hi fun q a y ha hy=>ih q a y ha hy (hi q a ha)
 |mN r z xs x hz h ih=>exact fun _=> .mN r z xs x hz (ih rfl)
 |fn f cap ys hl hq ih=>intro hi;exact .fn f cap ys hl fun q a y ha hy=>ih q a y ha hy (bg (by simpa[cq]using hi) q a ha)
 |agg cs ys hl hq ih=>intro hi;exact .agg cs ys hl fun q a y ha hy=>ih q a y ha hy (bg (by simpa[cq]using hi) q a ha)
 |gd cs ys hl hq ih=>intro hi;exact .gd cs ys hl fun q a y ha hy=>ih q a y ha hy (bg (by simpa[cq]using hi) q a ha)
theorem pO{e d:Nat}(h:du e d=false):Key.s e≠ .s d:=fun hh=>by injection hh with hh;subst hh;rw[fc]at h;cases h
theorem Cz.kill{d:Nat}{av:AV}{x:Value}(h:Cz E av x):Cz (E.kill d) (sb d j0 j0 av) x:=by
 induction h with
 |any x=>exact .any _
 |v x=>exact .v _
 |mZ r A c=>exact .mZ _ _ _
 |sl r xs z b o c u hp hc hm dQ hz hr hi fP hu hq ih=>exact Cz.eL (.sl r xs z b o c u hp hc hm dQ hz hr hi fP hu hq) rfl
 |sq r t=>exact .sq _ _
 |gs r t xs z b c e cells u hc hm h0 dQ hz hr hb dC ho fP hi hu hq ih=>
  exact Cz.gs (E:=E.kill d) r t xs z b c e cells u hc hm h0 dQ hz hr hb dC ho fP hi hu (fun q a ha=>(hq q a ha).eL (hi q a ha))
 |aP r cs off b o u hr hi fP hu hq ih=>exact Cz.eL (.aP r cs off b o u hr hi fP hu hq) rfl
 |ptr k off hl=>
  cases k with
  |o i=>exact Cz.eL (.ptr _ _ hl) rfl
  |s e=>simp only[sb];cases hb:du e d with
   |true=>exact .any _
   |false=>exact Cz.ptr (E:=E.kill d) (.s e) off ⟨pO hb,hl⟩
 |iq k m hl hn hc hm=>
  cases k with
  |o i=>exact Cz.eL (.iq _ _ hl hn hc hm) rfl
  |s e=>simp only[sb];cases hb:du e d with
   |true=>exact .any _
   |false=>exact Cz.iq (E:=E.kill d) (.s e) m ⟨pO hb,hl⟩ hn hc hm
 |cQ k i off z hl=>
  cases k with
  |o i=>exact Cz.eL (.cQ _ _ _ _ hl) rfl
  |s e=>simp only[sb];cases hb:du e d with
   |true=>exact .any _
   |false=>exact Cz.cQ (E:=E.kill d) (.s e) i off z ⟨pO hb,hl⟩
 |mp k hl=>
  cases k with
  |o i=>exact Cz.eL (.mp _ hl) rfl
  |s e=>simp only[sb];cases hb:du e d with
   |true=>exact .any _
   |false=>exact Cz.mp (E:=E.kill d) (.s e) ⟨pO hb,hl⟩
 |po k hl=>
  cases k with
  |o i=>exact Cz.eL (.po _ hl) rfl
  |s e=>simp only[sb];cases hb:du e d with
   |true=>exact .any _
   |false=>exact Cz.po (E:=E.kill d) (.s e) ⟨pO hb,hl⟩
 |ar n z xs ys hn hz hl hi hq ih=>exact Cz.eL (.ar n z xs ys hn hz hl hi hq) rfl
 |bm f cs ys hl hi hq ih=>exact Cz.eL (.bm f cs ys hl hi hq) rfl
 |mN r z xs x hz h ih=>exact Cz.eL (.mN r z xs x hz h) rfl
 |fn f cap ys hl hq ih=>
  simp only[sb]
  exact .fn f _ ys (by rw[fx];exact hl) fun q a y ha hy=>by
   rw[nA]at ha
   cases hc:cap[q]? with
   |none=>rw[hc]at ha;simp at ha
   |some a'=>rw[hc]at ha;simp at ha;subst ha;exact ih q a' y hc hy
 |agg cs ys hl hq ih=>
  simp only[sb]
  exact .agg _ ys (by rw[fx];exact hl) fun q a y ha hy=>by
   rw[nA]at ha
   cases hc:cs[q]? with
   |none=>rw[hc]at ha;simp at ha
   |some a'=>rw[hc]at ha;simp at ha;subst ha;exact ih q a' y hc hy
 |gd cs ys hl hq ih=>
  simp only[sb]
  exact .gd _ ys (by rw[fx];exact hl) fun q a y ha hy=>by
   rw[nA]at ha
   cases hc:cs[q]? with
   |none=>rw[hc]at ha;simp at ha
   |some a'=>rw[hc]at ha;simp at ha;subst ha;exact ih q a' y hc hy
theorem C6{d:Nat}{t:List (Nat×AV)}{T:Array Value}(h: ∀e x,look e t=some x→Cz E x (T.getD e undef)): ∀e x,look e (Lt d j0 j0 t)=some x→Cz (E.kill d) x (T.getD e undef):=by
 intro e x hd
 rw[r9]at hd
 cases hh:look e t with
 |none=>rw[hh]at hd;simp at hd
 |some y=>rw[hh]at hd;simp at hd;subst hd;exact(h e y hh).kill
theorem kI.kill{d:Nat}: ∀{ab:List Act} {fs:List Fr},kI E ab fs→kI (E.kill d) ab (Zx d j0 j0 fs)
 |[],[],_=>trivial
 |a::ab,f::fs,h=>⟨⟨h.1.1,C6 h.1.2⟩,kI.kill h.2⟩
 |[],_::_,h=>h.elim
 |_::_,[],h=>h.elim
theorem cf.kill{d:Nat}{k:Key}{ob:Ob}(hk:k≠ .s d)(h:cf E k ob):cf (E.kill d) k (Ra d j0 j0 ob):=by
 cases ob with
 |box cs=>
  obtain⟨g1,c,e,g2,g3,g4,g5,g6⟩:=h
  refine⟨⟨hk,g1⟩,c,e,g2,g3,g4,by rw[fx];exact g5,fun q a x ha hx=>?_⟩
  rw[nA]at ha
  cases hc:cs[q]? with
  |none=>rw[hc]at ha;simp at ha
  |some a'=>rw[hc]at ha;simp at ha;subst ha;exact(g6 q a' x hc hx).kill
 |arr z xs=>
  obtain⟨g1,gl,gz,gz',gm,c,e,g2,g3,g4,g5,g6,g7⟩:=h
  exact⟨⟨hk,g1⟩,gl,gz,gz',gm,c,e,g2,g3,g4,g5,g6,fun q a x ha hx=>(g7 q a x ha hx).eL (g6 q a ha)⟩
 |ow p l xs=>exact yR (fun g=>⟨hk,g⟩) rfl rfl (fun ho=>⟨ho,rfl,fun o hh=>hh⟩) (fun a x hi hc=>hc.eL hi) (fun b hb _=>⟨hb,rfl,fun _=>Iff.rfl,rfl⟩) h
 |lp n t ps nq body st=>
  obtain⟨g1,g3,g4,rec,g2,g5,g6,g7,g8,g9,XP,gq⟩:=h
  exact⟨⟨hk,g1⟩,g3,g4,rec,g2,g5,g6,g7,g8,g9,XP,C6 gq⟩
theorem bn.kill(h:bn E0 E w0 w s a)(d:Nat):bn E0 (E.kill d) w0 w (s.sb d j0 j0) a:=by
 have hF: ∀(o:Nat) (g:Bool),j0 o≠ .v (.bool g):=fun o g hh=>by cases hh
 refine⟨h.heap,⟨h.wf.aM,h.wf.own,h.wf.fz⟩,h.IG,h.up.kill,h.sz,?_,?_,?_,?_,?_,?_,⟨h.ext.size,h.ext.aM,fun k hk=>?_,h.ext.bj⟩,h.xc,h.same,h.gk,h.nl,h.ng,h.lo⟩
 ·intro e x he hp
  have oT:look e (Lt d j0 j0 s.t)=some x:=he
  rw[r9]at oT
  cases hh:look e s.t with
  |none=>rw[hh]at oT;simp at oT
  |some y=>rw[hh]at oT;simp at oT;subst oT;exact(h.tm e y hh ((rW d j0 j0 hF hF).1 hp)).kill
 ·intro e q he hp
  exact h.cu e q he (fun hh=>hp ((rW d j0 j0 hF hF).2 hh))
 ·intro e ob he
  have oT:look e (Hd d j0 j0 (del d s.b))=some ob:=he
  rw[mg,ij]at oT
  by_cases hde:d=e
  ·rw[if_pos hde]at oT;simp at oT
  ·rw[if_neg hde]at oT
   cases hh:look e s.b with
   |none=>rw[hh]at oT;simp at oT
   |some y=>rw[hh]at oT;simp at oT;subst oT;exact(h.bx e y hh).kill (fun hh=>hde (by injection hh with hh;exact hh.symm))
 ·intro e he
  obtain⟨ob,ho⟩:=h.lv e he.2
  refine⟨Ra d j0 j0 ob,?_⟩
  show look e (Hd d j0 j0 (del d s.b))=_
  rw[mg,ij,if_neg (fun hh=>he.1 (by rw[hh])),ho];rfl
 ·intro i ob hi
  have h1:=(h.gx i ob hi).kill (d:=d) (fun hh=>by cases hh)
  have MI:=h.gk i ob hi
  cases ob with
  |arr z xs=>exact h1
  |lp=>exact MI.elim
  |ow=>exact MI.elim
  |box cs=>
   obtain⟨g1,c,e,g2,g3,g4,g5,g6⟩:=h1
   refine⟨g1,c,e,g2,g3,g4,by rw[g5,fx],fun q a x ha hx=>?_⟩
   have:=g6 q (Ab.sb d j0 j0 a) x (by rw[nA,ha];rfl) hx
   rwa [Mz (MI q a ha)]at this
 ·intro i
  exact⟨fun hh=>(h.gl i).1 hh.2,fun hh=>⟨(fun e=>by cases e),(h.gl i).2 hh⟩⟩
 ·obtain⟨k1,k2,k3⟩:=h.ext.live k hk
  exact⟨⟨fun e=>by subst e;exact h.nl d hk,k1⟩,k2,k3⟩
def Env.cw(E:Env)(d b:Nat)(n:Nat×Nat)(h':Array Obj):Env:=
 {E with h:=h',m:=fun q=>if q= .s d then b else E.m q,len:=fun q=>if q= .s d then n else E.len q,live:=fun q=>q= .s d∨E.live q,own:=fun b'=>if b'=b then .key (.s d)else E.own b'}
structure yk(E:Env)(d b:Nat)(h':Array Obj):Prop where
 nl: ¬E.live (.s d)
 at':b=E.h.size∨(b<E.h.size∧E.own b= .key (.s d)∧ ∀o,¬E.aM b o)
 rest: ∀b',b'<E.h.size→b'≠b→h'[b']? =E.h[b']?
 size:E.h.size≤h'.size
 lt:b<h'.size
theorem yk.ext{d b:Nat}{n:Nat×Nat}{h':Array Obj}(k:yk E d b h')(hw:Wf E):Ext (fun o=>o= .key (.s d)) E (E.cw d b n h'):=by
 have hb: ∀b' o,E.aM b' o→b'≠b:=fun b' o hs e=>by
  subst e
  rcases k.at' with e|⟨_,_,h3⟩
  ·have:=hw.aM b' o hs;omega
  ·exact h3 o hs
 refine⟨k.size,fun b' o hs=>⟨hs,?_,rfl⟩,fun q hq=>⟨.inr hq,?_,?_⟩,fun b' eQ hn=>?_⟩
 ·simp only[Env.cw,aO];rw[k.rest b' (hw.aM b' o hs) (hb b' o hs)]
 ·simp only[Env.cw];rw[if_neg (fun e=>by subst e;exact k.nl hq)]
 ·simp only[Env.cw];rw[if_neg (fun e=>by subst e;exact k.nl hq)]
 ·have cU:b'≠b:=fun e=>by
   subst e
   rcases k.at' with e|⟨_,h2,_⟩
   ·omega
   ·exact hn h2
  exact⟨by simp only[Env.cw];rw[if_neg cU],k.rest b' eQ cU,fun _=>Iff.rfl,rfl⟩
theorem yk.wf{d b:Nat}{n:Nat×Nat}{h':Array Obj}(k:yk E d b h')(hw:Wf E):Wf (E.cw d b n h'):=
 ⟨fun b' o hs=>Nat.lt_of_lt_of_le (hw.aM b' o hs) k.size,fun b' eQ=>by
  simp only[Env.cw]at eQ
  by_cases hh:b'=b
  ·subst hh;exact k.lt
  ·rw[if_neg hh]at eQ;exact Nat.lt_of_lt_of_le (hw.own b' eQ) k.size,fun b' o hs hr=>by
  have cU:b'≠b:=fun e=>by
   subst e
   rcases k.at' with e|⟨_,_,h3⟩
   ·have:=hw.aM b' o hs;omega
   ·exact h3 o hs
  obtain⟨c,e,hc⟩:=hw.fz b' o hs hr
  exact⟨c,e,by simp only[Env.cw];rw[k.rest b' (hw.aM b' o hs) cU];exact hc⟩⟩
theorem yk.cz{d b:Nat}{n:Nat×Nat}{h':Array Obj}(k:yk E d b h')(hw:Wf E){av:AV}{x:Value}(h:Cz E av x):Cz (E.cw d b n h') av x:=by
 have:=(h.ext (k.ext (n:=n) hw) hw (fun _=>false) (fb _)).1
 rwa [jW (fun _=>rfl)]at this
theorem yk.nest{d b:Nat}{n:Nat×Nat}{h':Array Obj}(k:yk E d b h')(hw:Wf E){e:Nat}: ∀b',E.own b'= .tok (.n e)→b'<E.h.size→(E.cw d b n h').own b'= .tok (.n e)∧(E.cw d b n h').h[b']? =E.h[b']? ∧(∀o,(E.cw d b n h').aM b' o↔E.aM b' o)∧(E.cw d b n h').dH b'=E.dH b':=fun b' ho eQ=>by
 obtain⟨q1,q2,q3,q4⟩:=(k.ext (n:=n) hw).bj b' eQ (by rw[ho];simp)
 exact⟨q1.trans ho,q2,q3,q4⟩
theorem bn.cw(h:bn E0 E w0 w s a){d b:Nat}{n:Nat×Nat}(hd:look d s.b=none)(k:yk E d b w'.heap)(Kb:iC w w'){ob:Ob}(td:cf (E.cw d b n w'.heap) (.s d) ob):bn E0 (E.cw d b n w'.heap) w0 w' {s with b:=cX d ob s.b} a:=by
 have hx:=h.xG (T:=fun _=>false) (k.ext (n:=n) h.wf) (fb _) (JL _) (k.wf h.wf) (w':=w') rfl Kb
  (fun b' hb hc=>by have:=h.xc b' hb;rw[hc]at this;simp[Own.loc,Key.loc]at this) (cX d ob s.b) s.g s.nx
  (fun d' DG h'=>by
   rw[aF]at h'
   by_cases rI:d=d'
   ·rw[if_pos rI]at h';cases h';subst rI;exact .inr td
   ·rw[if_neg rI]at h';exact .inl ⟨DG,h',(nF (fun _=>rfl) DG).symm,(fun hf=>rI (by injection hf with hf;injection hf with hf;exact hf.symm)),fun hf=>by cases hf⟩)
  (fun d' hl=>by
   rw[aF]
   by_cases rI:d=d'
   ·exact⟨ob,by rw[if_pos rI]⟩
   ·rw[if_neg rI]
    rcases hl with hl|hl
    ·exact absurd (by injection hl with hl;exact hl.symm) rI
    ·exact h.lv d' hl)
  (fun i DG h'=> .inl ⟨h',fun hf=>by cases hf⟩)
  (fun i=>⟨fun hh=>by rcases hh with hh|hh;cases hh;exact(h.gl i).1 hh,fun hh=> .inr ((h.gl i).2 hh)⟩) h.gk (fun b'=>by
   have:=h.ng b'
   simp only[Env.cw]
   split
   ·simp[dz,Own.dz,Key.loc]
   ·exact this)
 have:fV (fun _=>false) s.t=s.t:=kJ (fun _=>rfl) _
 rw[this,oX (fun _=>rfl)]at hx
 exact hx
structure Grown(P:Program)(w:World)(t ty z:Nat)(x y:Value)(xc:Array Value)(b n:Nat)(ns:List Value):Prop where
 ex: ∃(w':World) (b' c' e':Nat) (cells:Array Value),(Builtin.append_ #[t,t] ty #[x,y]).run P w= .ok (.slice (some ⟨b',0,none⟩) (n+1) c') w'∧iC w w'∧n+1≤c'∧c'≤maxLen∧cells.size=c'*z∧
  (∀q,q<n*z→cells[q]? =xc[q]?)∧(∀q,q<z→cells[n*z+q]? =ns[q]?)∧w'.heap[b']? =some (.cells cells e' (0,0))∧b'<w'.heap.size∧w.heap.size≤w'.heap.size∧(∀b1,b1<w.heap.size→b1≠b'→w'.heap[b1]? =w.heap[b1]?)∧(b'=w.heap.size∨b'=b)
theorem PK{t ty e:Nat}{i:TypeInfo}{zv:Value}(hu:P.underlying t=some (.slice e))(hi:P.info? e=some i)(hz:i.zero=some zv)(BW:zv.cells.size=i.size)(b2 o2 c2 b:Nat){ns:List Value}(n1:ns.length=i.size)
  (n2: ∀(j:Nat) (u:Value),ns[j]? =some u→w.cell? ((⟨b2,o2,none⟩:Addr).add j)=some u)(hb:i.bytes≤70368744177664)(xT: ∀u∈ns,u.oneCell'=true):
  Grown P w t ty i.size (.slice none 0 0) (.slice (some ⟨b2,o2,none⟩) 1 c2) #[] b 0 ns:=by
 have eP:=run_append_nil (P:=P) w t ty e i zv hu hi hz ⟨b2,o2,none⟩ 1 c2 ns (by omega) n2 (by omega) (by omega) (by omega)
 refine⟨_,w.heap.size,_,e,ns.toArray++Builtin.zeroCells zv.cells (grownCap w 1 0 e - 1),eP,⟨rfl,rfl,rfl⟩,grownCap_ge w 1 0 e,grownCap_le_maxLen w 1 0 e (by unfold maxLen;omega),?_,fun q hq=>by omega,fun q hq=>?_,?_,?_,?_,fun b1 yn cU=>?_,.inl rfl⟩
 ·simp only[Array.size_append,pn,BW]
  simp only[List.size_toArray,n1]
  have:=grownCap_ge w 1 0 e
  generalize grownCap w 1 0 e=cap at this ⊢
  rw[Nat.sub_mul]
  have:i.size≤cap*i.size:=Nat.le_mul_of_pos_left _ (by omega)
  omega
 ·rw[Nat.zero_mul,Nat.zero_add,Array.getElem?_append_left (by simpa[n1]using hq)]
  simp
 ·show(w.heap.push _)[w.heap.size]? =_;simp
 ·show _<(w.heap.push _).size;simp
 ·show _≤(w.heap.push _).size;simp
 ·show(w.heap.push _)[b1]? =_;rw[Array.getElem?_push,if_neg (by omega)]
theorem MN{t ty e:Nat}{i:TypeInfo}{zv:Value}(hu:P.underlying t=some (.slice e))(hi:P.info? e=some i)(hz:i.zero=some zv)(BW:zv.cells.size=i.size)(h1:1≤i.size){b n c e0:Nat}{cells:Array Value}(hbk:w.heap[b]? =some (.cells cells e0 (0,0)))
  (dC:cells.size=c*i.size)(hn:n≤c)(hc:c≤maxLen)(b2 o2 c2:Nat){ns:List Value}(n1:ns.length=i.size)
  (n2: ∀(j:Nat) (u:Value),ns[j]? =some u→w.cell? ((⟨b2,o2,none⟩:Addr).add j)=some u)(hb:(n+1)*i.bytes≤70368744177664)(hnm:n+1≤70368744177664)(xT: ∀u∈ns,u.oneCell'=true):
  Grown P w t ty i.size (.slice (some ⟨b,0,none⟩) n c) (.slice (some ⟨b2,o2,none⟩) 1 c2) cells b n ns:=by
 have aS:b<w.heap.size:=(Array.getElem?_eq_some_iff.1 hbk).1
 have hnz:n*i.size≤c*i.size:=Nat.mul_le_mul_right _ hn
 by_cases zj:n+1≤c
 ·have hmul:(n+1)*i.size≤c*i.size:=Nat.mul_le_mul_right _ zj
  rw[Nat.add_mul]at hmul
  obtain⟨w',g1,g2,g3⟩:=fW P b (n*i.size) e0 ns 0 w cells hbk (by omega) (fun v hv=>by rw[sI];exact xT v hv)
  obtain⟨f1,f2⟩:=pj (n*i.size) ns 0 cells (by omega)
  generalize (ns.zipIdx.foldl (fun cs (x,j)=>cs.setIfInBounds (n*i.size+j) x) cells)=F at g2 f1 f2
  have eP:(Builtin.append_ #[t,t] ty #[.slice (some ⟨b,0,none⟩) n c,.slice (some ⟨b2,o2,none⟩) 1 c2]).run P w= .ok (.slice (some ⟨b,0,none⟩) (n+1) c) w':=by
   have h2: ∀w,(underlying t).run P w= .ok (.slice e) w:=eT hu
   have h3: ∀w,(Go.sizeOf e).run P w= .ok i.size w:=fun w=>kh hi w
   have hf:=run_firstCells_some (P:=P) w i.size 1 ⟨b2,o2,none⟩ 1 c2 ns (by omega) n2
   simp[Builtin.append_,Sem.run_bind,h2,h3,Result.andThen,Builtin.lenOf,zj,hf,ef,g1]
  refine⟨w',b,c,e0,F,eP,g3,zj,hc,by rw[f1];exact dC,fun q hq=>?_,fun q hq=>?_,by rw[g2];simp[aS],by rw[g2];simpa using aS,by rw[g2];simp,fun b1 yn cU=>by rw[g2,Array.getElem?_setIfInBounds_ne (Ne.symm cU)],.inr rfl⟩
  ·rw[f2,if_neg (by omega)]
  ·rw[f2,if_pos ⟨by omega,by omega⟩]
   congr 1;omega
 ·have hold: ∀(j:Nat) (v:Value),(cells.toList.take (n*i.size))[j]? =some v→w.cell? ((⟨b,0,none⟩:Addr).add j)=some v:=fun j v hj=>by
   have hjl:=(List.getElem?_eq_some_iff.1 hj).1
   rw[List.getElem?_take,if_pos (by simp at hjl;omega)]at hj
   rw[ef,jr,aO,hbk]
   simpa using hj
  have eP:=run_append_grow (P:=P) w t ty e i zv hu hi hz ⟨b,0,none⟩ n c (cells.toList.take (n*i.size)) (by simp;omega) hold ⟨b2,o2,none⟩ 1 c2 ns (by omega) n2 (by omega) (by omega) (growslice_fits (by omega) (by omega))
  refine⟨_,w.heap.size,_,e,(cells.toList.take (n*i.size)).toArray++ns.toArray++Builtin.zeroCells zv.cells (grownCap w (n+1) c e - (n+1)),eP,⟨rfl,rfl,rfl⟩,grownCap_ge w _ c e,grownCap_le_maxLen w _ c e (by unfold maxLen;omega),?_,fun q hq=>?_,fun q hq=>?_,?_,?_,?_,fun b1 yn cU=>?_,.inl rfl⟩
  ·simp only[Array.size_append,pn,BW]
   simp only[List.size_toArray,n1,List.length_take,Array.length_toList,dC]
   have hg:=grownCap_ge w (n+1) c e
   generalize grownCap w (n+1) c e=cap at hg ⊢
   rw[Nat.sub_mul,Nat.add_mul]
   have:(n+1)*i.size≤cap*i.size:=Nat.mul_le_mul_right _ hg
   rw[Nat.add_mul]at this
   omega
  ·rw[Array.getElem?_append_left (by simp;omega),Array.getElem?_append_left (by simp;omega)]
   simp only[List.getElem?_toArray,List.getElem?_take,Array.getElem?_toList]
   rw[if_pos hq]
  ·rw[Array.getElem?_append_left (by simp;omega),Array.getElem?_append_right (by simp;omega)]
   simp only[List.size_toArray,List.length_take,Array.length_toList,List.getElem?_toArray]
   congr 1;omega
  ·show(w.heap.push _)[w.heap.size]? =_;simp
  ·show _<(w.heap.push _).size;simp
  ·show _≤(w.heap.push _).size;simp
  ·show(w.heap.push _)[b1]? =_;rw[Array.getElem?_push,if_neg (by omega)]
theorem KE: ∀{cs:List AV},PX cs=true→ ∀(q:Nat) (a:AV),cs[q]? =some a→ ∃x,a= .v x
 |[],_,q,a,h=>by simp at h
 |b::r,h,q,a,hq=>by
  simp only[PX,Bool.and_eq_true]at h
  cases q with
  |zero=>simp at hq;subst hq;cases b<;>first|exact⟨_,rfl⟩|(simp[isV]at h)
  |succ q=>exact KE h.2 q a (by simpa using hq)
theorem yY(r:Nat): ∀(cs:List AV) (q:Nat),(b8 r cs)[q]? =(cs[q]?).map (dS r)
 |[],q=>by simp[b8]
 |a::cs,q=>by cases q<;>simp[b8,yY r cs]
theorem tS(r:Nat): ∀(cs:List AV),(b8 r cs).length=cs.length
 |[]=>rfl
 |a::cs=>by simp[b8,tS r cs]
theorem r7{r:Nat}{x:Value}:dS r (.v x)= .v x∨(dS r (.v x)= .sl r []∧x= .slice none 0 0):=by
 unfold dS
 split
 ·rename_i h;cases h;exact .inr ⟨rfl,rfl⟩
 ·exact .inl rfl
theorem SP{d b z:Nat}{n:Nat×Nat}{h':Array Obj}(k:yk E d b h')(hw:Wf E){xs:List (List AV)}{u0:Nat→Value}{r:Nat}{cs:List AV}{ns:List Value}{cells:Array Value}{e0:Nat}(dQ:0<z)(hz: ∀l∈xs,l.length=z)
  (lG: ∀(q:Nat) (a:AV),xs.flatten[q]? =some a→cq a=true)(hu0: ∀(q:Nat) (a:AV),xs.flatten[q]? =some a→Cz E a (u0 q))(hn0:Fm E (.n d) z none xs u0)(jD:PX cs=true)(iK:cs.length=z)(hns:ns.length=z)
  (IE: ∀(q:Nat) (a:AV) (y:Value),cs[q]? =some a→ns[q]? =some y→Cz E a y)(hlen:n.1=xs.length+1)(ML:n.1≤n.2)(ao6:n.2≤maxLen)(hb:h'[b]? =some (.cells cells e0 (0,0)))(dC:cells.size=n.2*z)
  (hold: ∀(q:Nat) (a:AV),xs.flatten[q]? =some a→cells[q]? =some (u0 q))(xU: ∀q,q<z→cells[xs.length*z+q]? =ns[q]?):cf (E.cw d b n h') (.s d) (.ow (.sl z) none (xs++[b8 r cs])):=by
 have fG:=aE hz
 have aeJ:(E.cw d b n h').m (.s d)=b:=by simp[Env.cw]
 have oU: ∀(q:Nat) (a:AV),(xs++[b8 r cs]).flatten[q]? =some a→(q<xs.length*z∧xs.flatten[q]? =some a)∨(∃j x,q=xs.length*z+j∧j<z∧cs[j]? =some (.v x)∧ns[j]? =some x∧a=dS r (.v x)):=by
  intro q a ha
  rw[List.flatten_append]at ha
  by_cases aS:q<xs.flatten.length
  ·rw[List.getElem?_append_left aS]at ha;exact .inl ⟨by omega,ha⟩
  ·rw[List.getElem?_append_right (by omega)]at ha
   simp only[List.flatten_cons,List.flatten_nil,List.append_nil,yY]at ha
   cases hc:cs[q - xs.flatten.length]? with
   |none=>rw[hc]at ha;cases ha
   |some b0=>
    rw[hc]at ha
    cases ha
    obtain⟨x,rfl⟩:=KE jD _ _ hc
    have hj:q - xs.flatten.length<z:=by rw[←iK];exact(List.getElem?_eq_some_iff.1 hc).1
    have hy:ns[q - xs.flatten.length]? =some ns[q - xs.flatten.length]:=by simp[hns,hj]
    have h1:=IE _ _ _ hc hy
    refine .inr ⟨q - xs.flatten.length,x,by omega,hj,hc,?_,rfl⟩
    rw[hy];cases h1;rfl
 let u:Nat→Value:=fun q=>if q<xs.length*z then u0 q else ns[q - xs.length*z]?.getD undef
 have BM: ∀q,q<xs.length*z→u q=u0 q:=fun q hq=>by simp only[u];rw[if_pos hq]
 have QR: ∀j x,ns[j]? =some x→u (xs.length*z+j)=x:=fun j x hx=>by simp only[u];rw[if_neg (by omega),Nat.add_sub_cancel_left,hx];rfl
 refine⟨.inl rfl,by rw[aeJ];simp[Env.cw],fun o hs=>?_,fun q a ha=>?_,u,⟨dQ,fun l hl=>?_,?_,?_,?_,cells,e0,?_,?_,fun q a ha=>?_⟩,fun q a ha=>?_,?_,?_⟩
 ·rw[aeJ]at hs
  rcases k.at' with e|⟨_,_,h3⟩
  ·have:=hw.aM b o hs;omega
  ·exact h3 o hs
 ·rcases oU q a ha with⟨_,h1⟩|⟨j,x,_,_,_,_,rfl⟩
  ·exact lG q a h1
  ·rcases r7 (r:=r) (x:=x)with h|⟨h,_⟩<;>rw[h]<;>rfl
 ·rcases List.mem_append.1 hl with h|h
  ·exact hz l h
  ·simp at h;subst h;rw[tS];exact iK
 ·simp[Env.cw,hlen]
 ·simpa[Env.cw]using ML
 ·simpa[Env.cw]using ao6
 ·rw[aeJ];exact hb
 ·simpa[Env.cw]using dC
 ·rcases oU q a ha with⟨h0,h1⟩|⟨j,x,rfl,hj,_,h3,rfl⟩
  ·rw[BM q h0];exact hold q a h1
  ·rw[QR j x h3,xU j hj,h3]
 ·rcases oU q a ha with⟨h0,h1⟩|⟨j,x,rfl,hj,_,h3,rfl⟩
  ·rw[BM q h0];exact k.cz hw (hu0 q a h1)
  ·rw[QR j x h3]
   rcases r7 (r:=r) (x:=x)with h|⟨h,e⟩
   ·rw[h];exact .v _
   ·rw[h,e];exact .mZ _ _ _
 ·intro q r' ys hq hl
  rcases oU q _ hq with⟨h0,h1⟩|⟨j,x,rfl,hj,_,h3,h4⟩
  ·rw[BM q h0];exact(hn0.1 q r' ys h1 (fun hh=>hh)).mono (k.nest hw)
  ·rcases r7 (r:=r) (x:=x)with h|⟨h,e⟩
   ·rw[h]at h4;cases h4
   ·rw[h]at h4;cases h4;exact .inl ⟨rfl,(QR j x h3).trans e⟩
 ·intro q q' r1 r2 ys CE b1 hq wq _ _ cU yn
  rcases oU q _ hq with⟨h0,h1⟩|⟨j,x,rfl,hj,_,h3,h4⟩
  ·rcases oU q' _ wq with⟨h0',Qm⟩|⟨j,x,rfl,hj,_,h3,h4⟩
   ·rw[BM q h0]at yn;rw[BM q' h0'];exact hn0.2 q q' r1 r2 ys CE b1 h1 Qm (fun hh=>hh) (fun hh=>hh) cU yn
   ·rw[QR j x h3]
    rcases r7 (r:=r) (x:=x)with h|⟨h,e⟩
    ·rw[h]at h4;cases h4
    ·rw[e];intro hh;cases hh
  ·rw[QR j x h3]at yn
   rcases r7 (r:=r) (x:=x)with h|⟨h,e⟩
   ·rw[h]at h4;cases h4
   ·rw[e]at yn;cases yn
theorem IU(hL:bk P C.L)(hI:C.I=an)(h:bn E0 E w0 w s a){o:Oper}{t t' d:Nat}{x y:Operand}{c:Call}(he:o.op= .call c)(hc:c.callee= .builtin .append)(c5:c.args= #[x,y])(Qh:c.argTypes= #[t,t'])(htt:t'=t){K:bd}{Q:Exit→Act→World→Prop}
  (hk:QG C t d (bM s [] x) (bM s [] y) s K):kU P o a w (fH E0 w0 o a K) Q:=by
 subst htt
 unfold QG at hk
 generalize C.base+d=d at hk
 have hx:=h.ev (p:=[]) trivial x
 have hy:=h.ev (p:=[]) trivial y
 have fin: ∀x' w',(Builtin.append_ #[t',t'] o.type #[a.eval x,a.eval y]).run P w= .ok x' w'→Out E0 w0 a K x' w'→kU P o a w (fH E0 w0 o a K) Q:=fun x' w' g1 g2=>by
  refine cV (x:=x') (w':=w') ?_ g2
  simp only[execOp,he,resolve,hc,invoke,builtin,c5,Qh]
  simp[Sem.run_bind,invoke,builtin,g1,Result.andThen]
 split at hk
 ·rename_i e ti r cs rH N4
  obtain⟨hu,Kj,i,i1,i2,i3,zv,i4,i5⟩:=gL hL rH
  have BW:zv.cells.size=i.size:=by rw[i2,←(hL.ok e ti Kj).K0,←i5];simp
  have ZY:=nJ N4 hy
  cases jD:(PX cs&&(du cs.length ti.size&&(mL 1 ti.size&&o8 cs)))with
  |false=>rw[jD]at hk;exact hk.elim
  |true=>
   rw[jD,cond_true]at hk
   simp only[Bool.and_eq_true]at jD
   obtain⟨ha1,ha2,ha3,ha4⟩:=jD
   have ha2:cs.length=ti.size:=dy ha2
   have ha3:1≤ti.size:=by simpa using ha3
   obtain⟨b2,o2,c2,Qg,ns,n1,n2,n3,n4⟩:=ZY.cells h.heap (by simp) (z:=i.size) (fun l hl=>by simp at hl;subst hl;rw[ha2,i2])
   have n1:ns.length=i.size:=by rw[n1];simp
   have n4': ∀(q:Nat) (a:AV) (y:Value),cs[q]? =some a→ns[q]? =some y→Cz E a y:=fun q b y h1 h2=>n4 q b y (by simpa using h1) h2
   have xT:=Ak (E:=E) (by rw[n1,i2,ha2]) n4' ha4
   have Qg:a.eval y= .slice (some ⟨b2,o2,none⟩) 1 c2:=Qg
   split at hk
   ·rename_i dO
    split at hk
    ·rename_i fF
     obtain⟨k1,zs,n',⟨rfl,ID⟩,hk⟩:=hk
     have KU:n'=1:=by rw[←ID,hI];rfl
     subst KU
     rw[hI]at k1
     obtain⟨k1,_⟩:(0+1)*ti.bytes≤70368744177664∧0+1≤70368744177664:=k1
     rw[dO]at hx
     have ex:=bH hx
     obtain⟨w',b',c',e',cells,g1,g2,g3,g4,g5,g6,g7,g8,g9,XP,g11,g12⟩:=(PK (P:=P) (w:=w) (t:=t') (ty:=o.type) hu i1 i4 BW b2 o2 c2 w.heap.size n1 n2 (by rw[i3];omega) xT).ex
     have eQ:b'=w.heap.size:=g12.elim id id
     have zl: ¬E.live (.s d):=fun hl=>by obtain⟨ob,ho⟩:=h.lv d hl;rw[fF]at ho;cases ho
     have hA:yk E d b' w'.heap:=⟨zl,.inl (by rw[eQ,h.heap]),fun b1 yn cU=>by rw[←h.heap];rw[←h.heap]at yn;exact g11 b1 yn cU,by rw[←h.heap];exact XP,g9⟩
     have td:=SP (n:=(1,c')) hA h.wf (xs:=[]) (u0:=fun _=>undef) (r:=r) (z:=ti.size) (by omega) (by simp) (by simp) (by simp) ⟨fun q r ys hq=>by simp at hq,fun q q' r r' ys CE b hq=>by simp at hq⟩ ha1 ha2 (by rw[n1,i2]) n4' (by simp) (by omega) g4 g8 (by rw[g5,i2]) (by simp) (fun q hq=>by
      have:=g7 q (by rw[i2];exact hq)
      simpa using this)
     refine fin _ w' (by rw[ex,Qg];exact g1) ⟨_,_,_,hk,h.cw fF hA g2 td,?_⟩
     have:=Cz.iq (E:=E.cw d b' (1,c') w'.heap) (.s d) 1 (.inl rfl) (by simp[Env.cw]) (by simp[Env.cw];omega) (by simp[Env.cw];exact g4)
     simpa[Env.cw]using this
    ·exact hk.elim
   ·rename_i k n dO
    cases hkd:du k d with
    |false=>rw[hkd]at hk;exact hk.elim
    |true=>
     rw[hkd,cond_true]at hk
     have:=dy hkd
     subst this
     split at hk
     ·rename_i z xs fF
      obtain⟨e0,zs,n',⟨k1,k2,k3,k4⟩,hk⟩:=hk
      subst e0
      rw[hI]at k1 k2 k3 k4
      have k2:xs.length=n:=k2
      have k3:xs++[b8 r cs]=zs:=k3
      have k4:zs.length=n':=k4
      obtain⟨k1,k5⟩:(n+1)*ti.bytes≤70368744177664∧n+1≤70368744177664:=k1
      subst k2;subst k3
      obtain⟨hl,ho,hs,lG,u0,⟨dQ,hz,qe,hle,hm,cl,e1,hb,dC,hu0⟩,hq,tU⟩:=h.bx k _ fF
      rw[dO]at hx
      cases dZ:a.eval x<;>rw[dZ]at hx<;>cases hx
      have fG:=aE hz
      have aS:E.m (.s k)<E.h.size:=(Array.getElem?_eq_some_iff.1 hb).1
      obtain⟨w',b',c',e',cells,g1,g2,g3,g4,g5,g6,g7,g8,g9,XP,g11,g12⟩:=(MN (P:=P) (w:=w) (t:=t') (ty:=o.type) hu i1 i4 BW (by omega) (b:=E.m (.s k)) (n:=xs.length) (c:=(E.len (.s k)).2) (by rw[h.heap];exact hb) (by rw[dC,i2]) (by omega) hm b2 o2 c2 n1 n2 (by rw[i3];exact k1) k5 xT).ex
      have h2:=h.kill k
      have hA:yk (E.kill k) k b' w'.heap:=⟨fun hh=>hh.1 rfl,g12.imp (fun e=>by rw[e,h.heap];rfl) (fun e=>by subst e;exact⟨aS,ho,hs⟩),fun b1 yn cU=>by
        have:=g11 b1 (by rw[h.heap];exact yn) cU
        rw[this,h.heap];rfl,by have:=XP;rw[h.heap]at this;exact this,g9⟩
      have td:=SP (n:=(xs.length+1,c')) hA h2.wf (xs:=xs) (u0:=u0) (r:=r) (z:=ti.size) dQ hz lG (fun q b qd=>(hq q b qd).eL (lG q b qd)) (tU.mono fun b hb _=>⟨hb,rfl,fun _=>Iff.rfl,rfl⟩) ha1 ha2 (by rw[n1,i2]) (fun q b y h1 h2=>(n4' q b y h1 h2).eL (n3 q b (by simpa using h1))) rfl g3 g4 g8 (by rw[g5,i2]) (fun q b qd=>by
       have wq:=(List.getElem?_eq_some_iff.1 qd).1
       rw[g6 q (by rw[i2];omega)];exact hu0 q b qd) (fun q hq=>by
       have:=g7 q (by rw[i2];exact hq)
       rw[i2]at this;exact this)
      refine fin _ w' (by rw[dZ,Qg];exact g1) ⟨_,_,_,hk,h2.cw (by show look k (Hd k j0 j0 (del k s.b))=none;rw[mg,ij,if_pos rfl];rfl) hA g2 td,?_⟩
      have ID:n'=xs.length+1:=by rw[←k4];simp
      have:=Cz.iq (E:=(E.kill k).cw k b' (xs.length+1,c') w'.heap) (.s k) n' (.inl rfl) (by simp[Env.cw,ID]) (by simp[Env.cw];omega) (by simp[Env.cw];exact g4)
      rw[ID]at this ⊢
      simpa[Env.cw]using this
     ·exact hk.elim
   ·exact hk.elim
 ·exact hk.elim
theorem Kl{t:Tok}{r:Nat}{ys:List (List AV)}{v:Value}(h:Cz E (.sl r ys) v)(hr:qS E t r ys v):Cz E (.gs r t ys) v:=by
 rcases hr with⟨rfl,rfl⟩|⟨z,b,c,e,cells,rfl,h2,h3,h4,h5,h6,h7,h8,h9,zU,H3⟩
 ·exact .sq _ _
 ·by_cases hy:ys.length=0
  ·have:ys=[]:=List.eq_nil_of_length_eq_zero hy
   subst this
   exact .gs r t [] z b c e cells (fun _=>undef) (by simp) h3 h4 h5 h6 h7 h8 h9 zU H3 (by simp) (by simp) (by simp)
  ·generalize hv:Value.slice (some ⟨b,0,none⟩) ys.length c=v at h
   cases h with
   |mZ=>simp at hy
   |sl _ _ z' b' o' c' u hp hc hm dQ hz hrg hi hs hu hq=>
    injection hv with e1 e2 e3
    injection e1 with e1
    injection e1 with e1 e4
    subst e1;subst e4;subst e3
    have PC:z'=z:=by
     cases ys with
     |nil=>simp at hy
     |cons l rr=>rw[←hz l (by simp),h6 l (by simp)]
    subst PC
    exact .gs r t ys z' b c e cells u h2 h3 h4 h5 h6 h7 h8 h9 zU H3 hi hu hq
theorem qA{t:Tok}{r:Nat}{ys:List (List AV)}{v:Value}(h:Cz E (.gs r t ys) v):qS E t r ys v:=by
 cases h with
 |sq=>exact .inl ⟨rfl,rfl⟩
 |gs _ _ _ z b c e cells u hc hm h0 dQ hz hr hb dC ho fP hi hu hq=>exact .inr ⟨z,b,c,e,cells,rfl,hc,hm,h0,dQ,hz,hr,hb,dC,ho,fP⟩
theorem rL{t:Tok}{r:Nat}{ys:List (List AV)}{v:Value}{b:Nat}(h:qS E t r ys v)(hb:Eu v=some b):E.own b= .tok t∧b<E.h.size:=by
 rcases h with⟨_,rfl⟩|⟨z,b',c,e,cells,rfl,h2,h3,h4,h5,h6,h7,h8,h9,zU,H3⟩
 ·cases hb
 ·cases hb;exact⟨zU,(Array.getElem?_eq_some_iff.1 h8).1⟩
def Env.rP(E:Env)(b:Nat)(t:Tok):Env:={E with own:=fun b'=>if b'=b then .tok t else E.own b'}
theorem qS.rP{t:Tok}{b:Nat}{t1:Tok}{r:Nat}{ys:List (List AV)}{v:Value}(h:qS E t r ys v)(hb:Eu v≠some b):qS (E.rP b t1) t r ys v:=by
 rcases h with h|⟨z,b',c,e,cells,rfl,h2,h3,h4,h5,h6,h7,h8,h9,zU,H3⟩
 ·exact .inl h
 ·exact .inr ⟨z,b',c,e,cells,rfl,h2,h3,h4,h5,h6,h7,h8,h9,by simp only[Env.rP];rw[if_neg (fun e=>hb (by rw[←e];rfl))];exact zU,H3⟩
theorem qS.own{t:Tok}{b:Nat}{t1:Tok}{r:Nat}{ys:List (List AV)}{v:Value}(h:qS E t r ys v)(hb:Eu v=some b):qS (E.rP b t1) t1 r ys v:=by
 rcases h with h|⟨z,b',c,e,cells,rfl,h2,h3,h4,h5,h6,h7,h8,h9,zU,H3⟩
 ·exact .inl h
 ·exact .inr ⟨z,b',c,e,cells,rfl,h2,h3,h4,h5,h6,h7,h8,h9,by simp only[Env.rP];rw[if_pos (by injection hb)],H3⟩
theorem AX{T:Tok→Bool}{b:List (Nat×Ob)}{k d:Nat}{ob x:Ob}(h:look d (cX k ob (eY T b))=some x):(d=k∧x=ob)∨(d≠k∧ ∃y,look d b=some y∧x=wU T y):=by
 rw[aF]at h
 by_cases hk:k=d
 ·rw[if_pos hk]at h;cases h;exact .inl ⟨hk.symm,rfl⟩
 ·rw[if_neg hk,cA]at h
  cases hh:look d b with
  |none=>rw[hh]at h;cases h
  |some y=>rw[hh]at h;cases h;exact .inr ⟨fun e=>hk e.symm,y,rfl,rfl⟩
theorem Ap(h:bn E0 E w0 w s a){k:Nat}{p:OwK}{xs:List (List AV)}(fF:look k s.b=some (.ow p none xs)){u:Nat→Value}(ui:Ez p (E.len (.s k)) E.h[E.m (.s k)]? xs u)
  (MK: ∀(q:Nat) (a:AV),xs.flatten[q]? =some a→Cz E a (u q))(hn:Fm E (.n k) p.z none xs u){i off r:Nat}{ys:List (List AV)}(hq:xs.flatten[i*p.z+off]? =some (.sl r ys))(t:Tok){p':OwK}(hpz:p'.z=p.z)(XG:Ez p' (E.len (.s k)) E.h[E.m (.s k)]? xs u):
  ∃E',bn E0 E' w0 w {s with t:=fV (bf (.n k)) s.t,b:=cX k (.ow p' (some (i,off)) xs) (eY (bf (.n k)) s.b),up:=lO (bf (.n k)) s.up} a∧Cz E' (.gs r t ys) (u (i*p.z+off)):=by
 obtain⟨hl,ho,hs,lG,_⟩:=h.bx k _ fF
 have hR:=hn.1 _ r ys hq (fun hh=>hh)
 have MB:=MK _ _ hq
 cases hb:Eu (u (i*p.z+off))with
 |none=>
  have ajh:ys=[]∧u (i*p.z+off)= .slice none 0 0:=by
   rcases hR with hR|⟨z,b',c,e,cells,h1,_⟩
   ·exact hR
   ·rw[h1]at hb;cases hb
  have td:cf E (.s k) (.ow p' (some (i,off)) xs):=⟨hl,ho,hs,lG,u,XG,MK,by rw[hpz];exact⟨fun q r ys hq _=>hn.1 q r ys hq (fun hh=>hh),fun q q' r r' ys CE b hq wq _ _=>hn.2 q q' r r' ys CE b hq wq (fun hh=>hh) (fun hh=>hh)⟩⟩
  have hx:=h.xG (T:=bf (.n k)) (Ext.refl (fun _=>False) E) (fun _ hf=>hf.elim) pQ h.wf (w':=w) h.heap (iC.refl _) (fun _ _ hf=>hf.elim) (cX k (.ow p' (some (i,off)) xs) (eY (bf (.n k)) s.b)) s.g s.nx
   (fun d ob hd=>by
    rcases AX hd with⟨rfl,rfl⟩|⟨cU,y,hy,rfl⟩
    ·exact .inr td
    ·exact .inl ⟨y,hy,rfl,(fun hf=>hf),fun hf=>hf⟩)
   (fun d hl=>by
    rw[aF]
    by_cases hk:k=d
    ·exact⟨_,by rw[if_pos hk]⟩
    ·rw[if_neg hk,cA]
     obtain⟨ob,ho⟩:=h.lv d hl
     exact⟨_,by rw[ho];rfl⟩)
   (fun j ob hj=> .inl ⟨hj,fun hf=>hf⟩) (fun j=>h.gl j) h.gk h.ng
  exact⟨E,hx,by rw[ajh.1,ajh.2];exact .sq _ _⟩
 |some b0=>
  obtain⟨td,aS⟩:=rL hR hb
  have hE:Ext (fun o=>o= .tok (.n k)) E (E.rP b0 t):=
   ⟨Nat.le_refl _,fun _ _ h=>⟨h,rfl,rfl⟩,fun _ h=>⟨h,rfl,rfl⟩,fun b hb cU=>⟨by simp only[Env.rP];rw[if_neg (fun e=>by subst e;exact cU td)],rfl,fun _=>Iff.rfl,rfl⟩⟩
  have hT: ∀t',(fun o=>o=Own.tok (.n k)) (.tok t')→bf (.n k) t'=true:=fun t' ht=>(kW _ _).2 (by cases ht;rfl)
  have cz: ∀{a:AV} {x:Value},cq a=true→Cz E a x→Cz (E.rP b0 t) a x:=fun{a x} hi hc=>(hc.ext hE h.wf _ hT).2 hi
  have oS:E.m (.s k)≠b0:=fun e=>by rw[e,td]at ho;cases ho
  have aoY:cf (E.rP b0 t) (.s k) (.ow p' (some (i,off)) xs):=by
   refine⟨hl,by simp only[Env.rP];rw[if_neg oS];exact ho,hs,lG,u,XG,fun q a ha=>cz (lG q a ha) (MK q a ha),?_,fun q q' r r' ys CE b hq wq _ _=>hn.2 q q' r r' ys CE b hq wq (fun hh=>hh) (fun hh=>hh)⟩
   intro q' r' CE wq qJ
   rw[hpz]at qJ
   refine(hn.1 q' r' CE wq (fun hh=>hh)).rP fun e=>?_
   exact hn.2 (i*p.z+off) q' r r' ys CE b0 hq wq (fun hh=>hh) (fun hh=>hh) (fun e=>qJ e.symm) hb e
  have hx:=h.xG (T:=bf (.n k)) hE hT (fun o ho=>by subst ho;left;rfl) ⟨h.wf.aM,fun b hb=>by
    simp only[Env.rP]at hb
    by_cases e:b=b0
    ·subst e;exact aS
    ·rw[if_neg e]at hb;exact h.wf.own b hb,h.wf.fz⟩ (w':=w) h.heap (iC.refl _)
   (fun b hb hc=>by have:=h.xc b hb;rw[hc]at this;cases this) (cX k (.ow p' (some (i,off)) xs) (eY (bf (.n k)) s.b)) s.g s.nx
   (fun d ob hd=>by
    rcases AX hd with⟨rfl,rfl⟩|⟨cU,y,hy,rfl⟩
    ·exact .inr aoY
    ·exact .inl ⟨y,hy,rfl,(fun hf=>by cases hf),fun hf=>cU (by injection hf with hf;injection hf)⟩)
   (fun d hl=>by
    rw[aF]
    by_cases hk:k=d
    ·exact⟨_,by rw[if_pos hk]⟩
    ·rw[if_neg hk,cA]
     obtain⟨ob,ho⟩:=h.lv d hl
     exact⟨_,by rw[ho];rfl⟩)
   (fun j ob hj=> .inl ⟨hj,fun hf=>by cases hf⟩) (fun j=>h.gl j) h.gk (fun b=>by
    have:=h.ng b
    simp only[Env.rP]
    split
    ·exact ji _
    ·exact this)
  exact⟨_,hx,Kl (cz rfl MB) (hR.own hb)⟩
theorem Pk(hL:bk P L){t:Nat}{ti:TI}(ht:L t=some ti)(hz:ti.size=1)(so:ti.agg=false){b o:Nat}{v:Value}(hc:aO w.heap b o=some v):(Instr.loadAt t (.pointer (some ⟨b,o,none⟩))).run P w= .ok v w:=by
 have jj:part ti [.v v] 0=some (.v v):=by unfold part;rw[hz,so];rfl
 obtain⟨x,h1,h2⟩:=iX (P:=P) (E:=⟨w.heap,fun _ _=>False,fun _=>0,fun _=>0,fun _=>False,fun _=>(0,0),fun _=> .SX,[]⟩) (w:=w) hL ht (b:=b) (o:=o) jj (fun q a' ha=>by
  cases q with
  |zero=>simp at ha;subst ha;exact⟨v,by simpa using hc,.v _⟩
  |succ q=>simp at ha)
 cases h2
 simpa using h1
theorem OR{ti:TI}{e:Nat}(h:ti.k= .slice e):ti.agg=false:=by unfold TI.agg;rw[h]
theorem AT(hL:bk P C.L)(h:bn E0 E w0 w s a){o:Oper}{t d:Nat}{x:Operand}(he:o.op= .load t x){K:bd}(hk:QE C t d (bM s [] x) s K):KL P E0 w0 w a o s [] K:=by
 unfold QE at hk
 split at hk
 ·rename_i ti k i off z ta dO
  split at hk
  ·rename_i e z' xs kE fF
   obtain⟨cs,r,ys,⟨e0,e1,e2,e3⟩,hk⟩:=hk
   subst e0
   have hx:=h.ev (p:=[]) trivial x
   rw[dO]at hx
   cases dZ:a.eval x<;>rw[dZ]at hx<;>cases hx
   obtain⟨hl,ho,hs,lG,u,ui,hq,tU⟩:=h.bx k _ fF
   have PI:=ui
   obtain⟨dQ,hz,qe,hle,hm,c,e1',hb,dC,hu⟩:=ui
   have D0:cs.length=z:=hz cs (List.mem_of_getElem? e1)
   have DT:off<z:=by rw[←D0];exact(List.getElem?_eq_some_iff.1 e2).1
   have fG:xs.flatten[i*z+off]? =some (.sl r ys):=by rw[dP hz e1 off DT];exact e2
   obtain⟨E',g1,g2⟩:=Ap h fF PI hq tU (p':= .sl z) fG (.l (C.base+d)) rfl PI
   refine⟨_,_,E',hk,g1,fun q=>(lj (s:=s.qg (bf (.n k))) (s':={s with t:=fV (bf (.n k)) s.t,b:=cX k (.ow (.sl z) (some (i,off)) xs) (eY (bf (.n k)) s.b),up:=lO (bf (.n k)) s.up}) (fun _ _=>rfl)).trans (iv (bf (.n k))),fun _=>⟨u (i*z+off),?_,g2⟩⟩
   simp only[execOp,he,dZ]
   simp[Pk (w:=w) hL ta e3 (OR kE) (b:=E.m (.s k)) (o:=i*z+off) (v:=u (i*z+off)) (by simp[aO,h.heap,hb,hu _ _ fG])]
  ·exact hk.elim
 ·exact hk.elim
theorem JG{k z i off r:Nat}{xs xs':List (List AV)}{u:Nat→Value}{ys:List (List AV)}{v:Value}(hn:Fm E (.n k) z (some (i,off)) xs u)(fG: ∀q',xs'.flatten[q']? =if q'=i*z+off then(if q'<xs.flatten.length then some (.sl r ys)else none)else xs.flatten[q']?)
  (hr:qS E' (.n k) r ys v)(hE: ∀b,E.own b= .tok (.n k)→b<E.h.size→E'.own b= .tok (.n k)∧E'.h[b]? =E.h[b]? ∧(∀o,E'.aM b o↔E.aM b o)∧E'.dH b=E.dH b)(hv: ∀b,Eu v=some b→E.own b≠ .tok (.n k)):
  Fm E' (.n k) z none xs' (fun q'=>if q'=i*z+off then v else u q'):=by
 have oU: ∀(q' r':Nat) (CE:List (List AV)),xs'.flatten[q']? =some (.sl r' CE)→(q'=i*z+off∧r'=r∧CE=ys)∨(q'≠i*z+off∧xs.flatten[q']? =some (.sl r' CE)):=fun q' r' CE hq=>by
  rw[fG]at hq
  by_cases e:q'=i*z+off
  ·rw[if_pos e]at hq
   split at hq
   ·cases hq;exact .inl ⟨e,rfl,rfl⟩
   ·cases hq
  ·rw[if_neg e]at hq;exact .inr ⟨e,hq⟩
 refine⟨fun q' r' CE hq _=>?_,fun q1 q2 r1 r2 ys1 ys2 b Z7 hq2 _ _ cU hb B4=>?_⟩
 ·rcases oU q' r' CE hq with⟨e,rfl,rfl⟩|⟨e,h1⟩
  ·dsimp only;rw[if_pos e];exact hr
  ·dsimp only;rw[if_neg e];exact(hn.1 q' r' CE h1 e).mono hE
 ·dsimp only at hb B4
  rcases oU q1 _ _ Z7 with⟨e,rfl,rfl⟩|⟨e,h1⟩
  ·rcases oU q2 _ _ hq2 with⟨e',rfl,rfl⟩|⟨e',Qm⟩
   ·exact cU (e.trans e'.symm)
   ·rw[if_pos e]at hb;rw[if_neg e']at B4
    exact hv b hb (rL (hn.1 q2 _ _ Qm e') B4).1
  ·rcases oU q2 _ _ hq2 with⟨e',rfl,rfl⟩|⟨e',Qm⟩
   ·rw[if_neg e]at hb;rw[if_pos e']at B4
    exact hv b B4 (rL (hn.1 q1 _ _ h1 e) hb).1
   ·rw[if_neg e]at hb;rw[if_neg e']at B4
    exact hn.2 q1 q2 r1 r2 ys1 ys2 b h1 Qm e e' cU hb B4
theorem C3{l:List AV}{o:Nat}{x:AV}(ho:o<l.length)(q:Nat):(bE l o [x])[q]? =if q=o then some x else l[q]? :=by
 rw[xx (by simp;omega)]
 by_cases h:q=o
 ·subst h;rw[if_pos ⟨Nat.le_refl _,by simp⟩,if_pos rfl];simp
 ·rw[if_neg h,if_neg (by simp;omega)]
theorem IS(hL:bk P C.L)(hI:C.I=an)(h:bn E0 E w0 w s a){o:Oper}{t:Nat}{x y:Operand}(he:o.op= .store t x y){d i off z r:Nat}{tk:Tok}{ys:List (List AV)}(hx0:bM s [] x= .cQ (.s d) i off z)(hy0:bM s [] y= .gs r tk ys){ti:TI}(ta:C.L t=some ti)(ai6:ti.size=1){K:bd}{Q:Exit→Act→World→Prop}
  (hk:Ni C d i off z r tk ys s K):kU P o a w (fH E0 w0 o a K) Q:=by
 unfold Ni at hk
 split at hk
 ·rename_i z' j W5 xs fF
  obtain⟨N1,e0,zs,⟨e1,e2,cs,e3,e4,e5⟩,hk⟩:=hk
  subst e0;subst e1;subst e2
  rw[hI]at e5
  have e5:xs.set i (bE cs off [.sl r ys])=zs:=e5
  subst e5
  have hx:=h.ev (p:=[]) trivial x
  rw[hx0]at hx
  cases dZ:a.eval x<;>rw[dZ]at hx<;>cases hx
  have hy:=h.ev (p:=[]) trivial y
  rw[hy0]at hy
  generalize hav:a.eval y=v at hy
  obtain⟨hl,ho,hs,lG,u,⟨dQ,hz,qe,hle,hm,c,e1',hb,dC,hu⟩,hq,tU⟩:=h.bx d _ fF
  have fG:=aE hz
  have BZ:i<xs.length:=(List.getElem?_eq_some_iff.1 e3).1
  have D0:cs.length=z:=hz cs (List.mem_of_getElem? e3)
  have hmul:i*z+z≤xs.length*z:=by rw[←Nat.succ_mul];exact Nat.mul_le_mul_right _ BZ
  have ML:xs.length*z≤c.size:=by rw[dC,qe];exact Nat.mul_le_mul_right _ hle
  have hvc:v.cells= #[v]:=by cases hy<;>rfl
  have hv1:qV v=true:=by cases hy<;>rfl
  have Tu:tk≠ .n d:=fun e=>by subst e;cases N1
  have h1:=h.db tk (.n d) N1
  have zh:=hy.db (t':= .n d) h.wf
  have MG:look d (eY (bf tk) s.b)=some (.ow (.sl z) (some (i,off)) xs):=by rw[cA,fF];rfl
  have ho1:(E.db tk (.n d)).own ((E.db tk (.n d)).m (.s d))= .key (.s d):=(rM (by rw[show(E.db tk (.n d)).m (.s d)=E.m (.s d)from rfl,ho];simp)).trans ho
  obtain⟨w',g1,g2,g3⟩:=run_store (w:=w) hL ta (b:=E.m (.s d)) (off:=i*z+off) (e:=e1') (c:=c) (v:=v) (by rw[h.heap];exact hb) (by rw[hvc,ai6];rfl) (by omega) (fun x hx=>by rw[hvc]at hx;simp at hx;rw[hx];exact hv1)
  have TQ:(v.cells.toList.zipIdx.foldl (fun cs (x,j)=>cs.setIfInBounds (i*z+off+j) x) c)=c.setIfInBounds (i*z+off) v:=by rw[hvc];rfl
  rw[TQ]at g2
  have hE:=ir (E:=E.db tk (.n d)) ho1 hs (.cells (c.setIfInBounds (i*z+off) v) e1' (0,0))
  have cz1: ∀{a:AV} {x:Value},cq a=true→Cz E a x→Cz (E.db tk (.n d)) a x:=fun{a x} hi hc=>(hc.ext (rN tk (.n d)) h.wf (bf tk) (fun q' wq=>(kW _ _).2 (by cases wq;rfl))).2 hi
  have cz2: ∀{a:AV} {x:Value},Cz (E.db tk (.n d)) a x→Cz ((E.db tk (.n d)).write (.s d) (.cells (c.setIfInBounds (i*z+off) v) e1' (0,0))) a x:=fun{a x} hc=>by
   have:=(hc.ext hE h1.wf (fun _=>false) (fb _)).1
   rwa [jW (fun _=>rfl)]at this
  have hxl: ∀l∈xs.set i (bE cs off [.sl r ys]),l.length=z:=fun l qJ=>by
   rcases List.mem_or_eq_of_mem_set qJ with h1|h1
   ·exact hz l h1
   ·rw[h1,ka (by simp;omega)];exact D0
  have DR:(xs.set i (bE cs off [.sl r ys])).flatten=bE xs.flatten (i*z+off) [.sl r ys]:=qK hz e3 (by simp;omega)
  have wJ: ∀q',(xs.set i (bE cs off [.sl r ys])).flatten[q']? =if q'=i*z+off then some (.sl r ys)else xs.flatten[q']? :=fun q'=>by
   rw[DR];exact C3 (by omega) q'
  have zn:E.m (.s d)<E.h.size:=(Array.getElem?_eq_some_iff.1 hb).1
  have td:cf ((E.db tk (.n d)).write (.s d) (.cells (c.setIfInBounds (i*z+off) v) e1' (0,0))) (.s d) (.ow (.sl z) none (xs.set i (bE cs off [.sl r ys]))):=by
   refine⟨hl,ho1,hs,fun q' a' ha=>?_,fun q'=>if q'=i*z+off then v else u q',⟨dQ,hxl,(List.length_set ..).trans qe,hle,hm,c.setIfInBounds (i*z+off) v,e1',?_,(Array.size_setIfInBounds ..).trans dC,fun q' a' ha=>?_⟩,fun q' a' ha=>?_,?_⟩
   ·rw[wJ]at ha
    split at ha
    ·cases ha;rfl
    ·exact lG q' a' ha
   ·have:(E.db tk (.n d)).m (.s d)=E.m (.s d):=rfl
    simp only[Env.write]
    rw[this]
    exact Array.getElem?_setIfInBounds_self_of_lt zn
   ·rw[wJ]at ha
    dsimp only
    by_cases e:q'=i*z+off
    ·rw[if_pos e,e];exact Array.getElem?_setIfInBounds_self_of_lt (by omega)
    ·rw[if_neg e]at ha ⊢
     rw[Array.getElem?_setIfInBounds_ne (fun hh=>e hh.symm)];exact hu q' a' ha
   ·rw[wJ]at ha
    dsimp only
    by_cases e:q'=i*z+off
    ·rw[if_pos e]at ha ⊢;cases ha;exact cz2 zh.read
    ·rw[if_neg e]at ha ⊢;exact cz2 (cz1 (lG q' a' ha) (hq q' a' ha))
   ·refine JG (z:=z) (r:=r) (ys:=ys) tU (fun q'=>?_) ?_ (fun b hb aS=>?_) (fun b hbv=>?_)
    ·rw[wJ]
     by_cases e:q'=i*z+off
     ·rw[if_pos e,if_pos e,if_pos (by omega)]
     ·rw[if_neg e,if_neg e]
    ·exact qA (cz2 zh)
    ·have cU:b≠E.m (.s d):=fun e=>by rw[e,ho]at hb;cases hb
     refine⟨(rM (by rw[hb];intro e;injection e with e;exact Tu e.symm)).trans hb,?_,fun _=>Iff.rfl,rfl⟩
     show(E.h.setIfInBounds (E.m (.s d)) _)[b]? =_
     rw[Array.getElem?_setIfInBounds_ne (Ne.symm cU)]
    ·intro e
     have:=(rL (qA hy) hbv).1
     rw[this]at e;injection e with e;exact Tu e
  refine um (w':=w') ?_ ⟨_,_,_,hk,h1.pq MG td g2 g3 ho1 hs,.any _⟩
  simp only[execOp,he,dZ,hav]
  simp[g1]
 ·exact hk.elim
end Ab
namespace Ab
open Go
variable{P:Program}{L:nv}{s:St}{p:Path}{C:dK}{K:bd}
theorem IM{I:Pr}{ti:TI}{d i off z:Nat}{a:AV}(h:GC I ti d i off z a s K):yw I ti d i off z a s K:=by
 unfold GC at h
 unfold yw
 split at h
 ·rename_i z' xs hl
  try rw[hl]
  obtain⟨zs,⟨cs,k1,k2,k3,k4,rfl⟩,h2⟩:=h
  exact⟨cs,k1,k2,k3,k4,h2⟩
 ·exact h.elim
theorem IL{I:Pr}{ti:TI}{d off:Nat}{a:AV}(h:GB I ti d off a s K):oW I ti d off a s K:=by
 unfold GB at h
 unfold oW
 cases hl:look d s.b with
 |none=>rw[hl]at h;unfold oW at h;rw[hl]at h;exact h
 |some o=>
  rw[hl]at h
  cases o with
  |arr z xs=>
   dsimp only at h ⊢
   split at h
   ·obtain⟨zs,⟨k1,k2,k3,k4,rfl⟩,h2⟩:=h
    exact⟨k1,k2,k3,k4,h2⟩
   ·exact h.elim
  |_=>dsimp only at h;unfold oW at h;rw[hl]at h;exact h
theorem K5{t:Nat}{x a:AV}(h:GD C t x a s K):GS C t x a s K:=by
 unfold GD at h
 unfold GS
 split at h
 ·rename_i ti k h1 h2
  try rw[h1,h2]
  obtain⟨k1,k2,k3⟩:=h
  refine⟨k1,k2,?_⟩
  split at k3
  ·exact IL k3
  ·exact IM k3
  ·exact k3.elim
 ·exact h.elim
theorem OE(hI:C.I=an){t d:Nat}{n m:Int}(h:QD C t d n m s K):Nm C t d n m s K:=by
 unfold QD at h
 unfold Nm
 split at h
 ·rename_i e ti h1 h2
  try rw[h1,h2]
  obtain⟨xs,j,⟨k1,k2,k3,rfl,rfl⟩,h4⟩:=h
  exact⟨k1,k2,k3,h4⟩
 ·exact h.elim
theorem IT(hI:C.I=an){t d:Nat}{x y:AV}(h:GL C t d x y s K):Cm C t d x y s K:=by
 unfold GL at h
 unfold Cm
 split at h
 ·rename_i e ti r ys h1 h2
  try rw[h1,h2]
  try dsimp only
  split at h
  ·obtain⟨k0,zs,⟨k1,k2,rfl⟩,h3⟩:=h
   exact⟨k0,k1,k2,h3⟩
  ·obtain⟨zs,⟨k1,k2,k3⟩,h3⟩:=h
   have:ys=zs:=by rw[←k3,hI];simp[an]
   subst this
   refine⟨?_,h3⟩
   have h0:C.I.fp []=0:=by rw[hI];rfl
   rw[h0]at k1
   exact k1
  ·exact h.elim
 ·exact h.elim
theorem Bp: ∀{xs:List (List AV)} {q:Nat} {a:AV},(∀l∈xs,l.length=1)→xs[q]? =some [a]→xs.flatten[q]? =some a
 |[],q,a,_,h=>by simp at h
 |l::r,q,a,hz,h=>by
  have hl:=hz l (by simp)
  rw[List.flatten_cons]
  cases q with
  |zero=>simp at h;subst h;simp
  |succ q=>
   rw[List.getElem?_append_right (by omega),hl]
   exact Bp (xs:=r) (fun l' qJ=>hz l' (by simp[qJ])) (by simpa using h)
theorem K7{t:Nat}{n:Int}{x:AV}(h:GI C p t n x s K):GW C p t n x s K∨(∃(b:ByteArray) (z:Int),x= .v (.string b)∧isStr C.L t=true∧under s p (0≤n∧ ∃c:UInt8,b[n.toNat]? =some c∧(c.toNat:Int)=z)∧K (.v (.int .u8 z)) s)∨
  ∃(m e:Nat) (xs:List (List AV)) (ti tj:TI) (b:AV),x= .ar m 1 xs∧C.L t=some ti∧ti.k= .arr m e∧C.L e=some tj∧tj.size=1∧tj.agg=false∧under s p (0≤n∧xs[n.toNat]? =some [b])∧K b s:=by
 unfold GI at h
 split at h
 ·rename_i b
  cases hs:isStr C.L t with
  |false=>rw[hs]at h;exact h.elim
  |true=>
   rw[hs,cond_true]at h
   obtain⟨z,h1,h2⟩:=h
   exact .inr (.inl ⟨b,z,rfl,rfl,h1,h2⟩)
 ·rename_i m z xs
  split at h
  ·rename_i ti ta
   split at h
   ·rename_i m' e hk
    split at h
    ·rename_i tj MA
     cases hb:du tj.size 1&&(!tj.agg&&(du m m'&&du z 1))with
     |false=>rw[hb]at h;exact h.elim
     |true=>
      rw[hb,cond_true]at h
      simp only[Bool.and_eq_true,Bool.not_eq_true']at hb
      obtain⟨b,h1,h2⟩:=h
      obtain⟨b1,b2,b3,b4⟩:=hb
      have e1:=dy b1
      have e3:=dy b3
      have e4:=dy b4
      subst e3;subst e4
      exact .inr (.inr ⟨m,e,xs,ti,tj,b,rfl,ta,hk,MA,e1,b2,h1,h2⟩)
    ·exact h.elim
   ·exact h.elim
  ·exact h.elim
 ·exact .inl h
theorem sQ{I:Pr}{o:Op}{r:AV}(h:Bc I L s p o=some r):qY I L s p o=some r:=by
 unfold Bc at h
 cases hb:isLen o with
 |true=>rw[hb]at h;cases h
 |false=>rw[hb]at h;exact h
theorem JQ{I:Pr}{c:Call}{k:IntKind}{m:Int}(hc:c.callee= .builtin .len)(h:Jz I L .len c.argTypes.toList (c.args.toList.map (bM s p))=some (.v (.int k m))):qY I L s p (.call c)=some (.v (.int k m)):=by
 simp only[qY,hc]
 exact h
variable{E0 E:Env}{w0 w:World}{a:Act}
theorem fS{x y:AV}{v:Value}(hw:Nl x y)(h:Cz E x v):Cz E y v:=by
 unfold Nl at hw
 split at hw
 ·exact .any _
 ·subst hw;have:=bH h;subst this;exact .sq _ _
 ·subst hw;have:=bH h;subst this;exact .mZ _ _ _
 ·obtain⟨rfl,rfl⟩:=hw;exact h.read
 ·subst hw;exact h
theorem vY: ∀{cs cs':List AV},Zt cs cs'→cs.length=cs'.length∧ ∀(q:Nat) (a:AV),cs'[q]? =some a→ ∃a0,cs[q]? =some a0∧Nl a0 a
 |[],[],_=>⟨rfl,fun q a h=>by simp at h⟩
 |x::r,y::r',h=>by
  obtain⟨h1,h2⟩:=h
  obtain⟨h3,h4⟩:=vY h2
  refine⟨by simp[h3],fun q a hq=>?_⟩
  cases q with
  |zero=>simp at hq;subst hq;exact⟨x,by simp,h1⟩
  |succ q=>obtain⟨a0,h5,h6⟩:=h4 q a (by simpa using hq);exact⟨a0,by simpa using h5,h6⟩
 |[],_::_,h=>h.elim
 |_::_,[],h=>h.elim
theorem CS: ∀{xs zs:List (List AV)},wkL xs zs→xs.length=zs.length∧(∀(n:Nat) (z:List AV),zs[n]? =some z→ ∃x,xs[n]? =some x∧x.length=z.length)∧xs.flatten.length=zs.flatten.length∧
  ∀(q:Nat) (a:AV),zs.flatten[q]? =some a→cq a=true∧ ∃a0,xs.flatten[q]? =some a0∧Nl a0 a
 |[],[],_=>⟨rfl,fun n z h=>by simp at h,rfl,fun q a h=>by simp at h⟩
 |x::r,y::r',h=>by
  obtain⟨⟨h1,h2⟩,h3⟩:=h
  obtain⟨g1,g2,g3,g4⟩:=CS h3
  obtain⟨k1,k2⟩:=vY h1
  refine⟨by simp[g1],fun n z hn=>?_,by simp[k1,g3],fun q a hq=>?_⟩
  ·cases n with
   |zero=>simp at hn;subst hn;exact⟨x,by simp,k1⟩
   |succ n=>obtain⟨x',e1,e2⟩:=g2 n z (by simpa using hn);exact⟨x',by simpa using e1,e2⟩
  ·rw[List.flatten_cons]at hq
   by_cases aS:q<y.length
   ·rw[List.getElem?_append_left aS]at hq
    obtain⟨a0,e1,e2⟩:=k2 q a hq
    exact⟨bg h2 q a hq,a0,by rw[List.flatten_cons,List.getElem?_append_left (by omega)];exact e1,e2⟩
   ·rw[List.getElem?_append_right (by omega)]at hq
    obtain⟨hi,a0,e1,e2⟩:=g4 _ a hq
    exact⟨hi,a0,by rw[List.flatten_cons,List.getElem?_append_right (by omega),k1];exact e1,e2⟩
 |[],_::_,h=>h.elim
 |_::_,[],h=>h.elim
theorem Cz.ajR{r:Nat}{t:Tok}{xs zs:List (List AV)}{x:Value}(h:Cz E (.gs r t xs) x)(hw:wkL xs zs):Cz E (.gs r t zs) x:=by
 obtain⟨g1,g2,g3,g4⟩:=CS hw
 cases h with
 |sq=>
  have:zs=[]:=List.eq_nil_of_length_eq_zero (by rw[←g1];rfl)
  subst this;exact .sq _ _
 |gs _ _ _ z b c e cells u hc hm h0 dQ hz hr hb dC ho fP hi hu hq=>
  rw[g1]at hc h0 fP ⊢
  refine .gs r t zs z b c e cells u hc hm h0 dQ (fun l hl=>?_) hr hb dC ho fP (fun q a ha=>(g4 q a ha).1) (fun q a ha=>?_) (fun q a ha=>?_)
  ·obtain⟨n,hn⟩:=List.getElem?_of_mem hl
   obtain⟨x,e1,e2⟩:=g2 n l hn
   rw[←e2];exact hz x (List.mem_of_getElem? e1)
  ·obtain⟨_,a0,e1,e2⟩:=g4 q a ha
   exact hu q a0 e1
  ·obtain⟨_,a0,e1,e2⟩:=g4 q a ha
   exact fS e2 (hq q a0 e1)
def Kwk(K:bd):bd:=fun r s=> ∃r',(∀E x,Cz E r x→Cz E r' x)∧K r' s
theorem tJ{t len d:Nat}{parts:List (Nat×Operand)}(h:uj C p t len d parts s K):qx C p t len d parts s (Kwk K):=by
 unfold uj at h
 unfold qx
 split at h
 ·rename_i e ti h1
  try rw[h1]
  try dsimp only
  split at h
  ·rename_i s1 h2
   try rw[h2]
   try dsimp only
   split at h
   ·rename_i cs h3
    try rw[h3]
    try dsimp only
    cases hb:ca cs&&(mL 1 ti.size&&mL (len*ti.size) 16777216)with
    |true=>rw[hb,cond_true]at h;rw[cond_true];obtain⟨zs,⟨ws,k1,rfl⟩,h4⟩:=h;exact⟨_,fun E x hx=>hx.ajR k1,h4⟩
    |false=>rw[hb]at h;exact h.elim
   ·exact h.elim
  ·exact h.elim
 ·exact h.elim
theorem cf.agn{k:Key}{z:Nat}{xs zs:List (List AV)}(h:cf E k (.arr z xs))(hw:wkL xs zs):cf E k (.arr z zs):=by
 obtain⟨g1,g2,g3,g4⟩:=CS hw
 obtain⟨h1,h2,h3,h4,h5,c,e,h6,h7,h8,h9,zU,H3⟩:=h
 refine⟨h1,by rw[←g1];exact h2,h3,fun l hl=>?_,by rw[←g1];exact h5,c,e,h6,h7,h8,by rw[←g1];exact h9,fun q a ha=>(g4 q a ha).1,fun q a x ha hx=>?_⟩
 ·obtain⟨n,hn⟩:=List.getElem?_of_mem hl
  obtain⟨x,e1,e2⟩:=g2 n l hn
  rw[←e2];exact h4 x (List.mem_of_getElem? e1)
 ·obtain⟨_,a0,e1,e2⟩:=g4 q a ha
  exact fS e2 (H3 q a0 x e1 hx)
theorem EM(hL:bk P C.L)(h:bn E0 E w0 w s a){o:Oper}{t len:Nat}{parts:Array (Nat×Operand)}(he:o.op= .buildSlice t len parts){d:Nat}{Q:Exit→Act→World→Prop}(hk:GK C t len d parts.toList s K):kU P o a w (fH E0 w0 o a K) Q:=by
 unfold GK at hk
 generalize C.base+d=d at hk
 cases rH:elemOf C.L t with
 |none=>rw[rH]at hk;exact hk.elim
 |some et=>
  obtain⟨e,ti⟩:=et
  rw[rH]at hk
  obtain⟨hu,Kj,i,i1,i2,i3,zv,i4,i5⟩:=gL hL rH
  cases fF:look d s.b with
  |some _=>rw[fF]at hk;exact hk.elim
  |none=>
   rw[fF]at hk
   dsimp only at hk
   cases hf:nP ti.size ((List.replicate len (ti.zero.map AV.v)).flatten) (parts.toList.map fun q=>(q.1,rd (bM s [] q.2)))with
   |none=>rw[hf]at hk;exact hk.elim
   |some cs=>
    rw[hf]at hk
    dsimp only at hk
    cases hb:ca cs&&(mL 1 ti.size&&mL (len*ti.size) 16777216)with
    |false=>rw[hb]at hk;exact hk.elim
    |true=>
     rw[hb,cond_true]at hk
     simp only[Bool.and_eq_true]at hb
     have b2:1≤ti.size:=by simpa using hb.2.1
     have b3:len*ti.size≤16777216:=by simpa using hb.2.2
     have hll:len≤len*ti.size:=Nat.le_mul_of_pos_right _ b2
     have BW:=(hL.ok e ti Kj).K0
     obtain⟨zs,⟨ws,k0,rfl⟩,hk⟩:=hk
     have MD:vS E (parts.toList.map fun q=>(q.1,rd (bM s [] q.2))) (parts.toList.map fun q=>(q.1,a.eval q.2)):=by
      refine⟨by simp,fun q x y hx hy=>?_⟩
      simp only[List.getElem?_map]at hx hy
      cases hq:parts.toList[q]? with
      |none=>rw[hq]at hx;simp at hx
      |some zz=>rw[hq]at hx hy;simp at hx hy;subst hx;subst hy;exact⟨rfl,(h.ev (p:=[]) trivial _).giveUp h.wf _⟩
     obtain⟨c',k1,k2⟩:=vv MD (Fp i5 BW len) hf
     have hlen:cs.length=len*ti.size:=by
      rw[AE hf,aE (z:=ti.size) (fun x hx=>by rw[(List.mem_replicate.1 hx).2];simp[BW])]
      simp
     have zl: ¬E.live (.s d):=fun qJ=>by obtain⟨ob,ho⟩:=h.lv d qJ;rw[fF]at ho;cases ho
     have eP:=uu (P:=P) hu i1 i4 (by omega) (len:=len) (by rw[i2];exact b3) (vs:=parts.map fun q=>(q.1,a.eval q.2)) (c':=c') (by rw[i2,←k1];congr 1;simp) w
     have ME:(parts.map fun(i,x)=>(i,a.eval x))=parts.map fun q=>(q.1,a.eval q.2):=rfl
     have td:=BD h (k:= .s d) zl (z:=ti.size) (n:=len) (cs:=cs) (c:=c') (by omega) (by unfold maxLen;omega) hlen hb.1 k2 e
     refine cV (x:= .slice (some ⟨w.heap.size,0,none⟩) len len) (w':=w.alloc _) ?_ ⟨_,_,_,hk,h.SZ fF (td.agn k0),?_⟩
     ·simp only[execOp,he,ME]
      simp[eP]
     ·have hmk:(E.addKey (.s d) (.cells c' e (0,0)) len).m (.s d)=w.heap.size:=by simp[Env.addKey,h.heap]
      have:=Cz.iq (E:=E.addKey (.s d) (.cells c' e (0,0)) len) (.s d) len (.inl rfl) (by simp[Env.addKey]) (by simp[Env.addKey]) (by simp[Env.addKey];unfold maxLen;omega)
      rw[hmk]at this
      simpa[Env.addKey]using this
theorem sG(hL:bk P C.L)(h:bn E0 E w0 w s a){o:Oper}{t:Nat}{x y:Operand}(he:o.op= .index t x y){n:Int}(hn:intOf (bM s p y)=some n)(hk:GI C p t n (bM s p x) s K):Reads P E w a o s p K:=by
 have fin: ∀v z k,a.eval x=v→a.eval y= .int k n→(Instr.index t v (.int k n)).run P w= .ok z w→(execOp a.eval o).run P w= .ok (.value z) w:=fun v z k hv hk hy=>by
  simp only[execOp,he,hv,hk]
  simp[hy]
 rcases K7 hk with hk|⟨b,z,dO,hs,hb,hk⟩|⟨m,e,xs,ti,tj,b,dO,ta,kE,MA,zi,KT,hb,hk⟩
 ·exact GV hL h he hn hk
 ·refine⟨_,hk,fun hp=>?_⟩
  obtain⟨h0,c,h1,h2⟩:=bG hb hp
  obtain⟨ki,hy⟩:=eN hn h hp
  have hx:=h.ev hp x
  rw[dO]at hx
  refine⟨_,fin _ _ _ (bH hx) hy (yB hL hs ki n b h0 h1 w),?_⟩
  rw[←h2]
  exact .v _
 ·refine⟨_,hk,fun hp=>?_⟩
  obtain⟨h0,h1⟩:=bG hb hp
  obtain⟨ki,hy⟩:=eN hn h hp
  have hx:=h.ev hp x
  rw[dO]at hx
  obtain⟨zh,hnn,hz,hi⟩:=M1 hx
  have h2:=Bp hz h1
  have TG:n.toNat<xs.length:=(List.getElem?_eq_some_iff.1 h1).1
  generalize hv:a.eval x=v at zh
  cases zh with
  |agg _ ys hl hq=>
   have aS:n.toNat<ys.length:=by rw[hl];exact(List.getElem?_eq_some_iff.1 h2).1
   exact⟨ys[n.toNat],fin _ _ _ hv hy (yD hL ta kE MA zi KT ki n _ h0 (by omega) (by simp[aS]) w),hq _ b _ h2 (by simp)⟩
theorem na{o:Oper}(h1:aZ s p→Reads P E w a o s p K)(h2: ¬aZ s p→ ∃r,K r s):Reads P E w a o s p K:=by
 by_cases hp:aZ s p
 ·exact h1 hp
 ·obtain⟨r,hr⟩:=h2 hp
  exact⟨r,hr,fun h=>absurd h hp⟩
theorem rK{X:Prop}(h:X):under s p X:=by
 unfold under
 split
 ·exact h
 ·exact fun _=>h
theorem xq(hL:bk P C.L)(hI:C.I=an)(h:bn E0 E w0 w s a){o:Oper}{t:Nat}{x y:Operand}(he:o.op= .indexAddr t x y){n:Int}(hn:intOf (bM s p y)=some n)(hk:xIdx C p t n (bM s p x) s K):Reads P E w a o s p K:=by
 have base:=fun hk=>Le (K:=K) (p:=p) hL hI h he hn hk
 by_cases ajM: ∃r z xs,bM s p x= .mN r z xs
 ·obtain⟨r,z,xs,dO⟩:=ajM
  unfold xIdx at hk
  rw[dO]at hk
  dsimp only at hk
  split at hk
  ·rename_i ti ta
   split at hk
   ·rename_i m e kE
    split at hk
    ·rename_i tj MA
     obtain⟨cs,⟨k1,k2,hb⟩,hk⟩:=hk
     rw[hI]at k1
     have k1:xs.length=m:=k1
     subst k2
     refine⟨_,hk,fun hp=>?_⟩
     obtain⟨h0,h1⟩:=bG hb hp
     obtain⟨ki,hy⟩:=eN hn h hp
     have hx:=h.ev hp x
     rw[dO]at hx
     cases hx with
     |mN _ _ _ _ hz hc=>
     generalize dZ:a.eval x=v at hc
     cases hc with
     |aP _ _ _ b o u hr hi fP hu hq=>
     have aS:n.toNat<xs.length:=(List.getElem?_eq_some_iff.1 h1).1
     have iK:cs.length=tj.size:=hz cs (by rw[List.getElem?_eq_getElem aS]at h1;cases h1;simp)
     have hg: ∀(q:Nat) (a:AV),cs[q]? =some a→xs.flatten[n.toNat*tj.size+q]? =some a:=fun q a' ha=>by
      rw[dP hz h1 q (by rw[←iK];exact(List.getElem?_eq_some_iff.1 ha).1)];exact ha
     refine⟨_,?_,Cz.aP (E:=E) r cs 0 b (o+n.toNat*tj.size) (fun q=>u (n.toNat*tj.size+q)) (fun q a' ha=>hr _ a' (hg q a' ha)) (fun q a' ha=>hi _ a' (hg q a' ha)) (fun q a' ha=>by have:=fP _ a' (hg q a' ha);rw[show o+n.toNat*tj.size+q=o+(n.toNat*tj.size+q)from by omega];exact this)
      (fun q a' ha=>by have:=hu _ a' (hg q a' ha);rw[show o+n.toNat*tj.size+q=o+(n.toNat*tj.size+q)from by omega];exact this) (fun q a' ha=>hq _ a' (hg q a' ha))⟩
     have eP:=yC (P:=P) hL ta kE MA ki n b (o+0) h0 (by omega) w
     simp only[execOp,he,dZ,hy]
     simp only[Nat.add_zero]at eP ⊢
     simp[eP]
    ·exact hk.elim
   ·exact hk.elim
  ·exact hk.elim
 unfold xIdx at hk
 split at hk
 ·rename_i k m hx
  split at hk
  ·rename_i e ti rH
   obtain⟨j,h1,h2⟩:=hk
   refine na (fun hp=>base ?_) (fun _=>⟨_,h2⟩)
   obtain⟨k1,rfl⟩:=bG h1 hp
   unfold QN
   rw[hx]
   dsimp only
   rw[rH]
   exact⟨rK k1,h2⟩
  ·exact hk.elim
 ·rename_i d off hx
  split at hk
  ·rename_i ti z xs h1 h2
   split at hk
   ·rename_i m e hkd
    split at hk
    ·rename_i tj h3
     obtain⟨j,⟨k1,k2,k3⟩,h4⟩:=hk
     refine na (fun hp=>base ?_) (fun _=>⟨_,h4⟩)
     obtain⟨k4,rfl⟩:=bG k3 hp
     unfold QN
     rw[hx]
     dsimp only
     rw[h1,h2]
     dsimp only
     rw[hkd]
     dsimp only
     rw[h3]
     exact⟨k1,k2,rK k4,h4⟩
    ·exact hk.elim
   ·exact hk.elim
  ·exact hk.elim
 ·rename_i hx;exact absurd ⟨_,_,_,hx⟩ ajM
 ·exact base hk
theorem yt(hL:bk P C.L)(hI:C.I=an)(h:bn E0 E w0 w s a){o:Oper}{t:Nat}{x:Operand}{lo hi:Option Operand}(he:o.op= .slice t x lo hi none)(hk:K6 C p t lo hi (bM s p x) s K):Reads P E w a o s p K:=by
 have base:=fun hk=>GU (K:=K) (p:=p) hL hI h he hk
 unfold K6 at hk
 split at hk
 ·rename_i b hx
  cases hs:isStr C.L t with
  |false=>rw[hs]at hk;exact hk.elim
  |true=>
   rw[hs,cond_true]at hk
   split at hk
   ·rename_i l k h1 h2
    obtain⟨b',g1,g2⟩:=hk
    refine na (fun hp=>base ?_) (fun _=>⟨_,g2⟩)
    obtain⟨g3,rfl⟩:=bG g1 hp
    unfold zY
    rw[hx]
    dsimp only
    rw[hs,cond_true,h1,h2]
    exact⟨rK g3,g2⟩
   ·exact hk.elim
 ·rename_i k m hx
  split at hk
  ·rename_i e v h1 h2 h3
   obtain⟨j,g1,g2⟩:=hk
   refine na (fun hp=>base ?_) (fun _=>⟨_,g2⟩)
   obtain⟨g3,rfl⟩:=bG g1 hp
   unfold zY
   rw[hx]
   dsimp only
   rw[h2,h3]
   exact⟨rK g3,g2⟩
  ·exact hk.elim
 ·rename_i d off hx
  split at hk
  ·rename_i ti z xs h1 h2
   split at hk
   ·rename_i m e hkd
    split at hk
    ·rename_i tj _ h3 h4
     obtain⟨j,⟨k1,k2,k3,k4⟩,h5⟩:=hk
     refine na (fun hp=>base ?_) (fun _=>⟨_,h5⟩)
     obtain⟨g3,rfl⟩:=bG k4 hp
     unfold zY
     rw[hx]
     dsimp only
     rw[h1,h2]
     dsimp only
     rw[hkd]
     dsimp only
     rw[h3,h4]
     exact⟨k1,k2,k3,rK g3,h5⟩
    ·exact hk.elim
   ·exact hk.elim
  ·exact hk.elim
 ·split at hk
  ·rename_i ao3 aeA ao2 _ _ r xs e ti h1 h2
   split at hk
   ·rename_i l k h3 h4
    obtain⟨zs,g1,g2⟩:=hk
    refine na (fun hp=>base ?_) (fun _=>⟨_,g2⟩)
    obtain⟨g3,rfl⟩:=bG g1 hp
    unfold zY
    split
    ·rename_i hh;exact absurd hh (ao3 _)
    ·rename_i hh;exact absurd hh (aeA _ _)
    ·rename_i hh;exact absurd hh (ao2 _ _)
    rw[h1,h2]
    dsimp only
    rw[h3,h4]
    exact⟨rK g3,g2⟩
   ·exact hk.elim
  ·exact hk.elim
end Ab
namespace Ab
open Go
variable{P:Program}{L:nv}{E0 E E':Env}{w0 w w':World}{s:St}{a:Act}{p:Path}{C:dK}
open Classical in
noncomputable def jY(k:Value):List MapEntry→Nat→Option (Nat×Value)
 |[],_=>none
 |e::es,i=>if e.key=k then some (i,e.val)else jY k es (i+1)
theorem Bt{k:Value}: ∀{es:List MapEntry} {n:Nat},(∀e∈es,e.key≠k)→jY k es n=none
 |[],_,_=>rfl
 |e::es,n,h=>by unfold jY;rw[if_neg (h e (by simp))];exact Bt fun e' he=>h e' (by simp[he])
theorem Br{k:Value}: ∀{es:List MapEntry} {n i:Nat} {e:MapEntry},es[i]? =some e→e.key=k→(∀j e',j<i→es[j]? =some e'→e'.key≠k)→jY k es n=some (n+i,e.val)
 |[],n,i,e,h,_,_=>by simp at h
 |x::es,n,0,e,h,hk,_=>by simp at h;subst h;unfold jY;rw[if_pos hk];rfl
 |x::es,n,i+1,e,h,hk,hj=>by
  unfold jY
  rw[if_neg (hj 0 x (by omega) rfl),Br (es:=es) (n:=n+1) (i:=i) (by simpa using h) hk (fun j e' aS hq=>hj (j+1) e' (by omega) (by simpa using hq))]
  congr 2;omega
structure KeyLaw(P:Program)(t:Nat)(ks:List VK):Prop where
 check: ∀kv,bw ks kv=true→ ∀b w,(Instr.checkKey b 10000 t (fD kv)).run P w= .ok () w
 find: ∀kv (es:List MapEntry),bw ks kv=true→(∀e∈es,∃zR,bw ks zR=true∧e.key=fD zR)→ ∀w,(Instr.findKey t (fD kv) es).run P w= .ok (jY (fD kv) es 0) w
 same: ∀kv,bw ks kv=true→Instr.sameBits 10000 (fD kv) (fD kv)=true
structure tW(P:Program)(t:Nat)(ks:List VK):Prop where
 eq: ∀xs ys:List Value,bw ks xs=true→bw ks ys=true→ ∃b:Bool,(b=true↔xs=ys)∧ ∀w,(Op.equalIn 10000 t (.agg xs.toArray) (.agg ys.toArray)).run P w= .ok b w
 guard:P.eqGuardType P.depth t=false
theorem iw: ∀{ks:List VK} {kv:List Value},bw ks kv=true→kv.length=ks.length
 |[],[],_=>rfl
 |k::r,x::q,h=>by
  have:bw r q=true:=by
   cases k<;>cases x<;>simp_all [bw]
  simp[iw this]
 |[],_::_,h=>by simp[bw]at h
 |k::_,[],h=>by cases k<;>simp[bw]at h
theorem zr: ∀{ks:List VK} {cs:List AV},mR ks cs=true→ ∃kv:List Value,cs=kv.map .v∧bw ks kv=true
 |[],[],_=>⟨[],rfl,rfl⟩
 |[],_::_,h=>by simp[mR]at h
 |k::r,[],h=>by cases k<;>simp[mR]at h
 |k::r,c0::cs0,h=>by
  generalize IE:c0::cs0=cs at h ⊢
  unfold mR at h
  split at h
  ·rename_i h1;exact absurd h1 (by simp)
  ·rename_i k' r' k2 n q h1
   injection h1 with e1 e2;subst e1;subst e2
   simp only[Bool.and_eq_true]at h
   obtain⟨kv,rfl,h3⟩:=zr h.2
   exact⟨.int k2 n::kv,rfl,by simp[bw,h3];simpa using h.1⟩
  ·rename_i r' b q h1
   injection h1 with e1 e2;subst e1;subst e2
   obtain⟨kv,rfl,h3⟩:=zr h
   exact⟨.string b::kv,rfl,by simpa[bw]using h3⟩
  ·rename_i r' b q h1
   injection h1 with e1 e2;subst e1;subst e2
   obtain⟨kv,rfl,h3⟩:=zr h
   exact⟨.bool b::kv,rfl,by simpa[bw]using h3⟩
  ·cases h
theorem To{a b:List Value}(hl:a.length=b.length)(h:fD a=fD b):a=b:=by
 match a,b,hl,h with
 |[],[],_,_=>rfl
 |[x],[y],_,h=>simpa[fD]using h
 |x::x2::r,y::y2::q,_,h=>simpa[fD]using h
theorem Ao: ∀{a b:List Value},a.map AV.v=b.map AV.v→a=b
 |[],[],_=>rfl
 |x::r,y::q,h=>by simp only[List.map_cons,List.cons.injEq,AV.v.injEq]at h;rw[h.1,Ao h.2]
 |[],_::_,h=>by simp at h
 |_::_,[],h=>by simp at h
theorem GY: ∀{kv ys:List Value},ys.length=kv.length→(∀(q:Nat) (a:AV) (y:Value),(kv.map AV.v)[q]? =some a→ys[q]? =some y→Cz E a y)→ys=kv
 |[],[],_,_=>rfl
 |x::r,y::q,hl,h=>by
  have h0:=h 0 (.v x) y rfl rfl
  have e:y=x:=by cases h0;rfl
  rw[e,GY (kv:=r) (ys:=q) (by simpa using hl) fun j a v ha hv=>h (j+1) a v (by simpa using ha) (by simpa using hv)]
 |[],_::_,hl,_=>by simp at hl
 |_::_,[],hl,_=>by simp at hl
theorem HT{ks:List VK}{k:AV}{v:Value}(hc:Cz E k v)(hf:Bq ks k=true): ∃kv:List Value,v=fD kv∧bw ks kv=true∧cellsOf k=kv.map .v:=by
 simp only[Bq,Bool.and_eq_true]at hf
 obtain⟨h1,h2⟩:=hf
 obtain⟨kv,h3,h4⟩:=zr h2
 refine⟨kv,?_,h4,h3⟩
 unfold JZ at h1
 split at h1
 ·rename_i x
  have:cellsOf (.v x)=[.v x]:=by cases x<;>first|rfl|(simp[qV]at h1)
  cases hc
  rw[this]at h3
  match kv,h3 with
  |[y],h3=>simp at h3;rw[h3];rfl
 ·rename_i cs
  cases hc with
  |agg _ ys hl hq=>
   have h3:cs=kv.map .v:=h3
   subst h3
   have:=GY (E:=E) (kv:=kv) (ys:=ys) (by simpa using hl) hq
   subst this
   match ys,h1 with
   |x::y::r,_=>rfl
   |[x],h1=>simp at h1
   |[],h1=>simp at h1
 ·cases h1
theorem sZ(hL:bk P C.L){t k e:Nat}{ks:List VK}{ti:TI}(h:Ar C t=some (ks,k,e,ti)):P.underlying t=some (.map k e)∧C.keys k=some ks∧C.L e=some ti:=by
 unfold Ar at h
 split at h
 ·rename_i sz bt zz k' e' ta
  split at h
  ·rename_i Qf Lj h1 h2
   cases h
   obtain⟨i,d,z,g1,g2,g3,g4,g5,g6,g7⟩:=(hL.ok t _ ta).ex
   dsimp only at g7
   subst g7
   exact⟨g6,h1,h2⟩
  ·cases h
 ·cases h
theorem uY{ks:List VK}{xs:List (List AV)}{es:Array MapEntry}{u:Nat→Value}{kv:List Value}(dC:es.size=xs.length)(gf:bw ks kv=true)
  (mh: ∀(i:Nat) (row:List AV) (e:MapEntry),xs[i]? =some row→es[i]? =some e→ ∃kv:List Value,bw ks kv=true∧row.take ks.length=kv.map .v∧e.key=fD kv∧u (i*(ks.length+1)+ks.length)=e.val∧ ∀j x,kv[j]? =some x→u (i*(ks.length+1)+j)=x):
  (∀e∈es.toList,∃zR,bw ks zR=true∧e.key=fD zR)∧(∀i,xm xs (kv.map .v) (some i)→ ∃e,es[i]? =some e∧e.key=fD kv∧jY (fD kv) es.toList 0=some (i,e.val))∧(xm xs (kv.map .v) none→jY (fD kv) es.toList 0=none):=by
 have hlen:=iw gf
 have jD: ∀(i:Nat) (e:MapEntry),es[i]? =some e→ ∃row,xs[i]? =some row:=fun i e he=>by
  have:i<xs.length:=by rw[←dC];exact(Array.getElem?_eq_some_iff.1 he).1
  exact⟨xs[i],by simp[this]⟩
 have cU: ∀(i:Nat) (row:List AV) (e:MapEntry),xs[i]? =some row→es[i]? =some e→(e.key=fD kv↔row.take (kv.map AV.v).length=kv.map .v):=fun i row e hr he=>by
  obtain⟨zR,h1,h2,h3,_⟩:=mh i row e hr he
  rw[List.length_map,hlen,h2,h3]
  exact⟨fun h=>by rw[To (by rw[iw h1,hlen]) h],fun h=>by rw[Ao h]⟩
 refine⟨fun e he=>?_,fun i hm=>?_,fun hm=>?_⟩
 ·obtain⟨i,hi⟩:=List.getElem?_of_mem he
  rw[Array.getElem?_toList]at hi
  obtain⟨row,hr⟩:=jD i e hi
  obtain⟨zR,h1,_,h3,_⟩:=mh i row e hr hi
  exact⟨zR,h1,h3⟩
 ·obtain⟨row,h1,h2,h3⟩:=hm
  have aS:i<es.size:=by rw[dC];exact(List.getElem?_eq_some_iff.1 h1).1
  have he:es[i]? =some es[i]:=by simp[aS]
  have hk:=(cU i row _ h1 he).2 h2
  refine⟨es[i],he,hk,?_⟩
  have:=Br (n:=0) (i:=i) (e:=es[i]) (es:=es.toList) (by rw[Array.getElem?_toList];exact he) hk (fun j e' hj oT=>by
   rw[Array.getElem?_toList]at oT
   obtain⟨OW,zT⟩:=jD j e' oT
   exact fun hh=>h3 j OW hj zT ((cU j OW e' zT oT).1 hh))
  rwa [Nat.zero_add]at this
 ·refine Bt fun e he hh=>?_
  obtain⟨i,hi⟩:=List.getElem?_of_mem he
  rw[Array.getElem?_toList]at hi
  obtain⟨row,hr⟩:=jD i e hi
  exact hm row (List.mem_of_getElem? hr) ((cU i row e hr hi).1 hh)
theorem pD{r:Nat}{es:Array MapEntry}{clock:Nat}(h:w.heap[r]? =some (.map es clock)):(getObj r).run P w= .ok (.map es clock) w:=by
 unfold getObj;simp[Sem.run,h]
theorem wP(hL:bk P C.L)(hkl: ∀t ks,C.keys t=some ks→KeyLaw P t ks)(h:bn E0 E w0 w s a){o:Oper}{t:Nat}{m k:Operand}(he:o.op= .lookup t m k false){K:bd}(hk:GG C p t (bM s p m) (bM s p k) s K):Reads P E w a o s p K:=by
 unfold GG at hk
 split at hk
 ·rename_i ks kt et ti d hko dO
  obtain⟨hu,hkk,Kj⟩:=sZ hL hko
  have kl:=hkl _ _ hkk
  split at hk
  ·rename_i Qf xs z fF hzero
   cases hf:(Bq ks (bM s p k)&&(!ti.agg&&qV z))with
   |false=>rw[hf]at hk;exact hk.elim
   |true=>
    rw[hf,cond_true]at hk
    simp only[Bool.and_eq_true]at hf
    obtain⟨KV,XJ,hf3⟩:=hf
    obtain⟨r,⟨e0,ai6,Vb,Z1⟩,hk⟩:=hk
    subst e0
    refine⟨r,hk,fun hp=>?_⟩
    have hx:=h.ev hp m
    rw[dO]at hx
    cases dZ:a.eval m<;>rw[dZ]at hx<;>cases hx
    obtain⟨kv,hv,gf,D1⟩:=HT (h.ev hp k) KV
    obtain⟨hl,ho,hs,lG,u,⟨N2,es,clock,hb,_,DY,_,_,mh⟩,hq,_⟩:=h.bx d _ fF
    obtain⟨q1,q2,q3⟩:=uY DY gf mh
    have ajs:=bG Z1 hp
    rw[D1]at ajs
    obtain⟨i,dd,zz,i1,i2,i3,i4,i5,i6,i7⟩:=(hL.ok _ _ Kj).ex
    have hzv:zz=z:=by
     rw[hzero]at i5
     cases zz<;>first|(simp[Value.cells]at i5;exact i5)|skip
     ·rename_i cells
      exfalso
      have so:ti.agg=false:=by simpa using XJ
      have:=(hL.ok _ _ Kj).zv so i _ i1 i4
      cases this
    have hzr:(zeroValue et).run P w= .ok z w:=by
     unfold zeroValue
     simp[Sem.run_bind,typeInfo,program,Sem.run,Result.andThen,i1,i4,hzv]
    have eP: ∀r,jY (fD kv) es.toList 0=r→(execOp a.eval o).run P w= .ok (.value (match r with|some (_,v)=>v|none=>z)) w:=fun r hr=>by
     simp only[execOp,he,dZ,hv,Instr.lookup]
     simp only[Sem.run_bind,eT hu,Result.andThen_ok,pD (show w.heap[E.m (.s d)]? =_ by rw[h.heap];exact hb),Sem.run_pure,kl.check kv gf,kl.find kv es.toList gf q1,hr]
     cases r with
     |none=>simp[Sem.run_bind,hzr]
     |some r=>simp
    rcases ajs with⟨i,row,a0,g1,g2,g3,g4⟩|⟨g1,g2⟩
    ·obtain⟨e,h1,h2,h3⟩:=q2 i g1
     refine⟨_,eP _ h3,fS g4 ?_⟩
     obtain⟨zR,h4,h5,h6,h7,h8⟩:=mh i row e g2 h1
     dsimp only
     rw[←h7]
     refine hq _ _ ?_
     rw[dP N2 g2 ks.length (by omega)]
     rw[List.length_map,iw gf]at g3
     exact g3
    ·exact⟨_,eP _ (q3 g1),fS g2 (.v _)⟩
  ·exact hk.elim
 ·exact hk.elim
theorem CJ(hL:bk P C.L)(h:bn E0 E w0 w s a){o:Oper}{t d:Nat}(he:o.op= .makeMap t none){K:bd}{Q:Exit→Act→World→Prop}(hk:CK C t d s K):kU P o a w (fH E0 w0 o a K) Q:=by
 unfold CK at hk
 generalize C.base+d=d at hk
 split at hk
 ·rename_i ks k e ti hko fF
  obtain⟨zs,rfl,hk⟩:=hk
  have zl: ¬E.live (.s d):=fun hl=>by obtain⟨ob,ho⟩:=h.lv d hl;rw[fF]at ho;cases ho
  have hA:yk E d E.h.size (E.h.push (.map #[] 0)):=⟨zl,.inl rfl,fun b' eQ cU=>by rw[Array.getElem?_push,if_neg (by omega)],by simp,by simp⟩
  have td:cf (E.cw d E.h.size (0,0) (E.h.push (.map #[] 0))) (.s d) (.ow (.mp ks none) none []):=by
   refine⟨.inl rfl,by simp[Env.cw],fun o hs=>?_,fun q a ha=>by simp at ha,fun _=>undef,⟨fun l hl=>by simp at hl,#[],0,by simp[Env.cw],fun i z hz=>(by cases hz),rfl,fun i e he=>by simp at he,fun i j e e' he=>by simp at he,fun i row e hr=>by simp at hr⟩,fun q a ha=>by simp at ha,fun q r ys hq=>by simp at hq,fun q q' r r' ys CE b hq=>by simp at hq⟩
   have:E.aM E.h.size o:=by simpa[Env.cw]using hs
   have:=h.wf.aM _ _ this
   omega
  have hA':yk E d E.h.size ({w with heap:=w.heap.push (.map #[] 0)}:World).heap:=by show yk E d E.h.size (w.heap.push _);rw[h.heap];exact hA
  have Z4:=h.cw (w':={w with heap:=w.heap.push (.map #[] 0)}) (n:=(0,0)) fF hA' ⟨rfl,rfl,rfl⟩ (by show cf (E.cw d E.h.size (0,0) (w.heap.push _)) _ _;rw[h.heap];exact td)
  refine cV (x:= .map (some w.heap.size)) (w':={w with heap:=w.heap.push (.map #[] 0)}) ?_ ⟨_,_,_,hk,Z4,?_⟩
  ·simp only[execOp,he,Option.map_none]
   simp[Instr.makeMap,newObj,Sem.run,Sem.run_bind,Result.andThen]
  ·have:=Cz.mp (E:=E.cw d E.h.size (0,0) ({w with heap:=w.heap.push (.map #[] 0)}:World).heap) (.s d) (.inl rfl)
   have e:(E.cw d E.h.size (0,0) ({w with heap:=w.heap.push (.map #[] 0)}:World).heap).m (.s d)=w.heap.size:=by simp[Env.cw,h.heap]
   rwa [e]at this
 ·exact hk.elim
theorem map_push(hw:Wf E){d:Nat}{ks:List VK}{xs:List (List AV)}(td:cf E (.s d) (.ow (.mp ks none) none xs)){kv:List Value}(gf:bw ks kv=true){av:AV}{v:Value}(hc:Cz E av v)(hi:cq av=true)(hnr: ∀r ys,av= .sl r ys→ys=[]∧v= .slice none 0 0)
  {es:Array MapEntry}{clock:Nat}(hb:E.h[E.m (.s d)]? =some (.map es clock))(st:Option (Nat×Int))(fP: ∀i z,st=some (i,z)→i=xs.length∧z=clock):
  ∃u,Ez (.mp ks st) (E.len (.s d)) (some (.map (es.push {key:=fD kv,val:=v,born:=clock}) (clock+1))) (xs++[kv.map AV.v++[av]]) u∧(∀(q:Nat) (a:AV),(xs++[kv.map AV.v++[av]]).flatten[q]? =some a→cq a=true∧Cz E a (u q))∧Fm E (.n d) (ks.length+1) none (xs++[kv.map AV.v++[av]]) u∧u (xs.length*(ks.length+1)+ks.length)=v:=by
 obtain⟨hl,ho,hs,lG,u0,⟨N2,es',agb,eQ,_,DY,XN,sk,mh⟩,hq,tU⟩:=td
 rw[hb]at eQ
 cases eQ
 have hkl:=iw gf
 have fG:=aE N2
 have aoN: ∀l∈xs++[kv.map AV.v++[av]],l.length=ks.length+1:=fun l hl=>by
  rcases List.mem_append.1 hl with h|h
  ·exact N2 l h
  ·simp at h;subst h;simp[hkl]
 let n:=xs.length*(ks.length+1)
 let u:Nat→Value:=fun q=>if q<n then u0 q else if q=n+ks.length then v else(kv[q - n]?).getD undef
 have BM: ∀q,q<n→u q=u0 q:=fun q hq=>by simp only[u];rw[if_pos hq]
 have uv:u (n+ks.length)=v:=by simp only[u];rw[if_neg (by omega)];simp
 have ahk: ∀j x,kv[j]? =some x→u (n+j)=x:=fun j x hx=>by
  have hj:=(List.getElem?_eq_some_iff.1 hx).1
  simp only[u];rw[if_neg (by omega),if_neg (by omega),Nat.add_sub_cancel_left,hx];rfl
 have oU: ∀(q:Nat) (a:AV),(xs++[kv.map AV.v++[av]]).flatten[q]? =some a→(q<n∧xs.flatten[q]? =some a)∨(q=n+ks.length∧a=av)∨ ∃j x,q=n+j∧kv[j]? =some x∧a= .v x:=by
  intro q a ha
  rw[List.flatten_append]at ha
  by_cases aS:q<xs.flatten.length
  ·rw[List.getElem?_append_left aS]at ha;exact .inl ⟨by omega,ha⟩
  ·rw[List.getElem?_append_right (by omega)]at ha
   simp only[List.flatten_cons,List.flatten_nil,List.append_nil]at ha
   by_cases hk:q - xs.flatten.length<kv.length
   ·rw[List.getElem?_append_left (by rw[List.length_map];exact hk),List.getElem?_map]at ha
    refine .inr (.inr ⟨q - xs.flatten.length,kv[q - xs.flatten.length],by omega,by simp[hk],?_⟩)
    rw[List.getElem?_eq_getElem hk]at ha;cases ha;rfl
   ·rw[List.getElem?_append_right (by rw[List.length_map];omega)]at ha
    have:q - xs.flatten.length - (kv.map AV.v).length=0:=by
     have:=(List.getElem?_eq_some_iff.1 ha).1
     simp only[List.length_cons,List.length_nil]at this;omega
    have hq0:=this
    rw[this]at ha
    simp at ha
    rw[List.length_map]at hq0;exact .inr (.inl ⟨by omega,ha.symm⟩)
 refine⟨u,⟨aoN,_,_,rfl,fun i z hz=>?_,by simp[DY],fun i e he=>?_,fun i j e e' he oT tf=>?_,fun i row e hr he=>?_⟩,fun q a ha=>?_,⟨fun q r ys wq _=>?_,fun q q' r r' ys CE b Z7 hq2 _ _ cU yn=>?_⟩,uv⟩
 ·obtain⟨e1,e2⟩:=fP i z hz
  exact⟨{key:=fD kv,val:=v,born:=clock},by rw[e1,←DY];simp,e2.symm⟩
 ·rw[Array.getElem?_push]at he
  split at he
  ·cases he;exact Nat.lt_succ_self _
  ·exact Nat.lt_succ_of_lt (XN i e he)
 ·rw[Array.getElem?_push]at he oT
  split at he
  ·split at oT
   ·omega
   ·cases he
    have:=XN j e' oT
    simp only at tf
    omega
  ·split at oT
   ·cases oT
    have:=XN i e he
    simp only at tf
    omega
   ·exact sk i j e e' he oT tf
 ·by_cases hi:i<xs.length
  ·rw[List.getElem?_append_left hi]at hr
   rw[Array.getElem?_push,if_neg (by omega)]at he
   obtain⟨zR,h1,h2,h3,h4,h5⟩:=mh i row e hr he
   have hmul:i*(ks.length+1)+(ks.length+1)≤n:=by rw[←Nat.succ_mul];exact Nat.mul_le_mul_right _ hi
   refine⟨zR,h1,h2,h3,by rw[BM _ (by omega)];exact h4,fun j x hx=>?_⟩
   have hj:=(List.getElem?_eq_some_iff.1 hx).1
   rw[iw h1]at hj
   rw[BM _ (by omega)];exact h5 j x hx
  ·have hie:i=xs.length:=by
    have:=(List.getElem?_eq_some_iff.1 hr).1
    simp at this;omega
   subst hie
   rw[List.getElem?_append_right (Nat.le_refl _),Nat.sub_self]at hr
   rw[Array.getElem?_push,if_pos DY.symm]at he
   cases he
   simp at hr
   subst hr
   exact⟨kv,gf,by rw[←hkl,List.take_append_of_le_length (by simp),List.take_of_length_le (by simp)],rfl,uv,fun j x hx=>ahk j x hx⟩
 ·rcases oU q a ha with⟨h0,h1⟩|⟨h0,rfl⟩|⟨j,x,h0,h1,rfl⟩
  ·rw[BM q h0];exact⟨lG q a h1,hq q a h1⟩
  ·rw[h0,uv];exact⟨hi,hc⟩
  ·rw[h0,ahk j x h1];exact⟨rfl,.v _⟩
 ·rcases oU q _ wq with⟨h0,h1⟩|⟨h0,h1⟩|⟨j,x,h0,h1,h2⟩
  ·rw[BM q h0];exact tU.1 q r ys h1 (fun hh=>hh)
  ·obtain⟨e1,e2⟩:=hnr r ys h1.symm
   rw[h0,uv];exact .inl ⟨e1,e2⟩
  ·cases h2
 ·rcases oU q _ Z7 with⟨h0,h1⟩|⟨h0,h1⟩|⟨j,x,h0,h1,h2⟩
  ·rcases oU q' _ hq2 with⟨h0',Qm⟩|⟨h0',Qm⟩|⟨j,x,h0',Qm,Kk⟩
   ·rw[BM q h0]at yn;rw[BM q' h0'];exact tU.2 q q' r r' ys CE b h1 Qm (fun hh=>hh) (fun hh=>hh) cU yn
   ·rw[h0',uv,(hnr r' CE Qm.symm).2];intro hh;cases hh
   ·cases Kk
  ·rw[h0,uv,(hnr r ys h1.symm).2]at yn;cases yn
  ·cases h2
theorem EL(hL:bk P C.L)(hI:C.I=an)(hkl: ∀t ks,C.keys t=some ks→KeyLaw P t ks)(h:bn E0 E w0 w s a){o:Oper}{t:Nat}{m k v:Operand}(he:o.op= .insert t m k v){K:bd}{Q:Exit→Act→World→Prop}(hk:GH C t (bM s [] m) (bM s [] k) (bM s [] v) s K):kU P o a w (fH E0 w0 o a K) Q:=by
 unfold GH at hk
 split at hk
 ·rename_i ks kt et ti d hko dO
  obtain⟨hu,hkk,Kj⟩:=sZ hL hko
  have kl:=hkl _ _ hkk
  split at hk
  ·rename_i Qf xs fF
   cases hf:(Bq ks (bM s [] k)&&(isV (bM s [] v)&&SU (bM s [] v)))with
   |false=>rw[hf]at hk;exact hk.elim
   |true=>
    rw[hf,cond_true]at hk
    simp only[Bool.and_eq_true]at hf
    obtain⟨KV,XJ,hf3⟩:=hf
    obtain⟨zs,⟨e0,Z1,e1⟩,hk⟩:=hk
    subst e0
    rw[hI]at e1
    have e1:xs++[cellsOf (bM s [] k)++[bM s [] v]]=zs:=e1
    subst e1
    have hx:=h.ev (p:=[]) trivial m
    rw[dO]at hx
    cases dZ:a.eval m<;>rw[dZ]at hx<;>cases hx
    obtain⟨kv,hv,gf,D1⟩:=HT (h.ev (p:=[]) trivial k) KV
    have hcv:=h.ev (p:=[]) trivial v
    obtain⟨xv,hxv⟩: ∃x,bM s [] v= .v x:=by cases hvv:bM s [] v<;>rw[hvv]at XJ<;>first|exact⟨_,rfl⟩|(simp[isV]at XJ)
    have td:=h.bx d _ fF
    have aex:=td
    obtain⟨hl,ho,hs,lG,u,⟨N2,es,clock,hb,_,DY,_,_,mh⟩,hq,_⟩:=td
    obtain⟨q1,q2,q3⟩:=uY DY gf mh
    rw[D1]at Z1 hk
    have TC:=q3 Z1
    have KY:w.heap[E.m (.s d)]? =some (.map es clock):=by rw[h.heap];exact hb
    obtain⟨u',g1,g2,g3,_⟩:=map_push h.wf aex gf hcv (by rw[hxv];rfl) (fun r ys e=>by rw[hxv]at e;cases e) hb none (fun i z hz=>by cases hz)
    have hE:=ir (E:=E) ho hs (.map (es.push {key:=fD kv,val:=a.eval v,born:=clock}) (clock+1))
    have aS:E.m (.s d)<E.h.size:=(Array.getElem?_eq_some_iff.1 hb).1
    have cz: ∀{a0:AV} {x:Value},Cz E a0 x→Cz (E.write (.s d) (.map (es.push {key:=fD kv,val:=a.eval v,born:=clock}) (clock+1))) a0 x:=fun{a0 x} hc=>by
     have:=(hc.ext hE h.wf (fun _=>false) (fb _)).1
     rwa [jW (fun _=>rfl)]at this
    have xU:cf (E.write (.s d) (.map (es.push {key:=fD kv,val:=a.eval v,born:=clock}) (clock+1))) (.s d) (.ow (.mp ks none) none (xs++[kv.map AV.v++[bM s [] v]])):=by
     refine⟨hl,ho,hs,fun q a0 ha=>(g2 q a0 ha).1,u',?_,fun q a0 ha=>cz (g2 q a0 ha).2,g3.mono fun b Gc TG=>?_⟩
     ·have:(E.write (.s d) (.map (es.push {key:=fD kv,val:=a.eval v,born:=clock}) (clock+1))).h[E.m (.s d)]? =some (.map (es.push {key:=fD kv,val:=a.eval v,born:=clock}) (clock+1)):=Array.getElem?_setIfInBounds_self_of_lt aS
      show Ez _ (E.len (.s d)) ((E.write (.s d) _).h[E.m (.s d)]?) _ _
      rw[this];exact g1
     ·have cU:b≠E.m (.s d):=fun e=>by rw[e,ho]at Gc;cases Gc
      refine⟨Gc,?_,fun _=>Iff.rfl,rfl⟩
      show(E.h.setIfInBounds (E.m (.s d)) _)[b]? =_
      rw[Array.getElem?_setIfInBounds_ne (Ne.symm cU)]
    refine um (w':={w with heap:=w.heap.setIfInBounds (E.m (.s d)) (.map (es.push {key:=fD kv,val:=a.eval v,born:=clock}) (clock+1))}) ?_ ⟨_,_,_,hk,h.pq fF xU rfl ⟨rfl,rfl,rfl⟩ ho hs,.any _⟩
    simp only[execOp,he,dZ,hv]
    simp[Instr.mapUpdate,Sem.run_bind,eT hu,pD KY,kl.check kv gf,kl.find kv es.toList gf q1,TC,MapKept.run_setObj_map _ KY,Result.andThen]
  ·exact hk.elim
 ·exact hk.elim
end Ab
namespace Ab
open Go
variable{P:Program}{L:nv}{E0 E E':Env}{w0 w w':World}{s:St}{a:Act}{p:Path}{C:dK}
theorem No{α:Type}(d:Nat)(x y:α): ∀t:List (Nat×α),cX d x (cX d y t)=cX d x t
 |[]=>by simp[cX]
 |(k,z)::r=>by
  simp only[cX]
  cases h1:du k d with
  |true=>simp[cX]
  |false=>
   cases h2:rm d k with
   |true=>simp[cX]
   |false=>simp only[cond_false,cX,h1,h2,No d x y r]
theorem Jb(T:Tok→Bool)(d:Nat)(x:Ob): ∀t,eY T (cX d x t)=cX d (wU T x) (eY T t)
 |[]=>by simp[cX,eY]
 |(k,z)::r=>by
  simp only[cX,eY]
  cases h1:du k d with
  |true=>simp[eY]
  |false=>
   cases h2:rm d k with
   |true=>simp[eY]
   |false=>simp only[cond_false,eY,Jb T d x r]
theorem JK{ks:List VK}{st:Option (Nat×Int)}{len:Nat×Nat}{es:Array MapEntry}{clock:Nat}{xs:List (List AV)}{u:Nat→Value}(h:Ez (.mp ks st) len (some (.map es clock)) xs u){i:Nat}{e:MapEntry}(he:es[i]? =some e):Ez (.mp ks (some (i,(e.born:Int)))) len (some (.map es clock)) xs u:=by
 obtain⟨h1,es',agb,h2,h3,h4,h5,h6,h7⟩:=h
 cases h2
 exact⟨h1,es,clock,rfl,fun j z hz=>by cases hz;exact⟨e,he,rfl⟩,h4,h5,h6,h7⟩
theorem GJ(hL:bk P C.L)(hI:C.I=an)(hkl: ∀t ks,C.keys t=some ks→KeyLaw P t ks)(h:bn E0 E w0 w s a){o:Oper}{t d:Nat}{m k:Operand}(he:o.op= .mapEntry t m k){K:bd}{Q:Exit→Act→World→Prop}(hk:K8 C t d (bM s [] m) (bM s [] k) s K):kU P o a w (fH E0 w0 o a K) Q:=by
 unfold K8 at hk
 split at hk
 ·rename_i ks kt et ti q hko dO
  obtain⟨hu,hkk,Kj⟩:=sZ hL hko
  have kl:=hkl _ _ hkk
  split at hk
  ·rename_i es0 Qf xs kE fF
   cases hf:Bq ks (bM s [] k)with
   |false=>rw[hf]at hk;exact hk.elim
   |true=>
    rw[hf,cond_true]at hk
    obtain⟨zs,i,r,ys,⟨e0,hz1,PD,hen⟩,hk⟩:=hk
    subst e0
    have hx:=h.ev (p:=[]) trivial m
    rw[dO]at hx
    cases dZ:a.eval m<;>rw[dZ]at hx<;>cases hx
    obtain⟨kv,hv,gf,D1⟩:=HT (h.ev (p:=[]) trivial k) hf
    have td:=h.bx q _ fF
    have aex:=td
    obtain⟨hl,ho,hs,lG,u,ui,hq,tU⟩:=td
    have PI:=ui
    obtain⟨N2,es,clock,hb,_,DY,_,_,mh⟩:=ui
    rw[hb]at PI
    obtain⟨q1,q2,q3⟩:=uY DY gf mh
    have KY:w.heap[E.m (.s q)]? =some (.map es clock):=by rw[h.heap];exact hb
    have ajv:=iw gf
    rw[D1]at hen
    rcases hen with⟨hm,rfl,row,h1,h2⟩|⟨hm,h1,h2,h3,h4⟩
    ·obtain⟨e,g1,g2,g3⟩:=q2 i hm
     rw[List.length_map,ajv]at h2
     have fG:xs.flatten[i*(ks.length+1)+ks.length]? =some (.sl r ys):=by rw[dP N2 h1 ks.length (by omega)];exact h2
     obtain⟨E',k1,k2⟩:=Ap h fF (by rw[hb];exact PI) hq tU (p':= .mp ks (some (i,(e.born:Int)))) fG (.l (C.base+d)) rfl (by rw[hb];exact JK PI g1)
     obtain⟨zR,f1,f2,f3,f4,f5⟩:=mh i row e h1 g1
     have ao4:es.modify i (fun e=>{e with key:=fD kv})=es:=by
      apply Array.ext (by simp)
      intro j j1 j2
      rw[Array.getElem_modify]
      split
      ·rename_i hij
       subst hij
       have:es[i]=e:=by rw[Array.getElem?_eq_getElem j2]at g1;injection g1
       rw[this,←g2]
      ·rfl
     have DR:w.heap.setIfInBounds (E.m (.s q)) (.map es clock)=w.heap:=by
      apply Array.ext (by simp)
      intro j j1 j2
      by_cases hj:E.m (.s q)=j
      ·subst hj
       rw[Array.getElem_setIfInBounds_self]
       rw[Array.getElem?_eq_getElem j2]at KY;injection KY with KY;exact KY.symm
      ·rw[Array.getElem_setIfInBounds_ne j2 hj]
     refine cV (x:= .tuple #[e.val,.int .i64 e.born]) (w':=w) ?_ ⟨_,_,E',hk e.born,k1,?_⟩
     ·simp only[execOp,he,dZ,hv]
      simp[Instr.mapEntry,Sem.run_bind,eT hu,pD KY,kl.check kv gf,kl.find kv es.toList gf q1,g3,g1,g2,Instr.keyThatStays,kl.same kv gf,MapKept.run_setObj_map _ KY,Result.andThen,ao4,DR,goInt]
     ·exact Cz.gd (E:=E') _ [e.val,.int .i64 e.born] rfl fun j b y eQ hy=>by
       match j,eQ,hy with
       |0,eQ,hy=>simp at eQ hy;subst eQ;subst hy;have k2':Cz E' (.gs r (.l (C.base+d)) ys) (u (i*(ks.length+1)+ks.length)):=k2;rw[f4]at k2';exact k2'
       |1,eQ,hy=>simp at eQ hy;subst eQ;subst hy;exact .v _
       |j+2,eQ,_=>simp at eQ
    ·rw[hI]at h1 h2
     have h1:xs++[kv.map AV.v++[AV.sl C.ρ []]]=zs:=h1
     have h2:xs.length=i:=h2
     subst h1;subst h2;subst h3;subst h4
     have TC:=q3 hm
     obtain⟨u',g1,g2,g3,g4⟩:=map_push h.wf aex gf (av:= .sl C.ρ []) (v:=fC) (.mZ _ _ _) rfl (fun r ys e=>by cases e;exact⟨rfl,rfl⟩) hb none (fun i z hz=>by cases hz)
     have hE:=ir (E:=E) ho hs (.map (es.push {key:=fD kv,val:=fC,born:=clock}) (clock+1))
     have aS:E.m (.s q)<E.h.size:=(Array.getElem?_eq_some_iff.1 hb).1
     have cz: ∀{a0:AV} {x:Value},Cz E a0 x→Cz (E.write (.s q) (.map (es.push {key:=fD kv,val:=fC,born:=clock}) (clock+1))) a0 x:=fun{a0 x} hc=>by
      have:=(hc.ext hE h.wf (fun _=>false) (fb _)).1
      rwa [jW (fun _=>rfl)]at this
     have zn:(E.write (.s q) (.map (es.push {key:=fD kv,val:=fC,born:=clock}) (clock+1))).h[E.m (.s q)]? =some (.map (es.push {key:=fD kv,val:=fC,born:=clock}) (clock+1)):=Array.getElem?_setIfInBounds_self_of_lt aS
     have TD:Fm (E.write (.s q) (.map (es.push {key:=fD kv,val:=fC,born:=clock}) (clock+1))) (.n q) (ks.length+1) none (xs++[kv.map AV.v++[AV.sl C.ρ []]]) u':=g3.mono fun b Gc TG=>by
      have cU:b≠E.m (.s q):=fun e=>by rw[e,ho]at Gc;cases Gc
      refine⟨Gc,?_,fun _=>Iff.rfl,rfl⟩
      show(E.h.setIfInBounds (E.m (.s q)) _)[b]? =_
      rw[Array.getElem?_setIfInBounds_ne (Ne.symm cU)]
     have xU:cf (E.write (.s q) (.map (es.push {key:=fD kv,val:=fC,born:=clock}) (clock+1))) (.s q) (.ow (.mp ks none) none (xs++[kv.map AV.v++[AV.sl C.ρ []]])):=by
      refine⟨hl,ho,hs,fun q a0 ha=>(g2 q a0 ha).1,u',?_,fun q a0 ha=>cz (g2 q a0 ha).2,TD⟩
      show Ez _ (E.len (.s q)) ((E.write (.s q) _).h[E.m (.s q)]?) _ _
      rw[zn];exact g1
     have zi:=h.pq (w':={w with heap:=w.heap.setIfInBounds (E.m (.s q)) (.map (es.push {key:=fD kv,val:=fC,born:=clock}) (clock+1))}) fF xU rfl ⟨rfl,rfl,rfl⟩ ho hs
     have fG:(xs++[kv.map AV.v++[AV.sl C.ρ []]]).flatten[xs.length*(ks.length+1)+ks.length]? =some (.sl C.ρ []):=by
      have hr:=dP (xs:=xs++[kv.map AV.v++[AV.sl C.ρ []]]) (i:=xs.length) (z:=ks.length+1) (cs:=kv.map AV.v++[AV.sl C.ρ []]) (fun l hl=>g1.1 l hl) (by rw[List.getElem?_append_right (Nat.le_refl _),Nat.sub_self];rfl) ks.length (by omega)
      rw[hr,List.getElem?_append_right (by rw[List.length_map];omega),List.length_map,ajv,Nat.sub_self]
      rfl
     obtain⟨E',k1,k2⟩:=Ap zi (bK q _ _) (u:=u') (by show Ez _ _ ((E.write (.s q) _).h[E.m (.s q)]?) _ _;rw[zn];exact g1) (fun q a0 ha=>cz (g2 q a0 ha).2) TD (p':= .mp ks (some (xs.length,(clock:Int)))) fG (.l (C.base+d)) rfl
      (by show Ez _ _ ((E.write (.s q) _).h[E.m (.s q)]?) _ _;rw[zn];exact JK g1 (i:=xs.length) (e:={key:=fD kv,val:=fC,born:=clock}) (by rw[←DY];simp))
     obtain⟨ii,dd,zz,i1,i2,i3,i4,i5,i6,i7⟩:=(hL.ok _ _ Kj).ex
     have hzv:zz=fC:=by
      rw[PD]at i5
      cases zz<;>first|(simp[Value.cells]at i5;exact i5)|skip
      exfalso
      have so:ti.agg=false:=by unfold TI.agg;rw[kE]
      have:=(hL.ok _ _ Kj).zv so ii _ i1 i4
      cases this
     have hzr:(zeroValue et).run P w= .ok fC w:=by
      unfold zeroValue
      simp[Sem.run_bind,typeInfo,program,Sem.run,Result.andThen,i1,i4,hzv]
     refine cV (x:= .tuple #[fC,.int .i64 clock]) (w':={w with heap:=w.heap.setIfInBounds (E.m (.s q)) (.map (es.push {key:=fD kv,val:=fC,born:=clock}) (clock+1))}) ?_ ⟨_,_,E',hk clock,?_,?_⟩
     ·simp only[execOp,he,dZ,hv]
      simp[Instr.mapEntry,Sem.run_bind,eT hu,pD KY,kl.check kv gf,kl.find kv es.toList gf q1,TC,hzr,MapKept.run_setObj_map _ KY,Result.andThen,goInt]
     ·have e:cX q (Ob.ow (.mp ks (some (xs.length,(clock:Int)))) (some (xs.length,ks.length)) (xs++[kv.map AV.v++[AV.sl C.ρ []]])) (eY (bf (.n q)) (cX q (Ob.ow (.mp ks none) none (xs++[kv.map AV.v++[AV.sl C.ρ []]])) s.b))=cX q (Ob.ow (.mp ks (some (xs.length,(clock:Int)))) (some (xs.length,ks.length)) (xs++[kv.map AV.v++[AV.sl C.ρ []]])) (eY (bf (.n q)) s.b):=by
       rw[Jb,No]
      have k1':=k1
      rw[e]at k1'
      exact k1'
     ·exact Cz.gd (E:=E') _ [fC,.int .i64 clock] rfl fun j b y eQ hy=>by
       match j,eQ,hy with
       |0,eQ,hy=>simp at eQ hy;subst eQ;subst hy;have k2':Cz E' (.gs C.ρ (.l (C.base+d)) []) (u' (xs.length*(ks.length+1)+ks.length)):=k2;rw[g4]at k2';exact k2'
       |1,eQ,hy=>simp at eQ hy;subst eQ;subst hy;exact .v _
       |j+2,eQ,_=>simp at eQ
  ·exact hk.elim
 ·exact hk.elim
theorem H5{es:Array MapEntry}{i:Nat}{e:MapEntry}(he:es[i]? =some e)(sk: ∀(i j:Nat) (e e':MapEntry),es[i]? =some e→es[j]? =some e'→e.born=e'.born→i=j):es.findIdx? (fun x=>(x.born:Int)==(e.born:Int))=some i:=by
 have aS:=(Array.getElem?_eq_some_iff.1 he).1
 have hei:es[i]=e:=by rw[Array.getElem?_eq_getElem aS]at he;injection he
 rw[Array.findIdx?_eq_some_iff_getElem]
 refine⟨aS,by rw[hei];simp,fun j hj=>?_⟩
 have hj':j<es.size:=by omega
 intro hh
 have hb:es[j].born=e.born:=by
  have:((es[j].born:Nat):Int)=(e.born:Int):=by simpa using hh
  omega
 have:=sk j i es[j] e (by simp[hj']) he hb
 omega
theorem zV(hI:C.I=an)(h:bn E0 E w0 w s a){o:Oper}{t:Nat}{m st v:Operand}(he:o.op= .entryStore t m st v){K:bd}{Q:Exit→Act→World→Prop}(hk:xt C (bM s [] m) (bM s [] st) (bM s [] v) s K):kU P o a w (fH E0 w0 o a K) Q:=by
 unfold xt at hk
 split at hk
 ·rename_i d z r tk ys XD hs0 hv0
  split at hk
  ·rename_i ks i z' j off xs fF
   obtain⟨N1,e0,zs,⟨e1,e2,cs,e3,e5⟩,hk⟩:=hk
   subst e0;subst e1;subst e2
   rw[hI]at e5
   have e5:xs.set i (bE cs ks.length [.sl r ys])=zs:=e5
   subst e5
   have hx:=h.ev (p:=[]) trivial m
   rw[XD]at hx
   cases dZ:a.eval m<;>rw[dZ]at hx<;>cases hx
   have fP:=h.ev (p:=[]) trivial st
   rw[hs0]at fP
   have aoG:a.eval st= .int .i64 z:=by
    generalize a.eval st=sv at fP
    cases fP;rfl
   have hy:=h.ev (p:=[]) trivial v
   rw[hv0]at hy
   generalize hav:a.eval v=y at hy
   obtain⟨hl,ho,hs,lG,u,⟨N2,es,clock,hb,aoE,DY,XN,sk,mh⟩,hq,tU⟩:=h.bx d _ fF
   obtain⟨e,he1,he2⟩:=aoE i z rfl
   have fG:=aE N2
   have BZ:i<xs.length:=(List.getElem?_eq_some_iff.1 e3).1
   have D0:cs.length=ks.length+1:=N2 cs (List.mem_of_getElem? e3)
   have hmul:i*(ks.length+1)+(ks.length+1)≤xs.length*(ks.length+1):=by rw[←Nat.succ_mul];exact Nat.mul_le_mul_right _ BZ
   have Tu:tk≠ .n d:=fun e=>by subst e;cases N1
   have h1:=h.db tk (.n d) N1
   have zh:=hy.db (t':= .n d) h.wf
   have MG:look d (eY (bf tk) s.b)=some (.ow (.mp ks (some (i,z))) (some (i,ks.length)) xs):=by rw[cA,fF];rfl
   have ho1:(E.db tk (.n d)).own ((E.db tk (.n d)).m (.s d))= .key (.s d):=(rM (by rw[show(E.db tk (.n d)).m (.s d)=E.m (.s d)from rfl,ho];simp)).trans ho
   have hE:=ir (E:=E.db tk (.n d)) ho1 hs (.map (es.modify i fun e=>{e with val:=y}) clock)
   have cz1: ∀{a:AV} {x:Value},cq a=true→Cz E a x→Cz (E.db tk (.n d)) a x:=fun{a x} hi hc=>(hc.ext (rN tk (.n d)) h.wf (bf tk) (fun q' wq=>(kW _ _).2 (by cases wq;rfl))).2 hi
   have cz2: ∀{a:AV} {x:Value},Cz (E.db tk (.n d)) a x→Cz ((E.db tk (.n d)).write (.s d) (.map (es.modify i fun e=>{e with val:=y}) clock)) a x:=fun{a x} hc=>by
    have:=(hc.ext hE h1.wf (fun _=>false) (fb _)).1
    rwa [jW (fun _=>rfl)]at this
   have hxl: ∀l∈xs.set i (bE cs ks.length [.sl r ys]),l.length=ks.length+1:=fun l qJ=>by
    rcases List.mem_or_eq_of_mem_set qJ with h1|h1
    ·exact N2 l h1
    ·rw[h1,ka (by simp;omega)];exact D0
   have DR:(xs.set i (bE cs ks.length [.sl r ys])).flatten=bE xs.flatten (i*(ks.length+1)+ks.length) [.sl r ys]:=qK N2 e3 (by simp)
   have wJ: ∀q',(xs.set i (bE cs ks.length [.sl r ys])).flatten[q']? =if q'=i*(ks.length+1)+ks.length then some (.sl r ys)else xs.flatten[q']? :=fun q'=>by
    rw[DR];exact C3 (by omega) q'
   have zn:E.m (.s d)<E.h.size:=(Array.getElem?_eq_some_iff.1 hb).1
   have TE: ∀k:Nat,(es.modify i fun e=>{e with val:=y})[k]? =(es[k]?).map fun e=>if i=k then{e with val:=y}else e:=fun k=>by
    rw[Array.getElem?_modify]
    by_cases TP:i=k
    ·rw[if_pos TP];simp[TP]
    ·rw[if_neg TP];simp[TP]
   have td:cf ((E.db tk (.n d)).write (.s d) (.map (es.modify i fun e=>{e with val:=y}) clock)) (.s d) (.ow (.mp ks none) none (xs.set i (bE cs ks.length [.sl r ys]))):=by
    refine⟨hl,ho1,hs,fun q' a' ha=>?_,fun q'=>if q'=i*(ks.length+1)+ks.length then y else u q',⟨hxl,es.modify i fun e=>{e with val:=y},clock,?_,(fun i z hz=>by cases hz),?_,fun k e' jS=>?_,fun k k' e' e'' jS TM tf=>?_,fun k row e' zT jS=>?_⟩,fun q' a' ha=>?_,?_⟩
    ·rw[wJ]at ha
     split at ha
     ·cases ha;rfl
     ·exact lG q' a' ha
    ·have:(E.db tk (.n d)).m (.s d)=E.m (.s d):=rfl
     simp only[Env.write]
     rw[this]
     exact Array.getElem?_setIfInBounds_self_of_lt zn
    ·rw[Array.size_modify,List.length_set];exact DY
    ·rw[TE]at jS
     cases Qj:es[k]? with
     |none=>rw[Qj]at jS;cases jS
     |some x=>rw[Qj]at jS;cases jS;have:=XN k x Qj;split<;>exact this
    ·rw[TE]at jS TM
     cases Qj:es[k]? with
     |none=>rw[Qj]at jS;cases jS
     |some x=>
      cases aeR:es[k']? with
      |none=>rw[aeR]at TM;cases TM
      |some x'=>
       rw[Qj]at jS;rw[aeR]at TM
       cases jS;cases TM
       refine sk k k' x x' Qj aeR ?_
       have b1:(if i=k then{x with val:=y}else x:MapEntry).born=x.born:=by split<;>rfl
       have b2:(if i=k' then{x' with val:=y}else x':MapEntry).born=x'.born:=by split<;>rfl
       rw[←b1,←b2];exact tf
    ·rw[TE]at jS
     cases Qj:es[k]? with
     |none=>rw[Qj]at jS;cases jS
     |some x=>
      rw[Qj]at jS
      cases jS
      rw[List.getElem?_set]at zT
      have ZO: ∀{k1 k2 j1 j2:Nat},k1≠k2→j1≤ks.length→j2≤ks.length→k1*(ks.length+1)+j1≠k2*(ks.length+1)+j2:=by
       intro k1 k2 j1 j2 cU h1 h2 heq
       rcases Nat.lt_or_gt_of_ne cU with aS|aS
       ·have:=Nat.mul_le_mul_right (ks.length+1) aS
        rw[Nat.succ_mul]at this;omega
       ·have:=Nat.mul_le_mul_right (ks.length+1) aS
        rw[Nat.succ_mul]at this;omega
      by_cases TP:i=k
      ·subst TP
       rw[if_pos rfl,if_pos BZ]at zT
       cases zT
       obtain⟨kv,f1,f2,f3,f4,f5⟩:=mh i cs x e3 Qj
       refine⟨kv,f1,?_,by dsimp only;rw[if_pos rfl];exact f3,by dsimp only;rw[if_pos rfl,if_pos rfl],fun j x' hx=>?_⟩
       ·rw[←f2]
        unfold bE
        rw[List.append_assoc,List.take_append_of_le_length (by rw[List.length_take];omega),List.take_take,Nat.min_self]
       ·have hj:=(List.getElem?_eq_some_iff.1 hx).1
        rw[iw f1]at hj
        dsimp only
        rw[if_neg (by omega)];exact f5 j x' hx
      ·rw[if_neg TP]at zT
       obtain⟨kv,f1,f2,f3,f4,f5⟩:=mh k row x zT Qj
       refine⟨kv,f1,f2,by dsimp only;rw[if_neg TP];exact f3,?_,fun j x' hx=>?_⟩
       ·dsimp only
        rw[if_neg (ZO (fun e=>TP e.symm) (Nat.le_refl _) (Nat.le_refl _)),if_neg TP];exact f4
       ·have hj:=(List.getElem?_eq_some_iff.1 hx).1
        rw[iw f1]at hj
        dsimp only
        rw[if_neg (ZO (fun e=>TP e.symm) (by omega) (Nat.le_refl _))];exact f5 j x' hx
    ·rw[wJ]at ha
     dsimp only
     by_cases e:q'=i*(ks.length+1)+ks.length
     ·rw[if_pos e]at ha ⊢;cases ha;exact cz2 zh.read
     ·rw[if_neg e]at ha ⊢;exact cz2 (cz1 (lG q' a' ha) (hq q' a' ha))
    ·refine JG (z:=ks.length+1) (r:=r) (ys:=ys) tU (fun q'=>?_) ?_ (fun b hb aS=>?_) (fun b hbv=>?_)
     ·rw[wJ]
      by_cases e:q'=i*(ks.length+1)+ks.length
      ·rw[if_pos e,if_pos e,if_pos (by omega)]
      ·rw[if_neg e,if_neg e]
     ·exact qA (cz2 zh)
     ·have cU:b≠E.m (.s d):=fun e=>by rw[e,ho]at hb;cases hb
      refine⟨(rM (by rw[hb];intro e;injection e with e;exact Tu e.symm)).trans hb,?_,fun _=>Iff.rfl,rfl⟩
      show(E.h.setIfInBounds (E.m (.s d)) _)[b]? =_
      rw[Array.getElem?_setIfInBounds_ne (Ne.symm cU)]
     ·intro e
      have:=(rL (qA hy) hbv).1
      rw[this]at e;injection e with e;exact Tu e
   have KY:w.heap[E.m (.s d)]? =some (.map es clock):=by rw[h.heap];exact hb
   refine um (w':={w with heap:=w.heap.setIfInBounds (E.m (.s d)) (.map (es.modify i fun e=>{e with val:=y}) clock)}) ?_ ⟨_,_,_,hk,h1.pq MG td rfl ⟨rfl,rfl,rfl⟩ ho1 hs,.any _⟩
   have hfi:=H5 he1 sk
   rw[he2]at hfi
   simp only[execOp,he,dZ,hav,aoG]
   simp[Instr.entryStore,Sem.run_bind,pD KY,asInt,asIntOf,hfi,MapKept.run_setObj_map _ KY,Result.andThen]
  ·exact hk.elim
 ·exact hk.elim
theorem qy{av:AV}{v:Value}{xs:List AV}{ks:List VK}(hc:Cz E av v)(hv:AW av=some xs)(hf:mR ks xs=true): ∃kv:List Value,xs=kv.map .v∧bw ks kv=true∧v= .agg kv.toArray:=by
 obtain⟨kv,h1,h2⟩:=zr hf
 refine⟨kv,h1,h2,?_⟩
 cases av<;>simp only[AW,Option.some.injEq]at hv<;>try(cases hv;done)
 ·subst hv
  cases hc with
  |ar n z xs ys hn hz hl hi hq=>
   have:ys=kv:=GY (E:=E) (by
    have h3:=aE hz
    rw[h1]at h3
    simp at h3
    rw[hl,h3,hn]) (fun q a y ha hy=>hq q a y (by rw[h1];exact ha) hy)
   rw[this]
 ·subst hv
  cases hc with
  |agg cs ys hl hq=>
   subst h1
   have:ys=kv:=GY (E:=E) (by simpa using hl) hq
   rw[this]
theorem OF(hI:C.I=an)(rH: ∀t ks,C.eqs t=some ks→tW P t ks)(h:bn E0 E w0 w s a){o:Oper}{t:Nat}{x y:Operand}{neg:Bool}{ty:Nat}(he:o.op= .binOp (bif neg then .neq else .eql) t x y ty){K:bd}(hk:xEq C p neg t (bM s p x) (bM s p y) s K):Reads P E w a o s p K:=by
 obtain⟨b,Z1,hk⟩:=hk
 rw[hI]at hk
 refine⟨_,hk,fun hp=>?_⟩
 obtain⟨Gb,Qi,xs,ys,BX,zh,hb⟩:=bG Z1 hp
 obtain⟨ks,hks,aeN⟩: ∃ks,C.eqs t=some ks∧mR ks xs=true:=by
  unfold qL at Gb
  cases hk:C.eqs t with
  |none=>rw[hk]at Gb;cases dO:bM s p x<;>rw[dO]at Gb<;>exact Gb.elim
  |some ks=>
   rw[hk]at Gb
   refine⟨ks,rfl,?_⟩
   cases dO:bM s p x<;>rw[dO]at Gb BX<;>simp only[AW,Option.some.injEq]at BX<;>first|exact Gb.elim|(subst BX;exact Gb)|(cases BX)
 have aeM:mR ks ys=true:=by
  unfold qL at Qi
  rw[hks]at Qi
  cases dO:bM s p y<;>rw[dO]at Qi zh<;>simp only[AW,Option.some.injEq]at zh<;>first|exact Qi.elim|(subst zh;exact Qi)|(cases zh)
 obtain⟨kv,h1,h2,h3⟩:=qy (h.ev hp x) BX aeN
 obtain⟨zR,h4,h5,h6⟩:=qy (h.ev hp y) zh aeM
 have law:=rH t ks hks
 obtain⟨b',eQ,eP⟩:=law.eq kv zR h2 h5
 have tf:b'=b:=by
  have:b'=true↔b=true:=by
   rw[eQ,hb,h1,h4]
   exact⟨fun e=>by rw[e],Ao⟩
  cases b<;>cases b'<;>simp_all
 subst tf
 cases neg with
 |false=>
  refine⟨.bool b',?_,.v _⟩
  simp only[execOp,he,cond_false,h3,h6]
  simp[Sem.run_bind,run_eqGuard_agg _ _ _ _ _ _ _ law.guard,run_eql_struct,eP,Result.andThen]
 |true=>
  refine⟨.bool (!b'),?_,.v _⟩
  simp only[execOp,he,cond_true,h3,h6]
  simp[Sem.run_bind,run_eqGuard_agg _ _ _ _ _ _ _ law.guard,run_neq_struct,eP,Result.andThen]
theorem Vo(rH: ∀t ks,C.eqs t=some ks→tW P t ks)(h:bn E0 E w0 w s a){o:Oper}{t:Nat}{x y:Operand}{neg:Bool}{ty:Nat}(he:o.op= .binOp (bif neg then .neq else .eql) t x y ty){K:bd}(hk:xEq C p neg t (bM s p x) (bM s p y) s K)(hp:aZ s p){v:Value}
  (hr:(execOp a.eval o).run P w= .ok (.value v) w)(w':World):(execOp a.eval o).run P w'= .ok (.value v) w':=by
 obtain⟨b,Z1,hk⟩:=hk
 obtain⟨Gb,Qi,xs,ys,BX,zh,hb⟩:=bG Z1 hp
 obtain⟨ks,hks,aeN⟩: ∃ks,C.eqs t=some ks∧mR ks xs=true:=by
  unfold qL at Gb
  cases hk:C.eqs t with
  |none=>rw[hk]at Gb;cases dO:bM s p x<;>rw[dO]at Gb<;>exact Gb.elim
  |some ks=>
   rw[hk]at Gb
   refine⟨ks,rfl,?_⟩
   cases dO:bM s p x<;>rw[dO]at Gb BX<;>simp only[AW,Option.some.injEq]at BX<;>first|exact Gb.elim|(subst BX;exact Gb)|(cases BX)
 have aeM:mR ks ys=true:=by
  unfold qL at Qi
  rw[hks]at Qi
  cases dO:bM s p y<;>rw[dO]at Qi zh<;>simp only[AW,Option.some.injEq]at zh<;>first|exact Qi.elim|(subst zh;exact Qi)|(cases zh)
 obtain⟨kv,h1,h2,h3⟩:=qy (h.ev hp x) BX aeN
 obtain⟨zR,h4,h5,h6⟩:=qy (h.ev hp y) zh aeM
 have law:=rH t ks hks
 obtain⟨b',eQ,eP⟩:=law.eq kv zR h2 h5
 have key: ∃v',∀w,(execOp a.eval o).run P w= .ok (.value v') w:=by
  cases neg with
  |false=>
   refine⟨.bool b',fun w=>?_⟩
   simp only[execOp,he,cond_false,h3,h6]
   simp[Sem.run_bind,run_eqGuard_agg _ _ _ _ _ _ _ law.guard,run_eql_struct,eP,Result.andThen]
  |true=>
   refine⟨.bool (!b'),fun w=>?_⟩
   simp only[execOp,he,cond_true,h3,h6]
   simp[Sem.run_bind,run_eqGuard_agg _ _ _ _ _ _ _ law.guard,run_neq_struct,eP,Result.andThen]
 obtain⟨v',hv'⟩:=key
 rw[hv' w]at hr
 cases hr
 exact hv' w'
theorem Mt(hL:bk P L){t:Nat}(h:wm L t=true):P.underlying t=some .bool:=by
 unfold wm at h
 split at h
 ·rename_i ti ta
  split at h
  ·rename_i hk
   obtain⟨i,d,z,_,_,_,_,_,h7,h8⟩:=(hL.ok t ti ta).ex
   rw[hk]at h8
   rw[h7];exact congrArg some h8
  ·cases h
 ·cases h
theorem J1(hL:bk P L){t:Nat}(h:sg L t=true): ∃e,P.underlying t=some (.slice e):=by
 unfold sg at h
 split at h
 ·rename_i ti ta
  split at h
  ·rename_i e hk
   obtain⟨i,d,z,_,_,_,_,_,h7,h8⟩:=(hL.ok t ti ta).ex
   rw[hk]at h8
   exact⟨e,by rw[h7];exact congrArg some h8⟩
  ·cases h
 ·cases h
theorem D3(op:BinOp)(t:Nat)(x y:Operand)(a b:Bool)(w:World):(eqGuard op t x y (.bool a) (.bool b)).run P w= .ok () w:=by
 unfold eqGuard
 split<;>rfl
theorem Bn(op:BinOp)(t:Nat)(x y:Operand)(A B:Option Addr)(n c m k:Nat)(w:World):(eqGuard op t x y (.slice A n c) (.slice B m k)).run P w= .ok () w:=by
 unfold eqGuard
 split<;>rfl
theorem IN(hL:bk P C.L)(h:bn E0 E w0 w s a){o:Oper}{t:Nat}{x y:Operand}{neg:Bool}{ty:Nat}(he:o.op= .binOp (bif neg then .neq else .eql) t x y ty):
  (∀u v,bM s p x= .v (.bool u)→bM s p y= .v (.bool v)→wm C.L t=true→aZ s p→ ∀w',(execOp a.eval o).run P w'= .ok (.value (.bool (bif neg then !(u==v)else u==v))) w')∧
  (∀r xs,bM s p x= .sl r xs→bM s p y= .v (.slice none 0 0)→sg C.L t=true→aZ s p→ ∃b:Bool,(b=true→xs.length=0)∧ ∀w',(execOp a.eval o).run P w'= .ok (.value (.bool (bif neg then !b else b))) w'):=by
 refine⟨fun u v hx hy hb hp w'=>?_,fun r xs hx hy hb hp=>?_⟩
 ·have h1:=h.ev hp x
  have h2:=h.ev hp y
  rw[hx]at h1;rw[hy]at h2
  have e1:a.eval x= .bool u:=by generalize a.eval x=z at h1;cases h1;rfl
  have e2:a.eval y= .bool v:=by generalize a.eval y=z at h2;cases h2;rfl
  have hu:=Mt hL hb
  cases neg with
  |false=>simp only[execOp,he,cond_false,e1,e2];simp[Sem.run_bind,D3,run_eql_bool _ _ _ _ hu,Result.andThen]
  |true=>simp only[execOp,he,cond_true,e1,e2];simp[Sem.run_bind,D3,run_neq_bool _ _ _ _ hu,Result.andThen]
 ·have h1:=h.ev hp x
  have h2:=h.ev hp y
  rw[hx]at h1;rw[hy]at h2
  have e2:a.eval y= .slice none 0 0:=by generalize a.eval y=z at h2;cases h2;rfl
  obtain⟨e,hu⟩:=J1 hL hb
  obtain⟨A,n,c,e1,hA⟩: ∃A n c,a.eval x= .slice A n c∧(A.isNone=true→xs.length=0):=by
   generalize a.eval x=z at h1
   cases h1 with
   |mZ r A c=>exact⟨A,0,c,rfl,fun _=>rfl⟩
   |sl r xs z b o c u hp=>exact⟨_,_,_,rfl,fun hh=>by simp at hh⟩
  refine⟨A.isNone,hA,fun w'=>?_⟩
  have r1:(binOp .eql t (.slice A n c) (.slice none 0 0)).run P w'= .ok (.bool A.isNone) w':=Go.Lib.run_eql_slice_nil w' t e A n c 0 0 hu
  cases neg with
  |false=>simp only[execOp,he,cond_false,e1,e2];simp[Sem.run_bind,Bn,r1,Result.andThen]
  |true=>simp only[execOp,he,cond_true,e1,e2];simp[Sem.run_bind,Bn,run_neq_slice_nil w' t e A n c hu,Result.andThen]
theorem mW(hI:C.I=an)(hL:bk P C.L)(rH: ∀t ks,C.eqs t=some ks→tW P t ks)(h:bn E0 E w0 w s a){o:Oper}{t:Nat}{x y:Operand}{neg:Bool}{ty:Nat}(he:o.op= .binOp (bif neg then .neq else .eql) t x y ty){K:bd}(hk:OG C p neg t (bM s p x) (bM s p y) s K):Reads P E w a o s p K:=by
 obtain⟨r1,r2⟩:=IN (p:=p) hL h he
 unfold OG at hk
 split at hk
 ·rename_i u v hx hy
  cases hb:wm C.L t with
  |false=>rw[hb]at hk;exact hk.elim
  |true=>
   rw[hb,cond_true,hI]at hk
   refine⟨_,hk,fun hp=>⟨_,r1 u v hx hy hb hp w,?_⟩⟩
   cases neg<;>exact .v _
 ·rename_i r xs hx hy
  cases hb:sg C.L t with
  |false=>rw[hb]at hk;exact hk.elim
  |true=>
   rw[hb,cond_true]at hk
   by_cases hp:aZ s p
   ·obtain⟨b,yn,B4⟩:=r2 r xs hx hy hb hp
    have hu:under s p (b=true→C.I.fp xs=0):=by
     unfold under
     rw[hI]
     split
     ·exact yn
     ·exact fun _=>yn
    refine⟨_,hk b hu,fun _=>⟨_,B4 w,?_⟩⟩
    rw[hI]
    cases neg<;>exact .v _
   ·have hu:under s p (false=true→C.I.fp xs=0):=by
     unfold under
     split
     ·exact fun e=>by cases e
     ·exact fun _ e=>by cases e
    exact⟨_,hk false hu,fun XA=>absurd XA hp⟩
 ·exact OF hI rH h he hk
theorem IP(hL:bk P C.L)(rH: ∀t ks,C.eqs t=some ks→tW P t ks)(h:bn E0 E w0 w s a){o:Oper}{t:Nat}{x y:Operand}{neg:Bool}{ty:Nat}(he:o.op= .binOp (bif neg then .neq else .eql) t x y ty){K:bd}(hk:OG C p neg t (bM s p x) (bM s p y) s K)(hp:aZ s p){v:Value}
  (hr:(execOp a.eval o).run P w= .ok (.value v) w)(w':World):(execOp a.eval o).run P w'= .ok (.value v) w':=by
 obtain⟨r1,r2⟩:=IN (p:=p) hL h he
 unfold OG at hk
 split at hk
 ·rename_i u v' hx hy
  cases hb:wm C.L t with
  |false=>rw[hb]at hk;exact hk.elim
  |true=>
   rw[r1 u v' hx hy hb hp w]at hr
   cases hr
   exact r1 u v' hx hy hb hp w'
 ·rename_i r xs hx hy
  cases hb:sg C.L t with
  |false=>rw[hb]at hk;exact hk.elim
  |true=>
   obtain⟨b,yn,B4⟩:=r2 r xs hx hy hb hp
   rw[B4 w]at hr
   cases hr
   exact B4 w'
 ·exact Vo rH h he hk hp hr w'
structure Ok(P:Program)(C:dK):Prop where
 lay:bk P C.L
 an:C.I=Ab.an
 call:AP P C
 inl:BF P C
 At:BF P {C with inl:=C.At}
 yl:P3 P C.yl
 cl: ∀k,C.cl k=true→C.sj k=false
 keys: ∀t ks,C.keys t=some ks→KeyLaw P t ks
 eqs: ∀t ks,C.eqs t=some ks→tW P t ks
theorem lS{o:Oper}{K:bd}{Q:Exit→Act→World→Prop}(h:bn E0 E w0 w s a)(hp:aZ s p)(k:Reads P E w a o s p K):kU P o a w (fH E0 w0 o a K) Q:=by
 obtain⟨r,hk,hx⟩:=k
 obtain⟨x,hr,hc⟩:=hx hp
 exact cV hr ⟨r,s,E,hk,h,hc⟩
theorem Aq(ok:Ok P C)(h:bn E0 E w0 w s a){o:Oper}{K:bd}{c:Call}(he:o.op= .call c)(hc:c.callee= .builtin .len)
  (hk:match Jz C.I C.L .len c.argTypes.toList (c.args.toList.map (bM s p))with|some (.v (.int k m))=> ∃z,m=z∧K (.v (.int k z)) s|_=>False):Reads P E w a o s p K:=by
 split at hk
 ·rename_i k m hp
  obtain⟨z,rfl,hk⟩:=hk
  refine⟨_,hk,fun wu=>?_⟩
  rw[ok.an]at hp
  exact sP ok.lay h wu (by rw[he];exact JQ hc hp)
 ·exact hk.elim
theorem yX{cl:Nat→Bool}{o:Oper}{K:Act→World→Prop}{Q:Exit→Act→World→Prop}(hn:lA cl o.op=false)(h:kU P o a w K Q):kU P o a w (fun a' w'=>K a' w'∧(lA cl o.op=true→bY w w')) Q:=
 kU.mono (fun _ _ hh=>⟨hh,fun hc=>by rw[hn]at hc;cases hc⟩) h
theorem SY{d:Option Nat}{f:AV}{args:List AV}{K:bd}(hp:p≠[])(h:Zv (noI C d) p f args s K):Zv C p f args s K:=by
 unfold noI at h
 cases fG:zq C 4000 d with
 |false=>rw[fG]at h;exact h
 |true=>
  rw[fG]at h
  match p,hp with
  |x::q,_=>exact h
theorem OJ(ok:Ok P C)(h:bn E0 E w0 w s a){o:Oper}{K:bd}{Q:Exit→Act→World→Prop}(hk:U0 C [] o s K):kU P o a w (fun a' w'=>fH E0 w0 o a K a' w'∧(lA C.cl o.op=true→bY w w')) Q:=by
 by_cases bX: ∃c f,o.op= .call c∧c.callee= .value f
 ·obtain⟨c,f,he,hc⟩:=bX
  unfold U0 at hk
  rw[he]at hk
  dsimp only at hk
  rw[hc]at hk
  unfold noI at hk
  cases fG:zq C 4000 o.dst with
  |false=>rw[fG]at hk;exact v3 (p:=[]) ok.cl ok.call ok.inl ok.yl h trivial he hc hk
  |true=>rw[fG]at hk;exact v3 (p:=[]) (C:={C with sj:=fun _=>false}) (fun _ _=>rfl) ok.call ok.inl ok.yl h trivial he hc hk
 refine yX ?_ ?_
 ·unfold lA
  split
  ·rename_i c he
   split
   ·rename_i k hc;exact absurd ⟨c,_,he,hc⟩ bX
   ·rfl
  ·rfl
 unfold U0 at hk
 split at hk
 ·rename_i t he
  split at hk
  ·exact CJ ok.lay h he hk
  ·exact hk.elim
 ·rename_i t m k v he
  exact EL ok.lay ok.an ok.keys h he hk
 ·rename_i t m k he
  exact lS (p:=[]) h trivial (wP ok.lay ok.keys h he hk)
 ·rename_i t m k he
  split at hk
  ·exact GJ ok.lay ok.an ok.keys h he hk
  ·exact hk.elim
 ·rename_i t m st v he
  exact zV ok.an h he hk
 ·rename_i t x y ty he
  exact lS (p:=[]) h trivial (mW (neg:=false) ok.an ok.lay ok.eqs h he hk)
 ·rename_i t x y ty he
  exact lS (p:=[]) h trivial (mW (neg:=true) ok.an ok.lay ok.eqs h he hk)
 ·rename_i c x y he
  exact lS (p:=[]) h trivial (uo ok.an h he hk)
 ·rename_i e x he
  split at hk
  ·rename_i d _ hd _
   exact K9 h he hk
  ·exact hk.elim
 ·rename_i e he
  split at hk
  ·exact GX ok.lay ok.an h he hk
  ·exact hk.elim
 ·rename_i t x y he
  have hk:GA C t (bM s [] x) (bM s [] y) s K:=hk
  have hk:(∃d i off z r tk ys ti,bM s [] x= .cQ (.s d) i off z∧bM s [] y= .gs r tk ys∧C.L t=some ti∧ti.size=1∧Ni C d i off z r tk ys s K)∨GF C t (bM s [] x) (bM s [] y) s K:=by
   unfold GA at hk
   split at hk
   ·rename_i d i off z r tk ys e1 e2
    cases hio:aef (look d s.b)with
    |false=>rw[hio,cond_false]at hk;right;exact hk
    |true=>
     rw[hio,cond_true]at hk
     split at hk
     ·rename_i ti ta;exact .inl ⟨d,i,off,z,r,tk,ys,ti,e1,e2,ta,hk.1,hk.2⟩
     ·exact hk.elim
   ·exact .inr hk
  rcases hk with⟨d,i,off,z,r,tk,ys,ti,e1,e2,ta,hz1,hk⟩|hk
  ·exact IS ok.lay ok.an h he e1 e2 ta hz1 hk
  unfold GF at hk
  split at hk
  ·rename_i n z ys dO
   exact CH ok.lay ok.an h he dO hk
  ·exact GR ok.lay ok.an h he (K5 hk)
 ·rename_i t x he
  cases fG:zq C 2000 o.dst with
  |false=>rw[fG]at hk;exact lS (p:=[]) h trivial (qv ok.lay ok.an h he hk)
  |true=>
   rw[fG,cond_true]at hk
   split at hk
   ·obtain⟨r,s',E1,k1,k2,k3,k4⟩:=AT ok.lay h he hk
    obtain⟨x,BX,IC⟩:=k4 trivial
    exact cV BX ⟨r,s',E1,k1,k2,IC⟩
   ·exact hk.elim
 ·rename_i t x y he
  split at hk
  ·rename_i n hn
   exact lS (p:=[]) h trivial (xq ok.lay ok.an h he hn hk)
  ·exact hk.elim
 ·rename_i t x y he
  split at hk
  ·rename_i n hn
   exact lS (p:=[]) h trivial (sG ok.lay h he hn hk)
  ·exact hk.elim
 ·rename_i t len parts he
  split at hk
  ·rename_i d hd
   cases fG:My (d+3000) C.op with
   |true=>rw[fG,cond_true]at hk;exact EM ok.lay h he hk
   |false=>
   rw[fG,cond_false]at hk
   obtain⟨r,s',E1,E2,w2,⟨r',zT,k1⟩,k2,k3,k4,k5⟩:=qw ok.lay h he (tJ hk)
   obtain⟨x,BX,IC⟩:=k5 trivial
   exact cV BX ⟨r',s',E2,k1,k4,zT _ _ IC⟩
  ·exact hk.elim
 ·rename_i f first cap he
  split at hk
  ·rename_i hf
   obtain⟨r,s',E1,k1,k2,k3,k4⟩:=AU h he hf hk
   obtain⟨x,BX,IC⟩:=k4 trivial
   exact cV BX ⟨r,s',E1,k1,k2,IC⟩
  ·split at hk
   ·rename_i hc
    cases hi:ca (first.toList.map fun x=>rd (bM s [] x))with
    |false=>rw[hi]at hk;exact hk.elim
    |true=>
    rw[hi,cond_true]at hk
    obtain⟨r,s',E1,k1,k2,k3,k4⟩:=Fz h he hc hi hk
    obtain⟨x,BX,IC⟩:=k4 trivial
    exact cV BX ⟨r,s',E1,k1,k2,IC⟩
   ·exact hk.elim
 ·rename_i t x y he
  split at hk
  ·rename_i d n m hd _ hn hm
   exact IZ ok.lay ok.an h he hn hm (OE ok.an hk)
  ·exact hk.elim
 ·rename_i t x lo hi mx he
  split at hk
  ·exact lS (p:=[]) h trivial (yt ok.lay ok.an h he hk)
  ·exact hk.elim
 ·rename_i c he
  split at hk
  ·rename_i f hc
   exact absurd ⟨c,f,he,hc⟩ bX
  ·rename_i b hc
   unfold yu at hk
   split at hk
   ·rename_i d t t' x y h0 hd Qh c5
    cases htt:du t t' with
    |false=>rw[htt]at hk;exact hk.elim
    |true=>
     rw[htt,cond_true]at hk
     have ai3:t=t':=dy htt
     obtain⟨x0,y0,hxy,e1,e2⟩: ∃x0 y0,c.args= #[x0,y0]∧bM s [] x0=x∧bM s [] y0=y:=by
      cases iK:c.args.toList with
      |nil=>rw[iK]at c5;simp at c5
      |cons x0 r=>cases r with
       |nil=>rw[iK]at c5;simp at c5
       |cons y0 r2=>cases r2 with
        |nil=>rw[iK]at c5;simp at c5;exact⟨x0,y0,Array.toList_inj.1 iK,c5.1,c5.2⟩
        |cons _ _=>rw[iK]at c5;simp at c5
     subst e1;subst e2
     cases fG:zq C 1000 (some d)with
     |true=>
      rw[fG,cond_true]at hk
      exact IU ok.lay ok.an h he hc hxy (Array.toList_inj.1 Qh) ai3.symm hk
     |false=>
     rw[fG,cond_false]at hk
     exact EP ok.lay ok.an h he hc hxy (Array.toList_inj.1 Qh) ai3.symm (IT ok.an hk)
   ·rename_i t t' x y wu Qh c5
    obtain⟨x0,y0,hxy,e1,e2⟩: ∃x0 y0,c.args= #[x0,y0]∧bM s [] x0=x∧bM s [] y0=y:=by
     cases iK:c.args.toList with
     |nil=>rw[iK]at c5;simp at c5
     |cons x0 r=>cases r with
      |nil=>rw[iK]at c5;simp at c5
      |cons y0 r2=>cases r2 with
       |nil=>rw[iK]at c5;simp at c5;exact⟨x0,y0,Array.toList_inj.1 iK,c5.1,c5.2⟩
       |cons _ _=>rw[iK]at c5;simp at c5
    subst e1;subst e2
    exact IQ ok.lay ok.an h he hc hxy (Array.toList_inj.1 Qh) hk
   ·exact lS (p:=[]) h trivial (Aq ok h he hc hk)
   ·exact hk.elim
  ·exact hk.elim
 ·exact hk.elim
def OA(P:Program)(cl:Nat→Bool)(E0:Env)(w0 w:World)(a:Act)(o:Oper)(s:St)(p:Path)(K:bd)(Q:Exit→Act→World→Prop):Prop:=
 ∃r s',K r s'∧(∀q,aZ s' q↔aZ s q)∧(aZ s p→kU P o a w (fun a' w'=>fH E0 w0 o a (fun r0 s0=>r0=r∧s0=s') a' w'∧(lA cl o.op=true→bY w w')) Q)∧ ∃E1,bn E0 E1 w0 w s' a
theorem fg{o:Oper}{K:bd}{Q:Exit→Act→World→Prop}(h:bn E0 E w0 w s a)(hn:lA C.cl o.op=false)(k:Reads P E w a o s p K):OA P C.cl E0 w0 w a o s p K Q:=by
 obtain⟨r,hk,hx⟩:=k
 refine⟨r,s,hk,fun _=>Iff.rfl,fun hp=>yX hn ?_,E,h⟩
 obtain⟨x,hr,hc⟩:=hx hp
 exact cV hr ⟨r,s,E,⟨rfl,rfl⟩,h,hc⟩
theorem OK(ok:Ok P C)(h:bn E0 E w0 w s a){o:Oper}{K:bd}{Q:Exit→Act→World→Prop}(ud:p≠[])(hk:U0 C p o s K):OA P C.cl E0 w0 w a o s p K Q:=by
 unfold U0 at hk
 split at hk
 ·split at hk
  ·exact absurd rfl ud
  ·exact hk.elim
 ·split at hk
  ·exact absurd rfl ud
  ·exact hk.elim
 ·rename_i t m k he
  exact fg h (by rw[he];rfl) (wP ok.lay ok.keys h he hk)
 ·split at hk
  ·exact absurd rfl ud
  ·exact hk.elim
 ·split at hk
  ·exact absurd rfl ud
  ·exact hk.elim
 ·rename_i t x y ty he
  exact fg h (by rw[he];rfl) (mW (neg:=false) ok.an ok.lay ok.eqs h he hk)
 ·rename_i t x y ty he
  exact fg h (by rw[he];rfl) (mW (neg:=true) ok.an ok.lay ok.eqs h he hk)
 ·rename_i c x y he
  exact fg h (by rw[he];first|rfl|(simp[lA,hc])) (uo ok.an h he hk)
 ·rename_i e x he
  split at hk
  ·exact absurd rfl ud
  ·exact hk.elim
 ·rename_i e he
  split at hk
  ·exact absurd rfl ud
  ·exact hk.elim
 ·rename_i t x y he
  split at hk
  ·exact absurd rfl ud
  ·exact hk.elim
 ·rename_i t x he
  cases fG:zq C 2000 o.dst with
  |false=>rw[fG]at hk;exact fg h (by rw[he];first|rfl|(simp[lA,hc])) (qv ok.lay ok.an h he hk)
  |true=>
   rw[fG,cond_true]at hk
   split at hk
   ·exact absurd rfl ud
   ·exact hk.elim
 ·rename_i t x y he
  split at hk
  ·rename_i n hn
   exact fg h (by rw[he];first|rfl|(simp[lA,hc])) (xq ok.lay ok.an h he hn hk)
  ·exact hk.elim
 ·rename_i t x y he
  split at hk
  ·rename_i n hn
   exact fg h (by rw[he];first|rfl|(simp[lA,hc])) (sG ok.lay h he hn hk)
  ·exact hk.elim
 ·rename_i t len parts he
  split at hk
  ·rename_i d hd
   cases fG:My (d+3000) C.op with
   |true=>
    rw[fG,cond_true]at hk
    exfalso
    revert hk
    split
    ·exact fun _=>absurd rfl ud
    ·exact fun hh=>hh
   |false=>
   rw[fG,cond_false]at hk
   obtain⟨r,s',E1,E2,w2,⟨r',zT,k1⟩,k2,k3,k4,k5⟩:=qw ok.lay h he (tJ hk)
   refine⟨r',s',k1,k3,fun hp=>?_,E1,k2⟩
   obtain⟨x,BX,IC⟩:=k5 hp
   refine yX (by rw[he];rfl) ?_
   exact cV BX ⟨r',s',E2,⟨rfl,rfl⟩,k4,zT _ _ IC⟩
  ·exact hk.elim
 ·rename_i f first cap he
  split at hk
  ·rename_i hf
   obtain⟨r,s',E1,k1,k2,k3,k4⟩:=AU h he hf hk
   refine⟨r,s',k1,k3,fun hp=>?_,E1,k2⟩
   obtain⟨x,BX,IC⟩:=k4 hp
   refine yX (by rw[he];rfl) ?_
   exact cV BX ⟨r,s',E1,⟨rfl,rfl⟩,k2,IC⟩
  ·split at hk
   ·rename_i hc
    cases hi:ca (first.toList.map fun x=>rd (bM s p x))with
    |false=>rw[hi]at hk;exact hk.elim
    |true=>
    rw[hi,cond_true]at hk
    obtain⟨r,s',E1,k1,k2,k3,k4⟩:=Fz h he hc hi hk
    refine⟨r,s',k1,k3,fun hp=>?_,E1,k2⟩
    obtain⟨x,BX,IC⟩:=k4 hp
    refine yX (by rw[he];rfl) ?_
    exact cV BX ⟨r,s',E1,⟨rfl,rfl⟩,k2,IC⟩
   ·exact hk.elim
 ·rename_i t x y he
  split at hk
  ·exact absurd rfl ud
  ·exact hk.elim
 ·rename_i t x lo hi mx he
  split at hk
  ·exact fg h (by rw[he];first|rfl|(simp[lA,hc])) (yt ok.lay ok.an h he hk)
  ·exact hk.elim
 ·rename_i c he
  split at hk
  ·rename_i f hc
   have hk:=SY ud hk
   unfold Zv at hk
   split at hk
   ·rename_i k cap dO
    split at hk
    ·exact absurd rfl ud
    ·cases hi:ca ((c.args.toList.map fun x=>rd (bM s p x))++cap)with
     |true=>
      rw[hi,cond_true]at hk
      obtain⟨r,bX,hk⟩:=hk
      refine⟨r,_,hk,fun q=>iv lE,fun hp=>?_,E,h.giveUp lE⟩
      refine v3 ok.cl ok.call ok.inl ok.yl h hp he hc ?_
      unfold Zv
      rw[dO]
      dsimp only
      split
      ·exact absurd rfl ud
      ·rw[hi,cond_true];exact⟨r,bX,rfl,rfl⟩
     |false=>
      rw[hi,cond_false]at hk
      obtain⟨Kd,r,bX,hk⟩:=hk
      refine⟨r,_,hk,fun q=>iv lE,fun hp=>?_,E,h.giveUp lE⟩
      refine v3 ok.cl ok.call ok.inl ok.yl h hp he hc ?_
      unfold Zv
      rw[dO]
      dsimp only
      split
      ·exact absurd rfl ud
      ·rw[hi,cond_false];exact⟨Kd,r,bX,rfl,rfl⟩
   ·split at hk
    ·exact absurd rfl ud
    ·exact hk.elim
   ·split at hk
    ·exact absurd rfl ud
    ·exact hk.elim
   ·exact hk.elim
  ·rename_i hc
   unfold yu at hk
   split at hk
   ·exact absurd rfl ud
   ·exact absurd rfl ud
   ·exact fg h (by rw[he];first|rfl|(simp[lA,hc])) (Aq ok h he hc hk)
   ·exact hk.elim
  ·exact hk.elim
 ·exact hk.elim
theorem HV(d e:Nat)(b:Bool): ∀q:Path,HW d (q++[(e,b)])=(HW d q||du e d)
 |[]=>by simp[HW]
 |(k,w)::r=>by simp only[List.cons_append,HW,HV d e b r,Bool.or_assoc]
theorem Ga{d e:Nat}(h:PA d s.c=false):HW d (ed s e)=false:=by
 unfold ed
 cases hl:look e s.c with
 |none=>rfl
 |some q=>
  dsimp only
  by_cases hh:HW d q=true
  ·rw[zf hl hh]at h;cases h
  ·simpa using hh
theorem FV(d:Nat)(b:Bool): ∀q:Path,aZ s (q++[(d,b)])↔aZ s q∧isB b (look d s.t)
 |[]=>by simp[aZ]
 |(k,w)::r=>by simp only[List.cons_append,aZ,FV d b r,and_assoc]
def BH(E0:Env)(w0:World)(K:St→Prop)(a:Act)(w:World):Prop:= ∃s E,K s∧bn E0 E w0 w s a
theorem zp(h:bn E0 E w0 w s a){ops:Array Oper}{o og:Oper}{j d:Nat}{b:Bool}(hg:o.guard=some (j,b))(hj:ops[j]? =some og)(hd:og.dst=some d)(hb:isBool (look d s.t)=true):
  Region.wanted o (yielded ops a.tmps)=true↔aZ s (ed s d++[(d,b)]):=by
 have hy:yielded ops a.tmps j=match a.tmps[d]? with|some (.bool x)=>some x|_=>none:=by
  simp only[yielded,hj,hd,Option.bind_some]
  rfl
 obtain⟨g,hgl⟩: ∃g,look d s.t=some (.v (.bool g)):=by
  unfold isBool at hb
  split at hb
  ·rename_i g hh;exact⟨g,hh⟩
  ·cases hb
 rw[FV,hgl]
 simp only[Region.wanted,hg,hy]
 by_cases hp:aZ s (ed s d)
 ·have hc:=bH (h.tm d _ hgl hp)
  have hq:a.tmps[d]? =some (.bool g):=by
   rw[Array.getD_eq_getD_getElem?]at hc
   cases hh:a.tmps[d]? with
   |none=>rw[hh]at hc;simp[undef]at hc
   |some z=>rw[hh]at hc;simp at hc;rw[hc]
  rw[hq]
  simp only[isB,hp,true_and]
  simp
 ·have hu:a.tmps.getD d undef=undef:=by
   unfold ed at hp
   cases hl:look d s.c with
   |none=>rw[hl]at hp;exact absurd trivial hp
   |some q=>rw[hl]at hp;exact h.cu d q hl hp
  have hq:(match a.tmps[d]? with|some (.bool x)=>some x|_=>none)=(none:Option Bool):=by
   rw[Array.getD_eq_getD_getElem?]at hu
   cases hh:a.tmps[d]? with
   |none=>rfl
   |some z=>rw[hh]at hu;simp at hu;subst hu;rfl
  rw[hq]
  constructor
  ·intro hh;simp at hh
  ·intro hh;exact absurd hh.1 hp
theorem CR(ok:Ok P C){ops:Array Oper}{Q:Exit→Act→World→Prop}{K:St→Prop}{o:Oper}(h:bn E0 E w0 w s a)(hk:GP C ops.toList o s K):
  if Region.wanted o (yielded ops a.tmps)then kU P o a w (fun a' w'=>BH E0 w0 K a' w'∧(lA C.cl o.op=true→bY w w')) Q else BH E0 w0 K (a.put o.dst undef) w:=by
  unfold GP at hk
  cases hg:o.guard with
  |none=>
   rw[hg]at hk
   dsimp only at hk
   rw[if_pos (by simp[Region.wanted,hg])]
   cases hp:Bc C.I C.L s [] o.op with
   |some r=>
    rw[hp]at hk
    dsimp only at hk
    rw[ok.an]at hp
    replace hp:=sQ hp
    obtain⟨x,hr,hc⟩:=sP ok.lay h (p:=[]) trivial hp
    unfold kU
    rw[hr]
    exact⟨⟨_,_,hk.2,h.put hk.1 (fun _ _=>rfl) (.inl ⟨trivial,hc⟩)⟩,fun _=>bY.refl w⟩
   |none=>
    rw[hp]at hk
    dsimp only at hk
    refine kU.mono (fun a' w' hn=>?_) (OJ (Q:=Q) ok h hk)
    obtain⟨⟨x,rfl,r,s',E',⟨hd,jS⟩,hs,hc⟩,Ki⟩:=hn
    exact⟨⟨_,_,jS,hs.put hd (fun _ _=>rfl) (.inl ⟨trivial,hc⟩)⟩,Ki⟩
  |some jb=>
   obtain⟨j,b⟩:=jb
   rw[hg]at hk
   dsimp only at hk
   cases hj:ops.toList[j]? with
   |none=>rw[hj]at hk;exact hk.elim
   |some og=>
    rw[hj]at hk
    dsimp only at hk
    cases hd:og.dst with
    |none=>rw[hd]at hk;exact hk.elim
    |some d=>
     rw[hd]at hk
     dsimp only at hk
     cases hb:(vL s o.dst&&(isBool (look d s.t)&&Kt o.dst d))with
     |false=>rw[hb]at hk;exact hk.elim
     |true=>
      rw[hb,cond_true]at hk
      simp only[Bool.and_eq_true]at hb
      obtain⟨Gc,yn,B4⟩:=hb
      have hw:=zp h hg (by rw[←Array.getElem?_toList];exact hj) hd yn
      have vf: ∀d',o.dst=some d'→HW d' (ed s d++[(d,b)])=false:=by
       intro d' rI
       rw[rI]at Gc B4
       simp only[vL,Bool.and_eq_true,Bool.not_eq_true']at Gc
       rw[HV,Ga Gc.2]
       have cU: ¬d'=d:=fun e=>by subst e;simp[Kt]at B4
       rw[xJ (fun e=>cU e.symm)];rfl
      cases hp:Bc C.I C.L s (ed s d++[(d,b)]) o.op with
      |some r=>
       rw[hp]at hk
       dsimp only at hk
       rw[ok.an]at hp
       replace hp:=sQ hp
       by_cases wu:aZ s (ed s d++[(d,b)])
       ·rw[if_pos (hw.2 wu)]
        obtain⟨x,hr,hc⟩:=sP ok.lay h wu hp
        unfold kU
        rw[hr]
        exact⟨⟨_,_,hk.2,h.put hk.1 vf (.inl ⟨wu,hc⟩)⟩,fun _=>bY.refl w⟩
       ·rw[if_neg (fun hh=>wu (hw.1 hh))]
        exact⟨_,_,hk.2,h.put hk.1 vf (.inr ⟨wu,rfl⟩)⟩
      |none=>
       rw[hp]at hk
       dsimp only at hk
       obtain⟨r,s',⟨ou,jS⟩,hpi,eP,E1,ai9⟩:=OK (Q:=Q) ok h (by simp) hk
       by_cases wu:aZ s (ed s d++[(d,b)])
       ·rw[if_pos (hw.2 wu)]
        refine kU.mono (fun a' w' hn=>?_) (eP wu)
        obtain⟨⟨x,rfl,r0,s0,E',⟨rfl,rfl⟩,hs,hc⟩,Ki⟩:=hn
        exact⟨⟨_,_,jS,hs.put ou vf (.inl ⟨(hpi _).2 wu,hc⟩)⟩,Ki⟩
       ·rw[if_neg (fun hh=>wu (hw.1 hh))]
        exact⟨_,_,jS,ai9.put ou vf (.inr ⟨fun hh=>wu ((hpi _).1 hh),rfl⟩)⟩
abbrev WF(ro:Option Nat):Fence:={fn:=fun _=>True,depth:=none,alive:=false,round:=ro}
theorem kU.wpIn{o:Oper}{K:Act→World→Prop}{Q:Exit→Act→World→Prop}(ro:Option Nat)(h:kU P o a w K Q):o.wpIn (WF ro) 0 P a w K Q:=by
 have hnd: ∀c,o.op≠ .defer c:=fun c hc=>by
  unfold kU at h
  simp only[execOp,hc,Sem.run_bind]at h
  cases hr:(resolve a.eval c o.type).run P w with
  |ok d w'=>rw[hr]at h;exact h
  |halt x w'=>rw[hr]at h;exact h
 refine⟨fun _ _=>trivial,?_⟩
 show o.uponIn _ _ _ _ _ _ ((o.semAt ro a.eval).run P w)
 rw[Oper.semAt_eq _ _ _ hnd]
 unfold kU at h
 generalize (execOp a.eval o).run P w=r at*
 cases r with
 |ok n w'=>
  cases n<;>simp only[CT]at h
  case value=>exact h
  case skip=>exact h
  case enter f args=>
   refine⟨fun hd=>(by cases hd),(callsIn_wide (n:=0)).2 (Calls.mono h ?_)⟩
   rintro e QP ⟨x,rfl,e2⟩
   exact e2
  case round l f tmps nq body=>
   refine⟨fun hd=>(by cases hd),RoundIn.mono (F:=WF ro) h ?_⟩
   rintro e QP ⟨x,rfl,e2⟩
   exact e2
 |halt x w'=>simp only[CT]at h
theorem CP(ok:Ok P C)(ro:Option Nat){ops:Array Oper}{Q:Exit→Act→World→Prop}{K:St→Prop}(hQ: ∀a w,BH E0 w0 K a w→Q .normal a w):
  ∀{rest:List Oper} {s:St} {E:Env} {a:Act} {w:World},bn E0 E w0 w s a→QJ C ops.toList rest s K→wpListIn (WF ro) 0 P ops Q rest a w
 |[],s,E,a,w,h,hk=>hQ a w ⟨s,E,hk,h⟩
 |o::rest,s,E,a,w,h,hk=>by
  unfold QJ at hk
  have hn: ∀a w,BH E0 w0 (fun s'=>QJ C ops.toList rest s' K) a w→wpListIn (WF ro) 0 P ops Q rest a w:=fun a w ⟨s',E',jS,hs⟩=>CP ok ro hQ hs jS
  have h1:=CR (Q:=Q) ok h hk
  unfold wpListIn
  by_cases hw:Region.wanted o (yielded ops a.tmps)=true
  ·rw[if_pos hw]at h1 ⊢
   exact(kU.mono (fun a w hh=>hn a w hh.1) h1).wpIn ro
  ·rw[if_neg hw]at h1 ⊢
   exact⟨fun _ _=>trivial,hn _ _ h1⟩
end Ab
namespace Ab
open Go
variable{P:Program}{L:nv}{E0 E E':Env}{w0 w w':World}{s s':St}{a:Act}{p:Path}{C:dK}
theorem Bi{d:Nat}{x:AV}: ∀{c:List (Nat×Path)} {t:List (Nat×AV)},look d (forget c t)=some x→look d c=none∧look d t=some x
 |[],t,h=>⟨rfl,h⟩
 |(k,q)::r,t,h=>by
  simp only[forget]at h
  obtain⟨h1,h2⟩:=Bi h
  rw[ij]at h2
  by_cases hk:k=d
  ·rw[if_pos hk]at h2;cases h2
  ·rw[if_neg hk]at h2;exact⟨by rw[aC,if_neg hk];exact h1,h2⟩
theorem bn.clean(h:bn E0 E w0 w s a):bn E0 E w0 w s.clean a:=by
 refine⟨h.heap,h.wf,h.IG,h.up,h.sz,fun d x hd _=>?_,fun d q hd=>?_,h.bx,h.lv,h.gx,h.gl,h.ext,h.xc,h.same,h.gk,h.nl,h.ng,h.lo⟩
 ·obtain⟨h1,h2⟩:=Bi hd
  exact h.tm d x h2 (by unfold ed;rw[h1];trivial)
 ·simp[St.clean,look]at hd
theorem DN{d:Nat}{x:AV}: ∀{l:List Nat} {t:List (Nat×AV)},look d (Uh l t)=some x→look d t=some x
 |[],t,h=>h
 |e::r,t,h=>by
  have:=DN (l:=r) (t:=del e t) h
  rw[ij]at this
  split at this
  ·cases this
  ·exact this
theorem bn.Fb(h:bn E0 E w0 w s a)(hc:s.c=[])(l:List Nat):bn E0 E w0 w (s.Fb l) a:=by
 refine⟨h.heap,h.wf,h.IG,h.up,h.sz,fun d x hd _=>?_,fun d q hd=>?_,h.bx,h.lv,h.gx,h.gl,h.ext,h.xc,h.same,h.gk,h.nl,h.ng,h.lo⟩
 ·exact h.tm d x (DN hd) (by unfold ed;rw[hc];trivial)
 ·simp only[St.Fb]at hd;rw[hc]at hd;simp[look]at hd
def Env.only(E:Env)(f:Nat→Prop):Env:=
 {E with live:=fun k=>match k with
  | .s d=>E.live (.s d)∧f d
  | .o i=>E.live (.o i)}
theorem HD(E:Env)(f:Nat→Prop):Tr E (E.only f):=
 ⟨rfl,fun _ _=>Iff.rfl,fun _=>rfl,fun _ h=>⟨h,rfl,rfl⟩,fun _ _ _ h=>h,fun _ _ h=>h⟩
theorem sn{b:List (Nat×Ob)}: ∀{l:List Nat},hasB b l=true→ ∀d∈l,∃ob,look d b=some ob
 |[],_,d,hd=>by simp at hd
 |e::r,h,d,hd=>by
  simp only[hasB,Bool.and_eq_true]at h
  rcases List.mem_cons.1 hd with rfl|hd
  ·cases hh:look d b with
   |none=>rw[hh]at h;simp at h
   |some ob=>exact⟨ob,rfl⟩
  ·exact sn h.2 d hd
theorem zo{b:List (Nat×Ob)}: ∀{l r:List Nat},hasB b (l++r)=true→hasB b l=true∧hasB b r=true
 |[],_,h=>⟨rfl,h⟩
 |e::l,r,h=>by
  simp only[List.cons_append,hasB,Bool.and_eq_true]at h ⊢
  exact⟨⟨h.1,(zo h.2).1⟩,(zo h.2).2⟩
theorem pd{b:List (Nat×Ob)}: ∀{cs:List AV},hasB b (jR cs)=true→ ∀(q:Nat) (a:AV),cs[q]? =some a→hasB b (zc a)=true
 |[],_,q,a,h=>by simp at h
 |x::r,h,q,a,hq=>by
  rw[jR]at h
  cases q with
  |zero=>simp at hq;subst hq;exact(zo h).1
  |succ q=>exact pd (zo h).2 q a (by simpa using hq)
theorem Cz.only{b:List (Nat×Ob)}{f:Nat→Prop}(hf: ∀d ob,look d b=some ob→f d){av:AV}{x:Value}(h:Cz E av x):hasB b (zc av)=true→Cz (E.only f) av x:=by
 have k:=HD E f
 induction h with
 |any x=>exact fun _=> .any _
 |v x=>exact fun _=> .v _
 |mZ r A c=>exact fun _=> .mZ _ _ _
 |sl r xs z b o c u hp hc hm dQ hz hr hi fP hu hq ih=>
  exact fun _=> .sl r xs z b o c u hp hc hm dQ hz hr hi fP hu (fun q a cZ=>k.cq (hq q a cZ) (hi q a cZ))
 |sq r t=>exact fun _=> .sq _ _
 |gs r t xs z b c e cells u hc hm h0 dQ hz hr hb dC ho fP hi hu hq ih=>
  exact fun _=> .gs r t xs z b c e cells u hc hm h0 dQ hz hr hb dC ho fP hi hu (fun q a cZ=>k.cq (hq q a cZ) (hi q a cZ))
 |aP r cs off b o u hr hi fP hu hq ih=>
  exact fun _=> .aP r cs off b o u hr hi fP hu (fun q a cZ=>k.cq (hq q a cZ) (hi q a cZ))
 |ptr q off hl=>
  intro hb
  cases q with
  |s e=>obtain⟨ob,ho⟩:=sn hb e (by simp[zc]);exact .ptr (E:=E.only f) (.s e) off ⟨hl,hf e ob ho⟩
  |o i=>exact .ptr (E:=E.only f) (.o i) off hl
 |iq q n hl hn hc hm=>
  intro hb
  cases q with
  |s e=>obtain⟨ob,ho⟩:=sn hb e (by simp[zc]);exact .iq (E:=E.only f) (.s e) n ⟨hl,hf e ob ho⟩ hn hc hm
  |o i=>exact .iq (E:=E.only f) (.o i) n hl hn hc hm
 |cQ q i off z hl=>
  intro hb
  cases q with
  |s e=>obtain⟨ob,ho⟩:=sn hb e (by simp[zc]);exact .cQ (E:=E.only f) (.s e) i off z ⟨hl,hf e ob ho⟩
  |o j=>exact .cQ (E:=E.only f) (.o j) i off z hl
 |mp q hl=>
  intro hb
  cases q with
  |s e=>obtain⟨ob,ho⟩:=sn hb e (by simp[zc]);exact .mp (E:=E.only f) (.s e) ⟨hl,hf e ob ho⟩
  |o i=>exact .mp (E:=E.only f) (.o i) hl
 |po q hl=>
  intro hb
  cases q with
  |s e=>obtain⟨ob,ho⟩:=sn hb e (by simp[zc]);exact .po (E:=E.only f) (.s e) ⟨hl,hf e ob ho⟩
  |o i=>exact .po (E:=E.only f) (.o i) hl
 |ar n z xs ys hn hz hl hi hq ih=>exact fun _=> .ar n z xs ys hn hz hl hi (fun q a y ha hy=>k.cq (hq q a y ha hy) (hi q a ha))
 |bm f' cs ys hl hi hq ih=>exact fun _=> .bm f' cs ys hl hi (fun q a y ha hy=>k.cq (hq q a y ha hy) (hi q a ha))
 |mN r z xs x hz h ih=>exact fun _=> .mN r z xs x hz (ih rfl)
 |fn g cap ys hl hq ih=>intro hb;exact .fn g cap ys hl fun q a y ha hy=>ih q a y ha hy (pd (by simpa[zc]using hb) q a ha)
 |agg cs ys hl hq ih=>intro hb;exact .agg cs ys hl fun q a y ha hy=>ih q a y ha hy (pd (by simpa[zc]using hb) q a ha)
 |gd cs ys hl hq ih=>intro hb;exact .gd cs ys hl fun q a y ha hy=>ih q a y ha hy (pd (by simpa[zc]using hb) q a ha)
theorem GQ{t:List (Nat×AV)}: ∀{t':List (Nat×AV)},wkT t t'→ ∀d b,look d t'=some b→(match look d t with|some a=>Nl a b|none=>Nl .any b)
 |[],_,d,b,h=>by simp[look]at h
 |(k,y)::r,h,d,b,hd=>by
  rw[aC]at hd
  by_cases hk:k=d
  ·subst hk;rw[if_pos rfl]at hd;cases hd;exact h.1
  ·rw[if_neg hk]at hd;exact GQ h.2 d b hd
theorem Nk{t:List (Nat×Ob)}: ∀{t':List (Nat×Ob)},wkB t t'→ ∀d b,look d t'=some b→ ∃a,look d t=some a∧ahi a b
 |[],_,d,b,h=>by simp[look]at h
 |(k,y)::r,h,d,b,hd=>by
  rw[aC]at hd
  by_cases hk:k=d
  ·subst hk;rw[if_pos rfl]at hd;cases hd
   have h1:=h.1
   cases hl:look k t with
   |none=>rw[hl]at h1;exact h1.elim
   |some a=>rw[hl]at h1;exact⟨a,rfl,h1⟩
  ·rw[if_neg hk]at hd;exact Nk h.2 d b hd
theorem yS{b:List (Nat×Ob)}: ∀{t:List (Nat×AV)},SV b t=true→ ∀d a,look d t=some a→hasB b (zc a)=true
 |[],_,d,a,h=>by simp[look]at h
 |(k,y)::r,h,d,a,hd=>by
  simp only[SV,Bool.and_eq_true]at h
  rw[aC]at hd
  by_cases hk:k=d
  ·rw[if_pos hk]at hd;cases hd;exact h.1
  ·rw[if_neg hk]at hd;exact yS h.2 d a hd
theorem wc{b:List (Nat×Ob)}: ∀{t:List (Nat×Ob)},okB b t=true→ ∀d cs,look d t=some (.box cs)→hasB b (jR cs)=true
 |[],_,d,a,h=>by simp[look]at h
 |(k,.box y)::r,h,d,a,hd=>by
  simp only[okB,Bool.and_eq_true]at h
  rw[aC]at hd
  by_cases hk:k=d
  ·rw[if_pos hk]at hd;cases hd;exact h.1
  ·rw[if_neg hk]at hd;exact wc h.2 d a hd
 |(k,.arr z xs)::r,h,d,a,hd=>by
  simp only[okB]at h
  rw[aC]at hd
  by_cases hk:k=d
  ·rw[if_pos hk]at hd;cases hd
  ·rw[if_neg hk]at hd;exact wc h d a hd
 |(k,.ow p l xs)::r,h,d,a,hd=>by
  simp only[okB]at h
  rw[aC]at hd
  by_cases hk:k=d
  ·rw[if_pos hk]at hd;cases hd
  ·rw[if_neg hk]at hd;exact wc h d a hd
 |(k,.lp n t ps nq body st)::r,h,d,a,hd=>by
  simp only[okB,Bool.and_eq_true]at h
  rw[aC]at hd
  by_cases hk:k=d
  ·rw[if_pos hk]at hd;cases hd
  ·rw[if_neg hk]at hd;exact wc h.2 d a hd
theorem Al{b:List (Nat×Ob)}: ∀{t:List (Nat×Ob)},okB b t=true→ ∀{d n t' ps nq body st},look d t=some (.lp n t' ps nq body st)→SV b t'=true
 |[],_,d,_,_,_,_,_,_,h=>by simp[look]at h
 |(k,o)::r,h,d,n,t',ps,nq,body,st,hd=>by
  rw[aC]at hd
  by_cases hk:k=d
  ·rw[if_pos hk]at hd;cases hd
   simp only[okB,Bool.and_eq_true]at h
   exact h.1
  ·rw[if_neg hk]at hd
   cases o with
   |box cs=>simp only[okB,Bool.and_eq_true]at h;exact Al h.2 hd
   |arr z xs=>simp only[okB]at h;exact Al h hd
   |ow p l xs=>simp only[okB]at h;exact Al h hd
   |lp=>simp only[okB,Bool.and_eq_true]at h;exact Al h.2 hd
theorem I6{b:List (Nat×Ob)}{f:Nat→Prop}(hf: ∀d ob,look d b=some ob→f d){t t':List (Nat×AV)}(ht:wkT t t')(j8:SV b t'=true){T:Array Value}(h: ∀d x,look d t=some x→Cz E x (T.getD d undef)):
  ∀d x,look d t'=some x→Cz (E.only f) x (T.getD d undef):=by
 intro d x hd
 refine Cz.only hf ?_ (yS j8 d x hd)
 have h1:=GQ ht d x hd
 cases hl:look d t with
 |none=>rw[hl]at h1;exact fS h1 (.any _)
 |some y=>rw[hl]at h1;exact fS h1 (h d y hl)
theorem kI.wk{b:List (Nat×Ob)}{f:Nat→Prop}(hf: ∀d ob,look d b=some ob→f d): ∀{ab:List Act} {fs fs':List Fr},wkU fs fs'→okU b fs'=true→kI E ab fs→kI (E.only f) ab fs'
 |[],[],[],_,_,_=>trivial
 |a::ab,g::fs,g'::fs',hw,j8,h=>by
  simp only[okU,Bool.and_eq_true]at j8
  exact⟨⟨h.1.1.trans hw.1.1,I6 hf hw.1.2 j8.1 h.1.2⟩,kI.wk hf hw.2 j8.2 h.2⟩
 |[],_::_,_,_,_,h=>h.elim
 |_::_,[],_,_,_,h=>h.elim
 |[],[],_::_,hw,_,_=>hw.elim
 |_::_,_::_,[],hw,_,_=>hw.elim
theorem bn.wk(h:bn E0 E w0 w s a)(hw:wk s s'): ∃E',bn E0 E' w0 w s' a:=by
 obtain⟨hn,hc,XM,hg,hnx,ht,hb,hu,j8,fG⟩:=hw
 simp only[Pf,Bool.and_eq_true]at j8
 obtain⟨aew,XC,aev⟩:=j8
 have j8:SV s'.b s'.t=true∧okB s'.b s'.b=true:=⟨aew,XC⟩
 let f:Nat→Prop:=fun d=> ∃ob,look d s'.b=some ob
 have hf: ∀d ob,look d s'.b=some ob→f d:=fun d ob hd=>⟨ob,hd⟩
 have k:=HD E f
 have tm: ∀d x,look d s.t=some x→Cz E x (a.tmps.getD d undef):=fun d x hd=>h.tm d x hd (by unfold ed;rw[hc];trivial)
 refine⟨E.only f,⟨h.heap,⟨h.wf.aM,h.wf.own,h.wf.fz⟩,h.IG,kI.wk hf hu aev h.up,h.sz.trans hn,fun d x hd _=>?_,fun d q hd=>?_,fun d ob hd=>?_,fun d hl=>hl.2,fun i ob hi=>?_,fun i=>?_,?_,h.xc,h.same,hg▸h.gk,h.nl,h.ng,fun hl=>h.lo (fG.trans hl)⟩⟩
 ·refine Cz.only hf ?_ (yS j8.1 d x hd)
  have h1:=GQ ht d x hd
  cases hl:look d s.t with
  |none=>rw[hl]at h1;exact fS h1 (.any _)
  |some y=>rw[hl]at h1;exact fS h1 (tm d y hl)
 ·rw[XM]at hd;simp[look]at hd
 ·obtain⟨o0,h1,h2⟩:=Nk hb d ob hd
  have h3:=h.bx d o0 h1
  cases o0 with
  |ow p l xs=>cases ob with
   |arr z xs=>exact h2.elim
   |box=>exact h2.elim
   |lp=>exact h2.elim
   |ow p' l' xs'=>
    obtain⟨rfl,rfl,rfl⟩:=h2
    exact yR (fun hl=>⟨hl,hf d _ hd⟩) rfl rfl (fun ho=>⟨ho,rfl,fun o hh=>hh⟩) (fun a x hi hc=>k.cq hc hi) (fun b hb _=>⟨hb,rfl,fun _=>Iff.rfl,rfl⟩) h3
  |lp n t ps nq body st=>cases ob with
   |arr z xs=>exact h2.elim
   |ow=>exact h2.elim
   |box=>exact h2.elim
   |lp n' t' U2 UD KA st'=>
    obtain⟨rfl,e2,rfl,rfl,rfl,rfl⟩:=h2
    obtain⟨hl,ho,hs,rec,eQ,h4,h5,h6,h7,h8,h9,hq⟩:=h3
    exact⟨⟨hl,hf d _ hd⟩,ho,hs,rec,eQ,h4,h5,h6,h7,h8,h9,I6 hf e2 (Al j8.2 hd) hq⟩
  |box cs=>cases ob with
   |arr z xs=>exact h2.elim
   |ow=>exact h2.elim
   |lp=>exact h2.elim
   |box cs'=>
    obtain⟨hl,c,e,eQ,ho,hs,dC,hq⟩:=h3
    obtain⟨h4,h5⟩:=vY h2
    refine⟨⟨hl,hf d _ hd⟩,c,e,eQ,ho,hs,dC.trans h4,fun q av x ha hx=>?_⟩
    obtain⟨a0,h6,h7⟩:=h5 q av ha
    exact Cz.only hf (fS h7 (hq q a0 x h6 hx)) (pd (wc j8.2 d _ hd) q av ha)
  |arr z xs=>cases ob with
   |box cs'=>exact h2.elim
   |ow=>exact h2.elim
   |lp=>exact h2.elim
   |arr z' xs'=>
    obtain⟨rfl,rfl⟩:=h2
    obtain⟨hl,qe,dQ,hz,hm,c,e,eQ,ho,hs,dC,hi,hq⟩:=h3
    exact⟨⟨hl,hf d _ hd⟩,qe,dQ,hz,hm,c,e,eQ,ho,hs,dC,hi,fun q av x ha hx=>k.cq (hq q av x ha hx) (hi q av ha)⟩
 ·exact k.ob (h.gk i ob (hg▸hi)) (h.gx i ob (hg▸hi))
 ·rw[←hnx];exact h.gl i
 ·exact⟨h.ext.size,h.ext.aM,fun q hq=>by
   cases q with
   |s d=>exact absurd hq (h.nl d)
   |o i=>exact h.ext.live (.o i) hq,h.ext.bj⟩
theorem bY.cell{x:Addr}{v:Value}(h:bY w w')(hc:w.cell? x=some v):w'.cell? x=some v:=by
 unfold World.cell? at*
 cases hb:w.heap[x.block]? with
 |none=>rw[hb]at hc;simp at hc
 |some o=>rw[h.get hb];rw[hb]at hc;exact hc
theorem OU{P:Program}{w:World}{at_:Addr}{u:TypeId}{k:Addr}{b:Bool}(h:w.heap[at_.block]? =none): ∀r,w.seen P at_ u k b≠ .ok r:=by
 intro r hr
 simp only[World.seen,h,bind,Except.bind,throwThe,MonadExceptOf.throw,pure,Except.pure]at hr
 repeat' split at hr
 all_goals first|cases hr|skip
 all_goals simp at*
theorem bY.seen{at_:Addr}{u:TypeId}{k:Addr}{b:Bool}(h:bY w w'){r}(hr:w.seen P at_ u k b= .ok r):w'.seen P at_ u k b= .ok r:=by
 cases hb:w.heap[at_.block]? with
 |none=>exact absurd hr (OU hb r)
 |some x=>
  have eQ:=h.get hb
  rw[←hr]
  simp only[World.seen,hb,eQ]
theorem bY.view{at_:Addr}{u:TypeId}{k:Addr}{b:Bool}(h:bY w w'){r}(hr:w.viewLoad P at_ u k b= .ok r):w'.viewLoad P at_ u k b= .ok r:=by
 cases hs:w.seen P at_ u k b with
 |error e=>simp[World.viewLoad,hs,bind,Except.bind]at hr
 |ok t=>rw[←hr];simp only[World.viewLoad,hs,h.seen hs]
theorem bY.far{x:Addr}{b:Bool}(h:bY w w'){r}(hr:w.farLoad P x b= .ok r):w'.farLoad P x b= .ok r:=by
 unfold World.farLoad at*
 cases hb:w.heap[x.block]? with
 |none=>rw[hb]at hr;simp at hr
 |some o=>
  rw[h.get hb]
  rw[hb]at hr
  cases o<;>simp only at hr ⊢ <;>try(cases hr;done)
  rename_i at_ u
  cases hv:w.viewLoad P at_ u x b with
  |error e=>rw[hv]at hr;simp at hr
  |ok t=>rw[h.view hv];rw[hv]at hr;exact hr
def Cf{α:Type}:Sem α→Prop
 | .pure _=>True
 | .halt _=>True
 | .load _ _ k=> ∀v,Cf (k v)
 | .program k=> ∀p,Cf (k p)
 | .mark _ k=>Cf k
 |_=>False
def cJ(R:World→World→Prop)(P:Program){α:Type}(m:Sem α):Prop:= ∀w w' v w1,R w w'→m.run P w= .ok v w1→w1=w∧m.run P w'= .ok v w'
theorem Ja{α:Type}{x:Sem α}(hx:Cf x):cJ bY P x:=by
 induction x with
 |pure a=>intro w w' v w1 _ h;simp only[Sem.run]at h ⊢;cases h;exact⟨rfl,rfl⟩
 |halt h=>intro w w' v w1 _ h;simp[Sem.run]at h
 |load m ad k ih=>
  intro w w' v w1 hR h
  simp only[Sem.run]at h ⊢
  cases hc:w.cell? ad with
  |some y=>
   rw[hc]at h;rw[hR.cell hc]
   exact ih y (hx y) w w' v w1 hR h
  |none=>
   rw[hc]at h
   dsimp only at h
   cases hf:w.farLoad P ad (m== .atomic)with
   |error e=>rw[hf]at h;cases h
   |ok t=>
    rw[hf]at h
    obtain⟨y,l⟩:=t
    have h2:=hR.far hf
    have XM:w'.cell? ad=none:=by
     unfold World.farLoad at hf
     unfold World.cell? at hc ⊢
     cases hb:w.heap[ad.block]? with
     |none=>rw[hb]at hf;simp at hf
     |some o=>rw[hR.get hb];rw[hb]at hc;exact hc
    rw[XM,h2]
    exact ih y (hx y) w w' v w1 hR h
 |shape r k ih=>exact hx.elim
 |frozen a k ih=>exact hx.elim
 |getObj r k ih=>exact hx.elim
 |program k ih=>intro w w' v w1 hR h;simp only[Sem.run]at h ⊢;exact ih P (hx P) w w' v w1 hR h
 |mark m k ih=>intro w w' v w1 hR h;simp only[Sem.run]at h ⊢;exact ih hx w w' v w1 hR h
 |store m a v k _=>exact hx.elim
 |new o k _=>exact hx.elim
 |freeze a n k _=>exact hx.elim
 |setObj r o k _=>exact hx.elim
 |choose q k _=>exact hx.elim
 |sys c k _=>exact hx.elim
theorem Cf.bind'{α β:Type}{x:Sem α}{f:α→Sem β}(hx:Cf x)(hf: ∀a,Cf (f a)):Cf (x.bind f):=by
 induction x with
 |pure a=>exact hf a
 |halt h=>exact trivial
 |load m a k ih=>exact fun v=>ih v (hx v)
 |shape r k ih=>exact hx.elim
 |frozen a k ih=>exact hx.elim
 |getObj r k ih=>exact hx.elim
 |program k ih=>exact fun p=>ih p (hx p)
 |mark m k ih=>exact ih hx
 |store m a v k _=>exact hx.elim
 |new o k _=>exact hx.elim
 |freeze a n k _=>exact hx.elim
 |setObj r o k _=>exact hx.elim
 |choose q k _=>exact hx.elim
 |sys c k _=>exact hx.elim
theorem Cf.bind{α β:Type}{x:Sem α}{f:α→Sem β}(hx:Cf x)(hf: ∀a,Cf (f a)):Cf (x >>= f):=hx.bind' hf
section
variable{R:World→World→Prop}
theorem cJ.bind{α β:Type}{x:Sem α}{f:α→Sem β}(hx:cJ R P x)(hf: ∀a,cJ R P (f a)):cJ R P (x >>= f):=by
 intro w w' v w1 hR h
 rw[Sem.run_bind]at h ⊢
 cases hr:x.run P w with
 |halt y w2=>rw[hr]at h;cases h
 |ok y w2=>
  rw[hr]at h
  obtain⟨rfl,h2⟩:=hx w w' y w2 hR hr
  rw[h2]
  exact hf y w2 w' v w1 hR h
theorem bC{α:Type}(x:α):cJ R P (pure x:Sem α):=by
 intro w w' v w1 _ h
 cases h;exact⟨rfl,rfl⟩
theorem ep{α:Type}{m:Sem α}(h: ∀w v w1,m.run P w≠ .ok v w1):cJ R P m:=fun w _ v w1 _ hr=>absurd hr (h w v w1)
theorem eh{α:Type}(s:String):cJ R P (stuck s:Sem α):=ep fun w v w1 h=>by cases h
theorem pz{α:Type}(u:Unsupported):cJ R P (unsupported u:Sem α):=ep fun w v w1 h=>by cases h
theorem uw{α β:Type}{x:Sem α}{f:α→Sem β}(hf: ∀a w v w1,(f a).run P w≠ .ok v w1): ∀w v w1,(x >>= f).run P w≠ .ok v w1:=by
 intro w v w1 h
 rw[Sem.run_bind]at h
 cases hr:x.run P w with
 |halt y w2=>rw[hr]at h;cases h
 |ok y w2=>rw[hr]at h;exact hf y w2 v w1 h
theorem Jv{α:Type}(x y:Int)(b:Bool)(c:BoundsCode): ∀w v w1,(runtimePanic (.bounds x y b c):Sem α).run P w≠ .ok v w1:=by
 unfold runtimePanic
 refine uw fun p w v w1=>?_
 intro h
 cases h
theorem fu{α:Type}(k:IntKind)(x y:Int)(c:BoundsCode): ∀w v w1,(boundsPanic k x y c:Sem α).run P w≠ .ok v w1:=by
 unfold boundsPanic
 dsimp only
 split<;>exact uw fun _=>Jv _ _ _ _
theorem gv(t:TypeId):cJ R P (underlying t):=by
 unfold underlying
 intro w w' v w1 _ h
 simp only[Sem.run_bind,program,Sem.run,Result.andThen]at h ⊢
 cases hh:P.underlying t<;>rw[hh]at h<;>simp only at h ⊢ <;>cases h
 exact⟨rfl,rfl⟩
theorem A0(t:TypeId):cJ R P (typeInfo t):=by
 unfold typeInfo
 intro w w' v w1 _ h
 simp only[Sem.run_bind,program,Sem.run,Result.andThen]at h ⊢
 cases hh:P.info? t<;>rw[hh]at h<;>simp only at h ⊢ <;>cases h
 exact⟨rfl,rfl⟩
theorem iN(t:TypeId):cJ R P (Go.sizeOf t):=by
 unfold Go.sizeOf
 exact(A0 t).bind fun _=>bC _
theorem C2(t:TypeId):cJ R P (isAgg t):=by
 unfold isAgg
 refine(gv t).bind fun d=>?_
 split<;>exact bC _
theorem CY(v:Value):cJ R P (asIntOf v):=by
 unfold asIntOf
 split
 ·exact bC _
 ·exact pz _
 ·exact eh _
theorem AY(v:Value):cJ R P (Instr.sureAddr v):=by
 unfold Instr.sureAddr
 split
 ·exact bC _
 ·exact eh _
end
theorem AZ(x:Addr)(m:Mode):cJ bY P (load x m):=Ja (fun _=>trivial)
theorem yx(x:Addr): ∀(n i:Nat) (acc:Array Value),cJ bY P (loadCellsFrom x i n acc)
 |0,_,_=>bC _
 |n+1,i,acc=>by
  unfold loadCellsFrom
  exact(AZ _ _).bind fun v=>yx x n (i+1) (acc.push v)
theorem wT(t:TypeId)(v:Value):cJ bY P (Instr.loadAt t v):=by
 unfold Instr.loadAt
 refine(AY v).bind fun x=>?_
 unfold loadVar
 refine(C2 t).bind fun b=>?_
 split
 ·exact(iN t).bind fun n=>((yx x n 0 #[]).bind fun _=>bC _)
 ·exact AZ _ _
theorem CZ{R:World→World→Prop}(t:TypeId)(v i:Value):cJ R P (Instr.indexAt t v i):=by
 unfold Instr.indexAt
 refine(CY i).bind fun ki=>?_
 obtain⟨k,n⟩:=ki
 dsimp only
 refine(gv t).bind fun d=>?_
 split
 ·refine(AY _).bind fun _=>?_
  refine cJ.bind (bC _) fun y=>?_
  refine(gv t).bind fun d=>?_
  split
  ·split
   ·exact(iN _).bind fun _=>bC _
   ·repeat' first
     |exact pz _
     |exact ep (fu _ _ _ _)
     |split
  ·exact ep (fu _ _ _ _)
 ·refine cJ.bind (bC _) fun y=>?_
  refine(gv t).bind fun d=>?_
  split
  ·split
   ·exact(iN _).bind fun _=>bC _
   ·repeat' first
     |exact pz _
     |exact ep (fu _ _ _ _)
     |split
  ·exact ep (fu _ _ _ _)
 ·refine cJ.bind (eh _) fun y=>?_
  refine(gv t).bind fun d=>?_
  split
  ·split
   ·exact(iN _).bind fun _=>bC _
   ·repeat' first
     |exact pz _
     |exact ep (fu _ _ _ _)
     |split
  ·exact ep (fu _ _ _ _)
theorem I4{R:World→World→Prop}(t:TypeId)(cs:Array Value)(o:Nat):cJ R P (Go.part t cs o):=by
 unfold Go.part
 refine(C2 t).bind fun b=>?_
 repeat' first
  |exact bC _
  |exact eh _
  |refine cJ.bind (iN _) fun _=>?_
  |split
  |dsimp only
theorem G7{R:World→World→Prop}(t:TypeId)(v i:Value):cJ R P (Instr.index t v i):=by
 unfold Instr.index
 refine(CY i).bind fun ki=>?_
 obtain⟨k,n⟩:=ki
 dsimp only
 refine(gv t).bind fun d=>?_
 split
 ·split
  ·exact(iN _).bind fun _=>I4 _ _ _
  ·exact ep (fu _ _ _ _)
 ·split
  ·exact bC _
  ·exact ep (fu _ _ _ _)
 ·exact eh _
def fR(R:World→World→Prop)(P:Program)(ops:Array Oper)(o:Oper)(v:Value)(a:Act)(w:World):Prop:=
 (Region.wanted o (yielded ops a.tmps)=true∧ ∀w',R w w'→(execOp a.eval o).run P w'= .ok (.value v) w')∨
 (Region.wanted o (yielded ops a.tmps)=false∧v=undef)
section
variable{R:World→World→Prop}{ops:Array Oper}{Q:Exit→Act→World→Prop}{md:Region.Mode}
theorem fR.of_same{o:Oper}{v:Value}{a a':Act}(hy:fR R P ops o v a w)(he:execOp a'.eval o=execOp a.eval o)
  (hw:Region.wanted o (yielded ops a'.tmps)=Region.wanted o (yielded ops a.tmps)):fR R P ops o v a' w:=by
 unfold fR at*
 rw[he,hw]
 exact hy
theorem fR.later(KS: ∀a b c,R a b→R b c→R a c){o:Oper}{v:Value}{a:Act}(hy:fR R P ops o v a w)(hR:R w w'):fR R P ops o v a w':=
 hy.imp (fun h=>⟨h.1,fun w2 h2=>h.2 w2 (KS _ _ _ hR h2)⟩) id
def Bg:Op→Bool
 | .move _=>true
 | .assign _=>true
 | .pick _ _ _=>true
 | .binOp _ _ _ _ _=>true
 | .unOp _ _ _=>true
 | .fieldAddr _ _ _=>true
 | .nilCheck _=>true
 | .extract _ _=>true
 | .build _ _=>true
 | .load _ _=>true
 | .indexAddr _ _ _=>true
 | .index _ _ _=>true
 | .call c=>match c.callee with
  | .builtin .len=>true
  |_=>false
 |_=>false
def N8:Op→Bool
 | .alloc _=>true
 | .box _ _=>true
 | .buildSlice _ _ _=>true
 | .makeFunc _ _ _=>true
 |_=>false
def Em(cl:Nat→Bool)(o:Op):Bool:=Bg o||(N8 o||lA cl o)
def sD(P:Program){α:Type}(m:Sem α):Prop:= ∀w v w1,m.run P w= .ok v w1→bY w w1
theorem sD.bind{α β:Type}{x:Sem α}{f:α→Sem β}(hx:sD P x)(hf: ∀a,sD P (f a)):sD P (x >>= f):=by
 intro w v w1 h
 rw[Sem.run_bind]at h
 cases hr:x.run P w with
 |halt y w2=>rw[hr]at h;cases h
 |ok y w2=>rw[hr]at h;exact(hx w y w2 hr).trans (hf y w2 v w1 h)
theorem cJ.Bo{α:Type}{m:Sem α}(h:cJ (fun _ _=>True) P m):sD P m:=fun w v w1 hr=>by
 have e:=(h w w v w1 trivial hr).1
 rw[e];exact bY.refl _
theorem gJ{α:Type}(x:α):sD P (pure x:Sem α):=(bC x).Bo
theorem Aw(t:TypeId)(cells:Array Value):sD P (newRow t cells):=by
 unfold newRow newObj
 refine sD.bind ?_ fun _=>gJ _
 intro w v w1 h
 simp only[Sem.run]at h
 cases h
 intro b hb
 exact(Array.getElem?_push_lt hb).trans (Array.getElem?_eq_getElem hb).symm
theorem Gd(t:TypeId)(v:Value):sD P (newVar t v):=Aw t _
theorem D4(t:TypeId):sD P (zeroValue t):=by
 unfold zeroValue
 refine(A0 t).Bo.bind fun i=>?_
 split
 ·exact gJ _
 ·exact(pz _).Bo
theorem TV{o:Oper}(hg:N8 o.op=true)(ρ:Operand→Value){w w':World}{n:Next}(h:(execOp ρ o).run P w= .ok n w'):(∃v,n= .value v)∧bY w w':=by
 have fin: ∀{m:Sem Value},sD P m→(do pure (.value (←m)):Sem Next).run P w= .ok n w'→(∃v,n= .value v)∧bY w w':=by
  intro m hm h
  rw[Sem.run_bind]at h
  cases hr:m.run P w with
  |halt y w2=>rw[hr]at h;cases h
  |ok y w2=>rw[hr]at h;cases h;exact⟨⟨y,rfl⟩,hm w y w' hr⟩
 unfold N8 at hg
 split at hg
 ·rename_i e he
  simp only[execOp,he]at h
  refine fin ?_ h
  unfold Instr.alloc
  exact(D4 _).bind fun z=>(Gd _ _).bind fun _=>gJ _
 ·rename_i e x he
  simp only[execOp,he]at h
  refine fin ?_ h
  unfold Instr.box
  exact(Gd _ _).bind fun _=>gJ _
 ·rename_i t len parts he
  simp only[execOp,he]at h
  refine fin ?_ h
  unfold Instr.buildSlice
  refine(gv t).Bo.bind fun d=>?_
  split
  ·refine(iN _).Bo.bind fun z=>?_
   dsimp only
   split
   ·exact fun w v w1 h=>by cases h
   ·split
    ·refine sD.bind (gJ _) fun zero=>?_
     split
     ·exact(Aw _ _).bind fun _=>gJ _
     ·exact(eh _).Bo
    ·refine(D4 _).bind fun l=>sD.bind (gJ _) fun zero=>?_
     split
     ·exact(Aw _ _).bind fun _=>gJ _
     ·exact(eh _).Bo
  ·exact(eh _).Bo
 ·rename_i f first cap he
  simp only[execOp,he]at h
  exact fin (gJ _) h
 ·cases hg
def jK(P:Program)(cl:Nat→Bool)(ops:Array Oper)(Q:Exit→Act→World→Prop)(i:Nat)(K:Act→World→Prop)(a:Act)(w:World):Prop:=
 match ops[i]? with
 |none=>K a w
 |some o=>if Region.wanted o (yielded ops a.tmps)then kU P o a w (fun a' w'=>K a' w'∧(Em cl o.op=true→bY w w')) Q else K (a.put o.dst undef) w
theorem xu{cl:Nat→Bool}{i:Nat}{a:Act}{w:World}{K K':Act→World→Prop}(h: ∀a w,K a w→K' a w)(hh:jK P cl ops Q i K a w):jK P cl ops Q i K' a w:=by
 unfold jK at*
 cases ho:ops[i]? with
 |none=>rw[ho]at hh;exact h _ _ hh
 |some o=>
  rw[ho]at hh
  dsimp only at hh ⊢
  split
  ·rename_i hw;rw[if_pos hw]at hh;exact kU.mono (fun a w h2=>⟨h _ _ h2.1,h2.2⟩) hh
  ·rename_i hw;rw[if_neg hw]at hh;exact h _ _ hh
def pw(P:Program)(cl:Nat→Bool)(md:Region.Mode)(ops:Array Oper)(Q:Exit→Act→World→Prop):Nat→Array Bool→Act→World→Prop
 |0,listed,a,w=>Region.ready md ops listed=[]∧Q .normal a w
 |fuel+1,listed,a,w=>
  (Region.ready md ops listed=[]→Q .normal a w)∧
  ∀i∈Region.ready md ops listed,jK P cl ops Q i (pw P cl md ops Q fuel (listed.setIfInBounds i true)) a w
theorem pv{cl:Nat→Bool}(ro:Option Nat): ∀(fuel:Nat) (listed:Array Bool) (a:Act) (w:World),pw P cl md ops Q fuel listed a w→wpAnyIn (WF ro) 0 P md ops Q fuel listed a w
 |0,_,_,_,h=>h
 |fuel+1,listed,a,w,h=>by
  refine⟨h.1,fun i hi=>?_⟩
  have h1:=h.2 i hi
  unfold jK at h1
  unfold wpOpIn
  cases ho:ops[i]? with
  |none=>rw[ho]at h1;exact pv ro fuel _ _ _ h1
  |some o=>
   rw[ho]at h1
   dsimp only at h1 ⊢
   split
   ·rename_i hw;rw[if_pos hw]at h1;exact(kU.mono (fun a w h2=>pv ro fuel _ _ _ h2.1) h1).wpIn ro
   ·rename_i hw;rw[if_neg hw]at h1;exact⟨fun _ _=>trivial,pv ro fuel _ _ _ h1⟩
theorem fR.jK{cl:Nat→Bool}(hrf: ∀w,R w w){i:Nat}{o:Oper}{v:Value}{a:Act}{w:World}(hi:ops[i]? =some o)(hy:fR R P ops o v a w){K:Act→World→Prop}(h:K (a.put o.dst v) w):jK P cl ops Q i K a w:=by
 unfold Ab.jK
 rw[hi]
 dsimp only
 rcases hy with⟨hw,hv⟩|⟨hw,rfl⟩
 ·rw[if_pos hw];unfold kU;rw[hv w (hrf w)];exact⟨h,fun _=>bY.refl w⟩
 ·rw[if_neg (by rw[hw];simp)];exact h
theorem OH{cl:Nat→Bool}(KS: ∀a b c,R a b→R b c→R a c){j:Nat}{oi oj:Oper}{v:Value}(hj:ops[j]? =some oj)(hap:oi.apart ops oj=true)
  (ajl:(∀w w',R w w')∨(Em cl oj.op=true∧ ∀w w',bY w w'→R w w'))
  (hsi: ∀cs b,oi.op≠ .select cs b)(hsj: ∀cs b,oj.op≠ .select cs b)
  (hQ: ∀c a w,Q (.panic c) (a.put oi.dst v) w→Q (.panic c) a w){K:Act→World→Prop}{a:Act}{w:World}
  (hy:fR R P ops oi v a w)(h:jK P cl ops Q j K (a.put oi.dst v) w):
  jK P cl ops Q j (fun a' w'=>fR R P ops oi v a' w'∧K (a'.put oi.dst v) w') a w:=by
 obtain⟨h1,h2,h3⟩:=Oper.apart_spec hap
 have bj: ∀(a:Act) (w:World),fR R P ops oi v a w→ ∀u,fR R P ops oi v (a.put oj.dst u) w:=fun a w hy u=>
  hy.of_same (execOp_put oi hsi a oj.dst u h3) (wanted_put oi a oj.dst u h3)
 have keepD: ∀d,fR R P ops oi v {a with defers:=d::a.defers} w:=fun d=>hy.of_same rfl rfl
 have hm: ∀w',(Em cl oj.op=true→bY w w')→R w w':=fun w' BY=>ajl.elim (fun h=>h _ _) fun h=>h.2 _ _ (BY h.1)
 unfold jK at*
 rw[hj]at h ⊢
 dsimp only at h ⊢
 rw[wanted_put oj a oi.dst v h1]at h
 split
 ·rename_i hw
  rw[if_pos hw]at h
  unfold kU at*
  rw[execOp_put oj hsj a oi.dst v h1]at h
  cases hr:(execOp a.eval oj).run P w with
  |ok n w'=>
   rw[hr]at h
   cases n<;>simp only[CT]at h ⊢
   case value u=>exact⟨⟨bj a w' (hy.later KS (hm _ h.2)) u,by rw[←Act.put_comm a v u h2];exact h.1⟩,h.2⟩
   case skip=>exact⟨⟨bj a w' (hy.later KS (hm _ h.2)) _,by rw[←Act.put_comm a v undef h2];exact h.1⟩,h.2⟩
   case enter f args=>
    refine Calls.mono h ?_
    rintro e QP ⟨u,rfl,he⟩
    exact⟨u,rfl,⟨bj a QP (hy.later KS (hm _ he.2)) u,by rw[←Act.put_comm a v u h2];exact he.1⟩,he.2⟩
   case round l f tmps nq body=>
    refine RoundIn.mono h ?_
    rintro e QP ⟨u,rfl,he⟩
    exact⟨u,rfl,⟨bj a QP (hy.later KS (hm _ he.2)) u,by rw[←Act.put_comm a v u h2];exact he.1⟩,he.2⟩
  |halt x w'=>
   rw[hr]at h
   simp only[CT]at h
 ·rename_i hw
  rw[if_neg hw]at h
  exact⟨bj a w hy _,by rw[←Act.put_comm a v undef h2];exact h⟩
theorem GO{cl:Nat→Bool}(KS: ∀a b c,R a b→R b c→R a c)(hrf: ∀w,R w w){i:Nat}{oi:Oper}{v:Value}(hi:ops[i]? =some oi)(Tw: ∀(j:Nat) (o:Oper) cs b,ops[j]? =some o→o.op≠ .select cs b)
  (hQ: ∀c a w,Q (.panic c) (a.put oi.dst v) w→Q (.panic c) a w)(M:Nat→Prop)
  (ajB: ∀j oj,ops[j]? =some oj→j≠i→M j→oi.apart ops oj=true∧((∀w w',R w w')∨(Em cl oj.op=true∧ ∀w w',bY w w'→R w w'))):
  ∀(fuel:Nat) (listed:Array Bool) (a:Act) (w:World),
   (∀(l:Array Bool) (j:Nat),(∀k,listed.getD k false=true→l.getD k false=true)→(∀k,l.getD k false=true→listed.getD k false=true∨M k)→j≠i→j∈Region.ready md ops l→M j)→
   i∈Region.ready md ops listed→fR R P ops oi v a w→
   pw P cl md ops Q fuel (listed.setIfInBounds i true) (a.put oi.dst v) w→pw P cl md ops Q (fuel+1) listed a w:=by
 intro fuel
 induction fuel with
 |zero=>
  intro listed a w _ hr hy H
  refine⟨fun h=>(by rw[h]at hr;cases hr),fun j hj=>?_⟩
  by_cases XF:j=i
  ·subst XF;exact hy.jK hrf hi H
  ·have:=ready_mono hj XF
   rw[H.1]at this
   cases this
 |succ fuel ih=>
  intro listed a w hM hr hy H
  refine⟨fun h=>(by rw[h]at hr;cases hr),fun j hj=>?_⟩
  by_cases XF:j=i
  ·subst XF;exact hy.jK hrf hi H
  ·have h1:=H.2 j (ready_mono hj XF)
   obtain⟨PH,oj,hoj,jD⟩:=mem_ready.1 hj
   have hMj:M j:=hM listed j (fun k hk=>hk) (fun k hk=> .inl hk) XF hj
   obtain⟨hap,hmd⟩:=ajB j oj hoj XF hMj
   have h2:=OH KS hoj hap hmd (fun cs b=>Tw i oi cs b hi) (fun cs b=>Tw j oj cs b hoj) hQ hy h1
   refine xu (fun a' w' h3=>ih (listed.setIfInBounds j true) a' w' (fun l k hs hl hki hk=>hM l k (fun k2 DW=>hs k2 (getD_set_true DW)) (fun k2 DW=>?_) hki hk) (ready_mono hr (Ne.symm XF)) h3.1 ?_) h2
   ·rcases hl k2 DW with h4|h4
    ·by_cases hjk:j=k2
     ·subst hjk;exact .inr hMj
     ·rw[getD_set_ne false hjk]at h4;exact .inl h4
    ·exact .inr h4
   ·rw[Array.setIfInBounds_comm _ _ XF]
    exact h3.2
end
end Ab
namespace Ab
open Go
variable{P:Program}{L:nv}{E0 E E':Env}{w0 w w':World}{s s':St}{a:Act}{p:Path}{C:dK}
theorem OI(ok:Ok P C)(h:bn E0 E w0 w s a){o:Oper}{K:bd}(hm:Bg o.op=true)(hk:U0 C p o s K):
  KL P E0 w0 w a o s p K∧ ∀w' v,aZ s p→(bY w w'∨ ∀t x,o.op≠ .load t x)→(execOp a.eval o).run P w= .ok (.value v) w→(execOp a.eval o).run P w'= .ok (.value v) w':=by
 have gh: ∀{K:bd},Reads P E w a o s p K→KL P E0 w0 w a o s p K:=fun{K} ⟨r,hk,hx⟩=>⟨r,s,E,hk,h,fun _=>Iff.rfl,hx⟩
 unfold U0 at hk
 split at hk<;>rename_i he<;>(try(rw[he]at hm;cases hm;done))
 ·refine⟨gh (mW (neg:=false) ok.an ok.lay ok.eqs h he hk),fun w' v hp _ hr=>?_⟩
  exact IP (neg:=false) ok.lay ok.eqs h he hk hp hr w'
 ·refine⟨gh (mW (neg:=true) ok.an ok.lay ok.eqs h he hk),fun w' v hp _ hr=>?_⟩
  exact IP (neg:=true) ok.lay ok.eqs h he hk hp hr w'
 ·refine⟨gh (uo ok.an h he hk),fun w' v _ _ hr=>?_⟩
  have hs:cJ (fun _ _=>True) P (execOp a.eval o):=by
   simp only[execOp,he]
   refine cJ.bind ?_ fun b=>?_
   ·unfold asBool;split
    ·exact bC _
    ·exact eh _
   ·exact bC _
  exact(hs w w' _ _ trivial hr).2
 ·refine⟨?_,fun w' v _ hA hr=>?_⟩
  ·cases fG:zq C 2000 o.dst with
   |false=>rw[fG]at hk;exact gh (qv ok.lay ok.an h he hk)
   |true=>
    rw[fG,cond_true]at hk
    split at hk
    ·exact AT ok.lay h he hk
    ·exact hk.elim
  have hs:cJ bY P (execOp a.eval o):=by
   simp only[execOp,he]
   exact(wT _ _).bind fun _=>bC _
  rcases hA with hA|hA
  ·exact(hs w w' _ _ hA hr).2
  ·exact absurd he (hA _ _)
 ·split at hk
  ·rename_i n hn
   refine⟨gh (xq ok.lay ok.an h he hn hk),fun w' v _ _ hr=>?_⟩
   have hs:cJ (fun _ _=>True) P (execOp a.eval o):=by
    simp only[execOp,he]
    exact(CZ _ _ _).bind fun _=>bC _
   exact(hs w w' _ _ trivial hr).2
  ·exact hk.elim
 ·split at hk
  ·rename_i n hn
   refine⟨gh (sG ok.lay h he hn hk),fun w' v _ _ hr=>?_⟩
   have hs:cJ (fun _ _=>True) P (execOp a.eval o):=by
    simp only[execOp,he]
    exact(G7 _ _ _).bind fun _=>bC _
   exact(hs w w' _ _ trivial hr).2
  ·exact hk.elim
 ·rename_i c he
  split at hk
  ·rename_i f hc;rw[he]at hm;simp only[Bg,hc]at hm;cases hm
  ·rename_i b hc
   rw[he]at hm
   simp only[Bg,hc]at hm
   have hk0:=hk
   unfold yu at hk
   split at hk
   ·cases hm
   ·cases hm
   ·refine⟨gh (Aq ok h he hc hk),fun w' v wu _ hr=>?_⟩
    split at hk
    ·rename_i k m hp
     rw[ok.an]at hp
     obtain⟨x,h1,_⟩:=uD ok.lay h wu (by rw[he];exact JQ hc hp)
     have hb:UA o.op=true:=by rw[he];rfl
     have h2:=h1 w (fun e=>absurd (hb.symm.trans e) (by decide))
     rw[hr]at h2
     cases h2
     exact h1 w' (fun e=>absurd (hb.symm.trans e) (by decide))
    ·exact hk.elim
   ·exact hk.elim
  ·exact hk.elim
 ·exact hk.elim
def Vh(o:Op)(w w':World):Prop:=
 match o with
 | .load _ _=>bY w w'
 | .build _ _=>w'=w
 |_=>True
theorem CQ(ok:Ok P C){ops:Array Oper}{K:St→Prop}{o:Oper}(h:bn E0 E w0 w s a)(hm:Bg o.op=true)(hk:GP C ops.toList o s K):
  ∃v,fR (Vh o.op) P ops o v a w∧BH E0 w0 K (a.put o.dst v) w:=by
  have Z8: ∀{p:Path} {r:AV},aZ s p→qY an C.L s p o.op=some r→ ∃x,(∀w',Vh o.op w w'→(execOp a.eval o).run P w'= .ok (.value x) w')∧Cz E r x:=by
   intro p r hp hr
   obtain⟨x,h1,h2⟩:=uD ok.lay h hp hr
   refine⟨x,fun w' hR=>?_,h2⟩
   cases ho:o.op<;>rw[ho]at hm hR h1<;>first|(exact h1 w' (fun e=>absurd (show true=false from e) (by decide)))|(cases hm;done)|skip
   ·have e:w'=w:=hR
    exact h1 w' fun _=>e
   ·have hs:cJ bY P (execOp a.eval o):=by
     simp only[execOp,ho]
     exact(wT _ _).bind fun _=>bC _
    exact(hs w w' _ _ hR (h1 w fun _=>rfl)).2
  have N3: ∀{p:Path} {K:bd},U0 C p o s K→ ∃r s' E',K r s'∧bn E0 E' w0 w s' a∧(∀q,aZ s' q↔aZ s q)∧(aZ s p→ ∃x,(∀w',Vh o.op w w'→(execOp a.eval o).run P w'= .ok (.value x) w')∧Cz E' r x):=by
   intro p K hk
   obtain⟨⟨r,s',E',h1,hS,hP,h2⟩,h3⟩:=OI ok h hm hk
   refine⟨r,s',E',h1,hS,hP,fun hp=>?_⟩
   obtain⟨x,h4,h5⟩:=h2 hp
   refine⟨x,fun w' hR=>h3 w' x hp ?_ h4,h5⟩
   by_cases hl: ∃t y,o.op= .load t y
   ·obtain⟨t,y,hl⟩:=hl
    rw[hl]at hR;exact .inl hR
   ·exact .inr fun t y e=>hl ⟨t,y,e⟩
  unfold GP at hk
  cases hg:o.guard with
  |none=>
   rw[hg]at hk
   dsimp only at hk
   have hwt:Region.wanted o (yielded ops a.tmps)=true:=by simp[Region.wanted,hg]
   cases hp:Bc C.I C.L s [] o.op with
   |some r=>
    rw[hp]at hk
    dsimp only at hk
    rw[ok.an]at hp
    replace hp:=sQ hp
    obtain⟨x,hr,hc⟩:=Z8 (p:=[]) trivial hp
    exact⟨x,.inl ⟨hwt,hr⟩,_,_,hk.2,h.put hk.1 (fun _ _=>rfl) (.inl ⟨trivial,hc⟩)⟩
   |none=>
    rw[hp]at hk
    dsimp only at hk
    obtain⟨r,s',E',⟨hd,jS⟩,hS,hP,hx⟩:=N3 hk
    obtain⟨x,hr,hc⟩:=hx trivial
    exact⟨x,.inl ⟨hwt,hr⟩,_,_,jS,hS.put hd (fun _ _=>rfl) (.inl ⟨trivial,hc⟩)⟩
  |some jb=>
   obtain⟨j,b⟩:=jb
   rw[hg]at hk
   dsimp only at hk
   cases hj:ops.toList[j]? with
   |none=>rw[hj]at hk;exact hk.elim
   |some og=>
    rw[hj]at hk
    dsimp only at hk
    cases hd:og.dst with
    |none=>rw[hd]at hk;exact hk.elim
    |some d=>
     rw[hd]at hk
     dsimp only at hk
     cases hb:(vL s o.dst&&(isBool (look d s.t)&&Kt o.dst d))with
     |false=>rw[hb]at hk;exact hk.elim
     |true=>
      rw[hb,cond_true]at hk
      simp only[Bool.and_eq_true]at hb
      obtain⟨Gc,yn,B4⟩:=hb
      have hw:=zp h hg (by rw[←Array.getElem?_toList];exact hj) hd yn
      have vf: ∀d',o.dst=some d'→HW d' (ed s d++[(d,b)])=false:=by
       intro d' rI
       rw[rI]at Gc B4
       simp only[vL,Bool.and_eq_true,Bool.not_eq_true']at Gc
       rw[HV,Ga Gc.2]
       have cU: ¬d'=d:=fun e=>by subst e;simp[Kt]at B4
       rw[xJ (fun e=>cU e.symm)];rfl
      have hnw: ¬aZ s (ed s d++[(d,b)])→Region.wanted o (yielded ops a.tmps)=false:=fun wu=>by
       cases hwt:Region.wanted o (yielded ops a.tmps)with
       |false=>rfl
       |true=>exact absurd (hw.1 hwt) wu
      cases hp:Bc C.I C.L s (ed s d++[(d,b)]) o.op with
      |some r=>
       rw[hp]at hk
       dsimp only at hk
       rw[ok.an]at hp
       replace hp:=sQ hp
       by_cases wu:aZ s (ed s d++[(d,b)])
       ·obtain⟨x,hr,hc⟩:=Z8 wu hp
        exact⟨x,.inl ⟨hw.2 wu,hr⟩,_,_,hk.2,h.put hk.1 vf (.inl ⟨wu,hc⟩)⟩
       ·exact⟨undef,.inr ⟨hnw wu,rfl⟩,_,_,hk.2,h.put hk.1 vf (.inr ⟨wu,rfl⟩)⟩
      |none=>
       rw[hp]at hk
       dsimp only at hk
       obtain⟨r,s',E',⟨ou,jS⟩,hS,hP,hx⟩:=N3 hk
       by_cases wu:aZ s (ed s d++[(d,b)])
       ·obtain⟨x,hr,hc⟩:=hx wu
        exact⟨x,.inl ⟨hw.2 wu,hr⟩,_,_,jS,hS.put ou vf (.inl ⟨(hP _).2 wu,hc⟩)⟩
       ·exact⟨undef,.inr ⟨hnw wu,rfl⟩,_,_,jS,hS.put ou vf (.inr ⟨fun hh=>wu ((hP _).1 hh),rfl⟩)⟩
theorem IX(ok:Ok P C){ops:Array Oper}{Q:Exit→Act→World→Prop}{K:St→Prop}{i:Nat}{o:Oper}(hi:ops[i]? =some o)(h:bn E0 E w0 w s a)(hk:GP C ops.toList o s K):jK P C.cl ops Q i (BH E0 w0 K) a w:=by
 unfold jK
 rw[hi]
 dsimp only
 by_cases hm:Bg o.op=true
 ·obtain⟨v,hy,hA⟩:=CQ ok h hm hk
  rcases hy with⟨hw,hv⟩|⟨hw,rfl⟩
  ·rw[if_pos hw]
   have hR:Vh o.op w w:=by unfold Vh;split;exact bY.refl w;rfl;trivial
   unfold kU
   rw[hv w hR]
   exact⟨hA,fun _=>bY.refl w⟩
  ·rw[if_neg (by rw[hw];simp)];exact hA
 ·have h1:=CR (Q:=Q) ok h hk
  split
  ·rename_i hw
   rw[if_pos hw]at h1
   by_cases hg:N8 o.op=true
   ·unfold kU at h1 ⊢
    cases hr:(execOp a.eval o).run P w with
    |halt y w2=>rw[hr]at h1;cases y<;>exact h1
    |ok n w2=>
     obtain⟨⟨v,rfl⟩,hA⟩:=TV hg a.eval hr
     rw[hr]at h1
     exact⟨h1.1,fun _=>hA⟩
   ·exact kU.mono (fun a w h2=>⟨h2.1,fun DU=>h2.2 (by unfold Em at DU;simpa[hm,hg]using DU)⟩) h1
  ·rename_i hw;rw[if_neg hw]at h1;exact h1
def inL(j:Nat):List Nat→Bool
 |[]=>false
 |k::r=>du k j||inL j r
def Gp(ops:Array Oper)(listed:Array Bool)(i:Nat)(M:List Nat):List Nat:=
 (List.range ops.size).filter fun j=> !(du j i)&& !(listed.getD j true)&&(match ops[j]? with
  |some o=>o.after.all fun e=> !Region.binds .any e||listed.getD e.on false||inL e.on M
  |none=>false)
def ahead(ops:Array Oper)(listed:Array Bool)(i:Nat):Nat→List Nat→List Nat
 |0,M=>M
 |f+1,M=>bif du (Gp ops listed i M).length M.length then M else ahead ops listed i f (Gp ops listed i M)
def Zw(o:Op):Bool:=match o with
 | .build _ _=>false
 |o=>Bg o
def Ms(o:Op):Bool:=match o with
 | .load _ _=>true
 |_=>false
def G6(cl:Nat→Bool)(ops:Array Oper)(listed:Array Bool)(i:Nat):Bool:=
 match ops[i]? with
 |none=>false
 |some oi=>
  let M:=ahead ops listed i ops.size []
  (Region.ready .any ops listed).contains i&&Zw oi.op&&
  (M.all fun j=>match ops[j]? with
   |some oj=>oi.apart ops oj&&(!Ms oi.op||Em cl oj.op)
   |none=>true)&&
  ((List.range ops.size).all fun j=>du j i||inL j M||listed.getD j false||(match ops[j]? with
   |some oj=>oj.after.any fun e=>Region.binds .any e&& !(listed.getD e.on false)&& !(inL e.on M)
   |none=>false))
def AK(cl:Nat→Bool)(ops:Array Oper):Tree→Nat→Array Bool→Option (List Nat)→Bool
 | .done,_,l,none=>(Region.ready .any ops l).isEmpty
 | .one i t,f+1,l,none=>G6 cl ops l i&&AK cl ops t f (l.setIfInBounds i true) none
 | .fork i t u,f+1,l,none=>match Region.ready .any ops l with
  |r::rs=>du r i&&AK cl ops t f (l.setIfInBounds i true) none&&AK cl ops u (f+1) l (some rs)
  |[]=>false
 | .fork i t u,f+1,l,some (r::rs)=>du r i&&AK cl ops t f (l.setIfInBounds i true) none&&AK cl ops u (f+1) l (some rs)
 | .nil,_+1,_,some []=>true
 |_,_,_,_=>false
theorem HX{j:Nat}: ∀{M:List Nat},inL j M=true↔j∈M
 |[]=>by simp[inL]
 |k::r=>by
  simp only[inL,Bool.or_eq_true,List.mem_cons,HX (M:=r)]
  constructor
  ·rintro(h|h)
   ·exact .inl (dy h).symm
   ·exact .inr h
  ·rintro(h|h)
   ·exact .inl (by subst h;exact fc j)
   ·exact .inr h
theorem Ll(ok:Ok P C){ops:Array Oper}{Q:Exit→Act→World→Prop}(hs:Region.noSelect ops=true)(hQ: ∀c a w,¬Q (.panic c) a w){K:St→Prop}{i:Nat}{oi:Oper}{fuel:Nat}{listed:Array Bool}(hi:ops[i]? =some oi)(ht:G6 C.cl ops listed i=true)
  (hK: ∀a w,BH E0 w0 K a w→pw P C.cl .any ops Q fuel (listed.setIfInBounds i true) a w)(h:bn E0 E w0 w s a)(hk:GP C ops.toList oi s K):pw P C.cl .any ops Q (fuel+1) listed a w:=by
 unfold G6 at ht
 rw[hi]at ht
 dsimp only at ht
 simp only[Bool.and_eq_true,List.contains_iff_mem,List.all_eq_true,List.mem_range]at ht
 obtain⟨⟨⟨hr,htk⟩,hM⟩,ajH⟩:=ht
 have hm:Bg oi.op=true:=by
  unfold Zw at htk
  split at htk
  ·cases htk
  ·exact htk
 have Vd: ∀t ps,oi.op≠ .build t ps:=fun t ps e=>by rw[e]at htk;cases htk
 obtain⟨v,hy,hA⟩:=CQ ok h hm hk
 generalize hMd:ahead ops listed i ops.size []=M at*
 have hrf: ∀w,Vh oi.op w w:=fun w=>by unfold Vh;split;exact bY.refl w;rfl;trivial
 refine GO (R:=Vh oi.op) ?_ hrf hi (Region.noSelect_spec hs) (fun c a w hq=>absurd hq (hQ _ _ _)) (fun j=>j∈M) ?_ fuel listed a w ?_ hr hy (hK _ _ hA)
 ·intro a b c h1 h2
  generalize oi.op=x at h1 h2 ⊢
  cases x<;>first|trivial|exact bY.trans h1 h2|exact(show c=b from h2).trans (show b=a from h1)
 ·intro j oj hj cU hjM
  have h1:=hM j hjM
  rw[hj]at h1
  simp only[Bool.and_eq_true,Bool.or_eq_true,Bool.not_eq_true']at h1
  refine⟨h1.1,?_⟩
  by_cases hl:Ms oi.op=true
  ·right
   refine⟨h1.2.resolve_left (by rw[hl];simp),fun w w' hA=>?_⟩
   unfold Ms at hl
   unfold Vh
   split at hl
   ·rename_i heq;rw[heq];exact hA
   ·cases hl
  ·left
   intro w w'
   unfold Vh
   split
   ·rename_i heq;rw[heq]at hl;exact absurd rfl hl
   ·rename_i heq;exact absurd heq (Vd _ _)
   ·trivial
 ·intro l j Tv hl cU hj
  obtain⟨PH,oj,hoj,jD⟩:=mem_ready.1 hj
  have aS:j<ops.size:=(Array.getElem?_eq_some_iff.1 hoj).1
  have h1:=ajH j aS
  simp only[Bool.or_eq_true]at h1
  rcases h1 with((h1|h1)|h1)|h1
  ·exact absurd (dy h1) cU
  ·exact HX.1 h1
  ·have h2:=Tv j h1
   rw[Array.getD_eq_getD_getElem?]at h2 PH
   cases hh:l[j]? with
   |none=>rw[hh]at h2;simp at h2
   |some b=>rw[hh]at h2 PH;simp at h2 PH;rw[h2]at PH;cases PH
  ·rw[hoj]at h1
   obtain⟨e,he,h2⟩:=Array.any_eq_true'.1 h1
   simp only[Bool.and_eq_true,Bool.not_eq_true']at h2
   obtain⟨⟨h3,h4⟩,h5⟩:=h2
   have h6:=jD e he h3
   rcases hl e.on h6 with h7|h7
   ·rw[h7]at h4;cases h4
   ·rw[HX.2 h7]at h5;cases h5
theorem sJ(ok:Ok P C){ops:Array Oper}{Q:Exit→Act→World→Prop}{K:St→Prop}(hs:Region.noSelect ops=true)(hQ: ∀c a w,¬Q (.panic c) a w)(hN: ∀a w,BH E0 w0 K a w→Q .normal a w):
  ∀(t:Tree) (fuel:Nat) (listed:Array Bool) (BR:Option (List Nat)) {s:St} {E:Env} {a:Act} {w:World},AK C.cl ops t fuel listed BR=true→bn E0 E w0 w s a→CN C ops.toList t s K→
   match BR with
   |none=>pw P C.cl .any ops Q fuel listed a w
   |some rs=> ∃f,fuel=f+1∧ ∀i∈rs,jK P C.cl ops Q i (pw P C.cl .any ops Q f (listed.setIfInBounds i true)) a w
 | .done,fuel,listed,BR,s,E,a,w,hc,h,hk=>by
  cases BR with
  |some rs=>simp[AK]at hc
  |none=>
   simp only[AK,List.isEmpty_iff]at hc
   have:Q .normal a w:=hN a w ⟨s,E,hk,h⟩
   cases fuel with
   |zero=>exact⟨hc,this⟩
   |succ f=>exact⟨fun _=>this,by rw[hc];simp⟩
 | .one i t,fuel,listed,BR,s,E,a,w,hc,h,hk=>by
  cases fuel with
  |zero=>cases BR<;>simp[AK]at hc
  |succ f=>
   cases BR with
   |some rs=>simp[AK]at hc
   |none=>
    simp only[AK,Bool.and_eq_true]at hc
    unfold CN at hk
    cases hi:ops.toList[i]? with
    |none=>rw[hi]at hk;exact hk.elim
    |some oi=>
     rw[hi]at hk
     exact Ll ok hs hQ (by rw[←Array.getElem?_toList];exact hi) hc.1 (fun a w ⟨s',E',jS,h'⟩=>sJ ok hs hQ hN t f _ none hc.2 h' jS) h hk
 | .fork i t u,fuel,listed,BR,s,E,a,w,hc,h,hk=>by
  cases fuel with
  |zero=>cases BR<;>simp[AK]at hc
  |succ f=>
   have key: ∀(r:Nat) (rs:List Nat),(du r i&&AK C.cl ops t f (listed.setIfInBounds i true) none&&AK C.cl ops u (f+1) listed (some rs))=true→
     ∀j∈r::rs,jK P C.cl ops Q j (pw P C.cl .any ops Q f (listed.setIfInBounds j true)) a w:=by
    intro r rs hc j hj
    simp only[Bool.and_eq_true]at hc
    have Vb:r=i:=dy hc.1.1
    subst Vb
    unfold CN at hk
    rcases List.mem_cons.1 hj with rfl|hj
    ·have XE:=hk.1
     cases hi:ops.toList[j]? with
     |none=>rw[hi]at XE;exact XE.elim
     |some oi=>
      rw[hi]at XE
      exact xu (fun a w ⟨s',E',jS,h'⟩=>sJ ok hs hQ hN t f _ none hc.1.2 h' jS) (IX ok (by rw[←Array.getElem?_toList];exact hi) h XE)
    ·obtain⟨f',hf,h2⟩:=sJ ok hs hQ hN u (f+1) listed (some rs) hc.2 h hk.2
     cases hf
     exact h2 j hj
   cases BR with
   |none=>
    simp only[AK]at hc
    split at hc
    ·rename_i r rs hr
     refine⟨fun h0=>by simp[hr]at h0,?_⟩
     rw[hr]
     exact key r rs hc
    ·cases hc
   |some rs=>
    cases rs with
    |nil=>simp[AK]at hc
    |cons r rs=>simp only[AK]at hc;exact⟨f,rfl,key r rs hc⟩
 | .nil,fuel,listed,BR,s,E,a,w,hc,h,hk=>by
  cases BR with
  |none=>simp[AK]at hc
  |some rs=>
   cases fuel with
   |zero=>cases rs<;>simp[AK]at hc
   |succ f=>
    cases rs with
    |nil=>exact⟨f,rfl,fun i hi=>by cases hi⟩
    |cons r rs=>simp[AK]at hc
end Ab
namespace Ab
open Go
variable{P:Program}{L:nv}{E0 E E':Env}{w0 w w':World}{s s':St}{a a':Act}{p:Path}{C:dK}
theorem Kv(h:bn E0 E w0 w s a): ∀d x,look d s.clean.t=some x→Cz E x (a.tmps.getD d undef):=fun d x hd=>h.clean.tm d x hd trivial
theorem Dfs.tail{n0:Nat}{l l':List Deferred}(h:Dfs n0 E (l++l')):Dfs n0 E l':=by
 obtain⟨Bs,h1,h2,h3⟩:=h
 obtain⟨Bs1,Bs2,e1,e2,e3⟩:=List.append_eq_map_iff.1 h1
 subst e1
 exact⟨Bs2,e3.symm,(List.nodup_append.1 h2).2.1,fun B hB=>h3 B (by simp[hB])⟩
theorem bn.push(h:bn E0 E w0 w s a){n:Nat}{t:List (Nat×AV)}{A:Array Value}(hn:A.size=n)(ht: ∀d x,look d t=some x→Cz E x (A.getD d undef)):
  bn {E0 with up:=a::E0.up} E w0 w {s with n:=n,t:=t,c:=[],up:={n:=s.n,t:=s.clean.t}::s.up} {tmps:=A,defers:=[]}:=
 ⟨h.heap,h.wf,h.IG,⟨⟨h.sz,Kv h⟩,h.up⟩,hn,fun d x hd _=>ht d x hd,fun d q hd=>by simp[look]at hd,h.bx,h.lv,h.gx,h.gl,⟨h.ext.size,h.ext.aM,h.ext.live,h.ext.bj⟩,h.xc,h.same,h.gk,h.nl,h.ng,h.lo⟩
theorem bn.pop{f:Fr}{u:List Fr}(h:bn {E0 with up:=a::E0.up} E w0 w s a')(hu:s.up=f::u):bn E0 E w0 w {s with n:=f.n,t:=f.t,c:=[],up:=u} a:=by
 have ZZ:=h.up
 rw[hu]at ZZ
 exact⟨h.heap,h.wf,by have:=h.IG;simp only[PY,List.map_cons,List.flatten_cons]at this;exact this.tail,ZZ.2,ZZ.1.1,fun d x hd _=>ZZ.1.2 d x hd,fun d q hd=>by simp[look]at hd,h.bx,h.lv,h.gx,h.gl,
  ⟨h.ext.size,h.ext.aM,h.ext.live,h.ext.bj⟩,h.xc,h.same,h.gk,h.nl,h.ng,h.lo⟩
theorem C4{b:List (Nat×Ob)}{f:Nat→Prop}(hf: ∀d ob,look d b=some ob→f d){t:List (Nat×AV)}(j8:SV b t=true){T:Array Value}(h: ∀d x,look d t=some x→Cz E x (T.getD d undef)):
  ∀d x,look d t=some x→Cz (E.only f) x (T.getD d undef):=fun d x hd=>Cz.only hf (h d x hd) (yS j8 d x hd)
theorem kI.only{b:List (Nat×Ob)}{f:Nat→Prop}(hf: ∀d ob,look d b=some ob→f d): ∀{ab:List Act} {fs:List Fr},okU b fs=true→kI E ab fs→kI (E.only f) ab fs
 |[],[],_,_=>trivial
 |a::ab,g::fs,j8,h=>by
  simp only[okU,Bool.and_eq_true]at j8
  exact⟨⟨h.1.1,C4 hf j8.1 h.1.2⟩,kI.only hf j8.2 h.2⟩
 |[],_::_,_,h=>h.elim
 |_::_,[],_,h=>h.elim
theorem bn.drop(h:bn E0 E w0 w s a)(hc:s.c=[]){b':List (Nat×Ob)}(hb: ∀d ob,look d b'=some ob→look d s.b=some ob)(j8:Pf {s with b:=b'}=true):
  ∃f:Nat→Prop,(∀d ob,look d b'=some ob→f d)∧bn E0 (E.only f) w0 w {s with b:=b'} a:=by
 simp only[Pf,Bool.and_eq_true]at j8
 obtain⟨aew,XC,aev⟩:=j8
 let f:Nat→Prop:=fun d=> ∃ob,look d b'=some ob
 have hf: ∀d ob,look d b'=some ob→f d:=fun d ob hd=>⟨ob,hd⟩
 have k:=HD E f
 refine⟨f,hf,⟨h.heap,⟨h.wf.aM,h.wf.own,h.wf.fz⟩,h.IG,kI.only hf aev h.up,h.sz,fun d x hd _=>?_,fun d q hd=>?_,fun d ob hd=>?_,fun d hl=>hl.2,fun i ob hi=>k.ob (h.gk i ob hi) (h.gx i ob hi),h.gl,?_,h.xc,h.same,h.gk,h.nl,h.ng,h.lo⟩⟩
 ·exact Cz.only hf (h.tm d x hd (by unfold ed;show aZ s (match look d s.c with|some q=>q|none=>[]);rw[hc];trivial)) (yS aew d x hd)
 ·have ou:look d s.c=some q:=hd
  rw[hc]at ou;simp[look]at ou
 ·have h3:=h.bx d ob (hb d ob hd)
  cases ob with
  |box cs=>
   obtain⟨hl,c,e,eQ,ho,hs,dC,hq⟩:=h3
   exact⟨⟨hl,hf d _ hd⟩,c,e,eQ,ho,hs,dC,fun q av x ha hx=>Cz.only hf (hq q av x ha hx) (pd (wc XC d _ hd) q av ha)⟩
  |arr z xs=>
   obtain⟨hl,qe,dQ,hz,hm,c,e,eQ,ho,hs,dC,hi,hq⟩:=h3
   exact⟨⟨hl,hf d _ hd⟩,qe,dQ,hz,hm,c,e,eQ,ho,hs,dC,hi,fun q av x ha hx=>k.cq (hq q av x ha hx) (hi q av ha)⟩
  |ow p l xs=>exact yR (fun hl=>⟨hl,hf d _ hd⟩) rfl rfl (fun ho=>⟨ho,rfl,fun o hh=>hh⟩) (fun a x hi hc=>k.cq hc hi) (fun b hb _=>⟨hb,rfl,fun _=>Iff.rfl,rfl⟩) h3
  |lp n t ps nq body st=>
   obtain⟨hl,ho,hs,rec,eQ,h4,h5,h6,h7,h8,h9,hq⟩:=h3
   exact⟨⟨hl,hf d _ hd⟩,ho,hs,rec,eQ,h4,h5,h6,h7,h8,h9,C4 hf (Al XC hd) hq⟩
 ·exact⟨h.ext.size,h.ext.aM,fun q hq=>by
   cases q with
   |s d=>exact absurd hq (h.nl d)
   |o i=>exact h.ext.live (.o i) hq,h.ext.bj⟩
theorem xN{b0:List (Nat×Ob)}{l:List Nat}{d:Nat}: ∀{b:List (Nat×Ob)},look d (xe b0 l b)=if aei b0 l d then look d b else none
 |[]=>by simp[xe,look]
 |(k,o)::r=>by
  simp only[xe]
  cases hb:aei b0 l k with
  |true=>
   rw[cond_true,aC,aC,xN]
   by_cases hk:k=d
   ·subst hk;rw[if_pos rfl,if_pos rfl,hb];rfl
   ·rw[if_neg hk,if_neg hk]
  |false=>
   rw[cond_false,aC,xN]
   by_cases hk:k=d
   ·subst hk;rw[hb];rfl
   ·rw[if_neg hk]
theorem F8{b0:List (Nat×Ob)}{l:List Nat}{d:Nat}{ob:Ob}{b:List (Nat×Ob)}(h:look d (xe b0 l b)=some ob):look d b=some ob:=by
 rw[xN]at h
 split at h
 ·exact h
 ·cases h
theorem bn.mJ(h:bn E0 E w0 w s a){d:Nat}(hd:look d s.b=none){ob:Ob}{o:Obj}(td:cf (E.addKey (.s d) o) (.s d) ob):
  bn E0 (E.addKey (.s d) o) w0 (w.alloc o) {s with b:=cX d ob s.b} a:=by
 have zl: ¬E.live (.s d):=fun hl=>by obtain⟨ob,ho⟩:=h.lv d hl;rw[hd]at ho;cases ho
 have hE:=nt h.wf zl o
 have hs:=h.xG (T:=fun _=>false) hE (fun _ hf=>hf.elim) pQ (Gr h.wf _ _) (w':=w.alloc o) (by show w.heap.push _=_;rw[h.heap];rfl) (sM _ _) (fun _ _ hf=>hf.elim)
  (cX d ob s.b) s.g s.nx (fun d' DG h'=>by
   rw[aF]at h'
   by_cases rI:d=d'
   ·rw[if_pos rI]at h';cases h';subst rI;exact .inr td
   ·rw[if_neg rI]at h';exact .inl ⟨DG,h',(nF (fun _=>rfl) DG).symm,(fun hf=>hf),fun hf=>hf⟩)
  (fun d' hl=>by
   rw[aF]
   by_cases rI:d=d'
   ·exact⟨ob,by rw[if_pos rI]⟩
   ·rw[if_neg rI]
    rcases hl with hl|hl
    ·exact absurd (by injection hl with hl;exact hl.symm) rI
    ·exact h.lv d' hl)
  (fun i DG h'=> .inl ⟨h',fun hf=>hf⟩)
  (fun i=>by
   constructor
   ·rintro(hl|hl)
    ·cases hl
    ·exact(h.gl i).1 hl
   ·exact fun hl=> .inr ((h.gl i).2 hl)) h.gk (fun b=>Gs h.ng d b)
 have:fV (fun _=>false) s.t=s.t:=kJ (fun _=>rfl) _
 rw[this,oX (fun _=>rfl)]at hs
 exact hs
def Env.eR(E:Env)(o:Obj):Env:={E with h:=E.h.push o,own:=fun b=>if b=E.h.size then .jF else E.own b}
theorem Ew(hw:Wf E)(o:Obj):Ext (fun _=>False) E (E.eR o):=
 ⟨by simp[Env.eR],
  fun b i hb=>⟨hb,by have:=hw.aM b i hb;exact yd E.h o this i,rfl⟩,
  fun q hq=>⟨hq,rfl,rfl⟩,
  fun b hb _=>⟨by simp only[Env.eR];rw[if_neg (by omega)],by simp only[Env.eR];rw[Array.getElem?_push,if_neg (by omega)],fun _=>Iff.rfl,rfl⟩⟩
theorem P0(hw:Wf E)(o:Obj):Wf (E.eR o):=
 ⟨fun b i hs=>by have:=hw.aM b i hs;simp[Env.eR];omega,fun b hb=>by
  simp only[Env.eR]at hb
  by_cases h:b=E.h.size
  ·simp[Env.eR,h]
  ·rw[if_neg h]at hb;have:=hw.own b hb;simp[Env.eR];omega,
  fun b i hs hr=>by
  obtain⟨c,e,h⟩:=hw.fz b i hs hr
  have:=hw.aM b i hs
  exact⟨c,e,by simp only[Env.eR];rw[Array.getElem?_push,if_neg (by omega)];exact h⟩⟩
theorem bn.mark(h:bn E0 E w0 w s a):bn E0 (E.eR (.deferred (some []))) w0 (w.alloc (.deferred (some []))) s {a with defers:={target:= .collected w.heap.size,args:= #[]}::a.defers}:=by
 have hE:=Ew h.wf (.deferred (some []))
 have hs:=h.xG (T:=fun _=>false) hE (fun _ hf=>hf.elim) pQ (P0 h.wf _) (w':=w.alloc (.deferred (some []))) (by show w.heap.push _=_;rw[h.heap];rfl) (sM _ _) (fun _ _ hf=>hf.elim)
  s.b s.g s.nx (fun d' DG h'=> .inl ⟨DG,h',(nF (fun _=>rfl) DG).symm,(fun hf=>hf),fun hf=>hf⟩) (fun d' hl=>h.lv d' hl)
  (fun i DG h'=> .inl ⟨h',fun hf=>hf⟩) h.gl h.gk (fun b=>by
   have:=h.ng b
   simp only[Env.eR]
   split
   ·simp[dz,Own.dz]
   ·exact this)
 have:fV (fun _=>false) s.t=s.t:=kJ (fun _=>rfl) _
 rw[this,oX (fun _=>rfl)]at hs
 obtain⟨Bs,q1,q2,q3⟩:=h.IG
 refine⟨hs.heap,hs.wf,⟨w.heap.size::Bs,?_,?_,?_⟩,hs.up,hs.sz,hs.tm,hs.cu,hs.bx,hs.lv,hs.gx,hs.gl,hs.ext,hs.xc,hs.same,hs.gk,hs.nl,hs.ng,hs.lo⟩
 ·simp only[PY,List.cons_append,List.map_cons]
  rw[←q1];rfl
 ·refine List.nodup_cons.2 ⟨fun hB=>?_,q2⟩
  have:=(Array.getElem?_eq_some_iff.1 (q3 _ hB).1).1
  rw[h.heap]at this;omega
 ·intro B hB
  rcases List.mem_cons.1 hB with rfl|hB
  ·rw[h.heap];exact⟨by simp[Env.eR],by simp[Env.eR],h.ext.size⟩
  ·obtain⟨q4,q5,q6⟩:=q3 B hB
   have aS:=(Array.getElem?_eq_some_iff.1 q4).1
   exact⟨by simp only[Env.eR];rw[Array.getElem?_push,if_neg (by omega)];exact q4,by simp only[Env.eR];rw[if_neg (by omega)];exact q5,q6⟩
def Env.nd(E:Env)(b:Nat)(o:Obj):Env:={E with h:=E.h.setIfInBounds b o}
theorem bn.take(h:bn E0 E w0 w s a){d:Deferred}{ds:List Deferred}(hd:a.defers=d::ds):
  ∃B,d.target= .collected B∧w.heap[B]? =some (.deferred (some []))∧bn E0 (E.nd B (.deferred none)) w0 (w.putObj B (.deferred none)) s {a with defers:=ds}:=by
 obtain⟨Bs,q1,q2,q3⟩:=h.IG
 have q1':=q1
 simp only[PY,hd,List.cons_append]at q1
 cases Bs with
 |nil=>simp at q1
 |cons B Bs=>
  simp only[List.map_cons,List.cons.injEq]at q1
  obtain⟨e1,e2⟩:=q1
  obtain⟨q4,q5,q6⟩:=q3 B (by simp)
  have aS:=(Array.getElem?_eq_some_iff.1 q4).1
  have sm: ∀b i,aO (E.nd B (.deferred none)).h b i=aO E.h b i:=fun b i=>by
   simp only[Env.nd,aO]
   by_cases hbB:b=B
   ·subst hbB
    rw[q4,Array.getElem?_setIfInBounds_self]
    simp[aS]
   ·rw[Array.getElem?_setIfInBounds_ne (Ne.symm hbB)]
  have wJ: ∀b,b≠B→(E.nd B (.deferred none)).h[b]? =E.h[b]? :=fun b hb=>by
   simp only[Env.nd];rw[Array.getElem?_setIfInBounds_ne (Ne.symm hb)]
  have hE:Ext (fun o=>o= .jF) E (E.nd B (.deferred none)):=by
   refine⟨by simp[Env.nd],fun b i hb=>⟨hb,sm b i,rfl⟩,fun q hq=>⟨hq,rfl,rfl⟩,fun b hb hn=>⟨rfl,?_,fun _=>Iff.rfl,rfl⟩⟩
   exact wJ b fun e=>by subst e;exact hn q5
  have hT: ∀t,(fun o=>o=Own.jF) (.tok t)→(fun _:Tok=>false) t=true:=fun t ht=>by cases ht
  have cz: ∀{av:AV} {x:Value},Cz E av x→Cz (E.nd B (.deferred none)) av x:=fun{av x} hx=>by
   have:=(hx.ext hE h.wf (fun _=>false) hT).1
   rwa [jW (fun _=>rfl)]at this
  have ob: ∀{k:Key} {o:Ob},cf E k o→cf (E.nd B (.deferred none)) k o:=fun{k o} ho=>by
   have:=cf.move hE h.wf (fun _=>false) hT (by intro hf;cases hf) (by intro _ hf;cases hf) ho
   rwa [nF (fun _=>rfl)]at this
  refine⟨B,by rw[e1],by rw[h.heap];exact q4,?_⟩
  refine⟨by simp[World.putObj,Env.nd,h.heap],⟨fun b o hs=>by have:=h.wf.aM b o hs;simpa[Env.nd]using this,fun b hb=>by have:=h.wf.own b hb;simpa[Env.nd]using this,fun b o hs hr=>by
   obtain⟨c,e,hc⟩:=h.wf.fz b o hs hr
   have:b≠B:=fun e=>by subst e;rw[q4]at hc;cases hc
   exact⟨c,e,(wJ b this).trans hc⟩⟩,⟨Bs,?_,(List.nodup_cons.1 q2).2,fun B' hB'=>?_⟩,?_,h.sz,
   fun d x hd hp=>cz (h.tm d x hd hp),h.cu,fun d o hd=>ob (h.bx d o hd),h.lv,fun i o hi=>ob (h.gx i o hi),h.gl,⟨by simp only[Env.nd];simpa using h.ext.size,fun b o hs=>?_,h.ext.live,fun b hb hn=>?_⟩,h.xc,?_,h.gk,h.nl,h.ng,h.lo⟩
  ·exact e2
  ·obtain⟨q7,q8,q9⟩:=q3 B' (by simp[hB'])
   have:B'≠B:=fun e=>by subst e;exact(List.nodup_cons.1 q2).1 hB'
   exact⟨(wJ B' this).trans q7,q8,q9⟩
  ·have:=kI.move hE h.wf (fun _=>false) hT h.up
   rwa [oX (fun _=>rfl)]at this
  ·obtain⟨k1,k2,k3⟩:=h.ext.aM b o hs
   exact⟨k1,(sm b o).trans k2,k3⟩
  ·obtain⟨k1,k2,k3,k4⟩:=h.ext.bj b hb hn
   exact⟨k1,(wJ b (by omega)).trans k2,k3,k4⟩
  ·exact⟨h.same.1,h.same.2.1,h.same.2.2⟩
end Ab
namespace Ab
open Go
variable{P:Program}{F:Fence}{n:Nat}{Q:Exit→Act→World→Prop}{a:Act}{w:World}
theorem kY{b:Frame}{k:List Item}{cs:List Frame}{c:Code}:step P (lone (b.atR a (.code (.scope c)::k)) cs w)= .next (lone (b.atR a (.code c:: .inScope c::k)) cs w):=
 step_lone_go (by simp[stepG,stepG.exec,Frame.atR])
theorem ER{b:Frame}{k:List Item}{cs:List Frame}{c:Code}:step P (lone (b.atR a (.inScope c::k)) cs w)= .next (lone (b.atR a k) cs w):=
 step_lone_go (by simp[stepG,stepG.exec,Frame.atR])
theorem Lc{c:Code}(h:c.wpIn F n P (Exit.noGoto Q) a w):(Code.scope c).wpIn F n P Q a w:=by
 intro b k cs DS hb hr
 have h0:(lone (b.atR a (.code (.scope c)::k)) cs w).fenced P F:=fenced_calm hb hr rfl
 obtain⟨e,a₁,w₁,hq,Kh⟩:=h b (.inScope c::k) cs DS hb hr
 cases e with
 |normal=>exact⟨.normal,a₁,w₁,hq,.head h0 kY (StepsIn.trans Kh (.one (fenced_calm hb hr rfl) ER))⟩
 |exit id=>
  have hx:exitTo id (.inScope c::k)=exitTo id k:=by simp[exitTo]
  exact⟨.exit id,a₁,w₁,hq,fun k' hk=> .head h0 kY (Kh.1 k' (by rw[hx];exact hk)),
   fun zT hk=>let⟨k₁,h1,h2⟩:=Kh.2 zT (by rw[hx];exact hk);⟨k₁,h1,.head h0 kY h2⟩⟩
 |goto l=>exact hq.elim
 |ret=>exact⟨_,a₁,w₁,hq,.of_steps (.one h0 kY) Kh⟩
 |panic ch=>exact⟨_,a₁,w₁,hq,.of_steps (.one h0 kY) Kh⟩
 |outgrown=>exact⟨_,a₁,w₁,hq,.of_steps (.one h0 kY) Kh⟩
end Ab
namespace Ab
open Go
variable{P:Program}{L:nv}{E0 E E':Env}{w0 w w':World}{s s':St}{a:Act}{p:Path}{C:dK}
def ua:Code→Bool
 | .seq a b=>ua a&&ua b
 | .cond _ a b=>ua a&&ua b
 | .block _ a=>ua a
 | .loop a=>ua a
 | .rangeFunc .. =>false
 | .scope a=>ua a
 |_=>true
def cm(cl:Nat→Bool)(T:Nat→Tree):Code→Bool
 | .region id ops true=>Region.noSelect ops&&AK cl ops (T id) ops.size (Array.replicate ops.size false) none
 | .seq a b=>cm cl T a&&cm cl T b
 | .cond _ a b=>cm cl T a&&cm cl T b
 | .block _ a=>cm cl T a
 | .loop a=>cm cl T a
 | .scope a=>cm cl T a
 | .rangeFunc _ _ a b=>(ua a&&ua b)&&(cm cl T a&&cm cl T b)
 |_=>true
def BE(E0:Env)(w0:World)(Q:Ex→St→Prop):Exit→Act→World→Prop
 | .normal,a,w=> ∃s E,Q .normal s∧bn E0 E w0 w s a
 | .exit k,a,w=> ∃s E,Q (.exit k) s∧bn E0 E w0 w s a
 | .ret,a,w=> ∃s E,Q .ret s∧bn E0 E w0 w s a
 |_,_,_=>False
theorem BE.mono{Q Q':Ex→St→Prop}(hq: ∀e s,Q e s→Q' e s){e:Exit}{a:Act}{w:World}(h:BE E0 w0 Q e a w):BE E0 w0 Q' e a w:=by
 cases e<;>first|exact h.elim|(obtain⟨s,E,h1,h2⟩:=h;exact⟨s,E,hq _ _ h1,h2⟩)
theorem bn.drew(h:bn E0 E w0 w s a)(n:Nat):bn E0 E w0 {w with drawn:=n} s a:=
 ⟨h.heap,h.wf,h.IG,h.up,h.sz,h.tm,h.cu,h.bx,h.lv,h.gx,h.gl,h.ext,h.xc,⟨h.same.1,h.same.2.1,h.same.2.2⟩,h.gk,h.nl,h.ng,h.lo⟩
theorem tL{F:Fence}{n:Nat}{Q:Exit→Act→World→Prop}{c:Code}(I:Nat→Act→World→Prop)(n₀:Nat)(h₀:I n₀ a w)
  (round: ∀k a w,I k a w→c.wpIn F n P (Exit.then (fun a' w'=> ∃n',n'<k∧I n' a' w') Q) a w):(Code.loop c).wpIn F n P Q a w:=by
 refine wpIn_loop (fun a w=> ∃n,I n a w) (fun a w=>leastOf (fun n=>I n a w)) ⟨n₀,h₀⟩ ?_
 intro a w hI
 refine wpIn_mono (round _ a w (leastOf_spec hI).1) ?_
 intro e a' w' hq
 cases e with
 |normal=>
  obtain⟨n',aS,hI'⟩:=hq
  exact show(∃n,I n a' w')∧leastOf (fun n=>I n a' w')<leastOf (fun n=>I n a w)from⟨⟨n',hI'⟩,Nat.lt_of_le_of_lt ((leastOf_spec ⟨n',hI'⟩).2 n' hI') aS⟩
 |exit id=>exact hq
 |goto l=>exact hq
 |ret=>exact hq
 |panic ch=>exact hq
 |outgrown=>exact hq
def KI(P:Program)(c:Code)(W:St→(Ex→St→Prop)→Prop)(ro:Option Nat):Prop:=
 ∀{E0:Env} {w0:World} {Q:Ex→St→Prop} {s:St} {E:Env} {a:Act} {w:World},bn E0 E w0 w s a→W s Q→c.wpIn (WF ro) 0 P (BE E0 w0 Q) a w
theorem F5{α β:Type}: ∀{l:List α} {m:List β},DP l m=true→l.length=m.length
 |[],[],_=>rfl
 |_::r,_::q,h=>by simp[F5 (l:=r) (m:=q) (by simpa[DP]using h)]
 |[],_::_,h=>by simp[DP]at h
 |_::_,[],h=>by simp[DP]at h
theorem FT{n:Nat}: ∀{ps:List Nat} {ab:List AV} {vs:List Value} {t:List (Nat×AV)} {A:Array Value},A.size=n→KF n ps=true→ab.length=ps.length→vs.length=ps.length→
  (∀(q:Nat) (b:AV) (y:Value),ab[q]? =some b→vs[q]? =some y→Cz E b y)→(∀d x,look d t=some x→Cz E x (A.getD d undef))→
  (((ps.zip vs).foldl (fun t (q:Nat×Value)=>t.setIfInBounds q.1 q.2) A).size=n∧ ∀d x,look d (Mb ps ab t)=some x→Cz E x (((ps.zip vs).foldl (fun t (q:Nat×Value)=>t.setIfInBounds q.1 q.2) A).getD d undef))
 |[],ab,vs,t,A,hn,_,_,_,_,ht=>⟨hn,by cases ab<;>exact ht⟩
 |p::ps,[],vs,t,A,_,_,h,_,_,_=>by simp at h
 |p::ps,b::ab,[],t,A,_,_,_,h,_,_=>by simp at h
 |p::ps,b::ab,y::vs,t,A,hn,hp,h1,h2,hv,ht=>by
  simp only[KF,Bool.and_eq_true]at hp
  have hpn:p<n:=by simpa using hp.1
  refine FT (ps:=ps) (ab:=ab) (vs:=vs) (t:=cX p b t) (A:=A.setIfInBounds p y) (by simpa using hn) hp.2 (by simpa using h1) (by simpa using h2) (fun q b' y' hb hy=>hv (q+1) b' y' (by simpa using hb) (by simpa using hy)) fun d x hd=>?_
  rw[aF]at hd
  by_cases hpd:p=d
  ·subst hpd
   rw[if_pos rfl]at hd;cases hd
   rw[Array.getD_eq_getD_getElem?,Array.getElem?_setIfInBounds_self]
   simp only[hn,hpn,if_true,Option.getD_some]
   exact hv 0 b y rfl rfl
  ·rw[if_neg hpd]at hd
   rw[Array.getD_eq_getD_getElem?,Array.getElem?_setIfInBounds_ne hpd,←Array.getD_eq_getD_getElem?]
   exact ht d x hd
theorem Rb(w:World)(b:Nat)(o:Obj):iC w (w.putObj b o):=⟨rfl,rfl,rfl⟩
theorem bn.SI(h:bn E0 E w0 w s a){kd:Nat}{n:Nat×Nat}{t:List (Nat×AV)}{ps:List Nat}{nq body:Unit→Code}{st:LS}(hk:look kd s.b=some (.lp n t ps nq body st)){rec:Loop}(hr:w.heap[E.m (.s kd)]? =some (.loop rec)){st':LS}{ls:LoopState}{pe:Option Code}(fP:agr st' ls pe):
  bn E0 (E.write (.s kd) (.loop {rec with state:=ls,pending:=pe})) w0 (w.putObj (E.m (.s kd)) (.loop {rec with state:=ls,pending:=pe})) {s with b:=cX kd (.lp n t ps nq body st') s.b} a:=by
 obtain⟨hl,ho,hs,ab6,eQ,h4,h5,h6,h7,h8,h9,hq⟩:=h.bx kd _ hk
 rw[h.heap]at hr
 have:ab6=rec:=by rw[eQ]at hr;cases hr;rfl
 subst this
 have hE:=ir ho hs (.loop {ab6 with state:=ls,pending:=pe})
 have aS:E.m (.s kd)<E.h.size:=(Array.getElem?_eq_some_iff.1 eQ).1
 refine h.pq hk ⟨hl,ho,hs,{ab6 with state:=ls,pending:=pe},by simp[Env.write,aS],h4,h5,h6,h7,fP,h9,?_⟩ rfl (Rb _ _ _) ho hs
 have:=v7 hE h.wf (fun _=>false) (fb _) hq
 rwa [kJ (fun _=>rfl)]at this
theorem OC(ps:Array Tmp)(vs:List Value)(A:Array Value):
  (ps.zip vs.toArray).foldl (fun t (q:Tmp×Value)=>t.setIfInBounds q.1 q.2) A=(ps.toList.zip vs).foldl (fun t (q:Nat×Value)=>t.setIfInBounds q.1 q.2) A:=by
 rw[←Array.foldl_toList,Array.toList_zip]
theorem IJ{kd:Nat}{ps:List Nat}{nq body:Code}{Wa Wb:St→(Ex→St→Prop)→Prop}(ha: ∀l,KI P nq Wa (some l))(hb: ∀l,KI P body Wb (some l)){args:List AV}{K:bd}{vs:List Value}
  (hk:GN kd ps (fun _=>nq) (fun _=>body) Wa Wb args s K)(h:bn E0 E w0 w s a)(hlen:vs.length=args.length)(hv: ∀(q:Nat) (b:AV) (y:Value),args[q]? =some b→vs[q]? =some y→Cz E b y):
  YieldAt Fence.wide 0 P (E.m (.s kd)) vs.toArray w fun e w'=> ∃x,e= .returned x∧ ∃r s' E',K r s'∧bn E0 E' w0 w' s' a∧Cz E' r x:=by
 unfold GN at hk
 split at hk
 ·rename_i n t U2 UD KA fF
  obtain⟨⟨rfl,rfl,rfl⟩,hk⟩:=hk
  cases tf:DP U2 args&&KF n.2 U2&&ca args with
  |false=>rw[tf]at hk;exact hk.elim
  |true=>
   rw[tf,cond_true]at hk
   simp only[Bool.and_eq_true]at tf
   obtain⟨⟨Vf,hl2⟩,_⟩:=tf
   have Vf:=F5 Vf
   obtain⟨DV,ho,hs,rec,eQ,h4,h5,h6,h7,h8,h9,hq⟩:=h.bx kd _ fF
   have aoP:w.heap[E.m (.s kd)]? =some (.loop rec):=by rw[h.heap];exact eQ
   have hy:=run_yield (P:=P) (args:=vs.toArray) aoP (by rw[←Array.length_toList (xs:=rec.params),h5];simp[hlen,Vf])
   obtain⟨hA1,hA2⟩:=FT (E:=E) (ps:=U2) (ab:=args) (vs:=vs) (t:=t) (A:=rec.tmps) h4 hl2 Vf.symm (by rw[hlen,Vf]) hv hq
   refine⟨rec.fn,_,rec.assign,rec.body,hy,roundIn_of_wpIn (F:=Fence.wide) trivial ?_⟩
   rw[h6,h7]
   have TQ:(rec.params.zip vs.toArray).foldl (fun tmps (x:Tmp×Value)=>tmps.setIfInBounds x.1 x.2) rec.tmps=(U2.zip vs).foldl (fun t (q:Nat×Value)=>t.setIfInBounds q.1 q.2) rec.tmps:=by
    rw[OC,h5]
   have aeP:(rec.params.zip vs.toArray).foldl (fun tmps x=>match x with|(t,a)=>tmps.setIfInBounds t a) rec.tmps=(U2.zip vs).foldl (fun t (q:Nat×Value)=>t.setIfInBounds q.1 q.2) rec.tmps:=TQ
   rw[aeP]
   have h3:=h.push hA1 hA2
   refine wpIn_mono (ha (E.m (.s kd)) h3 hk) fun e a1 w1 hp=>?_
   cases e with
   |normal=>
    obtain⟨s4,E4,Vg,h4'⟩:=hp
    dsimp only at Vg
    split at Vg
    ·rename_i n4 t4 ps4 asg4 body4 ajq
     obtain⟨hlive4,ho4,hs4,ab5,hb4,g4,g5,g6,g7,g8,g9,gq⟩:=h4'.bx kd _ ajq
     have Z5:w1.heap[E4.m (.s kd)]? =some (.loop ab5):=by rw[h4'.heap];exact hb4
     obtain⟨e4,Vg⟩:=Vg
     have hm4:E4.m (.s kd)=E.m (.s kd):=by rw[g9,e4,h9]
     have aoF:ab5.state= .ready:=g8.1
     refine⟨_,run_beginRound (P:=P) (l:=E.m (.s kd)) (by rw[←hm4];exact Z5) aoF,?_⟩
     have h5':=h4'.SI ajq Z5 (st':= .busy) (ls:= .busy) (pe:=ab5.pending) rfl
     rw[hm4]at h5'
     refine wpIn_mono (hb (E.m (.s kd)) h5' Vg) fun e a2 w2 xf=>?_
     have fin: ∀{ex:Ex} {s5:St} {E5:Env},Lu kd n.1 s.b K ex s5→bn {E0 with up:=a::E0.up} E5 w0 w2 s5 a2→
       ∃v w',(Instr.endRound (E.m (.s kd)) (xW ex)).run P w2= .ok v w'∧ ∃x,Ending.returned v= .returned x∧ ∃r s' E',K r s'∧bn E0 E' w0 w' s' a∧Cz E' r x:=by
      intro ex s5 E5 hr PE
      unfold Lu at hr
      split at hr
      ·rename_i f u n5 t5 ps5 agk Uy ZZ TH
       obtain⟨e5,hr⟩:=hr
       obtain⟨aeF,ho5,aoM,O0,hb5,f4,f5,f6,f7,f8,f9,fq⟩:=PE.bx kd _ TH
       have hm5:E5.m (.s kd)=E.m (.s kd):=by rw[f9,e5,h9]
       have Kc:w2.heap[E5.m (.s kd)]? =some (.loop O0):=by rw[PE.heap];exact hb5
       refine⟨_,_,run_endRound (P:=P) (xW ex) (by rw[←hm5];exact Kc),_,rfl,?_⟩
       have h6':=PE.SI TH Kc (st':=Xf ex) (ls:=if(xW ex).isNone then .ready else .done) (pe:=xW ex) (by cases ex<;>simp[agr,xW,Xf])
       have h7':=h6'.pop (f:=f) (u:=u) ZZ
       rw[hm5]at h7'
       generalize hB:xe s.b (reach s5.b 4 (wh s.b s5.b)) (cX kd (.lp n5 t5 ps5 agk Uy (Xf ex)) s5.b)=B at hr
       cases j8:Pf {n:=f.n,t:=f.t,c:=[],g:=s5.g,nx:=s5.nx,up:=u,fl:=s5.fl,b:=B}with
       |false=>rw[j8]at hr;exact hr.elim
       |true=>
        rw[j8,cond_true]at hr
        obtain⟨ff,_,h8'⟩:=h7'.drop rfl (b':=B) (fun d ob hd=>by rw[←hB]at hd;exact F8 hd) j8
        refine⟨_,_,_,hr,h8',?_⟩
        cases ex<;>exact .v _
      ·exact hr.elim
     cases e with
     |normal=>obtain⟨s5,E5,hr,PE⟩:=xf;exact fin hr PE
     |exit k=>obtain⟨s5,E5,hr,PE⟩:=xf;exact fin hr PE
     |ret=>obtain⟨s5,E5,hr,PE⟩:=xf;exact fin hr PE
     |goto l=>exact xf.elim
     |panic c=>exact xf.elim
     |outgrown=>exact xf.elim
    ·exact Vg.elim
   |exit k=>obtain⟨s4,E4,Vg,_⟩:=hp;exact Vg.elim
   |ret=>obtain⟨s4,E4,Vg,_⟩:=hp;exact Vg.elim
   |goto l=>exact hp.elim
   |panic c=>exact hp.elim
   |outgrown=>exact hp.elim
 ·exact hk.elim
theorem Jh(ok:Ok P C){g:Operand}{ps:Array Tmp}{nq body:Code}{Q:Ex→St→Prop}(ha: ∀l,KI P nq (fun s Q=>pt C nq s Q) (some l))(hb: ∀l,KI P body (fun s Q=>pt C body s Q) (some l))
  (h:bn E0 E w0 w s a)(hk:pt C (.rangeFunc g ps nq body) s Q):(Code.rangeFunc g ps nq body).wpIn (WF none) 0 P (BE E0 w0 Q) a w:=by
 unfold pt at hk
 have hgv:=h.ev (p:=[]) trivial g
 split at hk
 ·rename_i k cap dO fF
  rw[dO]at hgv
  cases XH:a.eval g<;>rw[XH]at hgv<;>cases hgv
  rename_i ys hl hq
  generalize hkd:C.base+999=kd at hk fF
  have hk:=hk (w.heap.size+1)
  have h1:=h.clean.mark
  have MG:look kd s.clean.b=none:=fF
  let Df:FuncId→Loop:=fun fn=>{state:= .ready,pending:=none,fn:=fn,tmps:=a.tmps,params:=ps,assign:=nq,body:=body,defers:=w.heap.size}
  have h2: ∀fn,bn E0 ((E.eR (.deferred (some []))).addKey (.s kd) (.loop (Df fn))) w0 ((w.alloc (.deferred (some []))).alloc (.loop (Df fn)))
    {s.clean with b:=cX kd (.lp (w.heap.size+1,s.n) s.clean.t ps.toList (fun _=>nq) (fun _=>body) .WK) s.b} {a with defers:={target:= .collected w.heap.size,args:= #[]}::a.defers}:=fun fn=>by
   have zl: ¬(E.eR (.deferred (some []))).live (.s kd):=fun qJ=>by obtain⟨ob,ho⟩:=h1.lv kd qJ;rw[MG]at ho;cases ho
   have hE:=nt h1.wf zl (.loop (Df fn))
   refine h1.mJ MG ⟨.inl rfl,by simp[Env.addKey],fun o hs=>?_,Df fn,by simp[Env.addKey],h.sz,rfl,rfl,rfl,⟨rfl,rfl⟩,?_,?_⟩
   ·simp only[Env.addKey,if_true]at hs
    have:=h1.wf.aM _ _ hs;omega
   ·simp[Env.addKey,Env.eR,←h.heap]
   ·have:=v7 hE h1.wf (fun _=>false) (fun _ hf=>hf.elim) (t:=s.clean.t) (A:=a.tmps) (fun d x hd=>h1.tm d x hd trivial)
    rwa [kJ (fun _=>rfl)]at this
  have hY:P3 P (fun d args s2 K2=>bif du d kd then GN kd ps.toList (fun _=>nq) (fun _=>body) (fun s Q=>pt C nq s Q) (fun s Q=>pt C body s Q) args s2 K2 else C.yl d args s2 K2):=by
   intro d args s2 K2 E0' E2 w0' w2 a2 vs DW KT hlen hv
   by_cases hd:d=kd
   ·subst hd
    rw[fc,cond_true]at DW
    exact IJ ha hb DW KT hlen hv
   ·rw[xJ hd,cond_false]at DW
    exact ok.yl DW KT hlen hv
  refine wpIn_rangeFunc ?_
  intro fn _
  have h3:=h2 fn
  have hwl:((w.alloc (.deferred (some []))).alloc (.loop (Df fn))).heap=((E.eR (.deferred (some []))).addKey (.s kd) (.loop (Df fn))).h:=h3.heap
  have hm:((E.eR (.deferred (some []))).addKey (.s kd) (.loop (Df fn))).m (.s kd)=w.heap.size+1:=by simp[Env.addKey,Env.eR,←h.heap]
  obtain⟨xV,Au⟩:=ok.At _ hY (vs:= .func (.yield (w.heap.size+1)) #[] #[]::ys) hk h3 (by simp[hl]) (fun q b y eQ hy=>by
   cases q with
   |zero=>
    simp at eQ hy;subst eQ;subst hy
    rw[←hm];exact .po _ (.inl rfl)
   |succ q=>
    simp at eQ hy
    have zl: ¬(E.eR (.deferred (some []))).live (.s kd):=fun qJ=>by obtain⟨ob,ho⟩:=h1.lv kd qJ;rw[MG]at ho;cases ho
    have e1:=(hq q b y eQ hy).ext (Ew h.wf (.deferred (some []))) h.wf (fun _=>false) (fun _ hf=>hf.elim)
    have e2:=e1.1
    rw[jW (fun _=>rfl)]at e2
    have e3:=(e2.ext (nt h1.wf zl (.loop (Df fn))) h1.wf (fun _=>false) (fun _ hf=>hf.elim)).1
    rwa [jW (fun _=>rfl)]at e3)
  refine⟨w.heap.size+1,[{target:= .collected w.heap.size,args:= #[]}],(w.alloc (.deferred (some []))).alloc (.loop (Df fn)),{target:= .fn (.func k) ys.toArray,args:= #[.func (.yield (w.heap.size+1)) #[] #[]]},(w.alloc (.deferred (some []))).alloc (.loop (Df fn)),k,
   #[.func (.yield (w.heap.size+1)) #[] #[]]++ys.toArray,(w.alloc (.deferred (some []))).alloc (.loop (Df fn)),run_enterLoop_outer _ _ _ _ _,?_,fun _ _=>trivial,?_,fun hd=>(by cases hd),?_⟩
  ·simp only[resolve,XH]
   simp[go_sem]
  ·simp only[invoke]
   simp[go_sem,xV _ _]
  ·have Kh:(Value.func (.yield (w.heap.size+1)) #[] #[]::ys).toArray= #[.func (.yield (w.heap.size+1)) #[] #[]]++ys.toArray:=Array.toList_inj.1 (by simp)
   rw[Kh]at Au
   refine(callsIn_wide (n:=0)).2 (Calls.mono Au ?_)
   rintro e w3 ⟨x,rfl,r,s3,E3,hr,hs3,_⟩
   unfold Zy at hr
   split at hr
   ·rename_i n5 t5 ps5 agk Uy st5 TH
    obtain⟨e5,hr⟩:=hr
    cases j8:Pf {s3.clean with b:=del kd s3.b}with
    |false=>rw[j8]at hr;exact hr.elim
    |true=>
     rw[j8,cond_true]at hr
     obtain⟨aeF,ho5,aoM,O0,hb5,f4,f5,f6,f7,f8,f9,fq⟩:=hs3.bx kd _ TH
     have hm5:E3.m (.s kd)=w.heap.size+1:=f9.trans e5
     have Kc:w3.heap[E3.m (.s kd)]? =some (.loop O0):=by rw[hs3.heap];exact hb5
     have Vd:O0.state≠ .busy:=by
      cases st5 with
      |WK=>rw[f8.1];simp
      |dn e=>rw[f8.1];simp
      |busy=>exact hr.elim
      |exh=>exact hr.elim
     have h6:=hs3.clean.SI TH Kc (st':= .exh) (ls:= .exhausted) (pe:=O0.pending) rfl
     rw[hm5]at h6
     have H2:=run_endLoop (P:=P) (w:=w3) (l:=w.heap.size+1) (r:=O0) (by rw[←hm5];exact Kc) Vd
     have Tv: ∀d ob,look d (del kd s3.b)=some ob→look d (cX kd (.lp n5 t5 ps5 agk Uy .exh) s3.b)=some ob:=fun d ob hd=>by
      rw[ij]at hd
      rw[aF]
      split at hd
      ·cases hd
      ·rename_i cU;rw[if_neg cU];exact hd
     obtain⟨ff,_,h7⟩:=h6.drop rfl (b':=del kd s3.b) Tv j8
     refine⟨_,_,H2,?_⟩
     cases st5 with
     |WK=>
      rw[f8.2]at h7 ⊢
      exact⟨_,_,hr,h7⟩
     |dn e=>
      rw[f8.2.1]at h7 ⊢
      cases e with
      |normal=>exact absurd f8.2.1 (by rw[show xW Ex.normal=none from rfl];exact f8.2.2)
      |exit k=>exact wpIn_exit ⟨_,_,hr,h7⟩
      |ret=>exact wpIn_ret ⟨_,_,hr,h7⟩
     |busy=>exact hr.elim
     |exh=>exact hr.elim
   ·exact hr.elim
 ·exact hk.elim
theorem dR(ok:Ok P C)(hm:P.follows .mixedOrders=true): ∀(c:Code) (ro:Option Nat),(ro=none∨ua c=true)→cm C.cl C.tree c=true→KI P c (fun s Q=>pt C c s Q) ro
 | .skip,ro,_,_=>fun h hk=>wpIn_skip ⟨_,_,hk,h⟩
 | .label l,ro,_,_=>fun h hk=>wpIn_label ⟨_,_,hk,h⟩
 | .exit id,ro,_,_=>fun h hk=>wpIn_exit ⟨_,_,hk,h⟩
 | .ret,ro,_,_=>fun h hk=>wpIn_ret ⟨_,_,hk,h⟩
 | .region id ops false,ro,_,_=>fun h hk=>by
  unfold pt at hk
  refine wpIn_region_list (CP ok ro (fun a w ⟨s',E',jS,h'⟩=>?_) h hk)
  have h3:=h'.clean.Fb rfl (C.dead id)
  cases hb:My (id+5000) C.op with
  |false=>rw[hb]at jS;exact⟨_,_,jS,h3⟩
  |true=>
   rw[hb,cond_true]at jS
   unfold I9 at jS
   split at jS
   ·rename_i s5 PE
    obtain⟨E5,h5,_⟩:=er h3 PE
    obtain⟨s6,hw6,jS⟩:=jS
    obtain⟨E6,h6⟩:=h5.wk hw6
    exact⟨_,_,jS,h6⟩
   ·exact jS.elim
 | .region id ops true,ro,_,hd=>by
  intro h hk
  rename_i E0 w0 Q s E a0 w1 hro0
  unfold pt at hk
  simp only[cm,Bool.and_eq_true]at hd
  obtain⟨s',hk,s2,KT,hQ⟩:=hk
  subst KT
  refine wpIn_region_any hm (pv (cl:=C.cl) ro _ _ _ _ ?_)
  refine sJ ok hd.1 (fun c a w hq=>hq) (fun a w ⟨s1,E',jS,h'⟩=>?_) (C.tree id) ops.size _ none hd.2 (h.drew _) hk
  have fin: ∀{E2:Env} {s3:St},(bif My (id+5000) C.op then I9 C.ρ (KC s'.clean.b) s3 (fun s2=>Q .normal s2)else Q .normal s3)→bn E0 E2 w0 w s3 a→ ∃s4 E4,Q .normal s4∧bn E0 E4 w0 w s4 a:=fun{E2 s3} hq h3=>by
   cases hb:My (id+5000) C.op with
   |false=>rw[hb]at hq;exact⟨_,_,hq,h3⟩
   |true=>
    rw[hb,cond_true]at hq
    unfold I9 at hq
    split at hq
    ·rename_i s5 PE
     obtain⟨E5,h5,_⟩:=er h3 PE
     obtain⟨s6,hw6,hq⟩:=hq
     obtain⟨E6,h6⟩:=h5.wk hw6
     exact⟨_,_,hq,h6⟩
    ·exact hq.elim
  rcases jS with jS|jS
  ·exact fin hQ (by rw[←jS];exact h'.clean.Fb rfl _)
  ·obtain⟨E2,h2⟩:=h'.clean.wk jS
   exact fin hQ (h2.clean.Fb rfl _)
 | .seq x y,ro,DS,hd=>fun h hk=>by
  unfold pt at hk
  simp only[cm,Bool.and_eq_true]at hd
  simp only[ua,Bool.and_eq_true]at DS
  refine wpIn_seq (wpIn_mono (dR ok hm x ro (DS.imp id (·.1)) hd.1 h hk) fun e a' w' hq=>?_)
  cases e with
  |normal=>obtain⟨s',E',h1,h2⟩:=hq;exact dR ok hm y ro (DS.imp id (·.2)) hd.2 h2 h1
  |exit k=>exact hq
  |ret=>exact hq
  |goto l=>exact hq
  |panic c=>exact hq
  |outgrown=>exact hq
 | .cond c x y,ro,DS,hd=>fun h hk=>by
  unfold pt at hk
  simp only[cm,Bool.and_eq_true]at hd
  simp only[ua,Bool.and_eq_true]at DS
  have hc:=h.ev (p:=[]) trivial c
  split at hk
  ·rename_i b hb
   rw[hb]at hc
   have XM:=bH hc
   exact wpIn_cond_split XM (fun ht=>dR ok hm x ro (DS.imp id (·.1)) hd.1 h (hk.1 ht)) (fun hf=>dR ok hm y ro (DS.imp id (·.2)) hd.2 h (hk.2 hf))
  ·exact hk.elim
 | .block id x,ro,DS,hd=>fun h hk=>by
  unfold pt at hk
  simp only[cm]at hd
  simp only[ua]at DS
  refine wpIn_block (wpIn_mono (dR ok hm x ro DS hd h hk) fun e a' w' hq=>?_)
  cases e with
  |normal=>exact hq
  |exit k=>
   obtain⟨s',E',h1,h2⟩:=hq
   dsimp only at h1
   simp only[Exit.inBlock]
   by_cases hki:k=id
   ·subst hki
    rw[fc,cond_true]at h1
    rw[if_pos rfl]
    exact⟨s',E',h1,h2⟩
   ·rw[xJ hki,cond_false]at h1
    rw[if_neg hki]
    exact⟨s',E',h1,h2⟩
  |ret=>exact hq
  |goto l=>exact hq
  |panic c=>exact hq
  |outgrown=>exact hq
 | .loop x,ro,DS,hd=>by
  intro h hk
  rename_i E0 w0 Q s E a w
  unfold pt at hk
  simp only[cm]at hd
  simp only[ua]at DS
  obtain⟨N,hg0⟩:=hk
  obtain⟨s2,E1,hg,h1⟩: ∃s2 E1,jk (fun s Q=>pt C x s Q) Q N s2∧bn E0 E1 w0 w s2 a:=by
   rcases hg0 with hg|⟨s2,hw,hg⟩
   ·exact⟨_,_,hg,h⟩
   ·obtain⟨E1,h1⟩:=h.wk hw;exact⟨_,_,hg,h1⟩
  refine tL (fun n a w=> ∃s E,jk (fun s Q=>pt C x s Q) Q n s∧bn E0 E w0 w s a) N ⟨s2,E1,hg,h1⟩ ?_
  rintro n a w ⟨s3,E2,hg2,h2⟩
  cases n with
  |zero=>exact hg2.elim
  |succ n=>
   unfold jk at hg2
   refine wpIn_mono (dR ok hm x ro DS hd h2 hg2) fun e a' w' hq=>?_
   cases e with
   |normal=>
    obtain⟨s',E',hq,h3⟩:=hq
    rcases hq with hg4|⟨s4,hwk,hg4⟩
    ·exact⟨n,Nat.lt_succ_self n,s',E',hg4,h3⟩
    ·obtain⟨E3,h4⟩:=h3.wk hwk
     exact⟨n,Nat.lt_succ_self n,s4,E3,hg4,h4⟩
   |exit k=>exact hq
   |ret=>exact hq
   |goto l=>exact hq
   |panic c=>exact hq
   |outgrown=>exact hq
 | .rangeFunc g ps x y,ro,DS,hd=>fun h hk=>by
  simp only[cm,Bool.and_eq_true]at hd
  have:ro=none:=DS.resolve_right (by simp[ua])
  subst this
  exact Jh ok (fun l=>dR ok hm x (some l) (.inr hd.1.1) hd.2.1) (fun l=>dR ok hm y (some l) (.inr hd.1.2) hd.2.2) h hk
 | .scope x,ro,DS,hd=>fun h hk=>by
  unfold pt at hk
  simp only[cm]at hd
  simp only[ua]at DS
  refine Lc (wpIn_mono (dR ok hm x ro DS hd h hk) fun e a' w' hq=>?_)
  cases e with
  |goto l=>exact hq
  |_=>exact hq
 | .goto _,_,_,_=>fun h hk=>by unfold pt at hk;exact hk.elim
 | .refuse _,_,_,_=>fun h hk=>by unfold pt at hk;exact hk.elim
def number{α:Type}:Nat→List α→List (Nat×α)
 |_,[]=>[]
 |k,a::r=>(k,a)::number (k+1) r
def init(n:Nat)(args:List AV)(g:Nat→Option Ob)(nx:Nat)(fl:Bool:=false):St:={n:=n,t:=number 0 args,b:=[],c:=[],g:=g,nx:=nx,fl:=fl}
def Rd(L:nv)(s:St):ResultVar→Option AV
 | .tmp t=>some (bM s [] (.tmp t))
 | .cell a t=>match L t with
  |some ti=>match ti.k,bM s [] (.tmp a)with
   | .arr n _,.ptr (.s d) 0=>match look d s.b with
    |some (.arr z xs)=>some (.ar n z xs)
    |_=>none
   |_,p=>SN s ti p
  |none=>none
def WH(I:Pr)(L:nv)(s:St):ResultVar→Prop
 | .tmp _=>True
 | .cell a t=>match L t with
  |some ti=>match ti.k,bM s [] (.tmp a)with
   | .arr n _,.ptr (.s d) 0=>match look d s.b with
    |some (.arr z xs)=>I.fp xs=n∧n*z=ti.size
    |_=>True
   |_,_=>True
  |none=>True
def FO(I:Pr)(L:nv)(s:St):List ResultVar→Prop
 |[]=>True
 |r::rs=>WH I L s r∧FO I L s rs
def rO(L:nv)(s:St):List ResultVar→Option (List AV)
 |[]=>some []
 |r::rs=>match Rd L s r with
  |some v=>match rO L s rs with
   |some vs=>some (v::vs)
   |none=>none
  |none=>none
def single:List AV→AV
 |[v]=>v
 |vs=> .gd vs
def forced(a:AV)(K:AV→Prop):Prop:=
 match a with
 | .any=>K .any
 | .v x=>K (.v x)
 | .sl r xs=>K (.sl r xs)
 | .gs r t xs=>K (.gs r t xs)
 | .aP r cs off=>K (.aP r cs off)
 | .ptr k off=>K (.ptr k off)
 | .iq k n=>K (.iq k n)
 | .cQ k i off z=>K (.cQ k i off z)
 | .mp i=>K (.mp i)
 | .po k=>K (.po k)
 | .ar n z xs=>K (.ar n z xs)
 | .fn f cap=>K (.fn f cap)
 | .bm f cs=>K (.bm f cs)
 | .mN r z xs=>K (.mN r z xs)
 | .agg cs=>K (.agg cs)
 | .gd vs=>K (.gd vs)
theorem Ay(a:AV)(K:AV→Prop):forced a K=K a:=by cases a<;>rfl
def EN(C:dK)(rs:List ResultVar)(s:St)(R:AV→(Nat→Option Ob)→Nat→Prop):Prop:=
 match rO C.L s rs with
 |some vs=>match jw C.ρ (jR vs) s with
  |some s1=>match rO C.L s1 rs with
   |some Lh=>FO C.I C.L s1 rs∧ca (Lh.map rd)=true∧forced (single (Lh.map rd)) fun r=>match s1 with|⟨_,_,_,_,g,nx,_,_⟩=>R r g nx
   |none=>False
  |none=>False
 |none=>False
def Qu(P:Program)(f:Nat)(args:List AV)(g:Nat→Option Ob)(nx:Nat)(R:AV→(Nat→Option Ob)→Nat→Prop):Prop:=
 ca args=true→ ∀(E:Env) (w:World) (vs:List Value),vT E w g nx→vs.length=args.length→(∀(q:Nat) (a:AV) (y:Value),args[q]? =some a→vs[q]? =some y→Cz E a y)→
  Calls P f vs.toArray w fun e w'=> ∃r g' gS x E',R r g' gS∧e= .returned x∧vT E' w' g' gS∧Ext dz E E'∧iC w w'∧Cz E' r x∧cq r=true∧bY w w'
def tI(P:Program)(fl:Bool)(f:Nat)(args:List AV)(g:Nat→Option Ob)(nx:Nat)(R:AV→(Nat→Option Ob)→Nat→Prop):Prop:=
 ca args=true→ ∀(E:Env) (w:World) (vs:List Value),vT E w g nx→(fl=true→ ∀b o,E.aM b o→E.dH b<1000000)→vs.length=args.length→(∀(q:Nat) (a:AV) (y:Value),args[q]? =some a→vs[q]? =some y→Cz E a y)→
  Calls P f vs.toArray w fun e w'=> ∃r g' gS x E',R r g' gS∧e= .returned x∧vT E' w' g' gS∧Ext dz E E'∧iC w w'∧Cz E' r x∧cq r=true∧bY w w'
theorem tI.plain{f:Nat}{args:List AV}{g:Nat→Option Ob}{nx:Nat}{R:AV→(Nat→Option Ob)→Nat→Prop}(h:tI P false f args g nx R):Qu P f args g nx R:=
 fun hi E w vs hG hl hv=>h hi E w vs hG (fun e=>by cases e) hl hv
theorem Qu.call{f:Nat}{args:List AV}{g:Nat→Option Ob}{nx:Nat}{r:AV}{g':Nat→Option Ob}{gS:Nat}(h:Qu P f args g nx fun r1 g1 yT=>r1=r∧g1=g'∧yT=gS):j5 P f args g nx r g' gS:=
 fun hi E w vs hG hl hv=>(h hi E w vs hG hl hv).mono fun e w' ⟨r1,g1,yT,x,E',⟨e1,e2,e3⟩,h1,h2,h3,h4,h5,h6,h7⟩=>by subst e1;subst e2;subst e3;exact⟨x,E',h1,h2,h3,h4,h5,h6,h7⟩
theorem Qu.mono{f:Nat}{args:List AV}{g:Nat→Option Ob}{nx:Nat}{R R':AV→(Nat→Option Ob)→Nat→Prop}(h:Qu P f args g nx R)(hR: ∀r g n,R r g n→R' r g n):Qu P f args g nx R':=
 fun hi E w vs hG hl hv=>(h hi E w vs hG hl hv).mono fun e w' ⟨r1,g1,yT,x,E',h0,h1,h2,h3,h4,h5,h6,h7⟩=>⟨r1,g1,yT,x,E',hR _ _ _ h0,h1,h2,h3,h4,h5,h6,h7⟩
theorem Bh{α:Type}{d:Nat}{x:α}: ∀{k:Nat} {l:List α},look d (number k l)=some x→k≤d∧l[d - k]? =some x
 |k,[],h=>by simp[number,look]at h
 |k,y::r,h=>by
  rw[number,aC]at h
  by_cases hk:k=d
  ·subst hk;rw[if_pos rfl]at h;cases h;simp
  ·rw[if_neg hk]at h
   obtain⟨h1,h2⟩:=Bh h
   refine⟨by omega,?_⟩
   rw[show d - k=(d - (k+1))+1 by omega];simpa using h2
theorem yU{args:List AV}{n:Nat}{vs:List Value}(hl:vs.length=args.length)(hv: ∀(q:Nat) (a:AV) (y:Value),args[q]? =some a→vs[q]? =some y→Cz E a y):
  ∀d x,look d (number 0 args)=some x→Cz E x ((vs.toArray++Array.replicate (n - vs.toArray.size) undef).getD d undef):=fun d x hd=>by
 obtain⟨h1,h2⟩:=Bh hd
 have aS:d<vs.length:=by rw[hl];simpa using(List.getElem?_eq_some_iff.1 h2).1
 have h3:vs[d]? =some vs[d]:=by simp[aS]
 have:=hv d x vs[d] (by simpa using h2) h3
 rw[Array.getD_eq_getD_getElem?,Array.getElem?_append_left (by simpa using aS)]
 simpa[aS]using this
theorem J7{fl:Bool}{args:List AV}{g:Nat→Option Ob}{nx n:Nat}{vs:List Value}(hG:vT E w g nx)(fG:fl=true→ ∀b o,E.aM b o→E.dH b<1000000)(hl:vs.length=args.length)(hn:args.length≤n)
  (hv: ∀(q:Nat) (a:AV) (y:Value),args[q]? =some a→vs[q]? =some y→Cz E a y):
  bn {E with up:=[]} E w w (init n args g nx fl) {tmps:=vs.toArray++Array.replicate (n - vs.toArray.size) undef,defers:=[]}:=by
 refine⟨hG.heap,hG.wf,⟨[],rfl,List.nodup_nil,fun B hB=>by cases hB⟩,trivial,?_,fun d x hd _=>yU hl hv d x hd,fun d q hd=>?_,fun d ob hd=>?_,fun d hl=>absurd hl (hG.nl d),hG.gx,hG.gl,
  ⟨Nat.le_refl _,fun _ _ h=>⟨h,rfl,rfl⟩,fun _ h=>⟨h,rfl,rfl⟩,fun _ _ _=>⟨rfl,rfl,fun _=>Iff.rfl,rfl⟩⟩,fun b _=>hG.own b,.refl _,hG.gk,hG.nl,hG.ng,fun e b=>⟨hG.ng b,fG e b⟩⟩
 ·simp[init];omega
 ·simp[init,look]at hd
 ·simp[init,look]at hd
def z0(P:Program)(w:World)(tmps:Array Value)(r:ResultVar):Sem Value:=
 match r with
 | .tmp t=>pure (tmps.getD t undef)
 | .cell a t=>do loadVar t (←asAddr (tmps.getD a undef))
theorem FN{I:Pr}: ∀{rs:List ResultVar} {q:Nat} {r:ResultVar},FO I L s rs→rs[q]? =some r→WH I L s r
 |[],q,r,_,h=>by simp at h
 |x::rs,q,r,hp,h=>by
  cases q with
  |zero=>simp at h;subst h;exact hp.1
  |succ q=>exact FN hp.2 (by simpa using h)
theorem OZ(ok:Ok P C)(h:bn E0 E w0 w s a){r:ResultVar}{v:AV}(hr:Rd C.L s r=some v)(hp:WH C.I C.L s r): ∃x,(z0 P w a.tmps r).run P w= .ok x w∧Cz E v x:=by
 cases r with
 |tmp t=>cases hr;exact⟨_,rfl,h.ev (p:=[]) trivial (.tmp t)⟩
 |cell d t=>
  have vj: ∃x,(execOp a.eval {dst:=none,op:= .load t (.tmp d),type:=0,pos:= "",after:= #[],guard:=none}).run P w= .ok (.value x) w∧Cz E v x:=by
   simp only[Rd]at hr
   simp only[WH]at hp
   cases hL:C.L t with
   |none=>rw[hL]at hr;cases hr
   |some ti=>
    rw[hL]at hr hp
    dsimp only at hr hp
    split at hr
    ·rename_i n e' d' XE DW
     split at hr
     ·rename_i z xs fF
      cases hr
      have hp:C.I.fp xs=n∧n*z=ti.size:=by
       rw[XE,DW]at hp
       simp only[fF]at hp
       exact hp
      obtain⟨p1,p2⟩:=hp
      obtain⟨r,hr1,Vc⟩:=qv (K:=fun r _=>r= .ar n z xs) (o:={dst:=none,op:= .load t (.tmp d),type:=0,pos:= "",after:= #[],guard:=none}) (p:=[]) ok.lay ok.an h rfl (by
       unfold Nn
       rw[hL]
       dsimp only
       rw[DW]
       dsimp only
       rw[fF]
       dsimp only
       rw[XE]
       exact⟨⟨rfl,p1,p2⟩,rfl⟩)
      subst hr1
      exact Vc trivial
     ·cases hr
    ·have hpu:qY an C.L s [] (Op.load t (.tmp d))=some v:=by
      simp only[qY]
      rw[hL];exact hr
     exact sP ok.lay h (p:=[]) trivial (o:={dst:=none,op:= .load t (.tmp d),type:=0,pos:= "",after:= #[],guard:=none}) hpu
  obtain⟨x,h1,h2⟩:=vj
  have dO:a.eval (.tmp d)=a.tmps.getD d undef:=rfl
  simp only[execOp,dO]at h1
  simp only[z0]
  cases hv:a.tmps.getD d undef with
  |pointer q=>
   cases q with
   |none=>rw[hv]at h1;simp[Instr.loadAt,Instr.sureAddr,stuck,Sem.run_bind,Sem.run,Result.andThen]at h1
   |some ad=>
    rw[hv]at h1
    have e1:(Instr.loadAt t (.pointer (some ad))).run P w=(loadVar t ad).run P w:=rfl
    have e2:(do loadVar t (←asAddr (.pointer (some ad))):Sem Value).run P w=(loadVar t ad).run P w:=by simp[asAddr,go_sem]
    rw[e2,←e1]
    rw[Sem.run_bind]at h1
    cases Vc:(Instr.loadAt t (.pointer (some ad))).run P w with
    |ok y w2=>rw[Vc]at h1;cases h1;exact⟨_,rfl,h2⟩
    |halt y w2=>rw[Vc]at h1;cases h1
  |_=>rw[hv]at h1;simp[Instr.loadAt,Instr.sureAddr,stuck,Sem.run_bind,Sem.run,Result.andThen]at h1
theorem FP{L:nv}: ∀{rs:List ResultVar} {vs:List AV},rO L s rs=some vs→vs.length=rs.length∧ ∀(q:Nat) (r:ResultVar) (v:AV),rs[q]? =some r→vs[q]? =some v→Rd L s r=some v
 |[],vs,h=>by cases h;exact⟨rfl,fun q r v h=>by simp at h⟩
 |r::rs,vs,h=>by
  unfold rO at h
  cases h1:Rd L s r with
  |none=>rw[h1]at h;cases h
  |some v=>
   rw[h1]at h
   dsimp only at h
   cases h2:rO L s rs with
   |none=>rw[h2]at h;cases h
   |some vs'=>
    rw[h2]at h
    cases h
    obtain⟨h3,h4⟩:=FP h2
    refine⟨by simp[h3],fun q r' v' hq hv=>?_⟩
    cases q with
    |zero=>simp at hq hv;subst hq;subst hv;exact h1
    |succ q=>exact h4 q r' v' (by simpa using hq) (by simpa using hv)
theorem qW(ok:Ok P C)(h:bn E0 E w0 w s a){fn:Func}{vs:List AV}(hr:rO C.L s fn.results.toList=some vs)(hrp:FO C.I C.L s fn.results.toList):
  ∃x,(results fn a.tmps).run P w= .ok x w∧Cz E (single vs) x:=by
 obtain⟨hl,hq⟩:=FP hr
 let nj:ResultVar→Value:=fun r=>match(z0 P w a.tmps r).run P w with
  | .ok v _=>v
  |_=>undef
 have hx: ∀(q:Nat) (r:ResultVar),fn.results.toList[q]? =some r→ ∃v,vs[q]? =some v∧(z0 P w a.tmps r).run P w= .ok (nj r) w∧Cz E v (nj r):=by
  intro q r hqr
  have aS:q<vs.length:=by rw[hl];exact(List.getElem?_eq_some_iff.1 hqr).1
  obtain⟨x,h1,h2⟩:=OZ ok h (hq q r vs[q] hqr (by simp[aS])) (FN hrp hqr)
  have:nj r=x:=by simp only[nj,h1]
  rw[this]
  exact⟨vs[q],by simp[aS],h1,h2⟩
 have ME:(fn.results.mapM (z0 P w a.tmps)).run P w= .ok (fn.results.map nj) w:=Jd P w fn.results fun r hr=>by
  obtain⟨q,wq⟩:=List.getElem?_of_mem hr
  obtain⟨v,_,h2,_⟩:=hx q r wq
  exact h2
 have eP:(results fn a.tmps).run P w= .ok (if h:(fn.results.map nj).size=1 then(fn.results.map nj)[0]else .tuple (fn.results.map nj)) w:=by
  have:results fn a.tmps=(do let vs←fn.results.mapM (z0 P w a.tmps);pure (if h:vs.size=1 then vs[0]else .tuple vs)):=by
   unfold results
   congr 2
  rw[this,Sem.run_bind,ME]
  rfl
 refine⟨_,eP,?_⟩
 have ai2: ∀(q:Nat) (b:AV) (y:Value),vs[q]? =some b→(fn.results.map nj).toList[q]? =some y→Cz E b y:=by
  intro q b y hb hy
  have aS:q<fn.results.toList.length:=by rw[←hl];exact(List.getElem?_eq_some_iff.1 hb).1
  obtain⟨v,h1,_,h3⟩:=hx q fn.results.toList[q] (by simp[aS])
  rw[h1]at hb;cases hb
  simp at hy
  obtain⟨r',h4,rfl⟩:=hy
  rw[←Array.getElem?_toList,List.getElem?_eq_getElem aS]at h4
  cases h4
  exact h3
 by_cases h1:(fn.results.map nj).size=1
 ·rw[dif_pos h1]
  have Vf:vs.length=1:=by rw[hl];simpa using h1
  cases hvs:vs with
  |nil=>rw[hvs]at Vf;simp at Vf
  |cons v r=>
   have Z6:r=[]:=by rw[hvs]at Vf;simpa using Vf
   subst Z6
   exact ai2 0 v _ (by rw[hvs];rfl) (by rw[Array.getElem?_toList];exact Array.getElem?_eq_getElem _)
 ·rw[dif_neg h1]
  have cU:vs.length≠1:=by rw[hl];simpa using h1
  have:single vs= .gd vs:=by
   unfold single
   split
   ·simp at cU
   ·rfl
  rw[this]
  exact Cz.gd (E:=E) vs (fn.results.map nj).toList (by simp[hl]) ai2
theorem se{fn:Func}{tmps:Array Value}{R:Ending→World→Prop}: ∀{ds:List Deferred} {E:Env} {w:World},bn E0 E w0 w s {tmps:=tmps,defers:=ds}→
  (∀E' w',bn E0 E' w0 w' s {tmps:=tmps,defers:=[]}→ ∃v,(results fn tmps).run P w'= .ok v w'∧R (.returned v) w')→LeavesInM Fence.wide 0 P fn tmps R ds .returning w
 |[],E,w,h,hR=>by
  obtain⟨v,h1,h2⟩:=hR E w h
  exact⟨v,h1,h2⟩
 |d::ds,E,w,h,hR=>by
  obtain⟨B,h1,h2,h3⟩:=h.take rfl
  exact⟨by simp,.inl ⟨B,_,h1,run_takeDeferred h2,se h3 hR⟩⟩
theorem zI(ok:Ok P C)(hm:P.follows .mixedOrders=true){f:Nat}{fn:Func}{c:Code}(hf:P.funcs[f]? =some fn)(hb:fn.body=some c)(hd:cm C.cl C.tree c=true){vs:List Value}{Q:Ex→St→Prop}{R:Ending→World→Prop}
  (h:bn E0 E w0 w s {tmps:=vs.toArray++Array.replicate (fn.ntmps - vs.toArray.size) undef,defers:=[]})(hk:pt C c s Q)(hex: ∀k s',¬Q (.exit k) s')
  (H2: ∀s' E' w' tmps,(Q .normal s'∨Q .ret s')→bn E0 E' w0 w' s' {tmps:=tmps,defers:=[]}→ ∃v,(results fn tmps).run P w'= .ok v w'∧R (.returned v) w'):Calls P f vs.toArray w R:=by
 refine(callsIn_wide (n:=0)).1 (callsIn_of_wp_marks (F:=Fence.wide) hf hb trivial ?_ rfl)
 refine wpIn_mono (F:=Fence.wide) (dR ok hm c none (.inl rfl) hd h hk) fun e a w' hq=>?_
 cases e with
 |normal=>obtain⟨s',E',h1,h2⟩:=hq;exact se h2 fun E2 w2 h3=>H2 s' E2 w2 _ (.inl h1) h3
 |ret=>obtain⟨s',E',h1,h2⟩:=hq;exact se h2 fun E2 w2 h3=>H2 s' E2 w2 _ (.inr h1) h3
 |exit k=>obtain⟨s',E',h1,h2⟩:=hq;exact absurd h1 (hex k s')
 |goto l=>exact hq.elim
 |panic c=>exact hq.elim
 |outgrown=>exact hq.elim
theorem tI.of(ok:Ok P C)(hm:P.follows .mixedOrders=true){f:Nat}{fn:Func}{c:Code}(hf:P.funcs[f]? =some fn)(hb:fn.body=some c)(hd:cm C.cl C.tree c=true){args:List AV}{g:Nat→Option Ob}{nx:Nat}
  (hn:args.length≤fn.ntmps){R:AV→(Nat→Option Ob)→Nat→Prop}(fl:Bool)
  (hk:pt C c (init fn.ntmps args g nx fl) (fun e s=>match e with
   | .normal=>EN C fn.results.toList s R
   | .ret=>EN C fn.results.toList s R
   |_=>False)):tI P fl f args g nx R:=by
 intro hi E w vs hG fG hl hv
 refine zI ok hm hf hb hd (J7 hG fG hl hn hv) hk (fun k s' h=>h) fun s' E1 w' tmps hq h=>?_
 have hr:EN C fn.results.toList s' R:=hq.elim id id
 unfold EN at hr
 cases h1:rO C.L s' fn.results.toList with
 |none=>rw[h1]at hr;exact hr.elim
 |some vs=>
  rw[h1]at hr
  dsimp only at hr
  cases h2:jw C.ρ (jR vs) s' with
  |none=>rw[h2]at hr;exact hr.elim
  |some s1=>
   rw[h2]at hr
   dsimp only at hr
   cases h3:rO C.L s1 fn.results.toList with
   |none=>rw[h3]at hr;exact hr.elim
   |some Lh=>
    rw[h3]at hr
    obtain⟨hrp,lG,hR⟩:=hr
    rw[Ay]at hR
    obtain⟨E2,zi,_⟩:=er h h2
    obtain⟨x,h4,h5⟩:=qW ok zi h3 hrp
    have TO:Ab.cq (single (Lh.map rd))=true:=by
     unfold single
     split
     ·rename_i v hv;rw[hv]at lG;simp only[ca,Bool.and_true]at lG;exact lG
     ·exact lG
    refine⟨x,h4,_,_,_,x,E2.mask,hR,rfl,zi.mask,?_,zi.same,?_,?_,fun b hb=>?_⟩
    ·refine⟨zi.ext.size,zi.ext.aM,fun k hk=>?_,fun b hb hg=>?_⟩
     ·cases k with
      |s d=>exact absurd hk (hG.nl d)
      |o i=>obtain⟨k1,k2,k3⟩:=zi.ext.live _ hk;exact⟨⟨rfl,k1⟩,k2,k3⟩
     ·obtain⟨k1,k2,k3,k4⟩:=zi.ext.bj b hb hg
      refine⟨?_,k2,k3,k4⟩
      simp only[Env.mask]
      have k1':E2.own b=E.own b:=k1
      rw[k1',hG.own b];rfl
    ·refine(zb E2).cq ?_ ?_
     ·have h6:single (Lh.map rd)=rd (single Lh):=by
       unfold single
       cases Lh with
       |nil=>rfl
       |cons v r=>cases r with
        |nil=>rfl
        |cons v2 r2=>
         simp only[List.map_cons,rd,qg]
         rw[show kQ (fun _=>true) (v::v2::r2)=(v::v2::r2).map (qg fun _=>true)from by
          generalize v::v2::r2=l
          induction l with
          |nil=>rfl
          |cons x l ih=>simp[kQ,ih]]
         rfl
      rw[h6]
      exact(Cz.ext (Ext.refl (fun _=>False) E2) zi.wf (fun _=>true) (fun _ h=>h.elim) h5).1
     ·exact TO
    ·exact TO
    ·have k2:=(zi.ext.bj b (by show b<E.h.size;rw[←hG.heap];exact hb) (hG.ng b)).2.1
     rw[zi.heap,hG.heap];exact k2
theorem Qu.of(ok:Ok P C)(hm:P.follows .mixedOrders=true){f:Nat}{fn:Func}{c:Code}(hf:P.funcs[f]? =some fn)(hb:fn.body=some c)(hd:cm C.cl C.tree c=true){args:List AV}{g:Nat→Option Ob}{nx:Nat}
  (hn:args.length≤fn.ntmps){R:AV→(Nat→Option Ob)→Nat→Prop}
  (hk:pt C c (init fn.ntmps args g nx) (fun e s=>match e with
   | .normal=>EN C fn.results.toList s R
   | .ret=>EN C fn.results.toList s R
   |_=>False)):Qu P f args g nx R:=(tI.of ok hm hf hb hd hn false hk).plain
structure FI where
 c:Unit→Code
 n:Nat
 rs:List ResultVar
 tree:Nat→Tree
 op:List Nat
 ρ:Nat
 dead:Nat→List Nat
 hand:Option (Pr→List AV→St→bd→Prop)
def Ee(n:Nat)(args:List AV)(s:St):St:={n:=n,t:=number 0 args,b:=s.b,c:=[],g:=s.g,nx:=s.nx,up:={n:=s.n,t:=s.clean.t}::s.up,fl:=s.fl}
def WG(I:Pr)(L:nv)(rs:List ResultVar)(b0:List (Nat×Ob))(K:bd)(s:St):Prop:=
 match rO L s rs,s.up with
 |some vs,f::u=>FO I L s rs∧(fun s':St=>(Pf s'&&hasB s'.b (jR vs))=true∧forced (single vs) (fun r=>K r s')) {n:=f.n,t:=f.t,c:=[],g:=s.g,nx:=s.nx,up:=u,fl:=s.fl,b:=xe b0 (reach s.b 4 (jR vs++wh b0 s.b)) s.b}
 |_,_=>False
def Xv(I:Pr)(L:nv)(rs:List ResultVar)(b0:List (Nat×Ob))(K:bd):Ex→St→Prop
 | .normal,s=>WG I L rs b0 K s
 | .ret,s=>WG I L rs b0 K s
 | .exit _,_=>False
def uc(T:Nat→Option FI)(k:Nat):Bool:=match T k with|some _=>true|none=>false
def Tt(C0:dK)(T:Nat→Option FI)(F:Nat→dK):YH→Nat→List AV→St→bd→Prop:=fun yl k args s K=>match T k with
  |some fi=>(match fi.hand with
   |some H=>H C0.I args s K
   |none=>(bif mL args.length fi.n then pt {F k with tree:=fi.tree,op:=fi.op,ρ:=fi.ρ,dead:=fi.dead,yl:=yl} (fi.c ()) (Ee fi.n args s) (Xv C0.I C0.L fi.rs s.b K)else False))
  |none=>False
def mK(C0:dK)(T:Nat→Option FI):Nat→Nat→dK
 |0,base=>{C0 with base:=base*1000,sj:=uc T,inl:=fun _ _ _ _ _=>False,At:=fun _ _ _ _ _=>False,yl:=fun _ _ _ _=>False}
 |n+1,base=>{C0 with base:=base*1000,sj:=uc T,yl:=fun _ _ _ _=>False,inl:=(fun yl k args s K=>match T k with|some fi=>(match fi.hand with|some H=>H C0.I args s K|none=>(bif mL args.length fi.n then pt {mK C0 T n (base*256+k)with tree:=fi.tree,op:=fi.op,ρ:=fi.ρ,dead:=fi.dead,yl:=yl} (fi.c ()) (Ee fi.n args s) (Xv C0.I C0.L fi.rs s.b K)else False))|none=>False),At:=(fun yl k args s K=>match T k with|some fi=>(match fi.hand with|some H=>H C0.I args s K|none=>(bif mL args.length fi.n then pt {mK C0 T n (base*256+k)with tree:=fi.tree,op:=fi.op,ρ:=fi.ρ,dead:=fi.dead,yl:=yl} (fi.c ()) (Ee fi.n args s) (Xv C0.I C0.L fi.rs s.b K)else False))|none=>False)}
def UP(P:Program)(k:Nat)(H:Pr→List AV→St→bd→Prop):Prop:=
 nw P k∧ ∀{args:List AV} {s:St} {K:bd} {E0 E:Env} {w0 w:World} {a:Act} {vs:List Value},H an args s K→bn E0 E w0 w s a→vs.length=args.length→(∀(q:Nat) (b:AV) (y:Value),args[q]? =some b→vs[q]? =some y→Cz E b y)→
  Calls P k vs.toArray w fun e w'=> ∃x,e= .returned x∧ ∃r s' E',K r s'∧bn E0 E' w0 w' s' a∧Cz E' r x
def kV(P:Program)(cl:Nat→Bool)(k:Nat)(fi:FI):Prop:=(∃H,fi.hand=some H∧UP P k H)∨fi.hand=none∧ ∃fn,P.funcs[k]? =some fn∧fn.body=some (fi.c ())∧fn.ntmps=fi.n∧fn.results.toList=fi.rs∧cm cl fi.tree (fi.c ())=true∧nw P k
def bh(P:Program)(cl:Nat→Bool)(T:Nat→Option FI):Prop:= ∀k fi,T k=some fi→kV P cl k fi
theorem NR{C0:dK}{T:Nat→Option FI}: ∀{n base:Nat},(mK C0 T n base).L=C0.L∧(mK C0 T n base).I=C0.I∧(mK C0 T n base).call=C0.call∧(mK C0 T n base).cl=C0.cl∧(mK C0 T n base).sj=uc T
 |0,_=>⟨rfl,rfl,rfl,rfl,rfl⟩
 |_+1,_=>⟨rfl,rfl,rfl,rfl,rfl⟩
theorem Bf{C0:dK}{T:Nat→Option FI}: ∀{n base:Nat},(mK C0 T n base).keys=C0.keys∧(mK C0 T n base).eqs=C0.eqs
 |0,_=>⟨rfl,rfl⟩
 |_+1,_=>⟨rfl,rfl⟩
theorem ag6(P:Program):P3 P (fun _ _ _ _=>False):=fun hk=>hk.elim
theorem Mj{C0:dK}{T:Nat→Option FI}: ∀{n base:Nat},P3 P (mK C0 T n base).yl
 |0,_=>ag6 P
 |_+1,_=>ag6 P
theorem JO{b:List (Nat×Ob)}{vs:List AV}(h:hasB b (jR vs)=true):hasB b (zc (single vs))=true:=by
 unfold single
 split
 ·rename_i v
  simp only[jR,List.append_nil]at h
  exact h
 ·exact h
theorem J6{C0:dK}{T:Nat→Option FI}(hT:bh P C0.cl T)(hL:bk P C0.L)(hI:C0.I=an)(hc:AP P C0)(iK: ∀k,C0.cl k=true→uc T k=false)(vk: ∀t ks,C0.keys t=some ks→KeyLaw P t ks)(DZ: ∀t ks,C0.eqs t=some ks→tW P t ks)(hm:P.follows .mixedOrders=true)(n b0:Nat)(apd: ∀base,BF P (mK C0 T n base)∧BF P {mK C0 T n base with inl:=(mK C0 T n base).At})(C1:dK):BF P {C1 with inl:=Tt C0 T (fun k=>mK C0 T n (b0*256+k))}:=
 fun yl KR {k args s K E0 E w0 w a vs} hk h hl hv=>by
  replace hk:Tt C0 T (fun k=>mK C0 T n (b0*256+k)) yl k args s K:=hk
  simp only[Tt]at hk
  generalize b0*256+k=base at hk
  obtain⟨ui,apc⟩:=apd base
  cases jS:T k with
  |none=>rw[jS]at hk;exact hk.elim
  |some fi=>
   rw[jS]at hk
   dsimp only at hk
   rcases hT k fi jS with⟨H,hH,xV,ajb⟩|⟨hH,fn,f1,f2,f3,f4,f5,f6⟩
   ·rw[hH]at hk
    rw[hI]at hk
    exact⟨xV,ajb hk h hl hv⟩
   rw[hH]at hk
   dsimp only at hk
   refine⟨f6,?_⟩
   cases hle:mL args.length fi.n with
   |false=>rw[hle]at hk;exact hk.elim
   |true=>
    rw[hle,cond_true]at hk
    have aeG:args.length≤fi.n:=by simpa using hle
    obtain⟨m1,m2,m3,m4,m5⟩:=NR (C0:=C0) (T:=T) (n:=n) (base:=base)
    have ok':Ok P {mK C0 T n base with tree:=fi.tree,op:=fi.op,ρ:=fi.ρ,dead:=fi.dead,yl:=yl}:=
     ⟨by show bk P (mK C0 T n base).L;rw[m1];exact hL,m2.trans hI,fun ρ f args g nx r g' gS hh=>hc ρ f args g nx r g' gS (by rw[←m3];exact hh),fun yl' aek {_ _ _ _ _ _ _ _ _ _} hh=>ui yl' aek hh,fun yl' aek {_ _ _ _ _ _ _ _ _ _} hh=>apc yl' aek hh,KR,fun k hk=>by show(mK C0 T n base).sj k=false;rw[m5];exact iK k (by rw[←m4];exact hk),
      fun t ks hk=>vk t ks (by have hk:(mK C0 T n base).keys t=some ks:=hk;rw[(Bf (C0:=C0) (T:=T) (n:=n) (base:=base)).1]at hk;exact hk),fun t ks hk=>DZ t ks (by have hk:(mK C0 T n base).eqs t=some ks:=hk;rw[(Bf (C0:=C0) (T:=T) (n:=n) (base:=base)).2]at hk;exact hk)⟩
    have hs:=h.push (n:=fi.n) (t:=number 0 args) (A:=vs.toArray++Array.replicate (fi.n - vs.toArray.size) undef) (by simp;omega) (yU hl hv)
    rw[←f3]at hs
    refine zI ok' hm f1 f2 (by show cm (mK C0 T n base).cl _ _=true;rw[m4];exact f5) (s:=Ee fi.n args s) (by rw[←f3];exact hs) hk (fun k s' hh=>hh) fun s' E' w' tmps hq Z4=>?_
    have hr:WG C0.I C0.L fi.rs s.b K s':=hq.elim id id
    unfold WG at hr
    split at hr
    ·rename_i Lh f u h1 ZZ
     obtain⟨hrp,hr⟩:=hr
     obtain⟨x,h4,h5⟩:=qW ok' Z4 (fn:=fn) (vs:=Lh) (by rw[f4];show rO (mK C0 T n base).L s' fi.rs=_;rw[m1];exact h1) (by rw[f4];show FO (mK C0 T n base).I (mK C0 T n base).L s' fi.rs;rw[m1,m2];exact hrp)
     generalize hB:xe s.b (reach s'.b 4 (jR Lh++wh s.b s'.b)) s'.b=B at hr
     obtain⟨j8,hr⟩:=hr
     ·rw[Ay]at hr
      simp only[Bool.and_eq_true]at j8
      obtain⟨ff,hff,h8⟩:=(Z4.pop ZZ).drop rfl (b':=B) (fun d ob hd=>by rw[←hB]at hd;exact F8 hd) j8.1
      exact⟨x,h4,x,rfl,_,_,_,hr,h8,Cz.only hff h5 (JO j8.2)⟩
    ·exact hr.elim
theorem za{C0:dK}{T:Nat→Option FI}(hT:bh P C0.cl T)(hL:bk P C0.L)(hI:C0.I=an)(hc:AP P C0)(iK: ∀k,C0.cl k=true→uc T k=false)(vk: ∀t ks,C0.keys t=some ks→KeyLaw P t ks)(DZ: ∀t ks,C0.eqs t=some ks→tW P t ks)(hm:P.follows .mixedOrders=true): ∀{n base:Nat},BF P (mK C0 T n base)∧BF P {mK C0 T n base with inl:=(mK C0 T n base).At}
 |0,_=>⟨fun _ _ {_ _ _ _ _ _ _ _ _ _} hk=>hk.elim,fun _ _ {_ _ _ _ _ _ _ _ _ _} hk=>hk.elim⟩
 |n+1,base=>by
  have a:=fun b=>za hT hL hI hc iK vk DZ hm (n:=n) (base:=b)
  exact⟨J6 hT hL hI hc iK vk DZ hm n base a (mK C0 T (n+1) base),J6 hT hL hI hc iK vk DZ hm n base a (mK C0 T (n+1) base)⟩
 mutual
def oP:AV→Prop
  | .sl _ xs=>xs.length≤maxLen∧qE xs
  | .gs _ _ xs=>xs.length≤maxLen∧qE xs
  | .aP _ cs _=>pT cs
  | .fn _ cs=>pT cs
  | .agg cs=>pT cs
  | .gd cs=>pT cs
  |_=>True
def pT:List AV→Prop
  |[]=>True
  |a::r=>oP a∧pT r
def qE:List (List AV)→Prop
  |[]=>True
  |l::r=>pT l∧qE r
end
theorem lr: ∀{cs:List AV},(∀(q:Nat) (a:AV),cs[q]? =some a→oP a)→pT cs
 |[],_=>by simp only[pT]
 |a::r,h=>by simp only[pT];exact⟨h 0 a rfl,lr fun q b hq=>h (q+1) b (by simpa using hq)⟩
theorem xO: ∀{xs:List (List AV)},(∀(q:Nat) (a:AV),xs.flatten[q]? =some a→oP a)→qE xs
 |[],_=>by simp only[qE]
 |l::r,h=>by
  simp only[qE]
  refine⟨lr fun q b hq=>h q b ?_,xO fun q b hq=>h (l.length+q) b ?_⟩
  ·rw[List.flatten_cons,List.getElem?_append_left (List.getElem?_eq_some_iff.1 hq).1];exact hq
  ·rw[List.flatten_cons,List.getElem?_append_right (by omega)];simpa using hq
theorem uT{α β:Type}{l:List α}{m:List β}(h:m.length=l.length){q:Nat}{a:α}(ha:l[q]? =some a): ∃b,m[q]? =some b:=
 have aS:q<m.length:=by rw[h];exact(List.getElem?_eq_some_iff.1 ha).1
 ⟨m[q],List.getElem?_eq_getElem aS⟩
theorem Cz.oP{a:AV}{x:Value}(h:Cz E a x):oP a:=by
 induction h with
 |sl r xs z b o c u hp hc hm dQ hz hr hi hs hu hq ih=>simp only[Ab.oP];exact⟨by omega,xO ih⟩
 |gs r t xs z b c e cells u hc hm h0 dQ hz hr hb dC ho fP hi hu hq ih=>simp only[Ab.oP];exact⟨by omega,xO ih⟩
 |mZ=>simp[Ab.oP,qE]
 |sq=>simp[Ab.oP,qE]
 |aP r cs off b o u hr hi hs hu hq ih=>simp only[Ab.oP];exact lr ih
 |fn f cap ys hl hq ih=>simp only[Ab.oP];exact lr fun q a ha=>let⟨y,hy⟩:=uT hl ha;ih q a y ha hy
 |agg cs ys hl hq ih=>simp only[Ab.oP];exact lr fun q a ha=>let⟨y,hy⟩:=uT hl ha;ih q a y ha hy
 |gd cs ys hl hq ih=>simp only[Ab.oP];exact lr fun q a ha=>let⟨y,hy⟩:=uT hl ha;ih q a y ha hy
 |_=>simp only[Ab.oP]
theorem QK{args args':List AV}(hw:Zt args args'){vs:List Value}(h: ∀(q:Nat) (a:AV) (y:Value),args[q]? =some a→vs[q]? =some y→Cz E a y):
  args.length=args'.length∧ ∀(q:Nat) (a:AV) (y:Value),args'[q]? =some a→vs[q]? =some y→Cz E a y:=by
 obtain⟨h1,h2⟩:=vY hw
 refine⟨h1,fun q a y ha hy=>?_⟩
 obtain⟨a0,e1,e2⟩:=h2 q a ha
 exact fS e2 (h q a0 y e1 hy)
 mutual
def Iz:AV→AV→Prop
  | .agg cs,.agg cs'=>Zt cs cs'
  | .gd cs,.gd cs'=>Ld cs cs'
  |a,b=>Nl a b
def Ld:List AV→List AV→Prop
  |[],[]=>True
  |a::r,b::q=>Iz a b∧Ld r q
  |_,_=>False
end
 mutual
theorem vZ{x y:AV}{v:Value}(hw:Iz x y)(h:Cz E x v):Cz E y v:=by
  unfold Iz at hw
  split at hw
  ·rename_i cs cs'
   cases h with
   |agg _ ys hl hq=>
    obtain⟨h1,h2⟩:=QK hw hq
    exact .agg cs' ys (hl.trans h1) h2
  ·rename_i cs cs'
   cases h with
   |gd _ ys hl hq=>
    obtain⟨h1,h2⟩:=sH hw hq
    exact .gd cs' ys (hl.trans h1) h2
  ·exact fS hw h
theorem sH{args args':List AV}(hw:Ld args args'){vs:List Value}(h: ∀(q:Nat) (a:AV) (y:Value),args[q]? =some a→vs[q]? =some y→Cz E a y):
   args.length=args'.length∧ ∀(q:Nat) (a:AV) (y:Value),args'[q]? =some a→vs[q]? =some y→Cz E a y:=by
  match args,args',hw with
  |[],[],_=>exact⟨rfl,fun q a y ha=>by simp at ha⟩
  |a::r,b::q,hw=>
   unfold Ld at hw
   cases vs with
   |nil=>
    obtain⟨h1,_⟩:=sH (args:=r) (args':=q) (vs:=[]) hw.2 (fun q a y ha hy=>by simp at hy)
    exact⟨by simp[h1],fun q a y ha hy=>by simp at hy⟩
   |cons v vs=>
    obtain⟨h1,h2⟩:=sH (args:=r) (args':=q) (vs:=vs) hw.2 (fun j a y ha hy=>h (j+1) a y (by simpa using ha) (by simpa using hy))
    refine⟨by simp[h1],fun j c y hc hy=>?_⟩
    cases j with
    |zero=>simp at hc hy;subst hc;subst hy;exact vZ hw.1 (h 0 a v (by simp) (by simp))
    |succ j=>exact h2 j c y (by simpa using hc) (by simpa using hy)
end
theorem j5.amc{f:Nat}{args args':List AV}{g:Nat→Option Ob}{nx:Nat}{r:AV}{g':Nat→Option Ob}{gS:Nat}(hw:Ld args args')(hi:ca args'=true)(h:j5 P f args' g nx r g' gS):j5 P f args g nx r g' gS:=
 fun _ E w vs hG hl hv=>by
  obtain⟨h1,h2⟩:=sH hw hv
  exact h hi E w vs hG (hl.trans h1) h2
theorem Qu.ako{f:Nat}{args:List AV}{g:Nat→Option Ob}{nx:Nat}{r:AV}{g':Nat→Option Ob}{gS:Nat}(hr:cq r=true)(h:Qu P f args g nx fun r1 g1 yT=>Iz r1 r∧g1=g'∧yT=gS):j5 P f args g nx r g' gS:=
 fun hi E w vs hG hl hv=>(h hi E w vs hG hl hv).mono fun e w' ⟨r1,g1,yT,x,E',⟨e1,e2,e3⟩,h1,h2,h3,h4,h5,h6,h7⟩=>by subst e2;subst e3;exact⟨x,E',h1,h2,h3,h4,vZ e1 h5,hr,h7⟩
structure Any(P:Program)(call:ot):Prop where
 use: ∀{ρ f:Nat} {args:List AV} {g:Nat→Option Ob} {nx:Nat} {r:AV} {g':Nat→Option Ob} {gS:Nat},nw P f→j5 P f args g nx r g' gS→call ρ f args g nx r g' gS
def post(C:dK)(rs:List ResultVar)(R:AV→(Nat→Option Ob)→Nat→Prop)(e:Ex)(s:St):Prop:=
 match e with
 | .normal=>EN C rs s R
 | .ret=>EN C rs s R
 |_=>False
theorem PS{P:Program}{L:nv}(hL:bk P L)(hm:P.follows .mixedOrders=true){f:Nat}{fn:Func}{c:Code}(hf:P.funcs[f]? =some fn)(hb:fn.body=some c){args:List AV}{g:Nat→Option Ob}{nx:Nat}
  {R:AV→(Nat→Option Ob)→Nat→Prop}(fl:Bool)(ρ:Nat)(sh:List Nat)(tree:Nat→Tree)(dead:Nat→List Nat)(op:List Nat)(cl:Nat→Bool){keys eqs:Nat→Option (List VK)}(vk: ∀t ks,keys t=some ks→KeyLaw P t ks)(DZ: ∀t ks,eqs t=some ks→tW P t ks){T:Nat→Option FI}(hT:bh P cl T)(iK: ∀k,cl k=true→uc T k=false)(fuel:Nat)(hd:cm cl tree c=true)(n:Nat)(hn:fn.ntmps=n)(ID:mL args.length n=true){rs:List ResultVar}(Tx:fn.results.toList=rs)
  (hk: ∀(I:Pr) (call:ot),I=an→Any P call→pT args→pt (mK {I:=I,L:=L,ρ:=ρ,sh:=sh,tree:=tree,call:=call,op:=op,dead:=dead,cl:=cl,keys:=keys,eqs:=eqs} T fuel 0) c (init n args g nx fl) (post (mK {I:=I,L:=L,ρ:=ρ,sh:=sh,tree:=tree,call:=call,op:=op,dead:=dead,cl:=cl,keys:=keys,eqs:=eqs} T fuel 0) rs R)):tI P fl f args g nx R:=by
 subst hn
 subst Tx
 let call:ot:=fun ρ f args g nx r g' gS=>nw P f∧j5 P f args g nx r g' gS
 intro hi E w vs hG fG hl hv
 have hc:AP P {I:=an,L:=L,ρ:=ρ,sh:=sh,tree:=tree,call:=call,op:=op,dead:=dead,cl:=cl,keys:=keys,eqs:=eqs}:=fun _ _ _ _ _ _ _ _ h=>h
 have XO:=za hT (C0:={I:=an,L:=L,ρ:=ρ,sh:=sh,tree:=tree,call:=call,op:=op,dead:=dead,cl:=cl,keys:=keys,eqs:=eqs}) hL rfl hc iK vk DZ hm (n:=fuel) (base:=0)
 obtain⟨hC,XO⟩:=XO
 obtain⟨m1,m2,m3,m4,m5⟩:=NR (C0:={I:=an,L:=L,ρ:=ρ,sh:=sh,tree:=tree,call:=call,op:=op,dead:=dead,cl:=cl,keys:=keys,eqs:=eqs}) (T:=T) (n:=fuel) (base:=0)
 have ok':Ok P (mK {I:=an,L:=L,ρ:=ρ,sh:=sh,tree:=tree,call:=call,op:=op,dead:=dead,cl:=cl,keys:=keys,eqs:=eqs} T fuel 0):=
  ⟨by rw[m1];exact hL,m2,fun ρ f args g nx r g' gS hh=>hc ρ f args g nx r g' gS (by rw[m3]at hh;exact hh),hC,XO,Mj,fun k hk=>by rw[m5];rw[m4]at hk;exact iK k hk,
   fun t ks hk=>by rw[(Bf (T:=T) (n:=fuel) (base:=0)).1]at hk;exact vk t ks hk,fun t ks hk=>by rw[(Bf (T:=T) (n:=fuel) (base:=0)).2]at hk;exact DZ t ks hk⟩
 have KS:(mK {I:=an,L:=L,ρ:=ρ,sh:=sh,tree:=tree,call:=call,op:=op,dead:=dead,cl:=cl,keys:=keys,eqs:=eqs} T fuel 0).tree=tree:=by cases fuel<;>rfl
 refine tI.of ok' hm hf hb (by rw[KS,m4];exact hd) (JS ID) fl ?_ hi E w vs hG fG hl hv
 exact hk an call rfl ⟨fun h1 h2=>⟨h1,h2⟩⟩ (lr fun q a ha=>let⟨y,hy⟩:=uT hl ha;(hv q a y ha hy).oP)
theorem Ur{P:Program}{L:nv}(hL:bk P L)(hm:P.follows .mixedOrders=true){f:Nat}{fn:Func}{c:Code}(hf:P.funcs[f]? =some fn)(hb:fn.body=some c){args:List AV}{g:Nat→Option Ob}{nx:Nat}
  {R:AV→(Nat→Option Ob)→Nat→Prop}(ρ:Nat)(sh:List Nat)(tree:Nat→Tree)(dead:Nat→List Nat)(op:List Nat)(cl:Nat→Bool){keys eqs:Nat→Option (List VK)}(vk: ∀t ks,keys t=some ks→KeyLaw P t ks)(DZ: ∀t ks,eqs t=some ks→tW P t ks){T:Nat→Option FI}(hT:bh P cl T)(iK: ∀k,cl k=true→uc T k=false)(fuel:Nat)(hd:cm cl tree c=true)(n:Nat)(hn:fn.ntmps=n)(ID:mL args.length n=true){rs:List ResultVar}(Tx:fn.results.toList=rs)
  (hk: ∀(I:Pr) (call:ot),I=an→Any P call→pT args→pt (mK {I:=I,L:=L,ρ:=ρ,sh:=sh,tree:=tree,call:=call,op:=op,dead:=dead,cl:=cl,keys:=keys,eqs:=eqs} T fuel 0) c (init n args g nx) (post (mK {I:=I,L:=L,ρ:=ρ,sh:=sh,tree:=tree,call:=call,op:=op,dead:=dead,cl:=cl,keys:=keys,eqs:=eqs} T fuel 0) rs R)):Qu P f args g nx R:=by
 subst hn
 subst Tx
 let call:ot:=fun ρ f args g nx r g' gS=>nw P f∧j5 P f args g nx r g' gS
 intro hi E w vs hG hl hv
 have hc:AP P {I:=an,L:=L,ρ:=ρ,sh:=sh,tree:=tree,call:=call,op:=op,dead:=dead,cl:=cl,keys:=keys,eqs:=eqs}:=fun _ _ _ _ _ _ _ _ h=>h
 have XO:=za hT (C0:={I:=an,L:=L,ρ:=ρ,sh:=sh,tree:=tree,call:=call,op:=op,dead:=dead,cl:=cl,keys:=keys,eqs:=eqs}) hL rfl hc iK vk DZ hm (n:=fuel) (base:=0)
 obtain⟨hC,XO⟩:=XO
 obtain⟨m1,m2,m3,m4,m5⟩:=NR (C0:={I:=an,L:=L,ρ:=ρ,sh:=sh,tree:=tree,call:=call,op:=op,dead:=dead,cl:=cl,keys:=keys,eqs:=eqs}) (T:=T) (n:=fuel) (base:=0)
 have ok':Ok P (mK {I:=an,L:=L,ρ:=ρ,sh:=sh,tree:=tree,call:=call,op:=op,dead:=dead,cl:=cl,keys:=keys,eqs:=eqs} T fuel 0):=
  ⟨by rw[m1];exact hL,m2,fun ρ f args g nx r g' gS hh=>hc ρ f args g nx r g' gS (by rw[m3]at hh;exact hh),hC,XO,Mj,fun k hk=>by rw[m5];rw[m4]at hk;exact iK k hk,
   fun t ks hk=>by rw[(Bf (T:=T) (n:=fuel) (base:=0)).1]at hk;exact vk t ks hk,fun t ks hk=>by rw[(Bf (T:=T) (n:=fuel) (base:=0)).2]at hk;exact DZ t ks hk⟩
 have KS:(mK {I:=an,L:=L,ρ:=ρ,sh:=sh,tree:=tree,call:=call,op:=op,dead:=dead,cl:=cl,keys:=keys,eqs:=eqs} T fuel 0).tree=tree:=by cases fuel<;>rfl
 refine Qu.of ok' hm hf hb (by rw[KS,m4];exact hd) (JS ID) ?_ hi E w vs hG hl hv
 exact hk an call rfl ⟨fun h1 h2=>⟨h1,h2⟩⟩ (lr fun q a ha=>let⟨y,hy⟩:=uT hl ha;(hv q a y ha hy).oP)
theorem sL(P:Program)(cl:Nat→Bool):bh P cl (fun _=>none):=fun k fi h=>by cases h
end Ab
namespace Ab
open Go
variable{kp:Prop}{P:Program}{L:nv}{E0 E E':Env}{w0 w w':World}{s s':St}{a:Act}{p:Path}{C:dK}
structure j4(E:Env)(r:Nat)(w w':World):Prop where
 same:iC w w'
 size:E.h.size≤w'.heap.size
 cells: ∀b,b<E.h.size→w'.heap[b]? =E.h[b]? ∨ ∃c c' e,E.h[b]? =some (.cells c e (0,0))∧w'.heap[b]? =some (.cells c' e (0,0))∧c'.size=c.size∧ ∀o,¬(E.aM b o∧E.dH b=r)→c'[o]? =c[o]?
def Env.dD(E:Env)(r:Nat)(kp:Prop)(w':World):Env:={E with h:=w'.heap,aM:=fun b o=>E.aM b o∧(kp∨E.dH b≠r)}
theorem j4.cell{r:Nat}(k:j4 E r w w'){b o:Nat}(hb:b<E.h.size)(h: ¬(E.aM b o∧E.dH b=r)):aO w'.heap b o=aO E.h b o:=by
 rcases k.cells b hb with h1|⟨c,c',e,h1,h2,h3,h4⟩
 ·unfold aO;rw[h1]
 ·unfold aO;rw[h1,h2];exact h4 o h
theorem j4.block{r:Nat}(k:j4 E r w w'){b:Nat}(hb:b<E.h.size)(h: ∀o,¬(E.aM b o∧E.dH b=r)):w'.heap[b]? =E.h[b]? :=by
 rcases k.cells b hb with h1|⟨c,c',e,h1,h2,h3,h4⟩
 ·exact h1
 ·have:c'=c:=by
   apply Array.ext h3
   intro i hi1 hi2
   have:=h4 i (h i)
   rw[Array.getElem?_eq_getElem hi1,Array.getElem?_eq_getElem hi2]at this
   exact Option.some.inj this
  rw[h1,h2,this]
theorem nC{r:Nat}: ∀{cs:List AV},An r cs→ ∀(q:Nat) (a:AV),cs[q]? =some a→ri r a
 |[],_,q,a,h=>by simp at h
 |x::l,h,q,a,hq=>by
  simp only[An]at h
  cases q with
  |zero=>simp at hq;subst hq;exact h.1
  |succ q=>exact nC h.2 q a (by simpa using hq)
theorem kA{r:Nat}: ∀{xs:List (List AV)},mI r xs→ ∀(q:Nat) (a:AV),xs.flatten[q]? =some a→ri r a
 |[],_,q,a,h=>by simp at h
 |x::l,h,q,a,hq=>by
  simp only[mI]at h
  rw[List.flatten_cons]at hq
  by_cases aS:q<x.length
  ·rw[List.getElem?_append_left aS]at hq;exact nC h.1 q a hq
  ·rw[List.getElem?_append_right (by omega)]at hq;exact kA h.2 _ a hq
theorem Mh{r:Nat}: ∀{cs:List AV},(∀a∈cs,ri r a)→An r cs
 |[],_=>by simp only[An]
 |x::l,h=>by simp only[An];exact⟨h x (by simp),Mh fun a ha=>h a (by simp[ha])⟩
theorem yW{r:Nat}: ∀{xs:List (List AV)},(∀l∈xs,An r l)→mI r xs
 |[],_=>by simp only[mI]
 |x::l,h=>by simp only[mI];exact⟨h x (by simp),yW fun a ha=>h a (by simp[ha])⟩
theorem Cz.dD{r:Nat}(k:j4 E r w w')(hw:Wf E){av:AV}{x:Value}(h:Cz E av x):ri r av→Cz (E.dD r kp w') av x:=by
 induction h with
 |any x=>exact fun _=> .any _
 |v x=>exact fun _=> .v _
 |mZ q A c=>exact fun _=> .mZ _ _ _
 |sl q xs z b o c u hp hc hm dQ hz hr hi hs hu hq ih=>
  intro hn
  simp only[ri]at hn
  have hb: ∀o',E.aM b o'→ ¬(E.aM b o'∧E.dH b=r):=fun o' _ hh=>hn.1 (hr.symm.trans hh.2)
  exact .sl q xs z b o c u hp hc hm dQ hz hr hi (fun i a ha=>⟨hs i a ha,.inr fun e=>hn.1 (hr.symm.trans e)⟩) (fun i a ha=>(k.cell (hw.aM _ _ (hs i a ha)) (hb _ (hs i a ha))).trans (hu i a ha)) (fun i a ha=>ih i a ha (kA hn.2 i a ha))
 |sq q t=>exact fun _=> .sq _ _
 |gs q t xs z b c e cells u hc hm h0 dQ hz hr hb dC ho fP hi hu hq ih=>
  intro hn
  simp only[ri]at hn
  have cU:E.dH b≠r:=fun e=>hn.1 (hr.symm.trans e)
  have aS:b<E.h.size:=(Array.getElem?_eq_some_iff.1 hb).1
  have zn:=k.block aS fun o hh=>cU hh.2
  exact .gs q t xs z b c e cells u hc hm h0 dQ hz hr (by show w'.heap[b]? =_;rw[zn];exact hb) dC ho (fun o=>⟨fun hh=>(fP o).1 hh.1,fun hh=>⟨(fP o).2 hh,.inr cU⟩⟩) hi (fun i a ha=>by
   show aO w'.heap b (0+i)=_
   rw[k.cell aS fun hh=>cU hh.2];exact hu i a ha) (fun i a ha=>ih i a ha (kA hn.2 i a ha))
 |aP q cs off b o u hr hi hs hu hq ih=>
  intro hn
  simp only[ri]at hn
  exact .aP q cs off b o u hr hi (fun i a ha=>⟨hs i a ha,.inr fun e=>hn.1 ((hr i a ha).symm.trans e)⟩) (fun i a ha=>(k.cell (hw.aM _ _ (hs i a ha)) fun hh=>hn.1 ((hr i a ha).symm.trans hh.2)).trans (hu i a ha)) (fun i a ha=>ih i a ha (nC hn.2 i a ha))
 |ptr k' off hl=>exact fun _=>Cz.ptr (E:=E.dD r kp w') k' off hl
 |iq k' n hl hn hc hm=>exact fun _=>Cz.iq (E:=E.dD r kp w') k' n hl hn hc hm
 |cQ k' i off z hl=>exact fun _=>Cz.cQ (E:=E.dD r kp w') k' i off z hl
 |mp k' hl=>exact fun _=>Cz.mp (E:=E.dD r kp w') k' hl
 |po k' hl=>exact fun _=>Cz.po (E:=E.dD r kp w') k' hl
 |ar n z xs ys hn hz hl hi hq ih=>intro h;simp only[ri]at h;exact .ar n z xs ys hn hz hl hi fun q a y ha hy=>ih q a y ha hy (kA h q a ha)
 |fn f cs ys hl hq ih=>intro h;simp only[ri]at h;exact .fn f cs ys hl fun q a y ha hy=>ih q a y ha hy (nC h q a ha)
 |bm f cs ys hl hi hq ih=>intro h;simp only[ri]at h;exact .bm f cs ys hl hi fun q a y ha hy=>ih q a y ha hy (nC h q a ha)
 |mN q z xs x hz h ih=>
  intro hn
  simp only[ri]at hn
  refine .mN q z xs x hz (ih ?_)
  simp only[ri]
  refine⟨hn.1,?_⟩
  exact Mh fun a ha=>by obtain⟨i,hi⟩:=List.getElem?_of_mem ha;exact kA hn.2 i a hi
 |agg cs ys hl hq ih=>intro h;simp only[ri]at h;exact .agg cs ys hl fun q a y ha hy=>ih q a y ha hy (nC h q a ha)
 |gd cs ys hl hq ih=>intro h;simp only[ri]at h;exact .gd cs ys hl fun q a y ha hy=>ih q a y ha hy (nC h q a ha)
 mutual
def oR(r:Nat):AV→AV
  | .sl q xs=>bif du q r then .any else .sl q xs
  | .gs q t xs=>bif du q r then .any else .gs q t xs
  | .aP q cs o=>bif du q r then .any else .aP q cs o
  | .mN q z xs=>bif du q r then .any else .mN q z xs
  | .agg cs=> .agg (sY r cs)
  | .gd cs=> .gd (sY r cs)
  |a=>a
def sY(r:Nat):List AV→List AV
  |[]=>[]
  |a::l=>oR r a::sY r l
end
 mutual
def NK(I:Pr)(r:Nat):AV→Prop
  | .sl q xs=>bif du q r then True else I.nr r xs
  | .gs q _ xs=>bif du q r then True else I.nr r xs
  | .aP q cs _=>bif du q r then True else I.nr r [cs]
  | .mN q _ xs=>bif du q r then True else I.nr r xs
  | .ar _ _ xs=>I.nr r xs
  | .fn _ cs=>I.nr r [cs]
  | .bm _ cs=>I.nr r [cs]
  | .agg cs=>Pg I r cs
  | .gd cs=>Pg I r cs
  |_=>True
def Pg(I:Pr)(r:Nat):List AV→Prop
  |[]=>True
  |a::l=>NK I r a∧Pg I r l
end
def Bk(r:Nat):List (Nat×AV)→List (Nat×AV)
 |[]=>[]
 |(d,a)::l=>(d,oR r a)::Bk r l
def ZJ(I:Pr)(r:Nat):List (Nat×AV)→Prop
 |[]=>True
 |(_,a)::l=>NK I r a∧ZJ I r l
def NW(r:Nat):Ob→Ob
 | .box cs=> .box (sY r cs)
 | .lp n t ps nq body st=> .lp n (Bk r t) ps nq body st
 |o=>o
def nrO(I:Pr)(r:Nat):Ob→Prop
 | .box cs=>Pg I r cs
 | .arr _ xs=>I.nr r xs
 | .ow _ _ xs=>I.nr r xs
 | .lp _ t _ _ _ _=>ZJ I r t
def F7(r:Nat):List (Nat×Ob)→List (Nat×Ob)
 |[]=>[]
 |(d,o)::l=>(d,NW r o)::F7 r l
def nrB(I:Pr)(r:Nat):List (Nat×Ob)→Prop
 |[]=>True
 |(_,o)::l=>nrO I r o∧nrB I r l
def Tl(r:Nat):List Fr→List Fr
 |[]=>[]
 |f::l=>{n:=f.n,t:=Bk r f.t}::Tl r l
def nrU(I:Pr)(r:Nat):List Fr→Prop
 |[]=>True
 |f::l=>ZJ I r f.t∧nrU I r l
def ZT(r:Nat)(s:St):St:={s with t:=Bk r s.t,b:=F7 r s.b,up:=Tl r s.up}
def Tn(Q:AV→Prop)(I:Pr)(args:List AV)(s:St)(K:bd):Prop:=
 match args with
 |[.agg [.sl r xs]]=>bif mL 1000000 r&&s.fl then(Q (.agg [.sl r xs])∧(s.c=[]∧ ∀i,s.g i=none)∧ZJ I r s.t∧nrB I r s.b∧nrU I r s.up)∧K (.gd []) (ZT r s)else False
 |_=>False
theorem sX(r:Nat): ∀(cs:List AV) (q:Nat),(sY r cs)[q]? =(cs[q]?).map (oR r)
 |[],q=>by simp[sY]
 |a::l,q=>by cases q<;>simp[sY,sX r l]
theorem sW(r:Nat): ∀(cs:List AV),(sY r cs).length=cs.length
 |[]=>rfl
 |a::l=>by simp[sY,sW r l]
theorem yV{I:Pr}{r:Nat}: ∀{cs:List AV},Pg I r cs→ ∀(q:Nat) (a:AV),cs[q]? =some a→NK I r a
 |[],_,q,a,h=>by simp at h
 |x::l,h,q,a,hq=>by
  simp only[Pg]at h
  cases q with
  |zero=>simp at hq;subst hq;exact h.1
  |succ q=>exact yV h.2 q a (by simpa using hq)
theorem Cz.Tm{r:Nat}(k:j4 E r w w')(hw:Wf E){av:AV}{x:Value}(h:Cz E av x):NK an r av→Cz (E.dD r kp w') (oR r av) x:=by
 have one: ∀{q:Nat} {xs:List (List AV)},(bif du q r then True else an.nr r xs)→du q r=false→q≠r∧mI r xs:=fun{q xs} h hq=>by
  rw[hq,cond_false]at h
  exact⟨fun e=>by subst e;simp at hq,h⟩
 induction h with
 |sl q xs z b o c u hp hc hm dQ hz hr hi hs hu hq ih=>
  intro hn
  simp only[NK]at hn
  simp only[oR]
  cases he:du q r with
  |true=>exact .any _
  |false=>exact Cz.dD k hw (.sl q xs z b o c u hp hc hm dQ hz hr hi hs hu hq) (by simp only[cond_false,ri];exact one hn he)
 |mZ q A c=>
  intro _
  simp only[oR]
  cases du q r with
  |true=>exact .any _
  |false=>exact .mZ _ _ _
 |sq q t=>
  intro _
  simp only[oR]
  cases du q r with
  |true=>exact .any _
  |false=>exact .sq _ _
 |gs q t xs z b c e cells u hc hm h0 dQ hz hr hb dC ho fP hi hu hq ih=>
  intro hn
  simp only[NK]at hn
  simp only[oR]
  cases he:du q r with
  |true=>exact .any _
  |false=>exact Cz.dD k hw (.gs q t xs z b c e cells u hc hm h0 dQ hz hr hb dC ho fP hi hu hq) (by simp only[cond_false,ri];exact one hn he)
 |aP q cs off b o u hr hi hs hu hq ih=>
  intro hn
  simp only[NK]at hn
  simp only[oR]
  cases he:du q r with
  |true=>exact .any _
  |false=>
   have:=one hn he
   simp only[mI]at this
   exact Cz.dD k hw (.aP q cs off b o u hr hi hs hu hq) (by simp only[cond_false,ri];exact⟨this.1,this.2.1⟩)
 |mN q z xs x hz h ih=>
  intro hn
  simp only[NK]at hn
  simp only[oR]
  cases he:du q r with
  |true=>exact .any _
  |false=>exact Cz.dD k hw (.mN q z xs x hz h) (by simp only[cond_false,ri];exact one hn he)
 |ar n z xs ys hn hz hl hi hq ih=>
  intro h
  simp only[NK]at h
  exact Cz.dD k hw (.ar n z xs ys hn hz hl hi hq) (by simp only[oR,ri];exact h)
 |fn f cs ys hl hq ih=>
  intro h
  simp only[NK]at h
  have h:mI r [cs]:=h
  simp only[mI]at h
  exact Cz.dD k hw (.fn f cs ys hl hq) (by simp only[oR,ri];exact h.1)
 |bm f cs ys hl hi hq ih=>
  intro h
  simp only[NK]at h
  have h:mI r [cs]:=h
  simp only[mI]at h
  exact Cz.dD k hw (.bm f cs ys hl hi hq) (by simp only[oR,ri];exact h.1)
 |agg cs ys hl hq ih=>
  intro h
  simp only[NK]at h
  simp only[oR]
  refine .agg _ ys (by rw[sW];exact hl) fun q a y ha hy=>?_
  rw[sX]at ha
  cases hc:cs[q]? with
  |none=>rw[hc]at ha;cases ha
  |some a0=>rw[hc]at ha;cases ha;exact ih q a0 y hc hy (yV h q a0 hc)
 |gd cs ys hl hq ih=>
  intro h
  simp only[NK]at h
  simp only[oR]
  refine .gd _ ys (by rw[sW];exact hl) fun q a y ha hy=>?_
  rw[sX]at ha
  cases hc:cs[q]? with
  |none=>rw[hc]at ha;cases ha
  |some a0=>rw[hc]at ha;cases ha;exact ih q a0 y hc hy (yV h q a0 hc)
 |any x=>exact fun _=> .any _
 |v x=>exact fun _=> .v _
 |ptr k' off hl=>exact fun _=>Cz.ptr (E:=E.dD r kp w') k' off hl
 |iq k' n hl hn hc hm=>exact fun _=>Cz.iq (E:=E.dD r kp w') k' n hl hn hc hm
 |cQ k' i off z hl=>exact fun _=>Cz.cQ (E:=E.dD r kp w') k' i off z hl
 |mp k' hl=>exact fun _=>Cz.mp (E:=E.dD r kp w') k' hl
 |po k' hl=>exact fun _=>Cz.po (E:=E.dD r kp w') k' hl
theorem xL{r d:Nat}: ∀{t:List (Nat×AV)},look d (Bk r t)=(look d t).map (oR r)
 |[]=>rfl
 |(k,a)::l=>by
  simp only[Bk,aC]
  split
  ·rfl
  ·exact xL
theorem xM{r d:Nat}: ∀{b:List (Nat×Ob)},look d (F7 r b)=(look d b).map (NW r)
 |[]=>rfl
 |(k,o)::l=>by
  simp only[F7,aC]
  split
  ·rfl
  ·exact xM
theorem HG{I:Pr}{r d:Nat}{a:AV}: ∀{t:List (Nat×AV)},ZJ I r t→look d t=some a→NK I r a
 |[],_,h=>by cases h
 |(k,x)::l,h,hd=>by
  simp only[ZJ]at h
  rw[aC]at hd
  split at hd
  ·cases hd;exact h.1
  ·exact HG h.2 hd
theorem NL{I:Pr}{r d:Nat}{o:Ob}: ∀{b:List (Nat×Ob)},nrB I r b→look d b=some o→nrO I r o
 |[],_,h=>by cases h
 |(k,x)::l,h,hd=>by
  simp only[nrB]at h
  rw[aC]at hd
  split at hd
  ·cases hd;exact h.1
  ·exact NL h.2 hd
theorem A3{r:Nat}(k:j4 E r w w')(hw:Wf E){t:List (Nat×AV)}(hn:ZJ an r t){T:Array Value}(h: ∀d x,look d t=some x→Cz E x (T.getD d undef)): ∀d x,look d (Bk r t)=some x→Cz (E.dD r kp w') x (T.getD d undef):=fun d x hd=>by
 rw[xL]at hd
 cases hl:look d t with
 |none=>rw[hl]at hd;cases hd
 |some y=>rw[hl]at hd;cases hd;exact(h d y hl).Tm k hw (HG hn hl)
theorem kI.dD{r:Nat}(k:j4 E r w w')(hw:Wf E): ∀{ab:List Act} {fs:List Fr},nrU an r fs→kI E ab fs→kI (E.dD r kp w') ab (Tl r fs)
 |[],[],_,_=>trivial
 |a::ab,f::fs,hn,h=>by
  simp only[nrU]at hn
  exact⟨⟨h.1.1,A3 k hw hn.1 h.1.2⟩,kI.dD k hw hn.2 h.2⟩
 |[],_::_,_,h=>h.elim
 |_::_,[],_,h=>h.elim
theorem SW{r:Nat}(k:j4 E r w w')(hw:Wf E){d:Nat}{o:Ob}(hn:nrO an r o)(h:cf E (.s d) o):cf (E.dD r kp w') (.s d) (NW r o):=by
 cases o with
 |box cs=>
  obtain⟨h1,c,e,h2,h3,h4,h5,h6⟩:=h
  have aS:E.m (.s d)<E.h.size:=(Array.getElem?_eq_some_iff.1 h2).1
  refine⟨h1,c,e,by show w'.heap[E.m (.s d)]? =_;rw[k.block aS fun o hh=>h4 o hh.1];exact h2,h3,fun o hh=>h4 o hh.1,by rw[sW];exact h5,fun q a x ha hx=>?_⟩
  rw[sX]at ha
  cases hc:cs[q]? with
  |none=>rw[hc]at ha;cases ha
  |some a0=>rw[hc]at ha;cases ha;exact(h6 q a0 x hc hx).Tm k hw (yV hn q a0 hc)
 |arr z xs=>
  obtain⟨h1,h2,h3,h4,h5,c,e,h6,h7,h8,h9,zU,H3⟩:=h
  have aS:E.m (.s d)<E.h.size:=(Array.getElem?_eq_some_iff.1 h6).1
  exact⟨h1,h2,h3,h4,h5,c,e,by show w'.heap[E.m (.s d)]? =_;rw[k.block aS fun o hh=>h8 o hh.1];exact h6,h7,fun o hh=>h8 o hh.1,h9,zU,fun q a x ha hx=>(H3 q a x ha hx).dD k hw (kA hn q a ha)⟩
 |ow p sa xs=>
  obtain⟨h1,h2,h3,h4,u,h5,h6,h7,h8⟩:=h
  have aS:E.m (.s d)<E.h.size:=hw.own _ (by rw[h2];simp)
  have zn:w'.heap[E.m (.s d)]? =E.h[E.m (.s d)]? :=k.block aS fun o hh=>h3 o hh.1
  refine⟨h1,h2,fun o hh=>h3 o hh.1,h4,u,?_,fun q a ha=>(h6 q a ha).dD k hw (kA hn q a ha),?_,h8⟩
  ·show Ez p _ w'.heap[E.m (.s d)]? xs u
   rw[zn];exact h5
  ·intro q r' ys hq hl
   have hnr:=kA hn q _ hq
   simp only[ri]at hnr
   rcases h7 q r' ys hq hl with hh|⟨z,b,c,e,cells,g1,g2,g3,g4,g5,g6,g7,g8,g9,XP,g11⟩
   ·exact .inl hh
   ·have cU:E.dH b≠r:=fun e=>hnr.1 (g7.symm.trans e)
    exact .inr ⟨z,b,c,e,cells,g1,g2,g3,g4,g5,g6,g7,by show w'.heap[b]? =_;rw[k.block (Array.getElem?_eq_some_iff.1 g8).1 fun o hh=>cU hh.2];exact g8,g9,XP,fun o=>⟨fun hh=>(g11 o).1 hh.1,fun hh=>⟨(g11 o).2 hh,.inr cU⟩⟩⟩
 |lp n t ps nq body st=>
  obtain⟨h1,h2,h3,rec,h4,h5,h6,h7,h8,h9,zU,H3⟩:=h
  have aS:E.m (.s d)<E.h.size:=(Array.getElem?_eq_some_iff.1 h4).1
  exact⟨h1,h2,fun o hh=>h3 o hh.1,rec,by show w'.heap[E.m (.s d)]? =_;rw[k.block aS fun o hh=>h3 o hh.1];exact h4,h5,h6,h7,h8,h9,zU,A3 k hw hn H3⟩
theorem j4.other{r b:Nat}(k:j4 E r w w'){x:Obj}(h:E.h[b]? =some x)(hx: ∀c e q,x≠ .cells c e q):w'.heap[b]? =some x:=by
 rcases k.cells b (Array.getElem?_eq_some_iff.1 h).1 with h1|⟨c,c',e,h1,_⟩
 ·exact h1.trans h
 ·rw[h]at h1;cases h1;exact absurd rfl (hx _ _ _)
theorem bn.dD(h:bn E0 E w0 w s a){r:Nat}(k:j4 E r w w')(hr:1000000≤r)(fG:s.fl=true)(hc:s.c=[])(hg: ∀i,s.g i=none)(ht:ZJ an r s.t)(hb:nrB an r s.b)(hu:nrU an r s.up):bn E0 (E.dD r kp w') w0 w' (ZT r s) a:=by
 have low: ∀b o,b<E0.h.size→ ¬(E.aM b o∧E.dH b=r):=fun b o aS hh=>by
  have h1:=h.ext.bj b aS (h.lo fG b).1
  have h2:=(h.lo fG b).2 o ((h1.2.2.1 o).1 hh.1)
  rw[←h1.2.2.2,hh.2]at h2
  omega
 have aiv: ∀b o,E0.aM b o→ ¬(E.dH b=r):=fun b o hs he=>by
  have h2:=(h.lo fG b).2 o hs
  have h3:=(h.ext.aM b o hs).2.2
  omega
 refine⟨rfl,⟨fun b o hh=>Nat.lt_of_lt_of_le (h.wf.aM b o hh.1) k.size,fun b hh=>Nat.lt_of_lt_of_le (h.wf.own b hh) k.size,fun b o hh hq=>?_⟩,?_,kI.dD k h.wf hu h.up,h.sz,fun d x hd hp=>?_,fun d q hd=>?_,fun d ob hd=>?_,fun d hl=>?_,fun i ob hi=>?_,h.gl,⟨Nat.le_trans h.ext.size k.size,fun b o hs=>⟨⟨(h.ext.aM b o hs).1,.inr (aiv b o hs)⟩,?_,(h.ext.aM b o hs).2.2⟩,h.ext.live,fun b aS hn=>?_⟩,h.xc,h.same.trans k.same,h.gk,h.nl,h.ng,h.lo⟩
 ·obtain⟨c,e,h1⟩:=h.wf.fz b o hh.1 hq
  rcases k.cells b (Array.getElem?_eq_some_iff.1 h1).1 with h2|⟨c1,c',e1,h2,h3,_⟩
  ·exact⟨c,e,h2.trans h1⟩
  ·exact⟨c',e1,h3⟩
 ·obtain⟨Bs,h1,h2,h3⟩:=h.IG
  refine⟨Bs,h1,h2,fun B hB=>?_⟩
  obtain⟨g1,g2,g3⟩:=h3 B hB
  exact⟨k.other g1 (fun _ _ _ e=>by cases e),g2,g3⟩
 ·have ou:look d (Bk r s.t)=some x:=hd
  rw[xL]at ou
  cases hl:look d s.t with
  |none=>rw[hl]at ou;cases ou
  |some y=>
   rw[hl]at ou;cases ou
   exact(h.tm d y hl (by rw[ed,hc];exact trivial)).Tm k h.wf (HG ht hl)
 ·have ou:look d s.c=some q:=hd
  rw[hc]at ou;cases ou
 ·have ou:look d (F7 r s.b)=some ob:=hd
  rw[xM]at ou
  cases hl:look d s.b with
  |none=>rw[hl]at ou;cases ou
  |some y=>rw[hl]at ou;cases ou;exact SW k h.wf (NL hb hl) (h.bx d y hl)
 ·obtain⟨ob,ho⟩:=h.lv d hl
  exact⟨NW r ob,by show look d (F7 r s.b)=_;rw[xM,ho];rfl⟩
 ·have:s.g i=some ob:=hi
  rw[hg i]at this;cases this
 ·show aO w'.heap b o=_
  rw[k.cell (h.wf.aM b o (h.ext.aM b o hs).1) fun hh=>aiv b o hs hh.2]
  exact(h.ext.aM b o hs).2.1
 ·obtain⟨g1,g2,g3,g4⟩:=h.ext.bj b aS hn
  refine⟨g1,?_,fun o=>⟨fun hh=>(g3 o).1 hh.1,fun hh=>⟨(g3 o).2 hh,.inr fun he=>low b o aS ⟨(g3 o).2 hh,he⟩⟩⟩,g4⟩
  show w'.heap[b]? =_
  rw[k.block (Nat.lt_of_lt_of_le aS h.ext.size) fun o=>low b o aS]
  exact g2
def KH(P:Program)(f:Nat)(Q:AV→Prop):Prop:=
 ∀(E:Env) (w:World) (r:Nat) (xs:List (List AV)) (x:Value),Q (.agg [.sl r xs])→1000000≤r→w.heap=E.h→Wf E→Cz E (.agg [.sl r xs]) x→
  Calls P f #[x] w fun e w'=>e= .returned (.tuple #[])∧j4 E r w w'
theorem Xr{f:Nat}{Q:AV→Prop}(he:nw P f)(hs:KH P f Q):UP P f (Tn Q):=by
 refine⟨he,fun{args s K E0 E w0 w a vs} hH h hl hv=>?_⟩
 unfold Tn at hH
 split at hH
 ·rename_i r xs
  cases hb:mL 1000000 r&&s.fl with
  |false=>rw[hb]at hH;exact hH.elim
  |true=>
   rw[hb,cond_true]at hH
   simp only[Bool.and_eq_true]at hb
   obtain⟨⟨q0,⟨q1,q2⟩,q3,q4,q5⟩,hK⟩:=hH
   match vs,hl with
   |[x],_=>
    refine(hs E w r xs x q0 (JS hb.1) h.heap h.wf (hv 0 _ x rfl rfl)).mono fun e w' ⟨h1,h2⟩=>?_
    exact⟨_,h1,_,_,E.dD r False w',hK,h.dD h2 (JS hb.1) hb.2 q1 q2 q3 q4 q5,.gd [] [] rfl fun q a y ha=>by simp at ha⟩
 ·exact hH.elim
end Ab
namespace Ab
open Go
variable{P:Program}{L:nv}{E:Env}{w0 w w':World}{r:Nat}
def zk:Value→Value
 | .int k _=> .int k 0
 | .string _=> .string ⟨#[]⟩
 | .bool _=> .bool false
 | .slice _ _ _=> .slice none 0 0
 |v=>v
structure fE(E:Env)(r:Nat)(w0 w:World):Prop where
 same:iC w0 w
 size:E.h.size≤w.heap.size
 cells: ∀b,b<E.h.size→w.heap[b]? =E.h[b]? ∨ ∃c c' e,E.h[b]? =some (.cells c e (0,0))∧w.heap[b]? =some (.cells c' e (0,0))∧c'.size=c.size∧
  ∀o,c'[o]? =c[o]? ∨(E.aM b o∧E.dH b=r)∧ ∃u,c[o]? =some u∧c'[o]? =some (zk u)
theorem fE.spoilt(h:fE E r w0 w):j4 E r w0 w:=
 ⟨h.same,h.size,fun b hb=>(h.cells b hb).imp id fun⟨c,c',e,h1,h2,h3,h4⟩=>⟨c,c',e,h1,h2,h3,fun o ho=>(h4 o).resolve_right fun hh=>ho hh.1⟩⟩
theorem fE.refl(h:w.heap=E.h):fE E r w w:=⟨.refl _,by rw[h];exact Nat.le_refl _,fun b _=> .inl (by rw[h])⟩
theorem fE.get(h:fE E r w0 w)(hw:Wf E){b o:Nat}{u:Value}(hs:E.aM b o)(hu:aO E.h b o=some u):aO w.heap b o=some u∨aO w.heap b o=some (zk u):=by
 rcases h.cells b (hw.aM b o hs)with h1|⟨c,c',e,h1,h2,h3,h4⟩
 ·left;unfold aO;rw[h1];exact hu
 ·unfold aO at hu ⊢
  rw[h1]at hu
  rw[h2]
  rcases h4 o with h5|⟨_,u',h5,h6⟩
  ·exact .inl (h5.trans hu)
  ·right
   have hu:c[o]? =some u:=hu
   rw[h5]at hu;cases hu;exact h6
def Lk(E:Env)(w w':World):Prop:=w.heap.size≤w'.heap.size∧ ∀b,E.h.size≤b→b<w.heap.size→w'.heap[b]? =w.heap[b]?
theorem Lk.refl:Lk E w w:=⟨Nat.le_refl _,fun _ _ _=>rfl⟩
theorem Lk.trans{w1 w2 w3:World}(h:Lk E w1 w2)(k:Lk E w2 w3):Lk E w1 w3:=⟨Nat.le_trans h.1 k.1,fun b h1 h2=>(k.2 b h1 (Nat.lt_of_lt_of_le h2 h.1)).trans (h.2 b h1 h2)⟩
theorem Lk.get{b:Nat}{x:Obj}(h:Lk E w w')(hb:E.h.size≤b)(hx:w.heap[b]? =some x):w'.heap[b]? =some x:=by
 rw[h.2 b hb (Array.getElem?_eq_some_iff.1 hx).1];exact hx
theorem fE.alloc(h:fE E r w0 w)(o:Obj):fE E r w0 (w.alloc o):=
 ⟨h.same.trans ⟨rfl,rfl,rfl⟩,by have:=h.size;show _≤(w.heap.push o).size;rw[Array.size_push];omega,fun b hb=>by
  have eQ:b<w.heap.size:=Nat.lt_of_lt_of_le hb h.size
  have:(w.alloc o).heap[b]? =w.heap[b]? :=by show(w.heap.push o)[b]? =_;rw[Array.getElem?_push_lt eQ,Array.getElem?_eq_getElem eQ]
  rw[this];exact h.cells b hb⟩
theorem Lk.alloc(o:Obj):Lk E w (w.alloc o):=
 ⟨by show _≤(w.heap.push o).size;rw[Array.size_push];omega,fun b _ hb=>by show(w.heap.push o)[b]? =_;rw[Array.getElem?_push_lt hb,Array.getElem?_eq_getElem hb]⟩
theorem Gn(o:Obj):(w.alloc o).heap[w.heap.size]? =some o:=by show(w.heap.push o)[w.heap.size]? =_;simp
theorem fE.anE(h:fE E r w0 w){b:Nat}{o:Obj}(hb:E.h.size≤b)(hh:w'.heap=w.heap.setIfInBounds b o)(hs:iC w w'):fE E r w0 w':=
 ⟨h.same.trans hs,by rw[hh];simpa using h.size,fun b' eQ=>by rw[hh,Array.getElem?_setIfInBounds_ne (by omega)];exact h.cells b' eQ⟩
def oq(E:Env)(r:Nat)(row:List (Value→Prop))(v:Value):Prop:=
 ∃A n c,v= .slice A n c∧n≤maxLen∧(n=0∨ ∃b o,A=some ⟨b,o,none⟩∧E.dH b=r∧ ∀i,i<n→ ∀(q:Nat) (S:Value→Prop),row[q]? =some S→E.aM b (o+(i*row.length+q))∧ ∃u,aO E.h b (o+(i*row.length+q))=some u∧S u)
theorem Wz{row:List (Value→Prop)}{xs:List (List AV)}{v:Value}(h:Cz E (.sl r xs) v)(hl: ∀l∈xs,l.length=row.length)(hr: ∀l∈xs,∀(q:Nat) (a:AV) (S:Value→Prop),l[q]? =some a→row[q]? =some S→ ∀x,Cz E a x→S x):oq E r row v:=by
 cases h with
 |mZ=>exact⟨_,_,_,rfl,Nat.zero_le _,.inl rfl⟩
 |sl _ _ z b o c u hp hc hm dQ hz hrr hi hs hu hq=>
  refine⟨_,_,_,rfl,Nat.le_trans hc hm,.inr ⟨b,o,rfl,hrr,fun i hi q S hS=>?_⟩⟩
  have TF:xs[i]∈xs:=List.getElem_mem hi
  have BW:z=row.length:=(hz _ TF).symm.trans (hl _ TF)
  have Z7:q<row.length:=(List.getElem?_eq_some_iff.1 hS).1
  have hx:xs[i]? =some xs[i]:=List.getElem?_eq_getElem hi
  have cZ:xs[i][q]? =some (xs[i][q]'(by rw[hl _ TF];exact Z7)):=List.getElem?_eq_getElem _
  have hf:xs.flatten[i*row.length+q]? =some (xs[i][q]'(by rw[hl _ TF];exact Z7)):=by
   have e1:i*row.length+q=i*z+q:=by rw[BW]
   rw[e1,dP hz hx q (by omega)];exact cZ
  exact⟨hs _ _ hf,_,hu _ _ hf,hr _ TF q _ S cZ hS _ (hq _ _ hf)⟩
theorem oq.nil{row:List (Value→Prop)}:oq E r row (.slice none 0 0):=⟨_,_,_,rfl,Nat.zero_le _,.inl rfl⟩
theorem oq.zk{row:List (Value→Prop)}{v:Value}(h:oq E r row v):zk v= .slice none 0 0:=by
 obtain⟨A,n,c,rfl,_,_⟩:=h;rfl
theorem fE.row(h:fE E r w0 w)(hw:Wf E){row:List (Value→Prop)}{A:Option Addr}{n c:Nat}(hv:oq E r row (.slice A n c))(hz: ∀S∈row,∀u,S u→S (zk u)){i:Nat}(hi:i<n):
  ∃b o,A=some ⟨b,o,none⟩∧ ∃ys:List Value,ys.length=row.length∧(∀(q:Nat) (y:Value),ys[q]? =some y→aO w.heap b (o+i*row.length+q)=some y)∧ ∀(q:Nat) (S:Value→Prop) (y:Value),row[q]? =some S→ys[q]? =some y→S y:=by
 obtain⟨A',n',c',he,_,h1⟩:=hv
 cases he
 rcases h1 with h1|⟨b,o,rfl,hr,h1⟩
 ·omega
 refine⟨b,o,rfl,?_⟩
 have key: ∀q,q<row.length→ ∃y,aO w.heap b (o+i*row.length+q)=some y∧ ∀S,row[q]? =some S→S y:=fun q hq=>by
  obtain⟨h2,u,h3,h4⟩:=h1 i hi q _ (List.getElem?_eq_getElem hq)
  rw[Nat.add_assoc]
  rcases h.get hw h2 h3 with h5|h5
  ·exact⟨_,h5,fun S hS=>by rw[List.getElem?_eq_getElem hq]at hS;cases hS;exact h4⟩
  ·exact⟨_,h5,fun S hS=>by rw[List.getElem?_eq_getElem hq]at hS;cases hS;exact hz _ (List.getElem_mem hq) _ h4⟩
 have build: ∀m,m≤row.length→ ∃ys:List Value,ys.length=m∧(∀(q:Nat) (y:Value),ys[q]? =some y→aO w.heap b (o+i*row.length+q)=some y)∧ ∀(q:Nat) (S:Value→Prop) (y:Value),row[q]? =some S→ys[q]? =some y→S y:=by
  intro m
  induction m with
  |zero=>intro _;exact⟨[],rfl,fun q y hh=>by simp at hh,fun q S y _ hh=>by simp at hh⟩
  |succ m ih=>
   intro hm
   obtain⟨ys,g1,g2,g3⟩:=ih (by omega)
   obtain⟨y,g4,g5⟩:=key m (by omega)
   refine⟨ys++[y],by simp[g1],fun q y' hq=>?_,fun q S y' hS hq=>?_⟩
   ·by_cases aS:q<m
    ·rw[List.getElem?_append_left (by omega)]at hq;exact g2 q y' hq
    ·have:q=m:=by have:=(List.getElem?_eq_some_iff.1 hq).1;simp at this;omega
     subst this
     rw[List.getElem?_append_right (by omega)]at hq;simp[g1]at hq;subst hq;exact g4
   ·by_cases aS:q<m
    ·rw[List.getElem?_append_left (by omega)]at hq;exact g3 q S y' hS hq
    ·have:q=m:=by have:=(List.getElem?_eq_some_iff.1 hq).1;simp at this;omega
     subst this
     rw[List.getElem?_append_right (by omega)]at hq;simp[g1]at hq;subst hq;exact g5 S hS
 exact build row.length (Nat.le_refl _)
theorem wO{zs:List Value}{n q:Nat}(hq:q<n*zs.length):(Builtin.zeroCells zs.toArray n).toList[q]? =zs[q % zs.length]? :=by
 have hz:0<zs.length:=by
  rcases Nat.eq_zero_or_pos zs.length with h|h
  ·rw[h]at hq;simp at hq
  ·exact h
 have hm:=Nat.mod_lt q hz
 simp[Builtin.zeroCells,hq,hm]
theorem ny{zs:List Value}{n:Nat}:(Builtin.zeroCells zs.toArray n).toList.length=n*zs.length:=by simp[Builtin.zeroCells]
theorem fE.clear(hL:bk P L)(h:fE E r w0 w)(hw:Wf E)(hr:1000000≤r){row:List (Value→Prop)}{v:Value}(hv:oq E r row v){t e ty:Nat}{ti te:TI}(ht:L t=some ti)(hk:ti.k= .slice e)(he:L e=some te)
  (h0:0<row.length)(hl:te.zero.length=row.length)(hz: ∀(q:Nat) (S:Value→Prop) (z u:Value),row[q]? =some S→te.zero[q]? =some z→S u→zk u=z):
  ∃w',(Builtin.clear_ #[t] ty #[v]).run P w= .ok (.tuple #[]) w'∧fE E r w0 w'∧Lk E w w':=by
 obtain⟨i1,d1,z1,a1,a2,a3,a4,a5,a6,a7⟩:=(hL.ok t ti ht).ex
 obtain⟨i2,d2,z2,b1,b2,b3,b4,b5,b6,b7⟩:=(hL.ok e te he).ex
 rw[hk]at a7
 dsimp only at a7
 subst a7
 have hzv: ∀w,(zeroValue e).run P w= .ok z2 w:=fun w=>by simp[zeroValue,typeInfo,go_sem,b1,b4]
 obtain⟨A,n,c,rfl,_,h1⟩:=hv
 have aii:(n=0∨A=none)→(Builtin.clear_ #[t] ty #[.slice A n c]).run P w= .ok (.tuple #[]) w:=by
  rintro(rfl|rfl)
  ·cases A<;>simp[Builtin.clear_,eT a6]
  ·simp[Builtin.clear_,eT a6]
 cases n with
 |zero=>exact⟨w,aii (.inl rfl),h,.refl⟩
 |succ n=>
  rcases h1 with h1|⟨b,o,rfl,Ty,h1⟩
  ·cases h1
  have TG:0<(n+1)*row.length:=Nat.mul_pos (by omega) (by omega)
  have cell: ∀q,q<(n+1)*row.length→E.aM b (o+q)∧ ∃u z,aO E.h b (o+q)=some u∧te.zero[q % row.length]? =some z∧zk u=z:=fun q hq=>by
   have hm:=Nat.mod_lt q (show 0<row.length by omega)
   have hd:q / row.length<n+1:=(Nat.div_lt_iff_lt_mul (by omega)).2 hq
   obtain⟨g1,u,g2,g3⟩:=h1 (q / row.length) hd (q % row.length) _ (List.getElem?_eq_getElem hm)
   rw[Nat.div_add_mod' q row.length]at g1 g2
   have J9:te.zero[q % row.length]? =some (te.zero[q % row.length]'(by omega)):=List.getElem?_eq_getElem _
   exact⟨g1,u,_,g2,J9,hz _ _ _ u (List.getElem?_eq_getElem hm) J9 g3⟩
  have Gc:b<E.h.size:=hw.aM _ _ (cell 0 TG).1
  obtain⟨c0,e0,hc0⟩:=hw.fz b _ (cell 0 TG).1 (by omega)
  obtain⟨c1,hc1,dC,IE⟩: ∃c1,w.heap[b]? =some (.cells c1 e0 (0,0))∧c1.size=c0.size∧ ∀o,c1[o]? =c0[o]? ∨(E.aM b o∧E.dH b=r)∧ ∃u,c0[o]? =some u∧c1[o]? =some (zk u):=by
   rcases h.cells b Gc with h2|⟨c,c',e,h2,h3,h4,h5⟩
   ·exact⟨c0,h2.trans hc0,rfl,fun o=> .inl rfl⟩
   ·rw[hc0]at h2;cases h2;exact⟨c',h3,h4,h5⟩
  have ui: ∀q,q<(n+1)*row.length→o+q<c0.size:=fun q hq=>by
   obtain⟨_,u,_,g2,_⟩:=cell q hq
   unfold aO at g2
   rw[hc0]at g2
   exact(Array.getElem?_eq_some_iff.1 g2).1
  have TL:=ui ((n+1)*row.length - 1) (by omega)
  have hvs:z2.cells=te.zero.toArray:=by rw[←b5]
  obtain⟨w',g1,g2,g3⟩:=fW P b o e0 (Builtin.zeroCells te.zero.toArray (n+1)).toList 0 w c1 hc1 (by rw[ny,hl,dC];omega) (fun v hv=>by
   obtain⟨q,hq⟩:=List.getElem?_of_mem hv
   have wq:=(List.getElem?_eq_some_iff.1 hq).1
   rw[ny]at wq
   rw[wO wq]at hq
   exact(hL.ok e te he).alH v (List.mem_of_getElem? hq))
  obtain⟨f1,f2⟩:=pj o (Builtin.zeroCells te.zero.toArray (n+1)).toList 0 c1 (by rw[ny,hl,dC];omega)
  generalize hF:((Builtin.zeroCells te.zero.toArray (n+1)).toList.zipIdx.foldl (fun cs (x,j)=>cs.setIfInBounds (o+j) x) c1)=F at g2 f1 f2
  have KY:b<w.heap.size:=Nat.lt_of_lt_of_le Gc h.size
  have ai7:w'.heap.size=w.heap.size:=by rw[g2];simp
  refine⟨w',?_,⟨h.same.trans g3,by rw[ai7];exact h.size,fun b' eQ=>?_⟩,by rw[ai7];exact Nat.le_refl _,fun b' eQ _=>by rw[g2,Array.getElem?_setIfInBounds_ne (by omega)]⟩
  ·simp[Builtin.clear_,eT a6,hzv,hvs,g1]
  ·by_cases tf:b'=b
   ·subst tf
    right
    refine⟨c0,F,e0,hc0,by rw[g2];simp[KY],by rw[f1,dC],fun o'=>?_⟩
    rw[f2 o',ny,hl]
    by_cases qI:o+0≤o'∧o'<o+0+(n+1)*row.length
    ·rw[if_pos qI]
     right
     obtain⟨q,rfl⟩: ∃q,o'=o+q:=⟨o' - o,by omega⟩
     have hq:q<(n+1)*row.length:=by omega
     obtain⟨k1,u,z,k2,k3,k4⟩:=cell q hq
     refine⟨⟨k1,Ty⟩,u,?_,?_⟩
     ·unfold aO at k2;rw[hc0]at k2;exact k2
     ·rw[show o+q - (o+0)=q by omega,wO (by rw[hl];exact hq),hl,k3,k4]
    ·rw[if_neg qI];exact IE o'
   ·rw[g2,Array.getElem?_setIfInBounds_ne (Ne.symm tf)];exact h.cells b' eQ
end Ab
namespace Ab
open Go
def eqZ:Value→Value→Bool
 | .int .i64 0,.int .i64 0=>true
 | .int .u8 0,.int .u8 0=>true
 | .int .i32 0,.int .i32 0=>true
 | .int .u32 0,.int .u32 0=>true
 | .int .u64 0,.int .u64 0=>true
 | .bool false,.bool false=>true
 | .string ⟨⟨[]⟩⟩,.string ⟨⟨[]⟩⟩=>true
 | .slice none 0 0,.slice none 0 0=>true
 | .pointer none,.pointer none=>true
 | .map none,.map none=>true
 | .nilFunc,.nilFunc=>true
 | .nilIface,.nilIface=>true
 |_,_=>false
theorem ae4{a b:Value}(h:eqZ a b=true):a=b:=by
 unfold eqZ at h
 split at h<;>first|rfl|cases h
def X2:List Value→List Value→Bool
 |[],[]=>true
 |a::r,b::q=>eqZ a b&&X2 r q
 |_,_=>false
theorem Og: ∀{a b:List Value},X2 a b=true→a=b
 |[],[],_=>rfl
 |x::r,y::q,h=>by
  simp only[X2,Bool.and_eq_true]at h
  rw[ae4 h.1,Og h.2]
 |[],_::_,h=>by cases h
 |_::_,[],h=>by cases h
def N9(P:Program):List Field→List (Nat×Nat)→Bool
 |[],[]=>true
 |f::r,(o,z)::q=>du f.offset o&&(match P.info? f.type with
  |some i=>du i.size z
  |none=>false)&&N9 P r q
 |_,_=>false
theorem Km{P:Program}: ∀{F:List Field} {fs:List (Nat×Nat)},N9 P F fs=true→F.length=fs.length∧ ∀(j o z:Nat),fs[j]? =some (o,z)→ ∃f i',F[j]? =some f∧f.offset=o∧P.info? f.type=some i'∧i'.size=z
 |[],[],_=>⟨rfl,fun j o z h=>by simp at h⟩
 |f::r,(o,z)::q,h=>by
  simp only[N9,Bool.and_eq_true]at h
  obtain⟨⟨h1,h2⟩,h3⟩:=h
  obtain⟨h4,h5⟩:=Km h3
  refine⟨by simp[h4],fun j o' z' hj=>?_⟩
  cases j with
  |zero=>
   simp at hj
   cases hi:P.info? f.type with
   |none=>rw[hi]at h2;cases h2
   |some i=>rw[hi]at h2;exact⟨f,i,rfl,(dy h1).trans hj.1,hi,(dy h2).trans hj.2⟩
  |succ j=>exact h5 j o' z' (by simpa using hj)
 |[],_::_,h=>by cases h
 |_::_,[],h=>by cases h
def ZS(P:Program):TK→TypeDesc→Bool
 | .slice e,.slice e'=>du e' e
 | .da fs,.struct F=>N9 P F.toList fs
 | .arr n e,.array n' e'=>du n' n&&du e' e
 | .map k e,.map k' e'=>du k' k&&du e' e
 | .int k,.int k'=>k'==k
 | .bool,.bool=>true
 | .str,.string=>true
 | .sc,d=>match d with
  | .struct _=>false
  | .array _ _=>false
  |_=>true
 |_,_=>false
def NJ:List Value→Bool
 |[]=>true
 |a::r=>qV a&&NJ r
def ftB:List Field→List Nat→Bool
 |_,[]=>true
 |f::r,t::q=>du f.type t&&ftB r q
 |[],_::_=>false
theorem TZ: ∀{F:List Field} {l:List Nat},ftB F l=true→ ∀(j t:Nat),l[j]? =some t→ ∃f,F[j]? =some f∧f.type=t
 |_,[],_,j,t,h=>by simp at h
 |f::r,t::q,h,j,t',hj=>by
  simp only[ftB,Bool.and_eq_true]at h
  cases j with
  |zero=>simp at hj;exact⟨f,rfl,(dy h.1).trans hj⟩
  |succ j=>exact TZ h.2 j t' (by simpa using hj)
 |[],_::_,h,_,_,_=>by cases h
def apJ:TypeDesc→List Nat→Bool
 | .struct F,l=>ftB F.toList l
 |_,[]=>true
 |_,_=>false
def tiB(P:Program)(t:Nat)(ti:TI):Bool:=
 match P.info? t with
 |none=>false
 |some i=>match P.underlying t with
  |none=>false
  |some d=>match i.zero with
   |none=>false
   |some z=>du i.size ti.size&&du i.bytes ti.bytes&&X2 z.cells.toList ti.zero&&ZS P ti.k d&&du ti.zero.length ti.size&&NJ ti.zero&&(ti.agg||qV z)&&apJ d ti.ft
theorem JD: ∀{l:List Value},NJ l=true→ ∀x∈l,qV x=true
 |[],_,x,hx=>by cases hx
 |a::r,h,x,hx=>by
  simp only[NJ,Bool.and_eq_true]at h
  rcases List.mem_cons.1 hx with rfl|hx
  ·exact h.1
  ·exact JD h.2 x hx
theorem ab0{P:Program}{t:Nat}{ti:TI}(h:tiB P t ti=true):agq P t ti:=by
 unfold tiB at h
 cases hi:P.info? t with
 |none=>rw[hi]at h;cases h
 |some i=>
  rw[hi]at h
  dsimp only at h
  cases hd:P.underlying t with
  |none=>rw[hd]at h;cases h
  |some d=>
   rw[hd]at h
   dsimp only at h
   cases hz:i.zero with
   |none=>rw[hz]at h;cases h
   |some z=>
    rw[hz]at h
    simp only[Bool.and_eq_true]at h
    obtain⟨⟨⟨⟨⟨⟨⟨h1,h2⟩,h3⟩,h4⟩,h5⟩,h6⟩,h7'⟩,hft⟩:=h
    refine⟨⟨i,d,z,hi,dy h1,dy h2,hz,Og h3,hd,?_⟩,dy h5,JD h6,(fun so i' z' e1 e2=>by
     rw[hi]at e1;cases e1;rw[hz]at e2;cases e2;rw[so]at h7';simpa using h7'),fun F hF j t' hj=>by
     rw[hd]at hF;cases hF
     obtain⟨f,g1,g2⟩:=TZ hft j t' hj
     exact⟨f,by rw[←Array.getElem?_toList];exact g1,g2⟩⟩
    unfold ZS at h4
    split at h4
    ·rename_i hk;rw[hk];rw[dy h4]
    ·rename_i fs F hk
     rw[hk]
     obtain⟨h7,h8⟩:=Km h4
     refine⟨F,rfl,by simpa using h7,fun j o z hj=>?_⟩
     obtain⟨f,i',g1,g2,g3,g4⟩:=h8 j o z hj
     exact⟨f,i',by rw[←Array.getElem?_toList];exact g1,g2,g3,g4⟩
    ·rename_i hk
     simp only[Bool.and_eq_true]at h4
     rw[hk,dy h4.1,dy h4.2]
    ·rename_i hk
     simp only[Bool.and_eq_true]at h4
     rw[hk,dy h4.1,dy h4.2]
    ·rename_i k k' hk
     rw[hk]
     have:k'=k:=by simpa using h4
     rw[this]
    ·rename_i hk;rw[hk]
    ·rename_i hk;rw[hk]
    ·rename_i hk
     rw[hk]
     split at h4
     ·cases h4
     ·cases h4
     ·rename_i _ hns hna
      dsimp only
      split
      ·exact hns _ rfl
      ·exact hna _ _ rfl
      ·trivial
    ·cases h4
inductive BT where
 |leaf
 |node (l:BT) (k:Nat) (v:TI) (r:BT)
def BT.get:BT→Nat→Option TI
 | .leaf,_=>none
 | .node l k v r,t=>bif du t k then some v else bif rm t k then l.get t else r.get t
def btB(P:Program):BT→Bool
 | .leaf=>true
 | .node l k v r=>tiB P k v&&btB P l&&btB P r
theorem BT.ok{P:Program}: ∀{T:BT},btB P T=true→ ∀t ti,T.get t=some ti→agq P t ti
 | .leaf,_,t,ti,h=>by cases h
 | .node l k v r,hb,t,ti,h=>by
  simp only[btB,Bool.and_eq_true]at hb
  simp only[BT.get]at h
  cases h1:du t k with
  |true=>rw[h1,cond_true]at h;cases h;rw[dy h1];exact ab0 hb.1.1
  |false=>
   rw[h1,cond_false]at h
   cases h2:rm t k with
   |true=>rw[h2,cond_true]at h;exact BT.ok hb.1.2 t ti h
   |false=>rw[h2,cond_false]at h;exact BT.ok hb.2 t ti h
def tab:BT:=
 (.node (.node (.node (.node (.node (.node (.node (.node .leaf 1 ⟨.sc,1,8,[.nilFunc],[]⟩ .leaf) 2 ⟨.int .i64,1,8,[.int .i64 0],[]⟩ .leaf) 3 ⟨.int .i64,1,8,[.int .i64 0],[]⟩ (.node (.node .leaf 4 ⟨.bool,1,1,[.bool false],[]⟩ .leaf) 5 ⟨.int .u8,1,1,[.int .u8 0],[]⟩ .leaf)) 6 ⟨.int .u8,1,1,[.int .u8 0],[]⟩ (.node (.node (.node .leaf 7 ⟨.da [(0,1),(1,1),(2,1),(3,1)],4,24,[.int .i64 0,.int .i64 0,.bool false,.int .u8 0],[2,3,4,6]⟩ .leaf) 8 ⟨.da [(0,1),(1,1),(2,1),(3,1)],4,24,[.int .i64 0,.int .i64 0,.bool false,.int .u8 0],[2,3,4,6]⟩ .leaf) 9 ⟨.str,1,16,[.string ⟨#[]⟩],[]⟩ (.node (.node .leaf 10 ⟨.str,1,16,[.string ⟨#[]⟩],[]⟩ .leaf) 11 ⟨.str,1,16,[.string ⟨#[]⟩],[]⟩ .leaf))) 12 ⟨.int .u64,1,8,[.int .u64 0],[]⟩ (.node (.node (.node (.node .leaf 13 ⟨.da [(0,1),(1,1)],2,24,[.string ⟨#[]⟩,.int .u64 0],[9,12]⟩ .leaf) 14 ⟨.da [(0,1),(1,1)],2,24,[.string ⟨#[]⟩,.int .u64 0],[9,12]⟩ .leaf) 15 ⟨.sc,1,8,[.pointer none],[]⟩ (.node (.node .leaf 16 ⟨.sc,1,8,[.pointer none],[]⟩ .leaf) 17 ⟨.sc,1,8,[.pointer none],[]⟩ .leaf)) 18 ⟨.da [(0,1)],1,8,[.pointer none],[17]⟩ (.node (.node (.node .leaf 19 ⟨.da [(0,1)],1,8,[.pointer none],[17]⟩ .leaf) 20 ⟨.sc,1,16,[.nilIface],[]⟩ .leaf) 21 ⟨.int .i32,1,4,[.int .i32 0],[]⟩ (.node .leaf 22 ⟨.slice 57,1,24,[fC],[]⟩ .leaf)))) 23 ⟨.da [(0,1)],1,24,[fC],[22]⟩ (.node (.node (.node (.node (.node .leaf 24 ⟨.da [(0,1)],1,24,[fC],[22]⟩ .leaf) 25 ⟨.sc,1,8,[.nilFunc],[]⟩ .leaf) 26 ⟨.sc,1,8,[.nilFunc],[]⟩ (.node (.node .leaf 27 ⟨.sc,1,8,[.nilFunc],[]⟩ .leaf) 28 ⟨.sc,1,8,[.nilFunc],[]⟩ .leaf)) 29 ⟨.slice 28,1,24,[fC],[]⟩ (.node (.node (.node .leaf 30 ⟨.slice 3,1,24,[fC],[]⟩ .leaf) 31 ⟨.sc,1,8,[.nilFunc],[]⟩ .leaf) 32 ⟨.int .i64,1,8,[.int .i64 0],[]⟩ (.node (.node .leaf 33 ⟨.sc,1,8,[.nilFunc],[]⟩ .leaf) 34 ⟨.slice 4,1,24,[fC],[]⟩ .leaf))) 35 ⟨.sc,1,8,[.nilFunc],[]⟩ (.node (.node (.node (.node .leaf 37 ⟨.sc,1,8,[.nilFunc],[]⟩ .leaf) 38 ⟨.sc,1,8,[.nilFunc],[]⟩ .leaf) 39 ⟨.sc,1,8,[.nilFunc],[]⟩ (.node (.node .leaf 41 ⟨.sc,1,8,[.nilFunc],[]⟩ .leaf) 43 ⟨.sc,1,8,[.nilFunc],[]⟩ .leaf)) 45 ⟨.sc,1,8,[.nilFunc],[]⟩ (.node (.node (.node .leaf 46 ⟨.sc,1,8,[.nilFunc],[]⟩ .leaf) 47 ⟨.sc,1,8,[.nilFunc],[]⟩ .leaf) 49 ⟨.sc,1,8,[.nilFunc],[]⟩ (.node .leaf 51 ⟨.sc,1,8,[.nilFunc],[]⟩ .leaf))))) 52 ⟨.sc,1,8,[.nilFunc],[]⟩ (.node (.node (.node (.node (.node (.node .leaf 53 ⟨.sc,1,8,[.nilFunc],[]⟩ .leaf) 54 ⟨.sc,1,8,[.nilFunc],[]⟩ .leaf) 55 ⟨.slice 61,1,24,[fC],[]⟩ (.node (.node .leaf 56 ⟨.da [(0,1),(1,1),(2,1)],3,48,[.string ⟨#[]⟩,.int .i64 0,fC],[9,3,55]⟩ .leaf) 57 ⟨.da [(0,1),(1,1),(2,1)],3,48,[.string ⟨#[]⟩,.int .i64 0,fC],[9,3,55]⟩ .leaf)) 58 ⟨.sc,1,8,[.nilFunc],[]⟩ (.node (.node (.node .leaf 59 ⟨.slice 64,1,24,[fC],[]⟩ .leaf) 60 ⟨.da [(0,1),(1,1),(2,1),(3,1)],4,56,[.string ⟨#[]⟩,.int .i64 0,fC,.int .i64 0],[9,3,59,3]⟩ .leaf) 61 ⟨.da [(0,1),(1,1),(2,1),(3,1)],4,56,[.string ⟨#[]⟩,.int .i64 0,fC,.int .i64 0],[9,3,59,3]⟩ (.node (.node .leaf 62 ⟨.sc,1,8,[.nilFunc],[]⟩ .leaf) 63 ⟨.da [(0,1),(1,1),(2,1),(3,1)],4,56,[.int .i64 0,.string ⟨#[]⟩,.int .i64 0,fC],[3,9,3,30]⟩ .leaf))) 64 ⟨.da [(0,1),(1,1),(2,1),(3,1)],4,56,[.int .i64 0,.string ⟨#[]⟩,.int .i64 0,fC],[3,9,3,30]⟩ (.node (.node (.node (.node .leaf 65 ⟨.sc,1,8,[.nilFunc],[]⟩ .leaf) 66 ⟨.sc,1,8,[.nilFunc],[]⟩ .leaf) 67 ⟨.sc,1,8,[.nilFunc],[]⟩ (.node (.node .leaf 68 ⟨.sc,1,8,[.nilFunc],[]⟩ .leaf) 69 ⟨.sc,1,8,[.nilFunc],[]⟩ .leaf)) 70 ⟨.sc,1,8,[.nilFunc],[]⟩ (.node (.node (.node .leaf 71 ⟨.sc,1,8,[.nilFunc],[]⟩ .leaf) 72 ⟨.sc,1,8,[.nilFunc],[]⟩ .leaf) 73 ⟨.sc,1,8,[.nilFunc],[]⟩ (.node .leaf 74 ⟨.sc,1,8,[.nilFunc],[]⟩ .leaf)))) 75 ⟨.arr 2 3,2,16,[.int .i64 0,.int .i64 0],[]⟩ (.node (.node (.node (.node (.node .leaf 76 ⟨.sc,1,8,[.pointer none],[]⟩ .leaf) 77 ⟨.sc,1,8,[.nilFunc],[]⟩ .leaf) 78 ⟨.sc,1,8,[.nilFunc],[]⟩ (.node (.node .leaf 79 ⟨.da [(0,4),(4,1),(5,1)],6,88,[.string ⟨#[]⟩,.int .i64 0,fC,.int .i64 0,fC,.nilFunc],[61,30,78]⟩ .leaf) 80 ⟨.da [(0,4),(4,1),(5,1)],6,88,[.string ⟨#[]⟩,.int .i64 0,fC,.int .i64 0,fC,.nilFunc],[61,30,78]⟩ .leaf)) 81 ⟨.sc,1,8,[.nilFunc],[]⟩ (.node (.node (.node .leaf 82 ⟨.sc,1,8,[.nilFunc],[]⟩ .leaf) 83 ⟨.sc,1,8,[.nilFunc],[]⟩ .leaf) 84 ⟨.sc,1,8,[.nilFunc],[]⟩ (.node .leaf 85 ⟨.map 87 30,1,8,[.map none],[]⟩ .leaf))) 86 ⟨.da [(0,1),(1,1),(2,1)],3,32,[.int .i64 0,.string ⟨#[]⟩,.int .i64 0],[3,9,3]⟩ (.node (.node (.node (.node .leaf 87 ⟨.da [(0,1),(1,1),(2,1)],3,32,[.int .i64 0,.string ⟨#[]⟩,.int .i64 0],[3,9,3]⟩ .leaf) 88 ⟨.sc,1,8,[.nilFunc],[]⟩ .leaf) 89 ⟨.sc,1,8,[.nilFunc],[]⟩ (.node (.node .leaf 90 ⟨.sc,1,8,[.nilFunc],[]⟩ .leaf) 91 ⟨.sc,1,8,[.nilFunc],[]⟩ .leaf)) 92 ⟨.sc,1,8,[.nilFunc],[]⟩ (.node (.node (.node .leaf 93 ⟨.sc,1,8,[.nilFunc],[]⟩ .leaf) 94 ⟨.sc,1,8,[.nilFunc],[]⟩ .leaf) 95 ⟨.sc,1,8,[.nilFunc],[]⟩ (.node .leaf 96 ⟨.sc,1,8,[.nilFunc],[]⟩ .leaf)))))) 97 ⟨.sc,1,8,[.nilFunc],[]⟩ (.node (.node (.node (.node (.node (.node (.node .leaf 98 ⟨.slice 31,1,24,[fC],[]⟩ .leaf) 99 ⟨.da [(0,1)],1,8,[.nilFunc],[28]⟩ .leaf) 100 ⟨.da [(0,1)],1,8,[.nilFunc],[28]⟩ (.node (.node .leaf 101 ⟨.slice 100,1,24,[fC],[]⟩ .leaf) 103 ⟨.sc,1,8,[.nilFunc],[]⟩ .leaf)) 104 ⟨.sc,1,8,[.nilFunc],[]⟩ (.node (.node (.node .leaf 105 ⟨.sc,1,8,[.nilFunc],[]⟩ .leaf) 106 ⟨.slice 34,1,24,[fC],[]⟩ .leaf) 107 ⟨.sc,1,8,[.nilFunc],[]⟩ (.node (.node .leaf 108 ⟨.sc,1,8,[.nilFunc],[]⟩ .leaf) 109 ⟨.arr 12 3,12,96,[.int .i64 0,.int .i64 0,.int .i64 0,.int .i64 0,.int .i64 0,.int .i64 0,.int .i64 0,.int .i64 0,.int .i64 0,.int .i64 0,.int .i64 0,.int .i64 0],[]⟩ .leaf))) 110 ⟨.arr 12 3,12,96,[.int .i64 0,.int .i64 0,.int .i64 0,.int .i64 0,.int .i64 0,.int .i64 0,.int .i64 0,.int .i64 0,.int .i64 0,.int .i64 0,.int .i64 0,.int .i64 0],[]⟩ (.node (.node (.node (.node .leaf 111 ⟨.sc,1,8,[.nilFunc],[]⟩ .leaf) 112 ⟨.sc,1,8,[.nilFunc],[]⟩ .leaf) 113 ⟨.sc,1,8,[.nilFunc],[]⟩ (.node (.node .leaf 114 ⟨.sc,1,8,[.nilFunc],[]⟩ .leaf) 115 ⟨.sc,1,8,[.nilFunc],[]⟩ .leaf)) 116 ⟨.sc,1,8,[.nilFunc],[]⟩ (.node (.node (.node .leaf 117 ⟨.sc,1,8,[.nilFunc],[]⟩ .leaf) 118 ⟨.sc,1,8,[.nilFunc],[]⟩ .leaf) 119 ⟨.sc,1,8,[.nilFunc],[]⟩ (.node .leaf 120 ⟨.sc,1,8,[.nilFunc],[]⟩ .leaf)))) 121 ⟨.sc,1,8,[.nilFunc],[]⟩ (.node (.node (.node (.node (.node .leaf 122 ⟨.arr 6 3,6,48,[.int .i64 0,.int .i64 0,.int .i64 0,.int .i64 0,.int .i64 0,.int .i64 0],[]⟩ .leaf) 123 ⟨.sc,1,8,[.nilFunc],[]⟩ .leaf) 124 ⟨.sc,1,8,[.nilFunc],[]⟩ (.node (.node .leaf 125 ⟨.sc,1,8,[.nilFunc],[]⟩ .leaf) 126 ⟨.sc,1,8,[.nilFunc],[]⟩ .leaf)) 127 ⟨.sc,1,8,[.nilFunc],[]⟩ (.node (.node (.node .leaf 128 ⟨.sc,1,8,[.nilFunc],[]⟩ .leaf) 129 ⟨.sc,1,8,[.pointer none],[]⟩ .leaf) 131 ⟨.sc,1,8,[.nilFunc],[]⟩ (.node .leaf 132 ⟨.sc,1,8,[.nilFunc],[]⟩ .leaf))) 133 ⟨.sc,1,8,[.nilFunc],[]⟩ (.node (.node (.node (.node .leaf 134 ⟨.sc,1,8,[.nilFunc],[]⟩ .leaf) 135 ⟨.sc,1,8,[.nilFunc],[]⟩ .leaf) 136 ⟨.sc,1,8,[.nilFunc],[]⟩ (.node (.node .leaf 137 ⟨.sc,1,8,[.nilFunc],[]⟩ .leaf) 139 ⟨.sc,1,8,[.nilFunc],[]⟩ .leaf)) 140 ⟨.arr 5 3,5,40,[.int .i64 0,.int .i64 0,.int .i64 0,.int .i64 0,.int .i64 0],[]⟩ (.node (.node (.node .leaf 141 ⟨.sc,1,8,[.nilFunc],[]⟩ .leaf) 143 ⟨.sc,1,8,[.nilFunc],[]⟩ .leaf) 144 ⟨.sc,1,8,[.nilFunc],[]⟩ (.node .leaf 145 ⟨.sc,1,8,[.nilFunc],[]⟩ .leaf))))) 146 ⟨.sc,1,8,[.nilFunc],[]⟩ (.node (.node (.node (.node (.node (.node .leaf 147 ⟨.sc,1,8,[.nilFunc],[]⟩ .leaf) 148 ⟨.sc,1,8,[.nilFunc],[]⟩ .leaf) 149 ⟨.sc,1,8,[.nilFunc],[]⟩ (.node (.node .leaf 150 ⟨.sc,1,8,[.nilFunc],[]⟩ .leaf) 151 ⟨.map 3 3,1,8,[.map none],[]⟩ .leaf)) 152 ⟨.sc,1,8,[.nilFunc],[]⟩ (.node (.node (.node .leaf 153 ⟨.sc,1,8,[.nilFunc],[]⟩ .leaf) 154 ⟨.sc,1,8,[.nilFunc],[]⟩ .leaf) 155 ⟨.sc,1,8,[.nilFunc],[]⟩ (.node (.node .leaf 156 ⟨.sc,1,8,[.nilFunc],[]⟩ .leaf) 157 ⟨.sc,1,8,[.nilFunc],[]⟩ .leaf))) 158 ⟨.arr 256 4,256,256,(List.replicate 256 [.bool false]).flatten,[]⟩ (.node (.node (.node (.node .leaf 159 ⟨.arr 256 4,256,256,(List.replicate 256 [.bool false]).flatten,[]⟩ .leaf) 161 ⟨.sc,1,8,[.nilFunc],[]⟩ .leaf) 162 ⟨.sc,1,8,[.nilFunc],[]⟩ (.node (.node .leaf 163 ⟨.sc,1,8,[.pointer none],[]⟩ .leaf) 164 ⟨.sc,1,8,[.nilFunc],[]⟩ .leaf)) 166 ⟨.sc,1,8,[.nilFunc],[]⟩ (.node (.node (.node .leaf 167 ⟨.sc,1,8,[.nilFunc],[]⟩ .leaf) 168 ⟨.sc,1,8,[.nilFunc],[]⟩ .leaf) 169 ⟨.arr 256 5,256,256,(List.replicate 256 [.int .u8 0]).flatten,[]⟩ (.node .leaf 170 ⟨.int .u64,1,8,[.int .u64 0],[]⟩ .leaf)))) 171 ⟨.da [(0,1),(1,1)],2,2,[.int .u8 0,.int .u8 0],[5,5]⟩ (.node (.node (.node (.node (.node .leaf 172 ⟨.da [(0,1),(1,1)],2,2,[.int .u8 0,.int .u8 0],[5,5]⟩ .leaf) 173 ⟨.arr 16 172,32,32,[.int .u8 0,.int .u8 0,.int .u8 0,.int .u8 0,.int .u8 0,.int .u8 0,.int .u8 0,.int .u8 0,.int .u8 0,.int .u8 0,.int .u8 0,.int .u8 0,.int .u8 0,.int .u8 0,.int .u8 0,.int .u8 0,.int .u8 0,.int .u8 0,.int .u8 0,.int .u8 0,.int .u8 0,.int .u8 0,.int .u8 0,.int .u8 0,.int .u8 0,.int .u8 0,.int .u8 0,.int .u8 0,.int .u8 0,.int .u8 0,.int .u8 0,.int .u8 0],[]⟩ .leaf) 174 ⟨.sc,1,8,[.nilFunc],[]⟩ (.node (.node .leaf 175 ⟨.sc,1,8,[.nilFunc],[]⟩ .leaf) 176 ⟨.sc,1,8,[.nilFunc],[]⟩ .leaf)) 177 ⟨.sc,1,8,[.nilFunc],[]⟩ (.node (.node (.node .leaf 178 ⟨.sc,1,8,[.nilFunc],[]⟩ .leaf) 179 ⟨.da [(0,1),(1,1),(2,1),(3,1)],4,40,[.pointer none,.pointer none,.pointer none,.string ⟨#[]⟩],[17,17,17,9]⟩ .leaf) 180 ⟨.da [(0,1),(1,1),(2,1),(3,1)],4,40,[.pointer none,.pointer none,.pointer none,.string ⟨#[]⟩],[17,17,17,9]⟩ (.node .leaf 181 ⟨.arr 0 16,0,0,[],[]⟩ .leaf))) 182 ⟨.da [(0,0)],0,0,[],[181]⟩ (.node (.node (.node (.node .leaf 183 ⟨.da [(0,0)],0,0,[],[181]⟩ .leaf) 184 ⟨.sc,1,8,[.nilFunc],[]⟩ .leaf) 186 ⟨.int .u8,1,1,[.int .u8 0],[]⟩ (.node (.node .leaf 187 ⟨.int .u8,1,1,[.int .u8 0],[]⟩ .leaf) 188 ⟨.sc,1,8,[.nilFunc],[]⟩ .leaf)) 189 ⟨.sc,1,8,[.pointer none],[]⟩ (.node (.node (.node .leaf 190 ⟨.int .i32,1,4,[.int .i32 0],[]⟩ .leaf) 191 ⟨.int .i32,1,4,[.int .i32 0],[]⟩ .leaf) 192 ⟨.da [(0,1),(1,1),(2,1),(3,1),(4,1),(5,1),(6,1),(7,1),(8,1),(9,1),(10,1)],11,48,[.int .u64 0,.int .u64 0,.int .u32 0,.int .u8 0,.int .u8 0,.int .u8 0,.int .u8 0,.nilFunc,.pointer none,.int .i32 0,.int .i32 0],[12,12,185,186,5,5,187,188,189,190,191]⟩ (.node .leaf 193 ⟨.da [(0,1),(1,1),(2,1),(3,1),(4,1),(5,1),(6,1),(7,1),(8,1),(9,1),(10,1)],11,48,[.int .u64 0,.int .u64 0,.int .u32 0,.int .u8 0,.int .u8 0,.int .u8 0,.int .u8 0,.nilFunc,.pointer none,.int .i32 0,.int .i32 0],[12,12,185,186,5,5,187,188,189,190,191]⟩ .leaf)))))))
def L:nv:=fun t=>tab.get t
theorem lay:bk Go.Proofs.Tryz.prog L:=⟨BT.ok (by kernel_rfl)⟩
noncomputable abbrev PP:Program:=Go.Proofs.Tryz.prog
theorem mixed:PP.follows .mixedOrders=true:=by kernel_rfl
def vi(n:Int):AV:= .v (.int .i64 n)
def vb(b:Bool):AV:= .v (.bool b)
def vs(b:ByteArray):AV:= .v (.string b)
section
variable{I:Pr}(hI:I=an)
 include hI
end
theorem dG{n:Int}(h: -9223372036854775808≤n∧n≤9223372036854775807):IntKind.wrap .i64 n=n:=by
 have hb:IntKind.bits .i64=64:=rfl
 have hs:IntKind.signed .i64=true:=rfl
 unfold IntKind.wrap
 rw[hb,hs]
 simp only[Bool.true_and,ge_iff_le,decide_eq_true_eq]
 have e1:(2:Int) ^ 64=18446744073709551616:=by decide
 have e2:(2:Int) ^ (64 - 1)=9223372036854775808:=by decide
 rw[e1,e2]
 split<;>omega
structure Md where
 map:{α:Type}→(α→List AV)→List α→List (List AV)
 ln:{α:Type}→List α→Nat
def Md.an:Md:=⟨fun f l=>l.map f,List.length⟩
section
variable{M:Md}(hM:M= .an)
 include hM
end
instance:Inhabited ByteArray:=⟨⟨#[]⟩⟩
def ao(n:Int):List AV:=[vi n]
def bL(n:Bool):List AV:=[vb n]
def fQ(k:Nat):Bool:= !My k [25,39,42,50,51,53,54,56,57,58,60,70,71,73,77,87,88,91,107,110,111,115,116,122,128,129,143,150,154,163,164,167]
theorem enters{k:Nat}{fn:Func}{c:Code}(hf:PP.funcs[k]? =some fn)(hb:fn.body=some c)(hn:(fn.name== "runtime.NumGoroutine")=false):nw PP k:=
 fun args w=>Hg hf hb (by simpa using hn) args w
end Ab
namespace Ab
open Go
variable{P:Program}{L:nv}{E:Env}{w0 w w':World}{r:Nat}{a:Act}{n:Nat}{t:List (Nat×Value)}
def lF(n:Nat)(a:Act)(t:List (Nat×Value)):Prop:=a.tmps.size=n∧a.defers=[]∧ ∀d x,look d t=some x→a.tmps.getD d undef=x
theorem lF.put(h:lF n a t){d:Nat}(hd:d<n)(x:Value):lF n (a.put (some d) x) (cX d x t):=by
 refine⟨by simp[Act.put,h.1],h.2.1,fun e y he=>?_⟩
 rw[uq a d e x (by rw[h.1];exact hd)]
 rw[aF]at he
 by_cases Qk:e=d
 ·subst Qk;rw[if_pos rfl]at he;cases he;rw[if_pos rfl]
 ·rw[if_neg (Ne.symm Qk)]at he;rw[if_neg Qk];exact h.2.2 e y he
theorem lF.ev(h:lF n a t){d:Nat}{x:Value}(hd:look d t=some x):a.eval (.tmp d)=x:=h.2.2 d x hd
theorem lF.sub(h:lF n a t){t':List (Nat×Value)}(hs: ∀d x,look d t'=some x→look d t=some x):lF n a t':=⟨h.1,h.2.1,fun d x hd=>h.2.2 d x (hs d x hd)⟩
def NE(R:Act→World→Prop):Exit→Act→World→Prop:=fun e a w=>e= .normal∧R a w
theorem OT{x y:Code}{R1 R2:Act→World→Prop}(h:x.wpIn (WF none) 0 P (NE R1) a w)(k: ∀a w,R1 a w→y.wpIn (WF none) 0 P (NE R2) a w):(Code.seq x y).wpIn (WF none) 0 P (NE R2) a w:=
 wpIn_seq (wpIn_mono h fun e a' w' hq=>by
  obtain⟨rfl,hR⟩:=hq
  exact k a' w' hR)
theorem WJ{id:Nat}{ops:Array Oper}{R:Act→World→Prop}(h:wpListIn (WF none) 0 P ops (NE R) ops.toList a w):(Code.region id ops false).wpIn (WF none) 0 P (NE R) a w:=wpIn_region_list h
theorem aqX{id:Nat}{c:Code}{R:Act→World→Prop}(h:c.wpIn (WF none) 0 P (NE R) a w):(Code.block id c).wpIn (WF none) 0 P (NE R) a w:=
 wpIn_block (wpIn_mono h fun e a' w' hq=>by obtain⟨rfl,hR⟩:=hq;exact⟨rfl,hR⟩)
theorem wS{ops:Array Oper}{o:Oper}{rest:List Oper}{Q:Exit→Act→World→Prop}{x:Value}(hg:o.guard=none)(hr:(execOp a.eval o).run P w= .ok (.value x) w')(h:wpListIn (WF none) 0 P ops Q rest (a.put o.dst x) w'):
  wpListIn (WF none) 0 P ops Q (o::rest) a w:=by
 unfold wpListIn
 rw[if_pos (by simp[Region.wanted,hg])]
 have:kU P o a w (fun a w=>wpListIn (WF none) 0 P ops Q rest a w) Q:=by
  unfold kU;rw[hr];exact h
 exact this.wpIn none
theorem ab2{ops:Array Oper}{o:Oper}{rest:List Oper}{Q:Exit→Act→World→Prop}(hg:o.guard=none)(hr:(execOp a.eval o).run P w= .ok .skip w')(h:wpListIn (WF none) 0 P ops Q rest (a.put o.dst undef) w'):
  wpListIn (WF none) 0 P ops Q (o::rest) a w:=by
 unfold wpListIn
 rw[if_pos (by simp[Region.wanted,hg])]
 have:kU P o a w (fun a w=>wpListIn (WF none) 0 P ops Q rest a w) Q:=by
  unfold kU;rw[hr];exact h
 exact this.wpIn none
section ops
variable{ops:Array Oper}{o:Oper}{rest:List Oper}{Q:Exit→Act→World→Prop}{d:Nat}
theorem NB(hL:bk P L)(hf:lF n a t){T x f b q off:Nat}(ho:o.op= .fieldAddr T (.tmp x) f)(hg:o.guard=none)(hd:o.dst=some d)(aS:rm d n=true)(hx:look x t=some (.pointer (some ⟨b,q,none⟩)))(DT:gb L T f=some off)
  (h: ∀a',lF n a' (cX d (.pointer (some ⟨b,q+off,none⟩)) t)→wpListIn (WF none) 0 P ops Q rest a' w):wpListIn (WF none) 0 P ops Q (o::rest) a w:=by
 refine wS hg (x:= .pointer (some ⟨b,q+off,none⟩)) (w':=w) ?_ ?_
 ·simp only[execOp,ho,hf.ev hx];simp[lb hL DT]
 ·rw[hd];exact h _ (hf.put (by simpa using aS) _)
theorem Rf(hf:lF n a t){x:Operand}(ho:o.op= .move x)(hg:o.guard=none)(hd:o.dst=some d)(aS:rm d n=true){v:Value}(hx:a.eval x=v)
  (h: ∀a',lF n a' (cX d v t)→wpListIn (WF none) 0 P ops Q rest a' w):wpListIn (WF none) 0 P ops Q (o::rest) a w:=by
 refine wS hg (x:=v) (w':=w) ?_ ?_
 ·simp[execOp,ho,hx]
 ·rw[hd];exact h _ (hf.put (by simpa using aS) _)
theorem Zz(hf:lF n a t){op:BinOp}{T:Nat}{x y:Operand}{u v z:Value}{ty:Nat}(ho:o.op= .binOp op T x y ty)(hg:o.guard=none)(hd:o.dst=some d)(aS:rm d n=true)(hx:a.eval x=u)(hy:a.eval y=v)(hb:bin an op u v=some z)
  (h: ∀a',lF n a' (cX d z t)→wpListIn (WF none) 0 P ops Q rest a' w):wpListIn (WF none) 0 P ops Q (o::rest) a w:=by
 refine wS hg (x:=z) (w':=w) ?_ ?_
 ·have hg: ∀w,(eqGuard op T x y (a.eval x) (a.eval y)).run P w= .ok () w:=by
   intro w
   rw[hx,hy]
   unfold bin at hb
   split at hb<;>first|(simp[eqGuard,go_sem];done)|(simp at hb)
  simp only[hx,hy]at hg
  simp only[execOp,ho,hx,hy]
  simp[Sem.run_bind,hg,Gk hb,Result.andThen]
 ·rw[hd];exact h _ (hf.put (by simpa using aS) _)
theorem ahA(hL:bk P L)(hf:lF n a t){c:Call}{x T e:Nat}{ti:TI}{A:Option Addr}{m k:Nat}(ho:o.op= .call c)(hc:c.callee= .builtin .len)(ha:c.args= #[.tmp x])(hT:c.argTypes= #[T])(hg:o.guard=none)(hd:o.dst=some d)(aS:rm d n=true)
  (ht:L T=some ti)(hk:ti.k= .slice e)(hx:look x t=some (.slice A m k))
  (h: ∀a',lF n a' (cX d (.int .i64 m) t)→wpListIn (WF none) 0 P ops Q rest a' w):wpListIn (WF none) 0 P ops Q (o::rest) a w:=by
 obtain⟨i,d',z,h1,h2,h3,h4,h5,h6,h7⟩:=(hL.ok T ti ht).ex
 rw[hk]at h7;dsimp only at h7;subst h7
 refine wS hg (x:= .int .i64 m) (w':=w) ?_ ?_
 ·have e1:(Builtin.len_ #[T] o.type #[.slice A m k]).run P w= .ok (.int .i64 m) w:=by simp[Builtin.len_,go_sem,underlying,h6,goInt]
  simp[execOp,ho,resolve,hc,invoke,builtin,ha,hT,Sem.run_bind,hf.ev hx,e1,Result.andThen]
 ·rw[hd];exact h _ (hf.put (by simpa using aS) _)
theorem WN(hL:bk P L)(hf:lF n a t){T x y e b q m c:Nat}{i:Nat}{ti:TI}(ho:o.op= .indexAddr T (.tmp x) (.tmp y))(hg:o.guard=none)(hd:o.dst=some d)(aS:rm d n=true)(ht:elemOf L T=some (e,ti))
  (hx:look x t=some (.slice (some ⟨b,q,none⟩) m c))(hy:look y t=some (.int .i64 i))(hi:i<m)
  (h: ∀a',lF n a' (cX d (.pointer (some ⟨b,q+i*ti.size,none⟩)) t)→wpListIn (WF none) 0 P ops Q rest a' w):wpListIn (WF none) 0 P ops Q (o::rest) a w:=by
 refine wS hg (x:= .pointer (some ⟨b,q+i*ti.size,none⟩)) (w':=w) ?_ ?_
 ·simp only[execOp,ho,hf.ev hx,hf.ev hy]
  have:=iY (P:=P) hL ht .i64 i b q m c (by omega) (by omega) w
  simp only[Int.toNat_natCast]at this
  simp[this]
 ·rw[hd];exact h _ (hf.put (by simpa using aS) _)
theorem WM(hL:bk P L)(hf:lF n a t){T x b q:Nat}{ti:TI}{ys:List Value}(ho:o.op= .load T (.tmp x))(hg:o.guard=none)(hd:o.dst=some d)(aS:rm d n=true)(ht:L T=some ti)(so:ti.agg=true)(hl:ys.length=ti.size)
  (hx:look x t=some (.pointer (some ⟨b,q,none⟩)))(hy: ∀(j:Nat) (y:Value),ys[j]? =some y→aO w.heap b (q+j)=some y)
  (h: ∀a',lF n a' (cX d (.agg ys.toArray) t)→wpListIn (WF none) 0 P ops Q rest a' w):wpListIn (WF none) 0 P ops Q (o::rest) a w:=by
 have hp:part ti (ys.map AV.v) 0=some (.agg (ys.map .v)):=by
  unfold part
  have h1:mL (0+ti.size) (ys.map AV.v).length=true:=by rw[xP];simp[hl]
  rw[h1,so]
  simp only[cond_true,cut,List.drop_zero]
  rw[List.take_of_length_le (by simp[hl])]
 obtain⟨y,g1,g2⟩:=iX (P:=P) (E:=⟨#[],fun _ _=>False,fun _=>0,fun _=>0,fun _=>False,fun _=>(0,0),fun _=> .SX,[]⟩) (w:=w) hL ht (b:=b) (o:=q) hp (fun j a' ha=>by
  rw[List.getElem?_map]at ha
  cases hj:ys[j]? with
  |none=>rw[hj]at ha;cases ha
  |some y=>rw[hj]at ha;cases ha;exact⟨y,hy j y hj,.v _⟩)
 have Qg:y= .agg ys.toArray:=by
  cases g2 with
  |agg _ zs qJ hq=>
   congr 1
   congr 1
   apply List.ext_getElem
   ·simpa using qJ
   ·intro j h1 h2
    have:=hq j (.v ys[j]) zs[j] (by simp[h2]) (by simp[h1])
    exact bH this
 subst Qg
 refine wS hg (x:= .agg ys.toArray) (w':=w) ?_ ?_
 ·simp only[execOp,ho,hf.ev hx]
  simp[show(Instr.loadAt T (.pointer (some ⟨b,q,none⟩))).run P w= .ok (.agg ys.toArray) w from by simpa using g1]
 ·rw[hd];exact h _ (hf.put (by simpa using aS) _)
theorem NA(hL:bk P L)(hf:lF n a t){T x b q:Nat}{ti:TI}{y:Value}(ho:o.op= .load T (.tmp x))(hg:o.guard=none)(hd:o.dst=some d)(aS:rm d n=true)(ht:L T=some ti)(so:ti.agg=false)(hl:ti.size=1)
  (hx:look x t=some (.pointer (some ⟨b,q,none⟩)))(hy:aO w.heap b q=some y)
  (h: ∀a',lF n a' (cX d y t)→wpListIn (WF none) 0 P ops Q rest a' w):wpListIn (WF none) 0 P ops Q (o::rest) a w:=by
 have hp:part ti [AV.v y] 0=some (.v y):=by
  unfold part
  rw[show mL (0+ti.size) [AV.v y].length=true by rw[xP];simp[hl],so]
  rfl
 obtain⟨y',g1,g2⟩:=iX (P:=P) (E:=⟨#[],fun _ _=>False,fun _=>0,fun _=>0,fun _=>False,fun _=>(0,0),fun _=> .SX,[]⟩) (w:=w) hL ht (b:=b) (o:=q) hp (fun j a' ha=>by
  cases j with
  |zero=>cases ha;exact⟨y,hy,.v _⟩
  |succ j=>simp at ha)
 have:=bH g2
 subst this
 refine wS hg (x:=y') (w':=w) ?_ ?_
 ·simp only[execOp,ho,hf.ev hx]
  simp[show(Instr.loadAt T (.pointer (some ⟨b,q,none⟩))).run P w= .ok y' w from by simpa using g1]
 ·rw[hd];exact h _ (hf.put (by simpa using aS) _)
theorem WQ(hL:bk P L)(hf:lF n a t){T:Nat}{ti:TI}(ho:o.op= .alloc T)(hg:o.guard=none)(hd:o.dst=some d)(aS:rm d n=true)(ht:L T=some ti)
  (h: ∀a',lF n a' (cX d (.pointer (some ⟨w.heap.size,0,none⟩)) t)→wpListIn (WF none) 0 P ops Q rest a' (w.alloc (.cells ti.zero.toArray T))):wpListIn (WF none) 0 P ops Q (o::rest) a w:=by
 obtain⟨i,d',z,h1,h2,h3,h4,h5,h6,h7⟩:=(hL.ok T ti ht).ex
 have hz:z.cells=ti.zero.toArray:=by rw[←h5]
 refine wS hg (x:= .pointer (some ⟨w.heap.size,0,none⟩)) (w':=w.alloc (.cells ti.zero.toArray T)) ?_ ?_
 ·simp only[execOp,ho]
  simp[FM h1 h4,hz]
 ·rw[hd];exact h _ (hf.put (by simpa using aS) _)
theorem ahB(hf:lF n a t){T x:Nat}{v:Value}(ho:o.op= .box T (.tmp x))(hg:o.guard=none)(hd:o.dst=some d)(aS:rm d n=true)(hx:look x t=some v)
  (h: ∀a',lF n a' (cX d (.pointer (some ⟨w.heap.size,0,none⟩)) t)→wpListIn (WF none) 0 P ops Q rest a' (w.alloc (.cells v.cells T))):wpListIn (WF none) 0 P ops Q (o::rest) a w:=by
 refine wS hg (x:= .pointer (some ⟨w.heap.size,0,none⟩)) (w':=w.alloc (.cells v.cells T)) ?_ ?_
 ·simp only[execOp,ho,Instr.box,newVar,hf.ev hx]
  simp[gC]
 ·rw[hd];exact h _ (hf.put (by simpa using aS) _)
theorem Re(hL:bk P L)(hf:lF n a t){T x y b e:Nat}{ti:TI}{ys:List Value}{c:Array Value}(ho:o.op= .store T (.tmp x) (.tmp y))(hg:o.guard=none)(hd:o.dst=none)(ht:L T=some ti)(hl:ys.length=ti.size)(hv: ∀x∈ys,qV x=true)
  (hx:look x t=some (.pointer (some ⟨b,0,none⟩)))(hy:look y t=some (.agg ys.toArray))(hb:w.heap[b]? =some (.cells c e (0,0)))(hc:c.size=ti.size)
  (h: ∀w',w'.heap=w.heap.setIfInBounds b (.cells ys.toArray e (0,0))→iC w w'→wpListIn (WF none) 0 P ops Q rest a w'):wpListIn (WF none) 0 P ops Q (o::rest) a w:=by
 have iK:(Value.agg ys.toArray).cells=ys.toArray:=by simp[Value.cells]
 obtain⟨w',g1,g2,g3⟩:=run_store (P:=P) hL ht (off:=0) (v:= .agg ys.toArray) hb (by rw[iK];simpa using hl) (by omega) (by rw[iK];exact hv)
 rw[iK]at g2
 obtain⟨f1,f2⟩:=pj 0 ys 0 c (by omega)
 have hF:(ys.zipIdx.foldl (fun cs (x,j)=>cs.setIfInBounds (0+j) x) c)=ys.toArray:=by
  apply Array.ext_getElem?
  intro q
  rw[f2 q]
  by_cases hq:q<ys.length
  ·rw[if_pos (by omega)];simp
  ·rw[if_neg (by omega),Array.getElem?_eq_none (by omega),Array.getElem?_eq_none (by simpa using hq)]
 refine ab2 hg (w':=w') ?_ ?_
 ·simp only[execOp,ho,hf.ev hx,hf.ev hy]
  simp[g1]
 ·rw[hd];exact h w' (by rw[g2];simp only[];rw[hF]) g3
end ops
theorem ph{d:Nat}{x:Value}(h:lF n a (cX d x t))(hd:look d t=none):lF n a t:=
 h.sub fun e y he=>by
  have:d≠e:=fun hh=>by subst hh;rw[hd]at he;cases he
  rw[aF,if_neg this];exact he
theorem aiw{g1 g2 k k1 ti tn tc tx m:Nat}{o1 o2 o3:Oper}{body:Code}{bj:List (Nat×Value)}{J:World→Prop}
  (h1:o1.op= .binOp .lss 3 (.tmp ti) (.tmp tn) 3∧o1.guard=none∧o1.dst=some tc)(h2:o2.op= .binOp .add 3 (.tmp ti) (.const (.int .i64 1)) 3∧o2.guard=none∧o2.dst=some tx)(h3:o3.op= .move (.tmp tx)∧o3.guard=none∧o3.dst=some ti)
  (aS:(rm ti n&&(rm tc n&&rm tx n))=true)(hn:look tn bj=some (.int .i64 m))(hm:m≤maxLen)(cU:look ti bj=none∧look tc bj=none∧look tx bj=none∧ti≠tc∧ti≠tx∧ti≠tn)
  (h0:lF n a (cX ti (.int .i64 0) bj))(hJ:J w)
  (hb: ∀i a w,i<m→lF n a (cX ti (.int .i64 i) bj)→J w→body.wpIn (WF none) 0 P (NE fun a' w'=>lF n a' (cX ti (.int .i64 i) bj)∧J w') a w):
  (Code.block k (Code.loop ((Code.region g1 #[o1] false).seq ((Code.cond (.tmp tc) .skip (.exit k)).seq ((Code.block k1 body).seq (Code.region g2 #[o2,o3] false)))))).wpIn (WF none) 0 P (NE fun a' w'=>lF n a' bj∧J w') a w:=by
 simp only[Bool.and_eq_true]at aS
 refine wpIn_block ?_
 refine tL (fun q a w=> ∃i,i≤m∧q=m - i∧lF n a (cX ti (.int .i64 i) bj)∧J w) m ⟨0,Nat.zero_le _,rfl,h0,hJ⟩ ?_
 rintro q a w ⟨i,hi,rfl,hf,hJ⟩
 have ta:look ti (cX ti (Value.int .i64 i) bj)=some (.int .i64 i):=bK _ _ _
 have N1:look tn (cX ti (Value.int .i64 i) bj)=some (.int .i64 m):=by rw[aF,if_neg cU.2.2.2.2.2];exact hn
 refine wpIn_seq (wpIn_region_list ?_)
 refine Zz (z:= .bool (decide ((i:Int)<m))) hf h1.1 h1.2.1 h1.2.2 aS.2.1 (hf.ev ta) (hf.ev N1) (by simp[bin,an]) fun a1 f1=>?_
 show Code.wpIn _ _ _ _ _ _ _
 refine wpIn_seq (wpIn_cond (t:=decide ((i:Int)<m)) (f1.ev (bK _ _ _)) ?_)
 by_cases lG:i<m
 ·rw[if_pos (by simpa using lG)]
  refine wpIn_skip ?_
  show Code.wpIn _ _ _ _ _ _ _
  have f2:lF n a1 (cX ti (.int .i64 i) bj):=ph f1 (by rw[aF,if_neg cU.2.2.2.1];exact cU.2.1)
  refine wpIn_seq (wpIn_mono (aqX (hb i a1 w lG f2 hJ)) fun e a3 w3 hq=>?_)
  obtain⟨rfl,f3,J3⟩:=hq
  show Code.wpIn _ _ _ _ _ _ _
  refine wpIn_region_list ?_
  refine Zz (z:= .int .i64 ((i+1:Nat):Int)) f3 h2.1 h2.2.1 h2.2.2 aS.2.2 (f3.ev ta) rfl ?_ fun a4 f4=>?_
  ·have hM:maxLen=9223372036854775807:=by decide
   have h4:IntKind.wrap .i64 ((i:Int)+1)=((i+1:Nat):Int):=by
    unfold IntKind.wrap
    simp only[IntKind.bits,IntKind.signed,Bool.true_and]
    rw[if_neg (by simp;omega)]
    omega
   show(some (Value.int .i64 (IntKind.wrap .i64 ((i:Int)+1))):Option Value)=_
   rw[h4]
  refine Rf f4 h3.1 h3.2.1 h3.2.2 aS.1 (f4.ev (bK _ _ _)) fun a5 f5=>?_
  refine wpListIn_nil ?_
  show∃n',n'<m - i∧_
  refine⟨m - (i+1),by omega,i+1,by omega,rfl,f5.sub fun e y he=>?_,J3⟩
  rw[aF]at he ⊢
  by_cases hte:ti=e
  ·rw[if_pos hte]at he ⊢;exact he
  ·rw[if_neg hte]at he ⊢
   have:tx≠e:=fun hh=>by subst hh;rw[cU.2.2.1]at he;cases he
   rw[aF,if_neg this,aF,if_neg hte];exact he
 ·rw[if_neg (by simpa using lG)]
  refine wpIn_exit ?_
  show Exit.inBlock k _ (.exit k) _ _
  simp only[Exit.inBlock,if_true]
  exact⟨rfl,ph (ph f1 (by rw[aF,if_neg cU.2.2.2.1];exact cU.2.1)) cU.1,hJ⟩
end Ab
