/- PassesDrops holds of every core (no condition): a part of the proof: an abstract interpreter of the code that is proved sound, models of the functions, and laws of these models. -/
import Derived.Test.YtcdinjhcnhepeaaGreatDoorD00
import Derived.MapKept
import Derived.Laws.StructEq
import Derived.Lib.SliceRun
import Derived.Laws.Cover3
import Derived.TacticsIn
import Derived.OrdersIn
import Derived.Orders
import Derived.Stop.Looks
import Derived.Deep.LoopGhost
import Derived.Test.YtcdinjhcnhepeaaGreatDoorProg
set_option linter.unusedVariables false
set_option linter.unusedSimpArgs false
namespace Ab
open Go
variable{P:Program}{L:nO}{E0 E E':Env}{w0 w w':World}{s:St}{a:Act}{p:Path}{C:dj}
def Env.kill(E:Env)(d:Nat):Env:={E with live:=fun k=>k≠ .s d∧E.live k}
theorem Cz.eE{d:Nat}{av:AV}{x:Value}(h:Cz E av x):cm av=true→Cz (E.kill d) av x:=by
 induction h with
 |any x=>exact fun _=> .any _
 |v x=>exact fun _=> .v _
 |nA r A c=>exact fun _=> .nA _ _ _
 |sl r xs z b o c u hp hc hm dV hz hr hi fY hu hq ih=>exact fun _=> .sl r xs z b o c u hp hc hm dV hz hr hi fY hu (fun q a dh=>ih q a dh (hi q a dh))
 |sX r t=>exact fun _=> .sX _ _
 |gs r t xs=>intro hi;simp[cm]at hi
 |aO r cs off b o u hr hi fY hu hq ih=>exact fun _=> .aO r cs off b o u hr hi fY hu (fun q a dh=>ih q a dh (hi q a dh))
 |ptr k off hl=>intro hi;exact Cz.ptr (E:=E.kill d) k off ⟨fun e=>by subst e;simp[cm,Key.loc]at hi,hl⟩
 |ia k n hl hn hc hm=>intro hi;exact Cz.ia (E:=E.kill d) k n ⟨fun e=>by subst e;simp[cm,Key.loc]at hi,hl⟩ hn hc hm
 |cG k i off z hl=>intro hi;exact Cz.cG (E:=E.kill d) k i off z ⟨fun e=>by subst e;simp[cm,Key.loc]at hi,hl⟩
 |mp k hl=>intro hi;exact Cz.mp (E:=E.kill d) k ⟨fun e=>by subst e;simp[cm,Key.loc]at hi,hl⟩
 |pV k hl=>intro hi;exact Cz.pV (E:=E.kill d) k ⟨fun e=>by subst e;simp[cm,Key.loc]at hi,hl⟩
 |ar n z xs ys hn hz hl hi hq ih=>exact fun _=> .ar n z xs ys hn hz hl hi fun q a y ha hy=>ih q a y ha hy (hi q a ha)
 |bm f cs ys hl hi hq ih=>exact fun _=> .bm f cs ys hl hi fun q a y ha hy=>ih q a y ha hy (hi q a ha)
 |nc r z xs x hz h ih=>exact fun _=> .nc r z xs x hz (ih rfl)
 |fn f cap ys hl hq ih=>intro hi;exact .fn f cap ys hl fun q a y ha hy=>ih q a y ha hy (bj (by simpa[cm]using hi) q a ha)
 |agg cs ys hl hq ih=>intro hi;exact .agg cs ys hl fun q a y ha hy=>ih q a y ha hy (bj (by simpa[cm]using hi) q a ha)
 |fT cs ys hl hq ih=>intro hi;exact .fT cs ys hl fun q a y ha hy=>ih q a y ha hy (bj (by simpa[cm]using hi) q a ha)
theorem qp{e d:Nat}(h:cS e d=false):Key.s e≠ .s d:=fun hh=>by injection hh with hh;subst hh;rw[eZ]at h;cases h
theorem Cz.kill{d:Nat}{av:AV}{x:Value}(h:Cz E av x):Cz (E.kill d) (sb d kh kh av) x:=by
 induction h with
 |any x=>exact .any _
 |v x=>exact .v _
 |nA r A c=>exact .nA _ _ _
 |sl r xs z b o c u hp hc hm dV hz hr hi fY hu hq ih=>exact Cz.eE (.sl r xs z b o c u hp hc hm dV hz hr hi fY hu hq) rfl
 |sX r t=>exact .sX _ _
 |gs r t xs z b c e cells u hc hm h0 dV hz hr hb du ho fY hi hu hq ih=>
  exact Cz.gs (E:=E.kill d) r t xs z b c e cells u hc hm h0 dV hz hr hb du ho fY hi hu (fun q a ha=>(hq q a ha).eE (hi q a ha))
 |aO r cs off b o u hr hi fY hu hq ih=>exact Cz.eE (.aO r cs off b o u hr hi fY hu hq) rfl
 |ptr k off hl=>
  cases k with
  |o i=>exact Cz.eE (.ptr _ _ hl) rfl
  |s e=>simp only[sb];cases hb:cS e d with
   |true=>exact .any _
   |false=>exact Cz.ptr (E:=E.kill d) (.s e) off ⟨qp hb,hl⟩
 |ia k m hl hn hc hm=>
  cases k with
  |o i=>exact Cz.eE (.ia _ _ hl hn hc hm) rfl
  |s e=>simp only[sb];cases hb:cS e d with
   |true=>exact .any _
   |false=>exact Cz.ia (E:=E.kill d) (.s e) m ⟨qp hb,hl⟩ hn hc hm
 |cG k i off z hl=>
  cases k with
  |o i=>exact Cz.eE (.cG _ _ _ _ hl) rfl
  |s e=>simp only[sb];cases hb:cS e d with
   |true=>exact .any _
   |false=>exact Cz.cG (E:=E.kill d) (.s e) i off z ⟨qp hb,hl⟩
 |mp k hl=>
  cases k with
  |o i=>exact Cz.eE (.mp _ hl) rfl
  |s e=>simp only[sb];cases hb:cS e d with
   |true=>exact .any _
   |false=>exact Cz.mp (E:=E.kill d) (.s e) ⟨qp hb,hl⟩
 |pV k hl=>
  cases k with
  |o i=>exact Cz.eE (.pV _ hl) rfl
  |s e=>simp only[sb];cases hb:cS e d with
   |true=>exact .any _
   |false=>exact Cz.pV (E:=E.kill d) (.s e) ⟨qp hb,hl⟩
 |ar n z xs ys hn hz hl hi hq ih=>exact Cz.eE (.ar n z xs ys hn hz hl hi hq) rfl
 |bm f cs ys hl hi hq ih=>exact Cz.eE (.bm f cs ys hl hi hq) rfl
 |nc r z xs x hz h ih=>exact Cz.eE (.nc r z xs x hz h) rfl
 |fn f cap ys hl hq ih=>
  simp only[sb]
  exact .fn f _ ys (by rw[fv];exact hl) fun q a y ha hy=>by
   rw[nS]at ha
   cases hc:cap[q]? with
   |none=>rw[hc]at ha;simp at ha
   |some a'=>rw[hc]at ha;simp at ha;subst ha;exact ih q a' y hc hy
 |agg cs ys hl hq ih=>
  simp only[sb]
  exact .agg _ ys (by rw[fv];exact hl) fun q a y ha hy=>by
   rw[nS]at ha
   cases hc:cs[q]? with
   |none=>rw[hc]at ha;simp at ha
   |some a'=>rw[hc]at ha;simp at ha;subst ha;exact ih q a' y hc hy
 |fT cs ys hl hq ih=>
  simp only[sb]
  exact .fT _ ys (by rw[fv];exact hl) fun q a y ha hy=>by
   rw[nS]at ha
   cases hc:cs[q]? with
   |none=>rw[hc]at ha;simp at ha
   |some a'=>rw[hc]at ha;simp at ha;subst ha;exact ih q a' y hc hy
theorem Dw{d:Nat}{t:List (Nat×AV)}{T:Array Value}(h: ∀e x,look e t=some x→Cz E x (T.getD e undef)): ∀e x,look e (L8 d kh kh t)=some x→Cz (E.kill d) x (T.getD e undef):=by
 intro e x hd
 rw[sM]at hd
 cases hh:look e t with
 |none=>rw[hh]at hd;simp at hd
 |some y=>rw[hh]at hd;simp at hd;subst hd;exact(h e y hh).kill
theorem kS.kill{d:Nat}: ∀{aa:List Act} {fs:List Fr},kS E aa fs→kS (E.kill d) aa (Z0 d kh kh fs)
 |[],[],_=>trivial
 |a::aa,f::fs,h=>⟨⟨h.1.1,Dw h.1.2⟩,kS.kill h.2⟩
 |[],_::_,h=>h.elim
 |_::_,[],h=>h.elim
theorem ca.kill{d:Nat}{k:Key}{ob:Ob}(hk:k≠ .s d)(h:ca E k ob):ca (E.kill d) k (RK d kh kh ob):=by
 cases ob with
 |box cs=>
  obtain⟨g1,c,e,g2,g3,g4,g5,g6⟩:=h
  refine⟨⟨hk,g1⟩,c,e,g2,g3,g4,by rw[fv];exact g5,fun q a x ha hx=>?_⟩
  rw[nS]at ha
  cases hc:cs[q]? with
  |none=>rw[hc]at ha;simp at ha
  |some a'=>rw[hc]at ha;simp at ha;subst ha;exact(g6 q a' x hc hx).kill
 |arr z xs=>
  obtain⟨g1,gl,gz,gz',gm,c,e,g2,g3,g4,g5,g6,g7⟩:=h
  exact⟨⟨hk,g1⟩,gl,gz,gz',gm,c,e,g2,g3,g4,g5,g6,fun q a x ha hx=>(g7 q a x ha hx).eE (g6 q a ha)⟩
 |ow p l xs=>exact yZ (fun g=>⟨hk,g⟩) rfl rfl (fun ho=>⟨ho,rfl,fun o hh=>hh⟩) (fun a x hi hc=>hc.eE hi) (fun b hb _=>⟨hb,rfl,fun _=>Iff.rfl,rfl⟩) h
 |lp n t ps nI body st=>
  obtain⟨g1,g3,g4,rec,g2,g5,g6,g7,g8,g9,Yd,gq⟩:=h
  exact⟨⟨hk,g1⟩,g3,g4,rec,g2,g5,g6,g7,g8,g9,Yd,Dw gq⟩
theorem bq.kill(h:bq E0 E w0 w s a)(d:Nat):bq E0 (E.kill d) w0 w (s.sb d kh kh) a:=by
 have hF: ∀(o:Nat) (g:Bool),kh o≠ .v (.bool g):=fun o g hh=>by cases hh
 refine⟨h.heap,⟨h.wf.aN,h.wf.own,h.wf.fz⟩,h.I8,h.up.kill,h.sz,?_,?_,?_,?_,?_,?_,⟨h.ext.size,h.ext.aN,fun k hk=>?_,h.ext.bp⟩,h.xz,h.same,h.gk,h.nl,h.ng,h.lo⟩
 ·intro e x he hp
  have pA:look e (L8 d kh kh s.t)=some x:=he
  rw[sM]at pA
  cases hh:look e s.t with
  |none=>rw[hh]at pA;simp at pA
  |some y=>rw[hh]at pA;simp at pA;subst pA;exact(h.tm e y hh ((sA d kh kh hF hF).1 hp)).kill
 ·intro e q he hp
  exact h.cu e q he (fun hh=>hp ((sA d kh kh hF hF).2 hh))
 ·intro e ob he
  have pA:look e (HA d kh kh (del d s.b))=some ob:=he
  rw[mB,fQ]at pA
  by_cases hde:d=e
  ·rw[if_pos hde]at pA;simp at pA
  ·rw[if_neg hde]at pA
   cases hh:look e s.b with
   |none=>rw[hh]at pA;simp at pA
   |some y=>rw[hh]at pA;simp at pA;subst pA;exact(h.bx e y hh).kill (fun hh=>hde (by injection hh with hh;exact hh.symm))
 ·intro e he
  obtain⟨ob,ho⟩:=h.lv e he.2
  refine⟨RK d kh kh ob,?_⟩
  show look e (HA d kh kh (del d s.b))=_
  rw[mB,fQ,if_neg (fun hh=>he.1 (by rw[hh])),ho];rfl
 ·intro i ob hi
  have h1:=(h.gx i ob hi).kill (d:=d) (fun hh=>by cases hh)
  have X6:=h.gk i ob hi
  cases ob with
  |arr z xs=>exact h1
  |lp=>exact X6.elim
  |ow=>exact X6.elim
  |box cs=>
   obtain⟨g1,c,e,g2,g3,g4,g5,g6⟩:=h1
   refine⟨g1,c,e,g2,g3,g4,by rw[g5,fv],fun q a x ha hx=>?_⟩
   have:=g6 q (Ab.sb d kh kh a) x (by rw[nS,ha];rfl) hx
   rwa [Nf (X6 q a ha)]at this
 ·intro i
  exact⟨fun hh=>(h.gl i).1 hh.2,fun hh=>⟨(fun e=>by cases e),(h.gl i).2 hh⟩⟩
 ·obtain⟨k1,k2,k3⟩:=h.ext.live k hk
  exact⟨⟨fun e=>by subst e;exact h.nl d hk,k1⟩,k2,k3⟩
def Env.cv(E:Env)(d b:Nat)(n:Nat×Nat)(h':Array Obj):Env:=
 {E with h:=h',m:=fun q=>if q= .s d then b else E.m q,len:=fun q=>if q= .s d then n else E.len q,live:=fun q=>q= .s d∨E.live q,own:=fun b'=>if b'=b then .key (.s d)else E.own b'}
structure yA(E:Env)(d b:Nat)(h':Array Obj):Prop where
 nl: ¬E.live (.s d)
 at':b=E.h.size∨(b<E.h.size∧E.own b= .key (.s d)∧ ∀o,¬E.aN b o)
 rest: ∀b',b'<E.h.size→b'≠b→h'[b']? =E.h[b']?
 size:E.h.size≤h'.size
 lt:b<h'.size
theorem yA.ext{d b:Nat}{n:Nat×Nat}{h':Array Obj}(k:yA E d b h')(hw:Wf E):Ext (fun o=>o= .key (.s d)) E (E.cv d b n h'):=by
 have hb: ∀b' o,E.aN b' o→b'≠b:=fun b' o hs e=>by
  subst e
  rcases k.at' with e|⟨_,_,h3⟩
  ·have:=hw.aN b' o hs;omega
  ·exact h3 o hs
 refine⟨k.size,fun b' o hs=>⟨hs,?_,rfl⟩,fun q hq=>⟨.inr hq,?_,?_⟩,fun b' eI hn=>?_⟩
 ·simp only[Env.cv,aR];rw[k.rest b' (hw.aN b' o hs) (hb b' o hs)]
 ·simp only[Env.cv];rw[if_neg (fun e=>by subst e;exact k.nl hq)]
 ·simp only[Env.cv];rw[if_neg (fun e=>by subst e;exact k.nl hq)]
 ·have cM:b'≠b:=fun e=>by
   subst e
   rcases k.at' with e|⟨_,h2,_⟩
   ·omega
   ·exact hn h2
  exact⟨by simp only[Env.cv];rw[if_neg cM],k.rest b' eI cM,fun _=>Iff.rfl,rfl⟩
theorem yA.wf{d b:Nat}{n:Nat×Nat}{h':Array Obj}(k:yA E d b h')(hw:Wf E):Wf (E.cv d b n h'):=
 ⟨fun b' o hs=>Nat.lt_of_lt_of_le (hw.aN b' o hs) k.size,fun b' eI=>by
  simp only[Env.cv]at eI
  by_cases hh:b'=b
  ·subst hh;exact k.lt
  ·rw[if_neg hh]at eI;exact Nat.lt_of_lt_of_le (hw.own b' eI) k.size,fun b' o hs hr=>by
  have cM:b'≠b:=fun e=>by
   subst e
   rcases k.at' with e|⟨_,_,h3⟩
   ·have:=hw.aN b' o hs;omega
   ·exact h3 o hs
  obtain⟨c,e,hc⟩:=hw.fz b' o hs hr
  exact⟨c,e,by simp only[Env.cv];rw[k.rest b' (hw.aN b' o hs) cM];exact hc⟩⟩
theorem yA.cz{d b:Nat}{n:Nat×Nat}{h':Array Obj}(k:yA E d b h')(hw:Wf E){av:AV}{x:Value}(h:Cz E av x):Cz (E.cv d b n h') av x:=by
 have:=(h.ext (k.ext (n:=n) hw) hw (fun _=>false) (eY _)).1
 rwa [jY (fun _=>rfl)]at this
theorem yA.nest{d b:Nat}{n:Nat×Nat}{h':Array Obj}(k:yA E d b h')(hw:Wf E){e:Nat}: ∀b',E.own b'= .tok (.n e)→b'<E.h.size→(E.cv d b n h').own b'= .tok (.n e)∧(E.cv d b n h').h[b']? =E.h[b']? ∧(∀o,(E.cv d b n h').aN b' o↔E.aN b' o)∧(E.cv d b n h').dx b'=E.dx b':=fun b' ho eI=>by
 obtain⟨q1,q2,q3,q4⟩:=(k.ext (n:=n) hw).bp b' eI (by rw[ho];simp)
 exact⟨q1.trans ho,q2,q3,q4⟩
theorem bq.cv(h:bq E0 E w0 w s a){d b:Nat}{n:Nat×Nat}(hd:look d s.b=none)(k:yA E d b w'.heap)(KI:iz w w'){ob:Ob}(uh:ca (E.cv d b n w'.heap) (.s d) ob):bq E0 (E.cv d b n w'.heap) w0 w' {s with b:=cR d ob s.b} a:=by
 have hx:=h.xW (T:=fun _=>false) (k.ext (n:=n) h.wf) (eY _) (Kk _) (k.wf h.wf) (w':=w') rfl KI
  (fun b' hb hc=>by have:=h.xz b' hb;rw[hc]at this;simp[Own.loc,Key.loc]at this) (cR d ob s.b) s.g s.nx
  (fun d' DW h'=>by
   rw[aF]at h'
   by_cases so:d=d'
   ·rw[if_pos so]at h';cases h';subst so;exact .inr uh
   ·rw[if_neg so]at h';exact .inl ⟨DW,h',(nY (fun _=>rfl) DW).symm,(fun hf=>so (by injection hf with hf;injection hf with hf;exact hf.symm)),fun hf=>by cases hf⟩)
  (fun d' hl=>by
   rw[aF]
   by_cases so:d=d'
   ·exact⟨ob,by rw[if_pos so]⟩
   ·rw[if_neg so]
    rcases hl with hl|hl
    ·exact absurd (by injection hl with hl;exact hl.symm) so
    ·exact h.lv d' hl)
  (fun i DW h'=> .inl ⟨h',fun hf=>by cases hf⟩)
  (fun i=>⟨fun hh=>by rcases hh with hh|hh;cases hh;exact(h.gl i).1 hh,fun hh=> .inr ((h.gl i).2 hh)⟩) h.gk (fun b'=>by
   have:=h.ng b'
   simp only[Env.cv]
   split
   ·simp[di,Own.di,Key.loc]
   ·exact this)
 have:fG (fun _=>false) s.t=s.t:=kU (fun _=>rfl) _
 rw[this,pE (fun _=>rfl)]at hx
 exact hx
structure Grown(P:Program)(w:World)(t ty z:Nat)(x y:Value)(xz:Array Value)(b n:Nat)(ns:List Value):Prop where
 ex: ∃(w':World) (b' c' e':Nat) (cells:Array Value),(Builtin.append_ #[t,t] ty #[x,y]).run P w= .ok (.slice (some ⟨b',0,none⟩) (n+1) c') w'∧iz w w'∧n+1≤c'∧c'≤maxLen∧cells.size=c'*z∧
  (∀q,q<n*z→cells[q]? =xz[q]?)∧(∀q,q<z→cells[n*z+q]? =ns[q]?)∧w'.heap[b']? =some (.cells cells e' (0,0))∧b'<w'.heap.size∧w.heap.size≤w'.heap.size∧(∀b1,b1<w.heap.size→b1≠b'→w'.heap[b1]? =w.heap[b1]?)∧(b'=w.heap.size∨b'=b)
theorem Qo{t ty e:Nat}{i:TypeInfo}{zv:Value}(hu:P.underlying t=some (.slice e))(hi:P.info? e=some i)(hz:i.zero=some zv)(Af:zv.cells.size=i.size)(b2 o2 c2 b:Nat){ns:List Value}(n1:ns.length=i.size)
  (n2: ∀(j:Nat) (u:Value),ns[j]? =some u→w.cell? ((⟨b2,o2,none⟩:Addr).add j)=some u)(hb:i.bytes≤70368744177664)(yg: ∀u∈ns,u.oneCell'=true):
  Grown P w t ty i.size (.slice none 0 0) (.slice (some ⟨b2,o2,none⟩) 1 c2) #[] b 0 ns:=by
 have eH:=run_append_nil (P:=P) w t ty e i zv hu hi hz ⟨b2,o2,none⟩ 1 c2 ns (by omega) n2 (by omega) (by omega) (by omega)
 refine⟨_,w.heap.size,_,e,ns.toArray++Builtin.zeroCells zv.cells (grownCap w 1 0 e - 1),eH,⟨rfl,rfl,rfl⟩,grownCap_ge w 1 0 e,grownCap_le_maxLen w 1 0 e (by unfold maxLen;omega),?_,fun q hq=>by omega,fun q hq=>?_,?_,?_,?_,fun b1 yD cM=>?_,.inl rfl⟩
 ·simp only[Array.size_append,pU,Af]
  simp only[List.size_toArray,n1]
  have:=grownCap_ge w 1 0 e
  generalize grownCap w 1 0 e=cap at this ⊢
  rw[Nat.sub_mul]
  have:i.size≤cap*i.size:=Nat.le_mul_of_pos_left _ (by omega)
  omega
 ·rw[Nat.zero_mul,Nat.zero_add,Array.getElem?_append_left (by simpa[n1]using hq)]
  simp
 ·show(w.heap.push _)[w.heap.size]? =_;simp
 ·show _<(w.heap.push _).size;simp
 ·show _≤(w.heap.push _).size;simp
 ·show(w.heap.push _)[b1]? =_;rw[Array.getElem?_push,if_neg (by omega)]
theorem Nu{t ty e:Nat}{i:TypeInfo}{zv:Value}(hu:P.underlying t=some (.slice e))(hi:P.info? e=some i)(hz:i.zero=some zv)(Af:zv.cells.size=i.size)(h1:1≤i.size){b n c e0:Nat}{cells:Array Value}(hbk:w.heap[b]? =some (.cells cells e0 (0,0)))
  (du:cells.size=c*i.size)(hn:n≤c)(hc:c≤maxLen)(b2 o2 c2:Nat){ns:List Value}(n1:ns.length=i.size)
  (n2: ∀(j:Nat) (u:Value),ns[j]? =some u→w.cell? ((⟨b2,o2,none⟩:Addr).add j)=some u)(hb:(n+1)*i.bytes≤70368744177664)(hnm:n+1≤70368744177664)(yg: ∀u∈ns,u.oneCell'=true):
  Grown P w t ty i.size (.slice (some ⟨b,0,none⟩) n c) (.slice (some ⟨b2,o2,none⟩) 1 c2) cells b n ns:=by
 have aU:b<w.heap.size:=(Array.getElem?_eq_some_iff.1 hbk).1
 have hnz:n*i.size≤c*i.size:=Nat.mul_le_mul_right _ hn
 by_cases zw:n+1≤c
 ·have hmul:(n+1)*i.size≤c*i.size:=Nat.mul_le_mul_right _ zw
  rw[Nat.add_mul]at hmul
  obtain⟨w',g1,g2,g3⟩:=fH P b (n*i.size) e0 ns 0 w cells hbk (by omega) (fun v hv=>by rw[tC];exact yg v hv)
  obtain⟨f1,f2⟩:=pR (n*i.size) ns 0 cells (by omega)
  generalize (ns.zipIdx.foldl (fun cs (x,j)=>cs.setIfInBounds (n*i.size+j) x) cells)=F at g2 f1 f2
  have eH:(Builtin.append_ #[t,t] ty #[.slice (some ⟨b,0,none⟩) n c,.slice (some ⟨b2,o2,none⟩) 1 c2]).run P w= .ok (.slice (some ⟨b,0,none⟩) (n+1) c) w':=by
   have h2: ∀w,(underlying t).run P w= .ok (.slice e) w:=eK hu
   have h3: ∀w,(Go.sizeOf e).run P w= .ok i.size w:=fun w=>kA hi w
   have hf:=run_firstCells_some (P:=P) w i.size 1 ⟨b2,o2,none⟩ 1 c2 ns (by omega) n2
   simp[Builtin.append_,Sem.run_bind,h2,h3,Result.andThen,Builtin.lenOf,zw,hf,dX,g1]
  refine⟨w',b,c,e0,F,eH,g3,zw,hc,by rw[f1];exact du,fun q hq=>?_,fun q hq=>?_,by rw[g2];simp[aU],by rw[g2];simpa using aU,by rw[g2];simp,fun b1 yD cM=>by rw[g2,Array.getElem?_setIfInBounds_ne (Ne.symm cM)],.inr rfl⟩
  ·rw[f2,if_neg (by omega)]
  ·rw[f2,if_pos ⟨by omega,by omega⟩]
   congr 1;omega
 ·have hold: ∀(j:Nat) (v:Value),(cells.toList.take (n*i.size))[j]? =some v→w.cell? ((⟨b,0,none⟩:Addr).add j)=some v:=fun j v hj=>by
   have hjl:=(List.getElem?_eq_some_iff.1 hj).1
   rw[List.getElem?_take,if_pos (by simp at hjl;omega)]at hj
   rw[dX,jr,aR,hbk]
   simpa using hj
  have eH:=run_append_grow (P:=P) w t ty e i zv hu hi hz ⟨b,0,none⟩ n c (cells.toList.take (n*i.size)) (by simp;omega) hold ⟨b2,o2,none⟩ 1 c2 ns (by omega) n2 (by omega) (by omega) (growslice_fits (by omega) (by omega))
  refine⟨_,w.heap.size,_,e,(cells.toList.take (n*i.size)).toArray++ns.toArray++Builtin.zeroCells zv.cells (grownCap w (n+1) c e - (n+1)),eH,⟨rfl,rfl,rfl⟩,grownCap_ge w _ c e,grownCap_le_maxLen w _ c e (by unfold maxLen;omega),?_,fun q hq=>?_,fun q hq=>?_,?_,?_,?_,fun b1 yD cM=>?_,.inl rfl⟩
  ·simp only[Array.size_append,pU,Af]
   simp only[List.size_toArray,n1,List.length_take,Array.length_toList,du]
   have hg:=grownCap_ge w (n+1) c e
   generalize grownCap w (n+1) c e=cap at hg ⊢
   rw[Nat.sub_mul,Nat.add_mul]
   have:(n+1)*i.size≤cap*i.size:=Nat.mul_le_mul_right _ hg
   rw[Nat.add_mul]at this
   omega
  ·rw[Array.getElem?_append_left (by simp;omega),Array.getElem?_append_left (by simp;omega)]
   simp only[List.getElem?_toArray,List.getElem?_take,Array.getElem?_toList]
   rw[if_pos hq]
  ·rw[Array.getElem?_append_left (by simp;omega),Array.getElem?_append_right (by simp;omega)]
   simp only[List.size_toArray,List.length_take,Array.length_toList,List.getElem?_toArray]
   congr 1;omega
  ·show(w.heap.push _)[w.heap.size]? =_;simp
  ·show _<(w.heap.push _).size;simp
  ·show _≤(w.heap.push _).size;simp
  ·show(w.heap.push _)[b1]? =_;rw[Array.getElem?_push,if_neg (by omega)]
theorem Lg: ∀{cs:List AV},QB cs=true→ ∀(q:Nat) (a:AV),cs[q]? =some a→ ∃x,a= .v x
 |[],_,q,a,h=>by simp at h
 |b::r,h,q,a,hq=>by
  simp only[QB,Bool.and_eq_true]at h
  cases q with
  |zero=>simp at hq;subst hq;cases b<;>first|exact⟨_,rfl⟩|(simp[isV]at h)
  |succ q=>exact Lg h.2 q a (by simpa using hq)
theorem zh(r:Nat): ∀(cs:List AV) (q:Nat),(bY r cs)[q]? =(cs[q]?).map (dL r)
 |[],q=>by simp[bY]
 |a::cs,q=>by cases q<;>simp[bY,zh r cs]
theorem uJ(r:Nat): ∀(cs:List AV),(bY r cs).length=cs.length
 |[]=>rfl
 |a::cs=>by simp[bY,uJ r cs]
theorem sK{r:Nat}{x:Value}:dL r (.v x)= .v x∨(dL r (.v x)= .sl r []∧x= .slice none 0 0):=by
 unfold dL
 split
 ·rename_i h;cases h;exact .inr ⟨rfl,rfl⟩
 ·exact .inl rfl
theorem To{d b z:Nat}{n:Nat×Nat}{h':Array Obj}(k:yA E d b h')(hw:Wf E){xs:List (List AV)}{u0:Nat→Value}{r:Nat}{cs:List AV}{ns:List Value}{cells:Array Value}{e0:Nat}(dV:0<z)(hz: ∀l∈xs,l.length=z)
  (lV: ∀(q:Nat) (a:AV),xs.flatten[q]? =some a→cm a=true)(hu0: ∀(q:Nat) (a:AV),xs.flatten[q]? =some a→Cz E a (u0 q))(hn0:FO E (.n d) z none xs u0)(jE:QB cs=true)(iH:cs.length=z)(hns:ns.length=z)
  (I6: ∀(q:Nat) (a:AV) (y:Value),cs[q]? =some a→ns[q]? =some y→Cz E a y)(hlen:n.1=xs.length+1)(Nq:n.1≤n.2)(apd:n.2≤maxLen)(hb:h'[b]? =some (.cells cells e0 (0,0)))(du:cells.size=n.2*z)
  (hold: ∀(q:Nat) (a:AV),xs.flatten[q]? =some a→cells[q]? =some (u0 q))(vV: ∀q,q<z→cells[xs.length*z+q]? =ns[q]?):ca (E.cv d b n h') (.s d) (.ow (.sl z) none (xs++[bY r cs])):=by
 have fB:=aD hz
 have Ul:(E.cv d b n h').m (.s d)=b:=by simp[Env.cv]
 have pB: ∀(q:Nat) (a:AV),(xs++[bY r cs]).flatten[q]? =some a→(q<xs.length*z∧xs.flatten[q]? =some a)∨(∃j x,q=xs.length*z+j∧j<z∧cs[j]? =some (.v x)∧ns[j]? =some x∧a=dL r (.v x)):=by
  intro q a ha
  rw[List.flatten_append]at ha
  by_cases aU:q<xs.flatten.length
  ·rw[List.getElem?_append_left aU]at ha;exact .inl ⟨by omega,ha⟩
  ·rw[List.getElem?_append_right (by omega)]at ha
   simp only[List.flatten_cons,List.flatten_nil,List.append_nil,zh]at ha
   cases hc:cs[q - xs.flatten.length]? with
   |none=>rw[hc]at ha;cases ha
   |some b0=>
    rw[hc]at ha
    cases ha
    obtain⟨x,rfl⟩:=Lg jE _ _ hc
    have hj:q - xs.flatten.length<z:=by rw[←iH];exact(List.getElem?_eq_some_iff.1 hc).1
    have hy:ns[q - xs.flatten.length]? =some ns[q - xs.flatten.length]:=by simp[hns,hj]
    have h1:=I6 _ _ _ hc hy
    refine .inr ⟨q - xs.flatten.length,x,by omega,hj,hc,?_,rfl⟩
    rw[hy];cases h1;rfl
 let u:Nat→Value:=fun q=>if q<xs.length*z then u0 q else ns[q - xs.length*z]?.getD undef
 have Cb: ∀q,q<xs.length*z→u q=u0 q:=fun q hq=>by simp only[u];rw[if_pos hq]
 have Rs: ∀j x,ns[j]? =some x→u (xs.length*z+j)=x:=fun j x hx=>by simp only[u];rw[if_neg (by omega),Nat.add_sub_cancel_left,hx];rfl
 refine⟨.inl rfl,by rw[Ul];simp[Env.cv],fun o hs=>?_,fun q a ha=>?_,u,⟨dV,fun l hl=>?_,?_,?_,?_,cells,e0,?_,?_,fun q a ha=>?_⟩,fun q a ha=>?_,?_,?_⟩
 ·rw[Ul]at hs
  rcases k.at' with e|⟨_,_,h3⟩
  ·have:=hw.aN b o hs;omega
  ·exact h3 o hs
 ·rcases pB q a ha with⟨_,h1⟩|⟨j,x,_,_,_,_,rfl⟩
  ·exact lV q a h1
  ·rcases sK (r:=r) (x:=x)with h|⟨h,_⟩<;>rw[h]<;>rfl
 ·rcases List.mem_append.1 hl with h|h
  ·exact hz l h
  ·simp at h;subst h;rw[uJ];exact iH
 ·simp[Env.cv,hlen]
 ·simpa[Env.cv]using Nq
 ·simpa[Env.cv]using apd
 ·rw[Ul];exact hb
 ·simpa[Env.cv]using du
 ·rcases pB q a ha with⟨h0,h1⟩|⟨j,x,rfl,hj,_,h3,rfl⟩
  ·rw[Cb q h0];exact hold q a h1
  ·rw[Rs j x h3,vV j hj,h3]
 ·rcases pB q a ha with⟨h0,h1⟩|⟨j,x,rfl,hj,_,h3,rfl⟩
  ·rw[Cb q h0];exact k.cz hw (hu0 q a h1)
  ·rw[Rs j x h3]
   rcases sK (r:=r) (x:=x)with h|⟨h,e⟩
   ·rw[h];exact .v _
   ·rw[h,e];exact .nA _ _ _
 ·intro q r' ys hq hl
  rcases pB q _ hq with⟨h0,h1⟩|⟨j,x,rfl,hj,_,h3,h4⟩
  ·rw[Cb q h0];exact(hn0.1 q r' ys h1 (fun hh=>hh)).mono (k.nest hw)
  ·rcases sK (r:=r) (x:=x)with h|⟨h,e⟩
   ·rw[h]at h4;cases h4
   ·rw[h]at h4;cases h4;exact .inl ⟨rfl,(Rs j x h3).trans e⟩
 ·intro q q' r1 r2 ys C9 b1 hq uV _ _ cM yD
  rcases pB q _ hq with⟨h0,h1⟩|⟨j,x,rfl,hj,_,h3,h4⟩
  ·rcases pB q' _ uV with⟨h0',Q0⟩|⟨j,x,rfl,hj,_,h3,h4⟩
   ·rw[Cb q h0]at yD;rw[Cb q' h0'];exact hn0.2 q q' r1 r2 ys C9 b1 h1 Q0 (fun hh=>hh) (fun hh=>hh) cM yD
   ·rw[Rs j x h3]
    rcases sK (r:=r) (x:=x)with h|⟨h,e⟩
    ·rw[h]at h4;cases h4
    ·rw[e];intro hh;cases hh
  ·rw[Rs j x h3]at yD
   rcases sK (r:=r) (x:=x)with h|⟨h,e⟩
   ·rw[h]at h4;cases h4
   ·rw[e]at yD;cases yD
theorem Ji(hL:bn P C.L)(hI:C.I=al)(h:bq E0 E w0 w s a){o:Oper}{t t' d:Nat}{x y:Operand}{c:Call}(he:o.op= .call c)(hc:c.callee= .builtin .append)(cQ:c.args= #[x,y])(QW:c.argTypes= #[t,t'])(htt:t'=t){K:bf}{Q:Exit→Act→World→Prop}
  (hk:Rg C t d (bL s [] x) (bL s [] y) s K):lj P o a w (fC E0 w0 o a K) Q:=by
 subst htt
 unfold Rg at hk
 generalize C.base+d=d at hk
 have hx:=h.ev (p:=[]) trivial x
 have hy:=h.ev (p:=[]) trivial y
 have fin: ∀x' w',(Builtin.append_ #[t',t'] o.type #[a.eval x,a.eval y]).run P w= .ok x' w'→Out E0 w0 a K x' w'→lj P o a w (fC E0 w0 o a K) Q:=fun x' w' g1 g2=>by
  refine cP (x:=x') (w':=w') ?_ g2
  simp only[execOp,he,resolve,hc,invoke,builtin,cQ,QW]
  simp[Sem.run_bind,invoke,builtin,g1,Result.andThen]
 split at hk
 ·rename_i e ti r cs sn OL
  obtain⟨hu,KR,i,i1,i2,i3,zv,i4,i5⟩:=gA hL sn
  have Af:zv.cells.size=i.size:=by rw[i2,←(hL.ok e ti KR).Lz,←i5];simp
  have hy':=nZ OL hy
  cases jE:(QB cs&&(cS cs.length ti.size&&(lL 1 ti.size&&lf cs)))with
  |false=>rw[jE]at hk;exact hk.elim
  |true=>
   rw[jE,cond_true]at hk
   simp only[Bool.and_eq_true]at jE
   obtain⟨ha1,ha2,ha3,ha4⟩:=jE
   have ha2:cs.length=ti.size:=dg ha2
   have ha3:1≤ti.size:=by simpa using ha3
   obtain⟨b2,o2,c2,QV,ns,n1,n2,n3,n4⟩:=hy'.cells h.heap (by simp) (z:=i.size) (fun l hl=>by simp at hl;subst hl;rw[ha2,i2])
   have n1:ns.length=i.size:=by rw[n1];simp
   have n4': ∀(q:Nat) (a:AV) (y:Value),cs[q]? =some a→ns[q]? =some y→Cz E a y:=fun q b y h1 h2=>n4 q b y (by simpa using h1) h2
   have yg:=AB (E:=E) (by rw[n1,i2,ha2]) n4' ha4
   have QV:a.eval y= .slice (some ⟨b2,o2,none⟩) 1 c2:=QV
   split at hk
   ·rename_i dG
    split at hk
    ·rename_i e8
     obtain⟨k1,zs,n',⟨rfl,I5⟩,hk⟩:=hk
     have I4:n'=1:=by rw[←I5,hI];rfl
     subst I4
     rw[hI]at k1
     obtain⟨k1,_⟩:(0+1)*ti.bytes≤70368744177664∧0+1≤70368744177664:=k1
     rw[dG]at hx
     have ex:=bG hx
     obtain⟨w',b',c',e',cells,g1,g2,g3,g4,g5,g6,g7,g8,g9,Yd,g11,g12⟩:=(Qo (P:=P) (w:=w) (t:=t') (ty:=o.type) hu i1 i4 Af b2 o2 c2 w.heap.size n1 n2 (by rw[i3];omega) yg).ex
     have eI:b'=w.heap.size:=g12.elim id id
     have zx: ¬E.live (.s d):=fun hl=>by obtain⟨ob,ho⟩:=h.lv d hl;rw[e8]at ho;cases ho
     have hA:yA E d b' w'.heap:=⟨zx,.inl (by rw[eI,h.heap]),fun b1 yD cM=>by rw[←h.heap];rw[←h.heap]at yD;exact g11 b1 yD cM,by rw[←h.heap];exact Yd,g9⟩
     have uh:=To (n:=(1,c')) hA h.wf (xs:=[]) (u0:=fun _=>undef) (r:=r) (z:=ti.size) (by omega) (by simp) (by simp) (by simp) ⟨fun q r ys hq=>by simp at hq,fun q q' r r' ys C9 b hq=>by simp at hq⟩ ha1 ha2 (by rw[n1,i2]) n4' (by simp) (by omega) g4 g8 (by rw[g5,i2]) (by simp) (fun q hq=>by
      have:=g7 q (by rw[i2];exact hq)
      simpa using this)
     refine fin _ w' (by rw[ex,QV];exact g1) ⟨_,_,_,hk,h.cv e8 hA g2 uh,?_⟩
     have:=Cz.ia (E:=E.cv d b' (1,c') w'.heap) (.s d) 1 (.inl rfl) (by simp[Env.cv]) (by simp[Env.cv];omega) (by simp[Env.cv];exact g4)
     simpa[Env.cv]using this
    ·exact hk.elim
   ·rename_i k n dG
    cases hkd:cS k d with
    |false=>rw[hkd]at hk;exact hk.elim
    |true=>
     rw[hkd,cond_true]at hk
     have:=dg hkd
     subst this
     split at hk
     ·rename_i z xs e8
      obtain⟨e0,zs,n',⟨k1,k2,k3,k4⟩,hk⟩:=hk
      subst e0
      rw[hI]at k1 k2 k3 k4
      have k2:xs.length=n:=k2
      have k3:xs++[bY r cs]=zs:=k3
      have k4:zs.length=n':=k4
      obtain⟨k1,k5⟩:(n+1)*ti.bytes≤70368744177664∧n+1≤70368744177664:=k1
      subst k2;subst k3
      obtain⟨hl,ho,hs,lV,u0,⟨dV,hz,ke,hle,hm,cl,e1,hb,du,hu0⟩,hq,uK⟩:=h.bx k _ e8
      rw[dG]at hx
      cases dS:a.eval x<;>rw[dS]at hx<;>cases hx
      have fB:=aD hz
      have aU:E.m (.s k)<E.h.size:=(Array.getElem?_eq_some_iff.1 hb).1
      obtain⟨w',b',c',e',cells,g1,g2,g3,g4,g5,g6,g7,g8,g9,Yd,g11,g12⟩:=(Nu (P:=P) (w:=w) (t:=t') (ty:=o.type) hu i1 i4 Af (by omega) (b:=E.m (.s k)) (n:=xs.length) (c:=(E.len (.s k)).2) (by rw[h.heap];exact hb) (by rw[du,i2]) (by omega) hm b2 o2 c2 n1 n2 (by rw[i3];exact k1) k5 yg).ex
      have h2:=h.kill k
      have hA:yA (E.kill k) k b' w'.heap:=⟨fun hh=>hh.1 rfl,g12.imp (fun e=>by rw[e,h.heap];rfl) (fun e=>by subst e;exact⟨aU,ho,hs⟩),fun b1 yD cM=>by
        have:=g11 b1 (by rw[h.heap];exact yD) cM
        rw[this,h.heap];rfl,by have:=Yd;rw[h.heap]at this;exact this,g9⟩
      have uh:=To (n:=(xs.length+1,c')) hA h2.wf (xs:=xs) (u0:=u0) (r:=r) (z:=ti.size) dV hz lV (fun q b qR=>(hq q b qR).eE (lV q b qR)) (uK.mono fun b hb _=>⟨hb,rfl,fun _=>Iff.rfl,rfl⟩) ha1 ha2 (by rw[n1,i2]) (fun q b y h1 h2=>(n4' q b y h1 h2).eE (n3 q b (by simpa using h1))) rfl g3 g4 g8 (by rw[g5,i2]) (fun q b qR=>by
       have uV:=(List.getElem?_eq_some_iff.1 qR).1
       rw[g6 q (by rw[i2];omega)];exact hu0 q b qR) (fun q hq=>by
       have:=g7 q (by rw[i2];exact hq)
       rw[i2]at this;exact this)
      refine fin _ w' (by rw[dS,QV];exact g1) ⟨_,_,_,hk,h2.cv (by show look k (HA k kh kh (del k s.b))=none;rw[mB,fQ,if_pos rfl];rfl) hA g2 uh,?_⟩
      have I5:n'=xs.length+1:=by rw[←k4];simp
      have:=Cz.ia (E:=(E.kill k).cv k b' (xs.length+1,c') w'.heap) (.s k) n' (.inl rfl) (by simp[Env.cv,I5]) (by simp[Env.cv];omega) (by simp[Env.cv];exact g4)
      rw[I5]at this ⊢
      simpa[Env.cv]using this
     ·exact hk.elim
   ·exact hk.elim
 ·exact hk.elim
theorem KS{t:Tok}{r:Nat}{ys:List (List AV)}{v:Value}(h:Cz E (.sl r ys) v)(hr:rP E t r ys v):Cz E (.gs r t ys) v:=by
 rcases hr with⟨rfl,rfl⟩|⟨z,b,c,e,cells,rfl,h2,h3,h4,h5,h6,h7,h8,h9,Ah,Iw⟩
 ·exact .sX _ _
 ·by_cases hy:ys.length=0
  ·have:ys=[]:=List.eq_nil_of_length_eq_zero hy
   subst this
   exact .gs r t [] z b c e cells (fun _=>undef) (by simp) h3 h4 h5 h6 h7 h8 h9 Ah Iw (by simp) (by simp) (by simp)
  ·generalize hv:Value.slice (some ⟨b,0,none⟩) ys.length c=v at h
   cases h with
   |nA=>simp at hy
   |sl _ _ z' b' o' c' u hp hc hm dV hz hrg hi hs hu hq=>
    injection hv with e1 e2 e3
    injection e1 with e1
    injection e1 with e1 e4
    subst e1;subst e4;subst e3
    have Qg:z'=z:=by
     cases ys with
     |nil=>simp at hy
     |cons l rr=>rw[←hz l (by simp),h6 l (by simp)]
    subst Qg
    exact .gs r t ys z' b c e cells u h2 h3 h4 h5 h6 h7 h8 h9 Ah Iw hi hu hq
theorem rq{t:Tok}{r:Nat}{ys:List (List AV)}{v:Value}(h:Cz E (.gs r t ys) v):rP E t r ys v:=by
 cases h with
 |sX=>exact .inl ⟨rfl,rfl⟩
 |gs _ _ _ z b c e cells u hc hm h0 dV hz hr hb du ho fY hi hu hq=>exact .inr ⟨z,b,c,e,cells,rfl,hc,hm,h0,dV,hz,hr,hb,du,ho,fY⟩
theorem ss{t:Tok}{r:Nat}{ys:List (List AV)}{v:Value}{b:Nat}(h:rP E t r ys v)(hb:EM v=some b):E.own b= .tok t∧b<E.h.size:=by
 rcases h with⟨_,rfl⟩|⟨z,b',c,e,cells,rfl,h2,h3,h4,h5,h6,h7,h8,h9,Ah,Iw⟩
 ·cases hb
 ·cases hb;exact⟨Ah,(Array.getElem?_eq_some_iff.1 h8).1⟩
def Env.sy(E:Env)(b:Nat)(t:Tok):Env:={E with own:=fun b'=>if b'=b then .tok t else E.own b'}
theorem rP.sy{t:Tok}{b:Nat}{t1:Tok}{r:Nat}{ys:List (List AV)}{v:Value}(h:rP E t r ys v)(hb:EM v≠some b):rP (E.sy b t1) t r ys v:=by
 rcases h with h|⟨z,b',c,e,cells,rfl,h2,h3,h4,h5,h6,h7,h8,h9,Ah,Iw⟩
 ·exact .inl h
 ·exact .inr ⟨z,b',c,e,cells,rfl,h2,h3,h4,h5,h6,h7,h8,h9,by simp only[Env.sy];rw[if_neg (fun e=>hb (by rw[←e];rfl))];exact Ah,Iw⟩
theorem rP.own{t:Tok}{b:Nat}{t1:Tok}{r:Nat}{ys:List (List AV)}{v:Value}(h:rP E t r ys v)(hb:EM v=some b):rP (E.sy b t1) t1 r ys v:=by
 rcases h with h|⟨z,b',c,e,cells,rfl,h2,h3,h4,h5,h6,h7,h8,h9,Ah,Iw⟩
 ·exact .inl h
 ·exact .inr ⟨z,b',c,e,cells,rfl,h2,h3,h4,h5,h6,h7,h8,h9,by simp only[Env.sy];rw[if_pos (by injection hb)],Iw⟩
theorem Bl{T:Tok→Bool}{b:List (Nat×Ob)}{k d:Nat}{ob x:Ob}(h:look d (cR k ob (eN T b))=some x):(d=k∧x=ob)∨(d≠k∧ ∃y,look d b=some y∧x=xu T y):=by
 rw[aF]at h
 by_cases hk:k=d
 ·rw[if_pos hk]at h;cases h;exact .inl ⟨hk.symm,rfl⟩
 ·rw[if_neg hk,cw]at h
  cases hh:look d b with
  |none=>rw[hh]at h;cases h
  |some y=>rw[hh]at h;cases h;exact .inr ⟨fun e=>hk e.symm,y,rfl,rfl⟩
theorem AJ(h:bq E0 E w0 w s a){k:Nat}{p:OwK}{xs:List (List AV)}(e8:look k s.b=some (.ow p none xs)){u:Nat→Value}(Fy:ES p (E.len (.s k)) E.h[E.m (.s k)]? xs u)
  (Np: ∀(q:Nat) (a:AV),xs.flatten[q]? =some a→Cz E a (u q))(hn:FO E (.n k) p.z none xs u){i off r:Nat}{ys:List (List AV)}(hq:xs.flatten[i*p.z+off]? =some (.sl r ys))(t:Tok){p':OwK}(hpz:p'.z=p.z)(X5:ES p' (E.len (.s k)) E.h[E.m (.s k)]? xs u):
  ∃E',bq E0 E' w0 w {s with t:=fG (bh (.n k)) s.t,b:=cR k (.ow p' (some (i,off)) xs) (eN (bh (.n k)) s.b),up:=mg (bh (.n k)) s.up} a∧Cz E' (.gs r t ys) (u (i*p.z+off)):=by
 obtain⟨hl,ho,hs,lV,_⟩:=h.bx k _ e8
 have hR:=hn.1 _ r ys hq (fun hh=>hh)
 have Nh:=Np _ _ hq
 cases hb:EM (u (i*p.z+off))with
 |none=>
  have ajE:ys=[]∧u (i*p.z+off)= .slice none 0 0:=by
   rcases hR with hR|⟨z,b',c,e,cells,h1,_⟩
   ·exact hR
   ·rw[h1]at hb;cases hb
  have uh:ca E (.s k) (.ow p' (some (i,off)) xs):=⟨hl,ho,hs,lV,u,X5,Np,by rw[hpz];exact⟨fun q r ys hq _=>hn.1 q r ys hq (fun hh=>hh),fun q q' r r' ys C9 b hq uV _ _=>hn.2 q q' r r' ys C9 b hq uV (fun hh=>hh) (fun hh=>hh)⟩⟩
  have hx:=h.xW (T:=bh (.n k)) (Ext.refl (fun _=>False) E) (fun _ hf=>hf.elim) qs h.wf (w':=w) h.heap (iz.refl _) (fun _ _ hf=>hf.elim) (cR k (.ow p' (some (i,off)) xs) (eN (bh (.n k)) s.b)) s.g s.nx
   (fun d ob hd=>by
    rcases Bl hd with⟨rfl,rfl⟩|⟨cM,y,hy,rfl⟩
    ·exact .inr uh
    ·exact .inl ⟨y,hy,rfl,(fun hf=>hf),fun hf=>hf⟩)
   (fun d hl=>by
    rw[aF]
    by_cases hk:k=d
    ·exact⟨_,by rw[if_pos hk]⟩
    ·rw[if_neg hk,cw]
     obtain⟨ob,ho⟩:=h.lv d hl
     exact⟨_,by rw[ho];rfl⟩)
   (fun j ob hj=> .inl ⟨hj,fun hf=>hf⟩) (fun j=>h.gl j) h.gk h.ng
  exact⟨E,hx,by rw[ajE.1,ajE.2];exact .sX _ _⟩
 |some b0=>
  obtain⟨uh,aU⟩:=ss hR hb
  have hE:Ext (fun o=>o= .tok (.n k)) E (E.sy b0 t):=
   ⟨Nat.le_refl _,fun _ _ h=>⟨h,rfl,rfl⟩,fun _ h=>⟨h,rfl,rfl⟩,fun b hb cM=>⟨by simp only[Env.sy];rw[if_neg (fun e=>by subst e;exact cM uh)],rfl,fun _=>Iff.rfl,rfl⟩⟩
  have hT: ∀t',(fun o=>o=Own.tok (.n k)) (.tok t')→bh (.n k) t'=true:=fun t' ht=>(lq _ _).2 (by cases ht;rfl)
  have cz: ∀{a:AV} {x:Value},cm a=true→Cz E a x→Cz (E.sy b0 t) a x:=fun{a x} hi hc=>(hc.ext hE h.wf _ hT).2 hi
  have pz:E.m (.s k)≠b0:=fun e=>by rw[e,uh]at ho;cases ho
  have ao7:ca (E.sy b0 t) (.s k) (.ow p' (some (i,off)) xs):=by
   refine⟨hl,by simp only[Env.sy];rw[if_neg pz];exact ho,hs,lV,u,X5,fun q a ha=>cz (lV q a ha) (Np q a ha),?_,fun q q' r r' ys C9 b hq uV _ _=>hn.2 q q' r r' ys C9 b hq uV (fun hh=>hh) (fun hh=>hh)⟩
   intro q' r' C9 uV tz
   rw[hpz]at tz
   refine(hn.1 q' r' C9 uV (fun hh=>hh)).sy fun e=>?_
   exact hn.2 (i*p.z+off) q' r r' ys C9 b0 hq uV (fun hh=>hh) (fun hh=>hh) (fun e=>tz e.symm) hb e
  have hx:=h.xW (T:=bh (.n k)) hE hT (fun o ho=>by subst ho;left;rfl) ⟨h.wf.aN,fun b hb=>by
    simp only[Env.sy]at hb
    by_cases e:b=b0
    ·subst e;exact aU
    ·rw[if_neg e]at hb;exact h.wf.own b hb,h.wf.fz⟩ (w':=w) h.heap (iz.refl _)
   (fun b hb hc=>by have:=h.xz b hb;rw[hc]at this;cases this) (cR k (.ow p' (some (i,off)) xs) (eN (bh (.n k)) s.b)) s.g s.nx
   (fun d ob hd=>by
    rcases Bl hd with⟨rfl,rfl⟩|⟨cM,y,hy,rfl⟩
    ·exact .inr ao7
    ·exact .inl ⟨y,hy,rfl,(fun hf=>by cases hf),fun hf=>cM (by injection hf with hf;injection hf)⟩)
   (fun d hl=>by
    rw[aF]
    by_cases hk:k=d
    ·exact⟨_,by rw[if_pos hk]⟩
    ·rw[if_neg hk,cw]
     obtain⟨ob,ho⟩:=h.lv d hl
     exact⟨_,by rw[ho];rfl⟩)
   (fun j ob hj=> .inl ⟨hj,fun hf=>by cases hf⟩) (fun j=>h.gl j) h.gk (fun b=>by
    have:=h.ng b
    simp only[Env.sy]
    split
    ·exact jg _
    ·exact this)
  exact⟨_,hx,KS (cz rfl Nh) (hR.own hb)⟩
theorem P3(hL:bn P L){t:Nat}{ti:TI}(ht:L t=some ti)(hz:ti.size=1)(sW:ti.agg=false){b o:Nat}{v:Value}(hc:aR w.heap b o=some v):(Instr.loadAt t (.pointer (some ⟨b,o,none⟩))).run P w= .ok v w:=by
 have jl:part ti [.v v] 0=some (.v v):=by unfold part;rw[hz,sW];rfl
 obtain⟨x,h1,h2⟩:=iV (P:=P) (E:=⟨w.heap,fun _ _=>False,fun _=>0,fun _=>0,fun _=>False,fun _=>(0,0),fun _=> .Tu,[]⟩) (w:=w) hL ht (b:=b) (o:=o) jl (fun q a' ha=>by
  cases q with
  |zero=>simp at ha;subst ha;exact⟨v,by simpa using hc,.v _⟩
  |succ q=>simp at ha)
 cases h2
 simpa using h1
theorem PA{ti:TI}{e:Nat}(h:ti.k= .slice e):ti.agg=false:=by unfold TI.agg;rw[h]
theorem Bh(hL:bn P C.L)(h:bq E0 E w0 w s a){o:Oper}{t d:Nat}{x:Operand}(he:o.op= .load t x){K:bf}(hk:Re C t d (bL s [] x) s K):Ln P E0 w0 w a o s [] K:=by
 unfold Re at hk
 split at hk
 ·rename_i ti k i off z ug dG
  split at hk
  ·rename_i e z' xs kO e8
   obtain⟨cs,r,ys,⟨e0,e1,e2,e3⟩,hk⟩:=hk
   subst e0
   have hx:=h.ev (p:=[]) trivial x
   rw[dG]at hx
   cases dS:a.eval x<;>rw[dS]at hx<;>cases hx
   obtain⟨hl,ho,hs,lV,u,Fy,hq,uK⟩:=h.bx k _ e8
   have Ql:=Fy
   obtain⟨dV,hz,ke,hle,hm,c,e1',hb,du,hu⟩:=Fy
   have Ei:cs.length=z:=hz cs (List.mem_of_getElem? e1)
   have vU:off<z:=by rw[←Ei];exact(List.getElem?_eq_some_iff.1 e2).1
   have fB:xs.flatten[i*z+off]? =some (.sl r ys):=by rw[dH hz e1 off vU];exact e2
   obtain⟨E',g1,g2⟩:=AJ h e8 Ql hq uK (p':= .sl z) fB (.l (C.base+d)) rfl Ql
   refine⟨_,_,E',hk,g1,fun q=>(lF (s:=s.qd (bh (.n k))) (s':={s with t:=fG (bh (.n k)) s.t,b:=cR k (.ow (.sl z) (some (i,off)) xs) (eN (bh (.n k)) s.b),up:=mg (bh (.n k)) s.up}) (fun _ _=>rfl)).trans (ig (bh (.n k))),fun _=>⟨u (i*z+off),?_,g2⟩⟩
   simp only[execOp,he,dS]
   simp[P3 (w:=w) hL ug e3 (PA kO) (b:=E.m (.s k)) (o:=i*z+off) (v:=u (i*z+off)) (by simp[aR,h.heap,hb,hu _ _ fB])]
  ·exact hk.elim
 ·exact hk.elim
theorem Ke{k z i off r:Nat}{xs xs':List (List AV)}{u:Nat→Value}{ys:List (List AV)}{v:Value}(hn:FO E (.n k) z (some (i,off)) xs u)(fB: ∀q',xs'.flatten[q']? =if q'=i*z+off then(if q'<xs.flatten.length then some (.sl r ys)else none)else xs.flatten[q']?)
  (hr:rP E' (.n k) r ys v)(hE: ∀b,E.own b= .tok (.n k)→b<E.h.size→E'.own b= .tok (.n k)∧E'.h[b]? =E.h[b]? ∧(∀o,E'.aN b o↔E.aN b o)∧E'.dx b=E.dx b)(hv: ∀b,EM v=some b→E.own b≠ .tok (.n k)):
  FO E' (.n k) z none xs' (fun q'=>if q'=i*z+off then v else u q'):=by
 have pB: ∀(q' r':Nat) (C9:List (List AV)),xs'.flatten[q']? =some (.sl r' C9)→(q'=i*z+off∧r'=r∧C9=ys)∨(q'≠i*z+off∧xs.flatten[q']? =some (.sl r' C9)):=fun q' r' C9 hq=>by
  rw[fB]at hq
  by_cases e:q'=i*z+off
  ·rw[if_pos e]at hq
   split at hq
   ·cases hq;exact .inl ⟨e,rfl,rfl⟩
   ·cases hq
  ·rw[if_neg e]at hq;exact .inr ⟨e,hq⟩
 refine⟨fun q' r' C9 hq _=>?_,fun q1 q2 r1 r2 ys1 ys2 b hq1 hq2 _ _ cM hb Cn=>?_⟩
 ·rcases pB q' r' C9 hq with⟨e,rfl,rfl⟩|⟨e,h1⟩
  ·dsimp only;rw[if_pos e];exact hr
  ·dsimp only;rw[if_neg e];exact(hn.1 q' r' C9 h1 e).mono hE
 ·dsimp only at hb Cn
  rcases pB q1 _ _ hq1 with⟨e,rfl,rfl⟩|⟨e,h1⟩
  ·rcases pB q2 _ _ hq2 with⟨e',rfl,rfl⟩|⟨e',Q0⟩
   ·exact cM (e.trans e'.symm)
   ·rw[if_pos e]at hb;rw[if_neg e']at Cn
    exact hv b hb (ss (hn.1 q2 _ _ Q0 e') Cn).1
  ·rcases pB q2 _ _ hq2 with⟨e',rfl,rfl⟩|⟨e',Q0⟩
   ·rw[if_neg e]at hb;rw[if_pos e']at Cn
    exact hv b Cn (ss (hn.1 q1 _ _ h1 e) hb).1
   ·rw[if_neg e]at hb;rw[if_neg e']at Cn
    exact hn.2 q1 q2 r1 r2 ys1 ys2 b h1 Q0 e e' cM hb Cn
theorem Dt{l:List AV}{o:Nat}{x:AV}(ho:o<l.length)(q:Nat):(bD l o [x])[q]? =if q=o then some x else l[q]? :=by
 rw[xP (by simp;omega)]
 by_cases h:q=o
 ·subst h;rw[if_pos ⟨Nat.le_refl _,by simp⟩,if_pos rfl];simp
 ·rw[if_neg h,if_neg (by simp;omega)]
theorem Jg(hL:bn P C.L)(hI:C.I=al)(h:bq E0 E w0 w s a){o:Oper}{t:Nat}{x y:Operand}(he:o.op= .store t x y){d i off z r:Nat}{tk:Tok}{ys:List (List AV)}(hx0:bL s [] x= .cG (.s d) i off z)(hy0:bL s [] y= .gs r tk ys){ti:TI}(ug:C.L t=some ti)(ajs:ti.size=1){K:bf}{Q:Exit→Act→World→Prop}
  (hk:NU C d i off z r tk ys s K):lj P o a w (fC E0 w0 o a K) Q:=by
 unfold NU at hk
 split at hk
 ·rename_i z' j Xu xs e8
  obtain⟨OI,e0,zs,⟨e1,e2,cs,e3,e4,e5⟩,hk⟩:=hk
  subst e0;subst e1;subst e2
  rw[hI]at e5
  have e5:xs.set i (bD cs off [.sl r ys])=zs:=e5
  subst e5
  have hx:=h.ev (p:=[]) trivial x
  rw[hx0]at hx
  cases dS:a.eval x<;>rw[dS]at hx<;>cases hx
  have hy:=h.ev (p:=[]) trivial y
  rw[hy0]at hy
  generalize hav:a.eval y=v at hy
  obtain⟨hl,ho,hs,lV,u,⟨dV,hz,ke,hle,hm,c,e1',hb,du,hu⟩,hq,uK⟩:=h.bx d _ e8
  have fB:=aD hz
  have Cm:i<xs.length:=(List.getElem?_eq_some_iff.1 e3).1
  have Ei:cs.length=z:=hz cs (List.mem_of_getElem? e3)
  have hmul:i*z+z≤xs.length*z:=by rw[←Nat.succ_mul];exact Nat.mul_le_mul_right _ Cm
  have Nq:xs.length*z≤c.size:=by rw[du,ke];exact Nat.mul_le_mul_right _ hle
  have hvc:v.cells= #[v]:=by cases hy<;>rfl
  have hv1:rR v=true:=by cases hy<;>rfl
  have T4:tk≠ .n d:=fun e=>by subst e;cases OI
  have h1:=h.cV tk (.n d) OI
  have zt:=hy.cV (t':= .n d) h.wf
  have Nl:look d (eN (bh tk) s.b)=some (.ow (.sl z) (some (i,off)) xs):=by rw[cw,e8];rfl
  have ho1:(E.cV tk (.n d)).own ((E.cV tk (.n d)).m (.s d))= .key (.s d):=(su (by rw[show(E.cV tk (.n d)).m (.s d)=E.m (.s d)from rfl,ho];simp)).trans ho
  obtain⟨w',g1,g2,g3⟩:=run_store (w:=w) hL ug (b:=E.m (.s d)) (off:=i*z+off) (e:=e1') (c:=c) (v:=v) (by rw[h.heap];exact hb) (by rw[hvc,ajs];rfl) (by omega) (fun x hx=>by rw[hvc]at hx;simp at hx;rw[hx];exact hv1)
  have Uq:(v.cells.toList.zipIdx.foldl (fun cs (x,j)=>cs.setIfInBounds (i*z+off+j) x) c)=c.setIfInBounds (i*z+off) v:=by rw[hvc];rfl
  rw[Uq]at g2
  have hE:=ib (E:=E.cV tk (.n d)) ho1 hs (.cells (c.setIfInBounds (i*z+off) v) e1' (0,0))
  have cz1: ∀{a:AV} {x:Value},cm a=true→Cz E a x→Cz (E.cV tk (.n d)) a x:=fun{a x} hi hc=>(hc.ext (sw tk (.n d)) h.wf (bh tk) (fun q' uV=>(lq _ _).2 (by cases uV;rfl))).2 hi
  have cz2: ∀{a:AV} {x:Value},Cz (E.cV tk (.n d)) a x→Cz ((E.cV tk (.n d)).write (.s d) (.cells (c.setIfInBounds (i*z+off) v) e1' (0,0))) a x:=fun{a x} hc=>by
   have:=(hc.ext hE h1.wf (fun _=>false) (eY _)).1
   rwa [jY (fun _=>rfl)]at this
  have hxl: ∀l∈xs.set i (bD cs off [.sl r ys]),l.length=z:=fun l tz=>by
   rcases List.mem_or_eq_of_mem_set tz with h1|h1
   ·exact hz l h1
   ·rw[h1,kq (by simp;omega)];exact Ei
  have Cl:(xs.set i (bD cs off [.sl r ys])).flatten=bD xs.flatten (i*z+off) [.sl r ys]:=rG hz e3 (by simp;omega)
  have xj: ∀q',(xs.set i (bD cs off [.sl r ys])).flatten[q']? =if q'=i*z+off then some (.sl r ys)else xs.flatten[q']? :=fun q'=>by
   rw[Cl];exact Dt (by omega) q'
  have zy:E.m (.s d)<E.h.size:=(Array.getElem?_eq_some_iff.1 hb).1
  have uh:ca ((E.cV tk (.n d)).write (.s d) (.cells (c.setIfInBounds (i*z+off) v) e1' (0,0))) (.s d) (.ow (.sl z) none (xs.set i (bD cs off [.sl r ys]))):=by
   refine⟨hl,ho1,hs,fun q' a' ha=>?_,fun q'=>if q'=i*z+off then v else u q',⟨dV,hxl,(List.length_set ..).trans ke,hle,hm,c.setIfInBounds (i*z+off) v,e1',?_,(Array.size_setIfInBounds ..).trans du,fun q' a' ha=>?_⟩,fun q' a' ha=>?_,?_⟩
   ·rw[xj]at ha
    split at ha
    ·cases ha;rfl
    ·exact lV q' a' ha
   ·have:(E.cV tk (.n d)).m (.s d)=E.m (.s d):=rfl
    simp only[Env.write]
    rw[this]
    exact Array.getElem?_setIfInBounds_self_of_lt zy
   ·rw[xj]at ha
    dsimp only
    by_cases e:q'=i*z+off
    ·rw[if_pos e,e];exact Array.getElem?_setIfInBounds_self_of_lt (by omega)
    ·rw[if_neg e]at ha ⊢
     rw[Array.getElem?_setIfInBounds_ne (fun hh=>e hh.symm)];exact hu q' a' ha
   ·rw[xj]at ha
    dsimp only
    by_cases e:q'=i*z+off
    ·rw[if_pos e]at ha ⊢;cases ha;exact cz2 zt.read
    ·rw[if_neg e]at ha ⊢;exact cz2 (cz1 (lV q' a' ha) (hq q' a' ha))
   ·refine Ke (z:=z) (r:=r) (ys:=ys) uK (fun q'=>?_) ?_ (fun b hb aU=>?_) (fun b hbv=>?_)
    ·rw[xj]
     by_cases e:q'=i*z+off
     ·rw[if_pos e,if_pos e,if_pos (by omega)]
     ·rw[if_neg e,if_neg e]
    ·exact rq (cz2 zt)
    ·have cM:b≠E.m (.s d):=fun e=>by rw[e,ho]at hb;cases hb
     refine⟨(su (by rw[hb];intro e;injection e with e;exact T4 e.symm)).trans hb,?_,fun _=>Iff.rfl,rfl⟩
     show(E.h.setIfInBounds (E.m (.s d)) _)[b]? =_
     rw[Array.getElem?_setIfInBounds_ne (Ne.symm cM)]
    ·intro e
     have:=(ss (rq hy) hbv).1
     rw[this]at e;injection e with e;exact T4 e
  refine vh (w':=w') ?_ ⟨_,_,_,hk,h1.pX Nl uh g2 g3 ho1 hs,.any _⟩
  simp only[execOp,he,dS,hav]
  simp[g1]
 ·exact hk.elim
end Ab
namespace Ab
open Go
variable{P:Program}{L:nO}{s:St}{p:Path}{C:dj}{K:bf}
theorem Jc{I:Pr}{ti:TI}{d i off z:Nat}{a:AV}(h:G3 I ti d i off z a s K):yI I ti d i off z a s K:=by
 unfold G3 at h
 unfold yI
 split at h
 ·rename_i z' xs hl
  try rw[hl]
  obtain⟨zs,⟨cs,k1,k2,k3,k4,rfl⟩,h2⟩:=h
  exact⟨cs,k1,k2,k3,k4,h2⟩
 ·exact h.elim
theorem Jb{I:Pr}{ti:TI}{d off:Nat}{a:AV}(h:G0 I ti d off a s K):pC I ti d off a s K:=by
 unfold G0 at h
 unfold pC
 cases hl:look d s.b with
 |none=>rw[hl]at h;unfold pC at h;rw[hl]at h;exact h
 |some o=>
  rw[hl]at h
  cases o with
  |arr z xs=>
   dsimp only at h ⊢
   split at h
   ·obtain⟨zs,⟨k1,k2,k3,k4,rfl⟩,h2⟩:=h
    exact⟨k1,k2,k3,k4,h2⟩
   ·exact h.elim
  |_=>dsimp only at h;unfold pC at h;rw[hl]at h;exact h
theorem LG{t:Nat}{x a:AV}(h:G4 C t x a s K):Hj C t x a s K:=by
 unfold G4 at h
 unfold Hj
 split at h
 ·rename_i ti k h1 h2
  try rw[h1,h2]
  obtain⟨k1,k2,k3⟩:=h
  refine⟨k1,k2,?_⟩
  split at k3
  ·exact Jb k3
  ·exact Jc k3
  ·exact k3.elim
 ·exact h.elim
theorem Pl(hI:C.I=al){t d:Nat}{n m:Int}(h:Rd C t d n m s K):NY C t d n m s K:=by
 unfold Rd at h
 unfold NY
 split at h
 ·rename_i e ti h1 h2
  try rw[h1,h2]
  obtain⟨xs,j,⟨k1,k2,k3,rfl,rfl⟩,h4⟩:=h
  exact⟨k1,k2,k3,h4⟩
 ·exact h.elim
theorem Jh(hI:C.I=al){t d:Nat}{x y:AV}(h:Hb C t d x y s K):yJ C t d x y s K:=by
 unfold Hb at h
 unfold yJ
 split at h
 ·rename_i e ti r ys h1 h2
  try rw[h1,h2]
  try dsimp only
  split at h
  ·obtain⟨k0,zs,⟨k1,k2,rfl⟩,h3⟩:=h
   exact⟨k0,k1,k2,h3⟩
  ·obtain⟨zs,⟨k1,k2,k3⟩,h3⟩:=h
   have:ys=zs:=by rw[←k3,hI];simp[al]
   subst this
   refine⟨?_,h3⟩
   have h0:C.I.eR []=0:=by rw[hI];rfl
   rw[h0]at k1
   exact k1
  ·exact h.elim
 ·exact h.elim
theorem BQ: ∀{xs:List (List AV)} {q:Nat} {a:AV},(∀l∈xs,l.length=1)→xs[q]? =some [a]→xs.flatten[q]? =some a
 |[],q,a,_,h=>by simp at h
 |l::r,q,a,hz,h=>by
  have hl:=hz l (by simp)
  rw[List.flatten_cons]
  cases q with
  |zero=>simp at h;subst h;simp
  |succ q=>
   rw[List.getElem?_append_right (by omega),hl]
   exact BQ (xs:=r) (fun l' tz=>hz l' (by simp[tz])) (by simpa using h)
theorem LI{t:Nat}{n:Int}{x:AV}(h:G8 C p t n x s K):Hm C p t n x s K∨(∃(b:ByteArray) (z:Int),x= .v (.string b)∧isStr C.L t=true∧under s p (0≤n∧ ∃c:UInt8,b[n.toNat]? =some c∧(c.toNat:Int)=z)∧K (.v (.int .u8 z)) s)∨
  ∃(m e:Nat) (xs:List (List AV)) (ti tj:TI) (b:AV),x= .ar m 1 xs∧C.L t=some ti∧ti.k= .arr m e∧C.L e=some tj∧tj.size=1∧tj.agg=false∧under s p (0≤n∧xs[n.toNat]? =some [b])∧K b s:=by
 unfold G8 at h
 split at h
 ·rename_i b
  cases hs:isStr C.L t with
  |false=>rw[hs]at h;exact h.elim
  |true=>
   rw[hs,cond_true]at h
   obtain⟨z,h1,h2⟩:=h
   exact .inr (.inl ⟨b,z,rfl,rfl,h1,h2⟩)
 ·rename_i m z xs
  split at h
  ·rename_i ti ug
   split at h
   ·rename_i m' e hk
    split at h
    ·rename_i tj Ng
     cases hb:cS tj.size 1&&(!tj.agg&&(cS m m'&&cS z 1))with
     |false=>rw[hb]at h;exact h.elim
     |true=>
      rw[hb,cond_true]at h
      simp only[Bool.and_eq_true,Bool.not_eq_true']at hb
      obtain⟨b,h1,h2⟩:=h
      obtain⟨b1,b2,b3,b4⟩:=hb
      have e1:=dg b1
      have e3:=dg b3
      have e4:=dg b4
      subst e3;subst e4
      exact .inr (.inr ⟨m,e,xs,ti,tj,b,rfl,ug,hk,Ng,e1,b2,h1,h2⟩)
    ·exact h.elim
   ·exact h.elim
  ·exact h.elim
 ·exact .inl h
theorem tO{I:Pr}{o:Op}{r:AV}(h:BB I L s p o=some r):rV I L s p o=some r:=by
 unfold BB at h
 cases hb:isLen o with
 |true=>rw[hb]at h;cases h
 |false=>rw[hb]at h;exact h
theorem Kp{I:Pr}{c:Call}{k:IntKind}{m:Int}(hc:c.callee= .builtin .len)(h:J6 I L .len c.argTypes.toList (c.args.toList.map (bL s p))=some (.v (.int k m))):rV I L s p (.call c)=some (.v (.int k m)):=by
 simp only[rV,hc]
 exact h
variable{E0 E:Env}{w0 w:World}{a:Act}
theorem fF{x y:AV}{v:Value}(hw:NX x y)(h:Cz E x v):Cz E y v:=by
 unfold NX at hw
 split at hw
 ·exact .any _
 ·subst hw;have:=bG h;subst this;exact .sX _ _
 ·subst hw;have:=bG h;subst this;exact .nA _ _ _
 ·obtain⟨rfl,rfl⟩:=hw;exact h.read
 ·subst hw;exact h
theorem wK: ∀{cs cs':List AV},ZV cs cs'→cs.length=cs'.length∧ ∀(q:Nat) (a:AV),cs'[q]? =some a→ ∃a0,cs[q]? =some a0∧NX a0 a
 |[],[],_=>⟨rfl,fun q a h=>by simp at h⟩
 |x::r,y::r',h=>by
  obtain⟨h1,h2⟩:=h
  obtain⟨h3,h4⟩:=wK h2
  refine⟨by simp[h3],fun q a hq=>?_⟩
  cases q with
  |zero=>simp at hq;subst hq;exact⟨x,by simp,h1⟩
  |succ q=>obtain⟨a0,h5,h6⟩:=h4 q a (by simpa using hq);exact⟨a0,by simpa using h5,h6⟩
 |[],_::_,h=>h.elim
 |_::_,[],h=>h.elim
theorem Dk: ∀{xs zs:List (List AV)},wkL xs zs→xs.length=zs.length∧(∀(n:Nat) (z:List AV),zs[n]? =some z→ ∃x,xs[n]? =some x∧x.length=z.length)∧xs.flatten.length=zs.flatten.length∧
  ∀(q:Nat) (a:AV),zs.flatten[q]? =some a→cm a=true∧ ∃a0,xs.flatten[q]? =some a0∧NX a0 a
 |[],[],_=>⟨rfl,fun n z h=>by simp at h,rfl,fun q a h=>by simp at h⟩
 |x::r,y::r',h=>by
  obtain⟨⟨h1,h2⟩,h3⟩:=h
  obtain⟨g1,g2,g3,g4⟩:=Dk h3
  obtain⟨k1,k2⟩:=wK h1
  refine⟨by simp[g1],fun n z hn=>?_,by simp[k1,g3],fun q a hq=>?_⟩
  ·cases n with
   |zero=>simp at hn;subst hn;exact⟨x,by simp,k1⟩
   |succ n=>obtain⟨x',e1,e2⟩:=g2 n z (by simpa using hn);exact⟨x',by simpa using e1,e2⟩
  ·rw[List.flatten_cons]at hq
   by_cases aU:q<y.length
   ·rw[List.getElem?_append_left aU]at hq
    obtain⟨a0,e1,e2⟩:=k2 q a hq
    exact⟨bj h2 q a hq,a0,by rw[List.flatten_cons,List.getElem?_append_left (by omega)];exact e1,e2⟩
   ·rw[List.getElem?_append_right (by omega)]at hq
    obtain⟨hi,a0,e1,e2⟩:=g4 _ a hq
    exact⟨hi,a0,by rw[List.flatten_cons,List.getElem?_append_right (by omega),k1];exact e1,e2⟩
 |[],_::_,h=>h.elim
 |_::_,[],h=>h.elim
theorem Cz.aj9{r:Nat}{t:Tok}{xs zs:List (List AV)}{x:Value}(h:Cz E (.gs r t xs) x)(hw:wkL xs zs):Cz E (.gs r t zs) x:=by
 obtain⟨g1,g2,g3,g4⟩:=Dk hw
 cases h with
 |sX=>
  have:zs=[]:=List.eq_nil_of_length_eq_zero (by rw[←g1];rfl)
  subst this;exact .sX _ _
 |gs _ _ _ z b c e cells u hc hm h0 dV hz hr hb du ho fY hi hu hq=>
  rw[g1]at hc h0 fY ⊢
  refine .gs r t zs z b c e cells u hc hm h0 dV (fun l hl=>?_) hr hb du ho fY (fun q a ha=>(g4 q a ha).1) (fun q a ha=>?_) (fun q a ha=>?_)
  ·obtain⟨n,hn⟩:=List.getElem?_of_mem hl
   obtain⟨x,e1,e2⟩:=g2 n l hn
   rw[←e2];exact hz x (List.mem_of_getElem? e1)
  ·obtain⟨_,a0,e1,e2⟩:=g4 q a ha
   exact hu q a0 e1
  ·obtain⟨_,a0,e1,e2⟩:=g4 q a ha
   exact fF e2 (hq q a0 e1)
def Kwk(K:bf):bf:=fun r s=> ∃r',(∀E x,Cz E r x→Cz E r' x)∧K r' s
theorem uF{t len d:Nat}{parts:List (Nat×Operand)}(h:ve C p t len d parts s K):rm C p t len d parts s (Kwk K):=by
 unfold ve at h
 unfold rm
 split at h
 ·rename_i e ti h1
  try rw[h1]
  try dsimp only
  split at h
  ·rename_i s1 h2
   try rw[h2]
   try dsimp only
   split at h
   ·rename_i cs h3
    try rw[h3]
    try dsimp only
    cases hb:bZ cs&&(lL 1 ti.size&&lL (len*ti.size) 16777216)with
    |true=>rw[hb,cond_true]at h;rw[cond_true];obtain⟨zs,⟨ws,k1,rfl⟩,h4⟩:=h;exact⟨_,fun E x hx=>hx.aj9 k1,h4⟩
    |false=>rw[hb]at h;exact h.elim
   ·exact h.elim
  ·exact h.elim
 ·exact h.elim
theorem ca.agG{k:Key}{z:Nat}{xs zs:List (List AV)}(h:ca E k (.arr z xs))(hw:wkL xs zs):ca E k (.arr z zs):=by
 obtain⟨g1,g2,g3,g4⟩:=Dk hw
 obtain⟨h1,h2,h3,h4,h5,c,e,h6,h7,h8,h9,Ah,Iw⟩:=h
 refine⟨h1,by rw[←g1];exact h2,h3,fun l hl=>?_,by rw[←g1];exact h5,c,e,h6,h7,h8,by rw[←g1];exact h9,fun q a ha=>(g4 q a ha).1,fun q a x ha hx=>?_⟩
 ·obtain⟨n,hn⟩:=List.getElem?_of_mem hl
  obtain⟨x,e1,e2⟩:=g2 n l hn
  rw[←e2];exact h4 x (List.mem_of_getElem? e1)
 ·obtain⟨_,a0,e1,e2⟩:=g4 q a ha
  exact fF e2 (Iw q a0 x e1 hx)
theorem Fc(hL:bn P C.L)(h:bq E0 E w0 w s a){o:Oper}{t len:Nat}{parts:Array (Nat×Operand)}(he:o.op= .buildSlice t len parts){d:Nat}{Q:Exit→Act→World→Prop}(hk:Ha C t len d parts.toList s K):lj P o a w (fC E0 w0 o a K) Q:=by
 unfold Ha at hk
 generalize C.base+d=d at hk
 cases sn:elemOf C.L t with
 |none=>rw[sn]at hk;exact hk.elim
 |some et=>
  obtain⟨e,ti⟩:=et
  rw[sn]at hk
  obtain⟨hu,KR,i,i1,i2,i3,zv,i4,i5⟩:=gA hL sn
  cases e8:look d s.b with
  |some _=>rw[e8]at hk;exact hk.elim
  |none=>
   rw[e8]at hk
   dsimp only at hk
   cases hf:om ti.size ((List.replicate len (ti.zero.map AV.v)).flatten) (parts.toList.map fun q=>(q.1,rd (bL s [] q.2)))with
   |none=>rw[hf]at hk;exact hk.elim
   |some cs=>
    rw[hf]at hk
    dsimp only at hk
    cases hb:bZ cs&&(lL 1 ti.size&&lL (len*ti.size) 16777216)with
    |false=>rw[hb]at hk;exact hk.elim
    |true=>
     rw[hb,cond_true]at hk
     simp only[Bool.and_eq_true]at hb
     have b2:1≤ti.size:=by simpa using hb.2.1
     have b3:len*ti.size≤16777216:=by simpa using hb.2.2
     have hll:len≤len*ti.size:=Nat.le_mul_of_pos_right _ b2
     have Af:=(hL.ok e ti KR).Lz
     obtain⟨zs,⟨ws,k0,rfl⟩,hk⟩:=hk
     have Ni:wD E (parts.toList.map fun q=>(q.1,rd (bL s [] q.2))) (parts.toList.map fun q=>(q.1,a.eval q.2)):=by
      refine⟨by simp,fun q x y hx hy=>?_⟩
      simp only[List.getElem?_map]at hx hy
      cases hq:parts.toList[q]? with
      |none=>rw[hq]at hx;simp at hx
      |some zz=>rw[hq]at hx hy;simp at hx hy;subst hx;subst hy;exact⟨rfl,(h.ev (p:=[]) trivial _).giveUp h.wf _⟩
     obtain⟨c',k1,k2⟩:=vZ Ni (FP i5 Af len) hf
     have hlen:cs.length=len*ti.size:=by
      rw[A4 hf,aD (z:=ti.size) (fun x hx=>by rw[(List.mem_replicate.1 hx).2];simp[Af])]
      simp
     have zx: ¬E.live (.s d):=fun tz=>by obtain⟨ob,ho⟩:=h.lv d tz;rw[e8]at ho;cases ho
     have eH:=vm (P:=P) hu i1 i4 (by omega) (len:=len) (by rw[i2];exact b3) (vs:=parts.map fun q=>(q.1,a.eval q.2)) (c':=c') (by rw[i2,←k1];congr 1;simp) w
     have Nj:(parts.map fun(i,x)=>(i,a.eval x))=parts.map fun q=>(q.1,a.eval q.2):=rfl
     have uh:=BZ h (k:= .s d) zx (z:=ti.size) (n:=len) (cs:=cs) (c:=c') (by omega) (by unfold maxLen;omega) hlen hb.1 k2 e
     refine cP (x:= .slice (some ⟨w.heap.size,0,none⟩) len len) (w':=w.alloc _) ?_ ⟨_,_,_,hk,h.Tw e8 (uh.agG k0),?_⟩
     ·simp only[execOp,he,Nj]
      simp[eH]
     ·have hmk:(E.addKey (.s d) (.cells c' e (0,0)) len).m (.s d)=w.heap.size:=by simp[Env.addKey,h.heap]
      have:=Cz.ia (E:=E.addKey (.s d) (.cells c' e (0,0)) len) (.s d) len (.inl rfl) (by simp[Env.addKey]) (by simp[Env.addKey]) (by simp[Env.addKey];unfold maxLen;omega)
      rw[hmk]at this
      simpa[Env.addKey]using this
theorem tA(hL:bn P C.L)(h:bq E0 E w0 w s a){o:Oper}{t:Nat}{x y:Operand}(he:o.op= .index t x y){n:Int}(hn:intOf (bL s p y)=some n)(hk:G8 C p t n (bL s p x) s K):Reads P E w a o s p K:=by
 have fin: ∀v z k,a.eval x=v→a.eval y= .int k n→(Instr.index t v (.int k n)).run P w= .ok z w→(execOp a.eval o).run P w= .ok (.value z) w:=fun v z k hv hk hy=>by
  simp only[execOp,he,hv,hk]
  simp[hy]
 rcases LI hk with hk|⟨b,z,dG,hs,hb,hk⟩|⟨m,e,xs,ti,tj,b,dG,ug,kO,Ng,zu,Lw,hb,hk⟩
 ·exact Hl hL h he hn hk
 ·refine⟨_,hk,fun hp=>?_⟩
  obtain⟨h0,c,h1,h2⟩:=bF hb hp
  obtain⟨ki,hy⟩:=eG hn h hp
  have hx:=h.ev hp x
  rw[dG]at hx
  refine⟨_,fin _ _ _ (bG hx) hy (yO hL hs ki n b h0 h1 w),?_⟩
  rw[←h2]
  exact .v _
 ·refine⟨_,hk,fun hp=>?_⟩
  obtain⟨h0,h1⟩:=bF hb hp
  obtain⟨ki,hy⟩:=eG hn h hp
  have hx:=h.ev hp x
  rw[dG]at hx
  obtain⟨zt,hnn,hz,hi⟩:=NG hx
  have h2:=BQ hz h1
  have Uf:n.toNat<xs.length:=(List.getElem?_eq_some_iff.1 h1).1
  generalize hv:a.eval x=v at zt
  cases zt with
  |agg _ ys hl hq=>
   have aU:n.toNat<ys.length:=by rw[hl];exact(List.getElem?_eq_some_iff.1 h2).1
   exact⟨ys[n.toNat],fin _ _ _ hv hy (yQ hL ug kO Ng zu Lw ki n _ h0 (by omega) (by simp[aU]) w),hq _ b _ h2 (by simp)⟩
theorem nC{o:Oper}(h1:aY s p→Reads P E w a o s p K)(h2: ¬aY s p→ ∃r,K r s):Reads P E w a o s p K:=by
 by_cases hp:aY s p
 ·exact h1 hp
 ·obtain⟨r,hr⟩:=h2 hp
  exact⟨r,hr,fun h=>absurd h hp⟩
theorem sq{X:Prop}(h:X):under s p X:=by
 unfold under
 split
 ·exact h
 ·exact fun _=>h
theorem xK(hL:bn P C.L)(hI:C.I=al)(h:bq E0 E w0 w s a){o:Oper}{t:Nat}{x y:Operand}(he:o.op= .indexAddr t x y){n:Int}(hn:intOf (bL s p y)=some n)(hk:xIdx C p t n (bL s p x) s K):Reads P E w a o s p K:=by
 have base:=fun hk=>LP (K:=K) (p:=p) hL hI h he hn hk
 by_cases aj6: ∃r z xs,bL s p x= .nc r z xs
 ·obtain⟨r,z,xs,dG⟩:=aj6
  unfold xIdx at hk
  rw[dG]at hk
  dsimp only at hk
  split at hk
  ·rename_i ti ug
   split at hk
   ·rename_i m e kO
    split at hk
    ·rename_i tj Ng
     obtain⟨cs,⟨k1,k2,hb⟩,hk⟩:=hk
     rw[hI]at k1
     have k1:xs.length=m:=k1
     subst k2
     refine⟨_,hk,fun hp=>?_⟩
     obtain⟨h0,h1⟩:=bF hb hp
     obtain⟨ki,hy⟩:=eG hn h hp
     have hx:=h.ev hp x
     rw[dG]at hx
     cases hx with
     |nc _ _ _ _ hz hc=>
     generalize dS:a.eval x=v at hc
     cases hc with
     |aO _ _ _ b o u hr hi fY hu hq=>
     have aU:n.toNat<xs.length:=(List.getElem?_eq_some_iff.1 h1).1
     have iH:cs.length=tj.size:=hz cs (by rw[List.getElem?_eq_getElem aU]at h1;cases h1;simp)
     have hg: ∀(q:Nat) (a:AV),cs[q]? =some a→xs.flatten[n.toNat*tj.size+q]? =some a:=fun q a' ha=>by
      rw[dH hz h1 q (by rw[←iH];exact(List.getElem?_eq_some_iff.1 ha).1)];exact ha
     refine⟨_,?_,Cz.aO (E:=E) r cs 0 b (o+n.toNat*tj.size) (fun q=>u (n.toNat*tj.size+q)) (fun q a' ha=>hr _ a' (hg q a' ha)) (fun q a' ha=>hi _ a' (hg q a' ha)) (fun q a' ha=>by have:=fY _ a' (hg q a' ha);rw[show o+n.toNat*tj.size+q=o+(n.toNat*tj.size+q)from by omega];exact this)
      (fun q a' ha=>by have:=hu _ a' (hg q a' ha);rw[show o+n.toNat*tj.size+q=o+(n.toNat*tj.size+q)from by omega];exact this) (fun q a' ha=>hq _ a' (hg q a' ha))⟩
     have eH:=yP (P:=P) hL ug kO Ng ki n b (o+0) h0 (by omega) w
     simp only[execOp,he,dS,hy]
     simp only[Nat.add_zero]at eH ⊢
     simp[eH]
    ·exact hk.elim
   ·exact hk.elim
  ·exact hk.elim
 unfold xIdx at hk
 split at hk
 ·rename_i k m hx
  split at hk
  ·rename_i e ti sn
   obtain⟨j,h1,h2⟩:=hk
   refine nC (fun hp=>base ?_) (fun _=>⟨_,h2⟩)
   obtain⟨k1,rfl⟩:=bF h1 hp
   unfold Ro
   rw[hx]
   dsimp only
   rw[sn]
   exact⟨sq k1,h2⟩
  ·exact hk.elim
 ·rename_i d off hx
  split at hk
  ·rename_i ti z xs h1 h2
   split at hk
   ·rename_i m e hkd
    split at hk
    ·rename_i tj h3
     obtain⟨j,⟨k1,k2,k3⟩,h4⟩:=hk
     refine nC (fun hp=>base ?_) (fun _=>⟨_,h4⟩)
     obtain⟨k4,rfl⟩:=bF k3 hp
     unfold Ro
     rw[hx]
     dsimp only
     rw[h1,h2]
     dsimp only
     rw[hkd]
     dsimp only
     rw[h3]
     exact⟨k1,k2,sq k4,h4⟩
    ·exact hk.elim
   ·exact hk.elim
  ·exact hk.elim
 ·rename_i hx;exact absurd ⟨_,_,_,hx⟩ aj6
 ·exact base hk
theorem yG(hL:bn P C.L)(hI:C.I=al)(h:bq E0 E w0 w s a){o:Oper}{t:Nat}{x:Operand}{lo hi:Option Operand}(he:o.op= .slice t x lo hi none)(hk:LH C p t lo hi (bL s p x) s K):Reads P E w a o s p K:=by
 have base:=fun hk=>Hk (K:=K) (p:=p) hL hI h he hk
 unfold LH at hk
 split at hk
 ·rename_i b hx
  cases hs:isStr C.L t with
  |false=>rw[hs]at hk;exact hk.elim
  |true=>
   rw[hs,cond_true]at hk
   split at hk
   ·rename_i l k h1 h2
    obtain⟨b',g1,g2⟩:=hk
    refine nC (fun hp=>base ?_) (fun _=>⟨_,g2⟩)
    obtain⟨g3,rfl⟩:=bF g1 hp
    unfold Al
    rw[hx]
    dsimp only
    rw[hs,cond_true,h1,h2]
    exact⟨sq g3,g2⟩
   ·exact hk.elim
 ·rename_i k m hx
  split at hk
  ·rename_i e v h1 h2 h3
   obtain⟨j,g1,g2⟩:=hk
   refine nC (fun hp=>base ?_) (fun _=>⟨_,g2⟩)
   obtain⟨g3,rfl⟩:=bF g1 hp
   unfold Al
   rw[hx]
   dsimp only
   rw[h2,h3]
   exact⟨sq g3,g2⟩
  ·exact hk.elim
 ·rename_i d off hx
  split at hk
  ·rename_i ti z xs h1 h2
   split at hk
   ·rename_i m e hkd
    split at hk
    ·rename_i tj _ h3 h4
     obtain⟨j,⟨k1,k2,k3,k4⟩,h5⟩:=hk
     refine nC (fun hp=>base ?_) (fun _=>⟨_,h5⟩)
     obtain⟨g3,rfl⟩:=bF k4 hp
     unfold Al
     rw[hx]
     dsimp only
     rw[h1,h2]
     dsimp only
     rw[hkd]
     dsimp only
     rw[h3,h4]
     exact⟨k1,k2,k3,sq g3,h5⟩
    ·exact hk.elim
   ·exact hk.elim
  ·exact hk.elim
 ·split at hk
  ·rename_i apb ae3 apa _ _ r xs e ti h1 h2
   split at hk
   ·rename_i l k h3 h4
    obtain⟨zs,g1,g2⟩:=hk
    refine nC (fun hp=>base ?_) (fun _=>⟨_,g2⟩)
    obtain⟨g3,rfl⟩:=bF g1 hp
    unfold Al
    split
    ·rename_i hh;exact absurd hh (apb _)
    ·rename_i hh;exact absurd hh (ae3 _ _)
    ·rename_i hh;exact absurd hh (apa _ _)
    rw[h1,h2]
    dsimp only
    rw[h3,h4]
    exact⟨sq g3,g2⟩
   ·exact hk.elim
  ·exact hk.elim
end Ab
namespace Ab
open Go
variable{P:Program}{L:nO}{E0 E E':Env}{w0 w w':World}{s:St}{a:Act}{p:Path}{C:dj}
open Classical in
noncomputable def kf(k:Value):List MapEntry→Nat→Option (Nat×Value)
 |[],_=>none
 |e::es,i=>if e.key=k then some (i,e.val)else kf k es (i+1)
theorem BU{k:Value}: ∀{es:List MapEntry} {n:Nat},(∀e∈es,e.key≠k)→kf k es n=none
 |[],_,_=>rfl
 |e::es,n,h=>by unfold kf;rw[if_neg (h e (by simp))];exact BU fun e' he=>h e' (by simp[he])
theorem BS{k:Value}: ∀{es:List MapEntry} {n i:Nat} {e:MapEntry},es[i]? =some e→e.key=k→(∀j e',j<i→es[j]? =some e'→e'.key≠k)→kf k es n=some (n+i,e.val)
 |[],n,i,e,h,_,_=>by simp at h
 |x::es,n,0,e,h,hk,_=>by simp at h;subst h;unfold kf;rw[if_pos hk];rfl
 |x::es,n,i+1,e,h,hk,hj=>by
  unfold kf
  rw[if_neg (hj 0 x (by omega) rfl),BS (es:=es) (n:=n+1) (i:=i) (by simpa using h) hk (fun j e' aU hq=>hj (j+1) e' (by omega) (by simpa using hq))]
  congr 2;omega
structure KeyLaw(P:Program)(t:Nat)(ks:List VK):Prop where
 check: ∀kv,bz ks kv=true→ ∀b w,(Instr.checkKey b 10000 t (fx kv)).run P w= .ok () w
 find: ∀kv (es:List MapEntry),bz ks kv=true→(∀e∈es,∃Ae,bz ks Ae=true∧e.key=fx Ae)→ ∀w,(Instr.findKey t (fx kv) es).run P w= .ok (kf (fx kv) es 0) w
 same: ∀kv,bz ks kv=true→Instr.sameBits 10000 (fx kv) (fx kv)=true
structure tl(P:Program)(t:Nat)(ks:List VK):Prop where
 eq: ∀xs ys:List Value,bz ks xs=true→bz ks ys=true→ ∃b:Bool,(b=true↔xs=ys)∧ ∀w,(Op.equalIn 10000 t (.agg xs.toArray) (.agg ys.toArray)).run P w= .ok b w
 guard:P.eqGuardType P.depth t=false
theorem ir: ∀{ks:List VK} {kv:List Value},bz ks kv=true→kv.length=ks.length
 |[],[],_=>rfl
 |k::r,x::q,h=>by
  have:bz r q=true:=by
   cases k<;>cases x<;>simp_all [bz]
  simp[ir this]
 |[],_::_,h=>by simp[bz]at h
 |k::_,[],h=>by cases k<;>simp[bz]at h
theorem zE: ∀{ks:List VK} {cs:List AV},np ks cs=true→ ∃kv:List Value,cs=kv.map .v∧bz ks kv=true
 |[],[],_=>⟨[],rfl,rfl⟩
 |[],_::_,h=>by simp[np]at h
 |k::r,[],h=>by cases k<;>simp[np]at h
 |k::r,c0::cs0,h=>by
  generalize I6:c0::cs0=cs at h ⊢
  unfold np at h
  split at h
  ·rename_i h1;exact absurd h1 (by simp)
  ·rename_i k' r' k2 n q h1
   injection h1 with e1 e2;subst e1;subst e2
   simp only[Bool.and_eq_true]at h
   obtain⟨kv,rfl,h3⟩:=zE h.2
   exact⟨.int k2 n::kv,rfl,by simp[bz,h3];simpa using h.1⟩
  ·rename_i r' b q h1
   injection h1 with e1 e2;subst e1;subst e2
   obtain⟨kv,rfl,h3⟩:=zE h
   exact⟨.string b::kv,rfl,by simpa[bz]using h3⟩
  ·rename_i r' b q h1
   injection h1 with e1 e2;subst e1;subst e2
   obtain⟨kv,rfl,h3⟩:=zE h
   exact⟨.bool b::kv,rfl,by simpa[bz]using h3⟩
  ·cases h
theorem TX{a b:List Value}(hl:a.length=b.length)(h:fx a=fx b):a=b:=by
 match a,b,hl,h with
 |[],[],_,_=>rfl
 |[x],[y],_,h=>simpa[fx]using h
 |x::x2::r,y::y2::q,_,h=>simpa[fx]using h
theorem AH: ∀{a b:List Value},a.map AV.v=b.map AV.v→a=b
 |[],[],_=>rfl
 |x::r,y::q,h=>by simp only[List.map_cons,List.cons.injEq,AV.v.injEq]at h;rw[h.1,AH h.2]
 |[],_::_,h=>by simp at h
 |_::_,[],h=>by simp at h
theorem Ho: ∀{kv ys:List Value},ys.length=kv.length→(∀(q:Nat) (a:AV) (y:Value),(kv.map AV.v)[q]? =some a→ys[q]? =some y→Cz E a y)→ys=kv
 |[],[],_,_=>rfl
 |x::r,y::q,hl,h=>by
  have h0:=h 0 (.v x) y rfl rfl
  have e:y=x:=by cases h0;rfl
  rw[e,Ho (kv:=r) (ys:=q) (by simpa using hl) fun j a v ha hv=>h (j+1) a v (by simpa using ha) (by simpa using hv)]
 |[],_::_,hl,_=>by simp at hl
 |_::_,[],hl,_=>by simp at hl
theorem Ip{ks:List VK}{k:AV}{v:Value}(hc:Cz E k v)(hf:BR ks k=true): ∃kv:List Value,v=fx kv∧bz ks kv=true∧cellsOf k=kv.map .v:=by
 simp only[BR,Bool.and_eq_true]at hf
 obtain⟨h1,h2⟩:=hf
 obtain⟨kv,h3,h4⟩:=zE h2
 refine⟨kv,?_,h4,h3⟩
 unfold Kw at h1
 split at h1
 ·rename_i x
  have:cellsOf (.v x)=[.v x]:=by cases x<;>first|rfl|(simp[rR]at h1)
  cases hc
  rw[this]at h3
  match kv,h3 with
  |[y],h3=>simp at h3;rw[h3];rfl
 ·rename_i cs
  cases hc with
  |agg _ ys hl hq=>
   have h3:cs=kv.map .v:=h3
   subst h3
   have:=Ho (E:=E) (kv:=kv) (ys:=ys) (by simpa using hl) hq
   subst this
   match ys,h1 with
   |x::y::r,_=>rfl
   |[x],h1=>simp at h1
   |[],h1=>simp at h1
 ·cases h1
theorem uc(hL:bn P C.L){t k e:Nat}{ks:List VK}{ti:TI}(h:AN C t=some (ks,k,e,ti)):P.underlying t=some (.map k e)∧C.keys k=some ks∧C.L e=some ti:=by
 unfold AN at h
 split at h
 ·rename_i sz bt zz k' e' ug
  split at h
  ·rename_i QU LX h1 h2
   cases h
   obtain⟨i,d,z,g1,g2,g3,g4,g5,g6,g7⟩:=(hL.ok t _ ug).ex
   dsimp only at g7
   subst g7
   exact⟨g6,h1,h2⟩
  ·cases h
 ·cases h
theorem vO{ks:List VK}{xs:List (List AV)}{es:Array MapEntry}{u:Nat→Value}{kv:List Value}(du:es.size=xs.length)(qy:bz ks kv=true)
  (mE: ∀(i:Nat) (row:List AV) (e:MapEntry),xs[i]? =some row→es[i]? =some e→ ∃kv:List Value,bz ks kv=true∧row.take ks.length=kv.map .v∧e.key=fx kv∧u (i*(ks.length+1)+ks.length)=e.val∧ ∀j x,kv[j]? =some x→u (i*(ks.length+1)+j)=x):
  (∀e∈es.toList,∃Ae,bz ks Ae=true∧e.key=fx Ae)∧(∀i,xG xs (kv.map .v) (some i)→ ∃e,es[i]? =some e∧e.key=fx kv∧kf (fx kv) es.toList 0=some (i,e.val))∧(xG xs (kv.map .v) none→kf (fx kv) es.toList 0=none):=by
 have hlen:=ir qy
 have jE: ∀(i:Nat) (e:MapEntry),es[i]? =some e→ ∃row,xs[i]? =some row:=fun i e he=>by
  have:i<xs.length:=by rw[←du];exact(Array.getElem?_eq_some_iff.1 he).1
  exact⟨xs[i],by simp[this]⟩
 have cM: ∀(i:Nat) (row:List AV) (e:MapEntry),xs[i]? =some row→es[i]? =some e→(e.key=fx kv↔row.take (kv.map AV.v).length=kv.map .v):=fun i row e hr he=>by
  obtain⟨Ae,h1,h2,h3,_⟩:=mE i row e hr he
  rw[List.length_map,hlen,h2,h3]
  exact⟨fun h=>by rw[TX (by rw[ir h1,hlen]) h],fun h=>by rw[AH h]⟩
 refine⟨fun e he=>?_,fun i hm=>?_,fun hm=>?_⟩
 ·obtain⟨i,hi⟩:=List.getElem?_of_mem he
  rw[Array.getElem?_toList]at hi
  obtain⟨row,hr⟩:=jE i e hi
  obtain⟨Ae,h1,_,h3,_⟩:=mE i row e hr hi
  exact⟨Ae,h1,h3⟩
 ·obtain⟨row,h1,h2,h3⟩:=hm
  have aU:i<es.size:=by rw[du];exact(List.getElem?_eq_some_iff.1 h1).1
  have he:es[i]? =some es[i]:=by simp[aU]
  have hk:=(cM i row _ h1 he).2 h2
  refine⟨es[i],he,hk,?_⟩
  have:=BS (n:=0) (i:=i) (e:=es[i]) (es:=es.toList) (by rw[Array.getElem?_toList];exact he) hk (fun j e' hj pA=>by
   rw[Array.getElem?_toList]at pA
   obtain⟨PJ,Ag⟩:=jE j e' pA
   exact fun hh=>h3 j PJ hj Ag ((cM j PJ e' Ag pA).1 hh))
  rwa [Nat.zero_add]at this
 ·refine BU fun e he hh=>?_
  obtain⟨i,hi⟩:=List.getElem?_of_mem he
  rw[Array.getElem?_toList]at hi
  obtain⟨row,hr⟩:=jE i e hi
  exact hm row (List.mem_of_getElem? hr) ((cM i row e hr hi).1 hh)
theorem qe{r:Nat}{es:Array MapEntry}{clock:Nat}(h:w.heap[r]? =some (.map es clock)):(getObj r).run P w= .ok (.map es clock) w:=by
 unfold getObj;simp[Sem.run,h]
theorem xo(hL:bn P C.L)(hkl: ∀t ks,C.keys t=some ks→KeyLaw P t ks)(h:bq E0 E w0 w s a){o:Oper}{t:Nat}{m k:Operand}(he:o.op= .lookup t m k false){K:bf}(hk:G6 C p t (bL s p m) (bL s p k) s K):Reads P E w a o s p K:=by
 unfold G6 at hk
 split at hk
 ·rename_i ks kt et ti d hko dG
  obtain⟨hu,hkk,KR⟩:=uc hL hko
  have kl:=hkl _ _ hkk
  split at hk
  ·rename_i QU xs z e8 hzero
   cases hf:(BR ks (bL s p k)&&(!ti.agg&&rR z))with
   |false=>rw[hf]at hk;exact hk.elim
   |true=>
    rw[hf,cond_true]at hk
    simp only[Bool.and_eq_true]at hf
    obtain⟨hf1,hf2,hf3⟩:=hf
    obtain⟨r,⟨e0,ajs,VA,hub⟩,hk⟩:=hk
    subst e0
    refine⟨r,hk,fun hp=>?_⟩
    have hx:=h.ev hp m
    rw[dG]at hx
    cases dS:a.eval m<;>rw[dS]at hx<;>cases hx
    obtain⟨kv,hv,qy,Ej⟩:=Ip (h.ev hp k) hf1
    obtain⟨hl,ho,hs,lV,u,⟨OJ,es,clock,hb,_,Eh,_,_,mE⟩,hq,_⟩:=h.bx d _ e8
    obtain⟨q1,q2,q3⟩:=vO Eh qy mE
    have X2:=bF hub hp
    rw[Ej]at X2
    obtain⟨i,dd,zz,i1,i2,i3,i4,i5,i6,i7⟩:=(hL.ok _ _ KR).ex
    have hzv:zz=z:=by
     rw[hzero]at i5
     cases zz<;>first|(simp[Value.cells]at i5;exact i5)|skip
     ·rename_i cells
      exfalso
      have sW:ti.agg=false:=by simpa using hf2
      have:=(hL.ok _ _ KR).zv sW i _ i1 i4
      cases this
    have hzr:(zeroValue et).run P w= .ok z w:=by
     unfold zeroValue
     simp[Sem.run_bind,typeInfo,program,Sem.run,Result.andThen,i1,i4,hzv]
    have eH: ∀r,kf (fx kv) es.toList 0=r→(execOp a.eval o).run P w= .ok (.value (match r with|some (_,v)=>v|none=>z)) w:=fun r hr=>by
     simp only[execOp,he,dS,hv,Instr.lookup]
     simp only[Sem.run_bind,eK hu,Result.andThen_ok,qe (show w.heap[E.m (.s d)]? =_ by rw[h.heap];exact hb),Sem.run_pure,kl.check kv qy,kl.find kv es.toList qy q1,hr]
     cases r with
     |none=>simp[Sem.run_bind,hzr]
     |some r=>simp
    rcases X2 with⟨i,row,a0,g1,g2,g3,g4⟩|⟨g1,g2⟩
    ·obtain⟨e,h1,h2,h3⟩:=q2 i g1
     refine⟨_,eH _ h3,fF g4 ?_⟩
     obtain⟨Ae,h4,h5,h6,h7,h8⟩:=mE i row e g2 h1
     dsimp only
     rw[←h7]
     refine hq _ _ ?_
     rw[dH OJ g2 ks.length (by omega)]
     rw[List.length_map,ir qy]at g3
     exact g3
    ·exact⟨_,eH _ (q3 g1),fF g2 (.v _)⟩
  ·exact hk.elim
 ·exact hk.elim
theorem Dd(hL:bn P C.L)(h:bq E0 E w0 w s a){o:Oper}{t d:Nat}(he:o.op= .makeMap t none){K:bf}{Q:Exit→Act→World→Prop}(hk:De C t d s K):lj P o a w (fC E0 w0 o a K) Q:=by
 unfold De at hk
 generalize C.base+d=d at hk
 split at hk
 ·rename_i ks k e ti hko e8
  obtain⟨zs,rfl,hk⟩:=hk
  have zx: ¬E.live (.s d):=fun hl=>by obtain⟨ob,ho⟩:=h.lv d hl;rw[e8]at ho;cases ho
  have hA:yA E d E.h.size (E.h.push (.map #[] 0)):=⟨zx,.inl rfl,fun b' eI cM=>by rw[Array.getElem?_push,if_neg (by omega)],by simp,by simp⟩
  have uh:ca (E.cv d E.h.size (0,0) (E.h.push (.map #[] 0))) (.s d) (.ow (.mp ks none) none []):=by
   refine⟨.inl rfl,by simp[Env.cv],fun o hs=>?_,fun q a ha=>by simp at ha,fun _=>undef,⟨fun l hl=>by simp at hl,#[],0,by simp[Env.cv],fun i z hz=>(by cases hz),rfl,fun i e he=>by simp at he,fun i j e e' he=>by simp at he,fun i row e hr=>by simp at hr⟩,fun q a ha=>by simp at ha,fun q r ys hq=>by simp at hq,fun q q' r r' ys C9 b hq=>by simp at hq⟩
   have:E.aN E.h.size o:=by simpa[Env.cv]using hs
   have:=h.wf.aN _ _ this
   omega
  have hA':yA E d E.h.size ({w with heap:=w.heap.push (.map #[] 0)}:World).heap:=by show yA E d E.h.size (w.heap.push _);rw[h.heap];exact hA
  have hs':=h.cv (w':={w with heap:=w.heap.push (.map #[] 0)}) (n:=(0,0)) e8 hA' ⟨rfl,rfl,rfl⟩ (by show ca (E.cv d E.h.size (0,0) (w.heap.push _)) _ _;rw[h.heap];exact uh)
  refine cP (x:= .map (some w.heap.size)) (w':={w with heap:=w.heap.push (.map #[] 0)}) ?_ ⟨_,_,_,hk,hs',?_⟩
  ·simp only[execOp,he,Option.map_none]
   simp[Instr.makeMap,newObj,Sem.run,Sem.run_bind,Result.andThen]
  ·have:=Cz.mp (E:=E.cv d E.h.size (0,0) ({w with heap:=w.heap.push (.map #[] 0)}:World).heap) (.s d) (.inl rfl)
   have e:(E.cv d E.h.size (0,0) ({w with heap:=w.heap.push (.map #[] 0)}:World).heap).m (.s d)=w.heap.size:=by simp[Env.cv,h.heap]
   rwa [e]at this
 ·exact hk.elim
theorem map_push(hw:Wf E){d:Nat}{ks:List VK}{xs:List (List AV)}(uh:ca E (.s d) (.ow (.mp ks none) none xs)){kv:List Value}(qy:bz ks kv=true){av:AV}{v:Value}(hc:Cz E av v)(hi:cm av=true)(hnr: ∀r ys,av= .sl r ys→ys=[]∧v= .slice none 0 0)
  {es:Array MapEntry}{clock:Nat}(hb:E.h[E.m (.s d)]? =some (.map es clock))(st:Option (Nat×Int))(fY: ∀i z,st=some (i,z)→i=xs.length∧z=clock):
  ∃u,ES (.mp ks st) (E.len (.s d)) (some (.map (es.push {key:=fx kv,val:=v,born:=clock}) (clock+1))) (xs++[kv.map AV.v++[av]]) u∧(∀(q:Nat) (a:AV),(xs++[kv.map AV.v++[av]]).flatten[q]? =some a→cm a=true∧Cz E a (u q))∧FO E (.n d) (ks.length+1) none (xs++[kv.map AV.v++[av]]) u∧u (xs.length*(ks.length+1)+ks.length)=v:=by
 obtain⟨hl,ho,hs,lV,u0,⟨OJ,es',agw,eI,_,Eh,X9,sT,mE⟩,hq,uK⟩:=uh
 rw[hb]at eI
 cases eI
 have hkl:=ir qy
 have fB:=aD OJ
 have aoT: ∀l∈xs++[kv.map AV.v++[av]],l.length=ks.length+1:=fun l hl=>by
  rcases List.mem_append.1 hl with h|h
  ·exact OJ l h
  ·simp at h;subst h;simp[hkl]
 let n:=xs.length*(ks.length+1)
 let u:Nat→Value:=fun q=>if q<n then u0 q else if q=n+ks.length then v else(kv[q - n]?).getD undef
 have Cb: ∀q,q<n→u q=u0 q:=fun q hq=>by simp only[u];rw[if_pos hq]
 have uv:u (n+ks.length)=v:=by simp only[u];rw[if_neg (by omega)];simp
 have ahG: ∀j x,kv[j]? =some x→u (n+j)=x:=fun j x hx=>by
  have hj:=(List.getElem?_eq_some_iff.1 hx).1
  simp only[u];rw[if_neg (by omega),if_neg (by omega),Nat.add_sub_cancel_left,hx];rfl
 have pB: ∀(q:Nat) (a:AV),(xs++[kv.map AV.v++[av]]).flatten[q]? =some a→(q<n∧xs.flatten[q]? =some a)∨(q=n+ks.length∧a=av)∨ ∃j x,q=n+j∧kv[j]? =some x∧a= .v x:=by
  intro q a ha
  rw[List.flatten_append]at ha
  by_cases aU:q<xs.flatten.length
  ·rw[List.getElem?_append_left aU]at ha;exact .inl ⟨by omega,ha⟩
  ·rw[List.getElem?_append_right (by omega)]at ha
   simp only[List.flatten_cons,List.flatten_nil,List.append_nil]at ha
   by_cases hk:q - xs.flatten.length<kv.length
   ·rw[List.getElem?_append_left (by rw[List.length_map];exact hk),List.getElem?_map]at ha
    refine .inr (.inr ⟨q - xs.flatten.length,kv[q - xs.flatten.length],by omega,by simp[hk],?_⟩)
    rw[List.getElem?_eq_getElem hk]at ha;cases ha;rfl
   ·rw[List.getElem?_append_right (by rw[List.length_map];omega)]at ha
    have:q - xs.flatten.length - (kv.map AV.v).length=0:=by
     have:=(List.getElem?_eq_some_iff.1 ha).1
     simp only[List.length_cons,List.length_nil]at this;omega
    have hq0:=this
    rw[this]at ha
    simp at ha
    rw[List.length_map]at hq0;exact .inr (.inl ⟨by omega,ha.symm⟩)
 refine⟨u,⟨aoT,_,_,rfl,fun i z hz=>?_,by simp[Eh],fun i e he=>?_,fun i j e e' he pA ui=>?_,fun i row e hr he=>?_⟩,fun q a ha=>?_,⟨fun q r ys uV _=>?_,fun q q' r r' ys C9 b hq1 hq2 _ _ cM yD=>?_⟩,uv⟩
 ·obtain⟨e1,e2⟩:=fY i z hz
  exact⟨{key:=fx kv,val:=v,born:=clock},by rw[e1,←Eh];simp,e2.symm⟩
 ·rw[Array.getElem?_push]at he
  split at he
  ·cases he;exact Nat.lt_succ_self _
  ·exact Nat.lt_succ_of_lt (X9 i e he)
 ·rw[Array.getElem?_push]at he pA
  split at he
  ·split at pA
   ·omega
   ·cases he
    have:=X9 j e' pA
    simp only at ui
    omega
  ·split at pA
   ·cases pA
    have:=X9 i e he
    simp only at ui
    omega
   ·exact sT i j e e' he pA ui
 ·by_cases hi:i<xs.length
  ·rw[List.getElem?_append_left hi]at hr
   rw[Array.getElem?_push,if_neg (by omega)]at he
   obtain⟨Ae,h1,h2,h3,h4,h5⟩:=mE i row e hr he
   have hmul:i*(ks.length+1)+(ks.length+1)≤n:=by rw[←Nat.succ_mul];exact Nat.mul_le_mul_right _ hi
   refine⟨Ae,h1,h2,h3,by rw[Cb _ (by omega)];exact h4,fun j x hx=>?_⟩
   have hj:=(List.getElem?_eq_some_iff.1 hx).1
   rw[ir h1]at hj
   rw[Cb _ (by omega)];exact h5 j x hx
  ·have hie:i=xs.length:=by
    have:=(List.getElem?_eq_some_iff.1 hr).1
    simp at this;omega
   subst hie
   rw[List.getElem?_append_right (Nat.le_refl _),Nat.sub_self]at hr
   rw[Array.getElem?_push,if_pos Eh.symm]at he
   cases he
   simp at hr
   subst hr
   exact⟨kv,qy,by rw[←hkl,List.take_append_of_le_length (by simp),List.take_of_length_le (by simp)],rfl,uv,fun j x hx=>ahG j x hx⟩
 ·rcases pB q a ha with⟨h0,h1⟩|⟨h0,rfl⟩|⟨j,x,h0,h1,rfl⟩
  ·rw[Cb q h0];exact⟨lV q a h1,hq q a h1⟩
  ·rw[h0,uv];exact⟨hi,hc⟩
  ·rw[h0,ahG j x h1];exact⟨rfl,.v _⟩
 ·rcases pB q _ uV with⟨h0,h1⟩|⟨h0,h1⟩|⟨j,x,h0,h1,h2⟩
  ·rw[Cb q h0];exact uK.1 q r ys h1 (fun hh=>hh)
  ·obtain⟨e1,e2⟩:=hnr r ys h1.symm
   rw[h0,uv];exact .inl ⟨e1,e2⟩
  ·cases h2
 ·rcases pB q _ hq1 with⟨h0,h1⟩|⟨h0,h1⟩|⟨j,x,h0,h1,h2⟩
  ·rcases pB q' _ hq2 with⟨h0',Q0⟩|⟨h0',Q0⟩|⟨j,x,h0',Q0,Qn⟩
   ·rw[Cb q h0]at yD;rw[Cb q' h0'];exact uK.2 q q' r r' ys C9 b h1 Q0 (fun hh=>hh) (fun hh=>hh) cM yD
   ·rw[h0',uv,(hnr r' C9 Q0.symm).2];intro hh;cases hh
   ·cases Qn
  ·rw[h0,uv,(hnr r ys h1.symm).2]at yD;cases yD
  ·cases h2
theorem Fb(hL:bn P C.L)(hI:C.I=al)(hkl: ∀t ks,C.keys t=some ks→KeyLaw P t ks)(h:bq E0 E w0 w s a){o:Oper}{t:Nat}{m k v:Operand}(he:o.op= .insert t m k v){K:bf}{Q:Exit→Act→World→Prop}(hk:G7 C t (bL s [] m) (bL s [] k) (bL s [] v) s K):lj P o a w (fC E0 w0 o a K) Q:=by
 unfold G7 at hk
 split at hk
 ·rename_i ks kt et ti d hko dG
  obtain⟨hu,hkk,KR⟩:=uc hL hko
  have kl:=hkl _ _ hkk
  split at hk
  ·rename_i QU xs e8
   cases hf:(BR ks (bL s [] k)&&(isV (bL s [] v)&&Tq (bL s [] v)))with
   |false=>rw[hf]at hk;exact hk.elim
   |true=>
    rw[hf,cond_true]at hk
    simp only[Bool.and_eq_true]at hf
    obtain⟨hf1,hf2,hf3⟩:=hf
    obtain⟨zs,⟨e0,hub,e1⟩,hk⟩:=hk
    subst e0
    rw[hI]at e1
    have e1:xs++[cellsOf (bL s [] k)++[bL s [] v]]=zs:=e1
    subst e1
    have hx:=h.ev (p:=[]) trivial m
    rw[dG]at hx
    cases dS:a.eval m<;>rw[dS]at hx<;>cases hx
    obtain⟨kv,hv,qy,Ej⟩:=Ip (h.ev (p:=[]) trivial k) hf1
    have hcv:=h.ev (p:=[]) trivial v
    obtain⟨xv,hxv⟩: ∃x,bL s [] v= .v x:=by cases hvv:bL s [] v<;>rw[hvv]at hf2<;>first|exact⟨_,rfl⟩|(simp[isV]at hf2)
    have uh:=h.bx d _ e8
    have aeZ:=uh
    obtain⟨hl,ho,hs,lV,u,⟨OJ,es,clock,hb,_,Eh,_,_,mE⟩,hq,_⟩:=uh
    obtain⟨q1,q2,q3⟩:=vO Eh qy mE
    rw[Ej]at hub hk
    have Uc:=q3 hub
    have Ly:w.heap[E.m (.s d)]? =some (.map es clock):=by rw[h.heap];exact hb
    obtain⟨u',g1,g2,g3,_⟩:=map_push h.wf aeZ qy hcv (by rw[hxv];rfl) (fun r ys e=>by rw[hxv]at e;cases e) hb none (fun i z hz=>by cases hz)
    have hE:=ib (E:=E) ho hs (.map (es.push {key:=fx kv,val:=a.eval v,born:=clock}) (clock+1))
    have aU:E.m (.s d)<E.h.size:=(Array.getElem?_eq_some_iff.1 hb).1
    have cz: ∀{a0:AV} {x:Value},Cz E a0 x→Cz (E.write (.s d) (.map (es.push {key:=fx kv,val:=a.eval v,born:=clock}) (clock+1))) a0 x:=fun{a0 x} hc=>by
     have:=(hc.ext hE h.wf (fun _=>false) (eY _)).1
     rwa [jY (fun _=>rfl)]at this
    have vV:ca (E.write (.s d) (.map (es.push {key:=fx kv,val:=a.eval v,born:=clock}) (clock+1))) (.s d) (.ow (.mp ks none) none (xs++[kv.map AV.v++[bL s [] v]])):=by
     refine⟨hl,ho,hs,fun q a0 ha=>(g2 q a0 ha).1,u',?_,fun q a0 ha=>cz (g2 q a0 ha).2,g3.mono fun b GB Uf=>?_⟩
     ·have:(E.write (.s d) (.map (es.push {key:=fx kv,val:=a.eval v,born:=clock}) (clock+1))).h[E.m (.s d)]? =some (.map (es.push {key:=fx kv,val:=a.eval v,born:=clock}) (clock+1)):=Array.getElem?_setIfInBounds_self_of_lt aU
      show ES _ (E.len (.s d)) ((E.write (.s d) _).h[E.m (.s d)]?) _ _
      rw[this];exact g1
     ·have cM:b≠E.m (.s d):=fun e=>by rw[e,ho]at GB;cases GB
      refine⟨GB,?_,fun _=>Iff.rfl,rfl⟩
      show(E.h.setIfInBounds (E.m (.s d)) _)[b]? =_
      rw[Array.getElem?_setIfInBounds_ne (Ne.symm cM)]
    refine vh (w':={w with heap:=w.heap.setIfInBounds (E.m (.s d)) (.map (es.push {key:=fx kv,val:=a.eval v,born:=clock}) (clock+1))}) ?_ ⟨_,_,_,hk,h.pX e8 vV rfl ⟨rfl,rfl,rfl⟩ ho hs,.any _⟩
    simp only[execOp,he,dS,hv]
    simp[Instr.mapUpdate,Sem.run_bind,eK hu,qe Ly,kl.check kv qy,kl.find kv es.toList qy q1,Uc,MapKept.run_setObj_map _ Ly,Result.andThen]
  ·exact hk.elim
 ·exact hk.elim
end Ab
namespace Ab
open Go
variable{P:Program}{L:nO}{E0 E E':Env}{w0 w w':World}{s:St}{a:Act}{p:Path}{C:dj}
theorem N0{α:Type}(d:Nat)(x y:α): ∀t:List (Nat×α),cR d x (cR d y t)=cR d x t
 |[]=>by simp[cR]
 |(k,z)::r=>by
  simp only[cR]
  cases h1:cS k d with
  |true=>simp[cR]
  |false=>
   cases h2:r6 d k with
   |true=>simp[cR]
   |false=>simp only[cond_false,cR,h1,h2,N0 d x y r]
theorem JA(T:Tok→Bool)(d:Nat)(x:Ob): ∀t,eN T (cR d x t)=cR d (xu T x) (eN T t)
 |[]=>by simp[cR,eN]
 |(k,z)::r=>by
  simp only[cR,eN]
  cases h1:cS k d with
  |true=>simp[eN]
  |false=>
   cases h2:r6 d k with
   |true=>simp[eN]
   |false=>simp only[cond_false,eN,JA T d x r]
theorem Ki{ks:List VK}{st:Option (Nat×Int)}{len:Nat×Nat}{es:Array MapEntry}{clock:Nat}{xs:List (List AV)}{u:Nat→Value}(h:ES (.mp ks st) len (some (.map es clock)) xs u){i:Nat}{e:MapEntry}(he:es[i]? =some e):ES (.mp ks (some (i,(e.born:Int)))) len (some (.map es clock)) xs u:=by
 obtain⟨h1,es',agw,h2,h3,h4,h5,h6,h7⟩:=h
 cases h2
 exact⟨h1,es,clock,rfl,fun j z hz=>by cases hz;exact⟨e,he,rfl⟩,h4,h5,h6,h7⟩
theorem G9(hL:bn P C.L)(hI:C.I=al)(hkl: ∀t ks,C.keys t=some ks→KeyLaw P t ks)(h:bq E0 E w0 w s a){o:Oper}{t d:Nat}{m k:Operand}(he:o.op= .mapEntry t m k){K:bf}{Q:Exit→Act→World→Prop}(hk:LJ C t d (bL s [] m) (bL s [] k) s K):lj P o a w (fC E0 w0 o a K) Q:=by
 unfold LJ at hk
 split at hk
 ·rename_i ks kt et ti q hko dG
  obtain⟨hu,hkk,KR⟩:=uc hL hko
  have kl:=hkl _ _ hkk
  split at hk
  ·rename_i es0 QU xs kO e8
   cases hf:BR ks (bL s [] k)with
   |false=>rw[hf]at hk;exact hk.elim
   |true=>
    rw[hf,cond_true]at hk
    obtain⟨zs,i,r,ys,⟨e0,hz1,Qh,hen⟩,hk⟩:=hk
    subst e0
    have hx:=h.ev (p:=[]) trivial m
    rw[dG]at hx
    cases dS:a.eval m<;>rw[dS]at hx<;>cases hx
    obtain⟨kv,hv,qy,Ej⟩:=Ip (h.ev (p:=[]) trivial k) hf
    have uh:=h.bx q _ e8
    have aeZ:=uh
    obtain⟨hl,ho,hs,lV,u,Fy,hq,uK⟩:=uh
    have Ql:=Fy
    obtain⟨OJ,es,clock,hb,_,Eh,_,_,mE⟩:=Fy
    rw[hb]at Ql
    obtain⟨q1,q2,q3⟩:=vO Eh qy mE
    have Ly:w.heap[E.m (.s q)]? =some (.map es clock):=by rw[h.heap];exact hb
    have ajQ:=ir qy
    rw[Ej]at hen
    rcases hen with⟨hm,rfl,row,h1,h2⟩|⟨hm,h1,h2,h3,h4⟩
    ·obtain⟨e,g1,g2,g3⟩:=q2 i hm
     rw[List.length_map,ajQ]at h2
     have fB:xs.flatten[i*(ks.length+1)+ks.length]? =some (.sl r ys):=by rw[dH OJ h1 ks.length (by omega)];exact h2
     obtain⟨E',k1,k2⟩:=AJ h e8 (by rw[hb];exact Ql) hq uK (p':= .mp ks (some (i,(e.born:Int)))) fB (.l (C.base+d)) rfl (by rw[hb];exact Ki Ql g1)
     obtain⟨Ae,f1,f2,f3,f4,f5⟩:=mE i row e h1 g1
     have apc:es.modify i (fun e=>{e with key:=fx kv})=es:=by
      apply Array.ext (by simp)
      intro j j1 j2
      rw[Array.getElem_modify]
      split
      ·rename_i hij
       subst hij
       have:es[i]=e:=by rw[Array.getElem?_eq_getElem j2]at g1;injection g1
       rw[this,←g2]
      ·rfl
     have Cl:w.heap.setIfInBounds (E.m (.s q)) (.map es clock)=w.heap:=by
      apply Array.ext (by simp)
      intro j j1 j2
      by_cases hj:E.m (.s q)=j
      ·subst hj
       rw[Array.getElem_setIfInBounds_self]
       rw[Array.getElem?_eq_getElem j2]at Ly;injection Ly with Ly;exact Ly.symm
      ·rw[Array.getElem_setIfInBounds_ne j2 hj]
     refine cP (x:= .tuple #[e.val,.int .i64 e.born]) (w':=w) ?_ ⟨_,_,E',hk e.born,k1,?_⟩
     ·simp only[execOp,he,dS,hv]
      simp[Instr.mapEntry,Sem.run_bind,eK hu,qe Ly,kl.check kv qy,kl.find kv es.toList qy q1,g3,g1,g2,Instr.keyThatStays,kl.same kv qy,MapKept.run_setObj_map _ Ly,Result.andThen,apc,Cl,goInt]
     ·exact Cz.fT (E:=E') _ [e.val,.int .i64 e.born] rfl fun j b y eI hy=>by
       match j,eI,hy with
       |0,eI,hy=>simp at eI hy;subst eI;subst hy;have k2':Cz E' (.gs r (.l (C.base+d)) ys) (u (i*(ks.length+1)+ks.length)):=k2;rw[f4]at k2';exact k2'
       |1,eI,hy=>simp at eI hy;subst eI;subst hy;exact .v _
       |j+2,eI,_=>simp at eI
    ·rw[hI]at h1 h2
     have h1:xs++[kv.map AV.v++[AV.sl C.ρ []]]=zs:=h1
     have h2:xs.length=i:=h2
     subst h1;subst h2;subst h3;subst h4
     have Uc:=q3 hm
     obtain⟨u',g1,g2,g3,g4⟩:=map_push h.wf aeZ qy (av:= .sl C.ρ []) (v:=dJ) (.nA _ _ _) rfl (fun r ys e=>by cases e;exact⟨rfl,rfl⟩) hb none (fun i z hz=>by cases hz)
     have hE:=ib (E:=E) ho hs (.map (es.push {key:=fx kv,val:=dJ,born:=clock}) (clock+1))
     have aU:E.m (.s q)<E.h.size:=(Array.getElem?_eq_some_iff.1 hb).1
     have cz: ∀{a0:AV} {x:Value},Cz E a0 x→Cz (E.write (.s q) (.map (es.push {key:=fx kv,val:=dJ,born:=clock}) (clock+1))) a0 x:=fun{a0 x} hc=>by
      have:=(hc.ext hE h.wf (fun _=>false) (eY _)).1
      rwa [jY (fun _=>rfl)]at this
     have zy:(E.write (.s q) (.map (es.push {key:=fx kv,val:=dJ,born:=clock}) (clock+1))).h[E.m (.s q)]? =some (.map (es.push {key:=fx kv,val:=dJ,born:=clock}) (clock+1)):=Array.getElem?_setIfInBounds_self_of_lt aU
     have Ud:FO (E.write (.s q) (.map (es.push {key:=fx kv,val:=dJ,born:=clock}) (clock+1))) (.n q) (ks.length+1) none (xs++[kv.map AV.v++[AV.sl C.ρ []]]) u':=g3.mono fun b GB Uf=>by
      have cM:b≠E.m (.s q):=fun e=>by rw[e,ho]at GB;cases GB
      refine⟨GB,?_,fun _=>Iff.rfl,rfl⟩
      show(E.h.setIfInBounds (E.m (.s q)) _)[b]? =_
      rw[Array.getElem?_setIfInBounds_ne (Ne.symm cM)]
     have vV:ca (E.write (.s q) (.map (es.push {key:=fx kv,val:=dJ,born:=clock}) (clock+1))) (.s q) (.ow (.mp ks none) none (xs++[kv.map AV.v++[AV.sl C.ρ []]])):=by
      refine⟨hl,ho,hs,fun q a0 ha=>(g2 q a0 ha).1,u',?_,fun q a0 ha=>cz (g2 q a0 ha).2,Ud⟩
      show ES _ (E.len (.s q)) ((E.write (.s q) _).h[E.m (.s q)]?) _ _
      rw[zy];exact g1
     have zu:=h.pX (w':={w with heap:=w.heap.setIfInBounds (E.m (.s q)) (.map (es.push {key:=fx kv,val:=dJ,born:=clock}) (clock+1))}) e8 vV rfl ⟨rfl,rfl,rfl⟩ ho hs
     have fB:(xs++[kv.map AV.v++[AV.sl C.ρ []]]).flatten[xs.length*(ks.length+1)+ks.length]? =some (.sl C.ρ []):=by
      have hr:=dH (xs:=xs++[kv.map AV.v++[AV.sl C.ρ []]]) (i:=xs.length) (z:=ks.length+1) (cs:=kv.map AV.v++[AV.sl C.ρ []]) (fun l hl=>g1.1 l hl) (by rw[List.getElem?_append_right (Nat.le_refl _),Nat.sub_self];rfl) ks.length (by omega)
      rw[hr,List.getElem?_append_right (by rw[List.length_map];omega),List.length_map,ajQ,Nat.sub_self]
      rfl
     obtain⟨E',k1,k2⟩:=AJ zu (bI q _ _) (u:=u') (by show ES _ _ ((E.write (.s q) _).h[E.m (.s q)]?) _ _;rw[zy];exact g1) (fun q a0 ha=>cz (g2 q a0 ha).2) Ud (p':= .mp ks (some (xs.length,(clock:Int)))) fB (.l (C.base+d)) rfl
      (by show ES _ _ ((E.write (.s q) _).h[E.m (.s q)]?) _ _;rw[zy];exact Ki g1 (i:=xs.length) (e:={key:=fx kv,val:=dJ,born:=clock}) (by rw[←Eh];simp))
     obtain⟨ii,dd,zz,i1,i2,i3,i4,i5,i6,i7⟩:=(hL.ok _ _ KR).ex
     have hzv:zz=dJ:=by
      rw[Qh]at i5
      cases zz<;>first|(simp[Value.cells]at i5;exact i5)|skip
      exfalso
      have sW:ti.agg=false:=by unfold TI.agg;rw[kO]
      have:=(hL.ok _ _ KR).zv sW ii _ i1 i4
      cases this
     have hzr:(zeroValue et).run P w= .ok dJ w:=by
      unfold zeroValue
      simp[Sem.run_bind,typeInfo,program,Sem.run,Result.andThen,i1,i4,hzv]
     refine cP (x:= .tuple #[dJ,.int .i64 clock]) (w':={w with heap:=w.heap.setIfInBounds (E.m (.s q)) (.map (es.push {key:=fx kv,val:=dJ,born:=clock}) (clock+1))}) ?_ ⟨_,_,E',hk clock,?_,?_⟩
     ·simp only[execOp,he,dS,hv]
      simp[Instr.mapEntry,Sem.run_bind,eK hu,qe Ly,kl.check kv qy,kl.find kv es.toList qy q1,Uc,hzr,MapKept.run_setObj_map _ Ly,Result.andThen,goInt]
     ·have e:cR q (Ob.ow (.mp ks (some (xs.length,(clock:Int)))) (some (xs.length,ks.length)) (xs++[kv.map AV.v++[AV.sl C.ρ []]])) (eN (bh (.n q)) (cR q (Ob.ow (.mp ks none) none (xs++[kv.map AV.v++[AV.sl C.ρ []]])) s.b))=cR q (Ob.ow (.mp ks (some (xs.length,(clock:Int)))) (some (xs.length,ks.length)) (xs++[kv.map AV.v++[AV.sl C.ρ []]])) (eN (bh (.n q)) s.b):=by
       rw[JA,N0]
      have k1':=k1
      rw[e]at k1'
      exact k1'
     ·exact Cz.fT (E:=E') _ [dJ,.int .i64 clock] rfl fun j b y eI hy=>by
       match j,eI,hy with
       |0,eI,hy=>simp at eI hy;subst eI;subst hy;have k2':Cz E' (.gs C.ρ (.l (C.base+d)) []) (u' (xs.length*(ks.length+1)+ks.length)):=k2;rw[g4]at k2';exact k2'
       |1,eI,hy=>simp at eI hy;subst eI;subst hy;exact .v _
       |j+2,eI,_=>simp at eI
  ·exact hk.elim
 ·exact hk.elim
theorem IA{es:Array MapEntry}{i:Nat}{e:MapEntry}(he:es[i]? =some e)(sT: ∀(i j:Nat) (e e':MapEntry),es[i]? =some e→es[j]? =some e'→e.born=e'.born→i=j):es.findIdx? (fun x=>(x.born:Int)==(e.born:Int))=some i:=by
 have aU:=(Array.getElem?_eq_some_iff.1 he).1
 have hei:es[i]=e:=by rw[Array.getElem?_eq_getElem aU]at he;injection he
 rw[Array.findIdx?_eq_some_iff_getElem]
 refine⟨aU,by rw[hei];simp,fun j hj=>?_⟩
 have X4:j<es.size:=by omega
 intro hh
 have hb:es[j].born=e.born:=by
  have:((es[j].born:Nat):Int)=(e.born:Int):=by simpa using hh
  omega
 have:=sT j i es[j] e (by simp[X4]) he hb
 omega
theorem Ai(hI:C.I=al)(h:bq E0 E w0 w s a){o:Oper}{t:Nat}{m st v:Operand}(he:o.op= .entryStore t m st v){K:bf}{Q:Exit→Act→World→Prop}(hk:xL C (bL s [] m) (bL s [] st) (bL s [] v) s K):lj P o a w (fC E0 w0 o a K) Q:=by
 unfold xL at hk
 split at hk
 ·rename_i d z r tk ys OO hs0 hv0
  split at hk
  ·rename_i ks i z' j off xs e8
   obtain⟨OI,e0,zs,⟨e1,e2,cs,e3,e5⟩,hk⟩:=hk
   subst e0;subst e1;subst e2
   rw[hI]at e5
   have e5:xs.set i (bD cs ks.length [.sl r ys])=zs:=e5
   subst e5
   have hx:=h.ev (p:=[]) trivial m
   rw[OO]at hx
   cases dS:a.eval m<;>rw[dS]at hx<;>cases hx
   have fY:=h.ev (p:=[]) trivial st
   rw[hs0]at fY
   have aoL:a.eval st= .int .i64 z:=by
    generalize a.eval st=sv at fY
    cases fY;rfl
   have hy:=h.ev (p:=[]) trivial v
   rw[hv0]at hy
   generalize hav:a.eval v=y at hy
   obtain⟨hl,ho,hs,lV,u,⟨OJ,es,clock,hb,aoJ,Eh,X9,sT,mE⟩,hq,uK⟩:=h.bx d _ e8
   obtain⟨e,he1,he2⟩:=aoJ i z rfl
   have fB:=aD OJ
   have Cm:i<xs.length:=(List.getElem?_eq_some_iff.1 e3).1
   have Ei:cs.length=ks.length+1:=OJ cs (List.mem_of_getElem? e3)
   have hmul:i*(ks.length+1)+(ks.length+1)≤xs.length*(ks.length+1):=by rw[←Nat.succ_mul];exact Nat.mul_le_mul_right _ Cm
   have T4:tk≠ .n d:=fun e=>by subst e;cases OI
   have h1:=h.cV tk (.n d) OI
   have zt:=hy.cV (t':= .n d) h.wf
   have Nl:look d (eN (bh tk) s.b)=some (.ow (.mp ks (some (i,z))) (some (i,ks.length)) xs):=by rw[cw,e8];rfl
   have ho1:(E.cV tk (.n d)).own ((E.cV tk (.n d)).m (.s d))= .key (.s d):=(su (by rw[show(E.cV tk (.n d)).m (.s d)=E.m (.s d)from rfl,ho];simp)).trans ho
   have hE:=ib (E:=E.cV tk (.n d)) ho1 hs (.map (es.modify i fun e=>{e with val:=y}) clock)
   have cz1: ∀{a:AV} {x:Value},cm a=true→Cz E a x→Cz (E.cV tk (.n d)) a x:=fun{a x} hi hc=>(hc.ext (sw tk (.n d)) h.wf (bh tk) (fun q' uV=>(lq _ _).2 (by cases uV;rfl))).2 hi
   have cz2: ∀{a:AV} {x:Value},Cz (E.cV tk (.n d)) a x→Cz ((E.cV tk (.n d)).write (.s d) (.map (es.modify i fun e=>{e with val:=y}) clock)) a x:=fun{a x} hc=>by
    have:=(hc.ext hE h1.wf (fun _=>false) (eY _)).1
    rwa [jY (fun _=>rfl)]at this
   have hxl: ∀l∈xs.set i (bD cs ks.length [.sl r ys]),l.length=ks.length+1:=fun l tz=>by
    rcases List.mem_or_eq_of_mem_set tz with h1|h1
    ·exact OJ l h1
    ·rw[h1,kq (by simp;omega)];exact Ei
   have Cl:(xs.set i (bD cs ks.length [.sl r ys])).flatten=bD xs.flatten (i*(ks.length+1)+ks.length) [.sl r ys]:=rG OJ e3 (by simp)
   have xj: ∀q',(xs.set i (bD cs ks.length [.sl r ys])).flatten[q']? =if q'=i*(ks.length+1)+ks.length then some (.sl r ys)else xs.flatten[q']? :=fun q'=>by
    rw[Cl];exact Dt (by omega) q'
   have zy:E.m (.s d)<E.h.size:=(Array.getElem?_eq_some_iff.1 hb).1
   have Ue: ∀k:Nat,(es.modify i fun e=>{e with val:=y})[k]? =(es[k]?).map fun e=>if i=k then{e with val:=y}else e:=fun k=>by
    rw[Array.getElem?_modify]
    by_cases Up:i=k
    ·rw[if_pos Up];simp[Up]
    ·rw[if_neg Up];simp[Up]
   have uh:ca ((E.cV tk (.n d)).write (.s d) (.map (es.modify i fun e=>{e with val:=y}) clock)) (.s d) (.ow (.mp ks none) none (xs.set i (bD cs ks.length [.sl r ys]))):=by
    refine⟨hl,ho1,hs,fun q' a' ha=>?_,fun q'=>if q'=i*(ks.length+1)+ks.length then y else u q',⟨hxl,es.modify i fun e=>{e with val:=y},clock,?_,(fun i z hz=>by cases hz),?_,fun k e' jt=>?_,fun k k' e' e'' jt Um ui=>?_,fun k row e' Ag jt=>?_⟩,fun q' a' ha=>?_,?_⟩
    ·rw[xj]at ha
     split at ha
     ·cases ha;rfl
     ·exact lV q' a' ha
    ·have:(E.cV tk (.n d)).m (.s d)=E.m (.s d):=rfl
     simp only[Env.write]
     rw[this]
     exact Array.getElem?_setIfInBounds_self_of_lt zy
    ·rw[Array.size_modify,List.length_set];exact Eh
    ·rw[Ue]at jt
     cases QY:es[k]? with
     |none=>rw[QY]at jt;cases jt
     |some x=>rw[QY]at jt;cases jt;have:=X9 k x QY;split<;>exact this
    ·rw[Ue]at jt Um
     cases QY:es[k]? with
     |none=>rw[QY]at jt;cases jt
     |some x=>
      cases afk:es[k']? with
      |none=>rw[afk]at Um;cases Um
      |some x'=>
       rw[QY]at jt;rw[afk]at Um
       cases jt;cases Um
       refine sT k k' x x' QY afk ?_
       have b1:(if i=k then{x with val:=y}else x:MapEntry).born=x.born:=by split<;>rfl
       have b2:(if i=k' then{x' with val:=y}else x':MapEntry).born=x'.born:=by split<;>rfl
       rw[←b1,←b2];exact ui
    ·rw[Ue]at jt
     cases QY:es[k]? with
     |none=>rw[QY]at jt;cases jt
     |some x=>
      rw[QY]at jt
      cases jt
      rw[List.getElem?_set]at Ag
      have aag: ∀{k1 k2 j1 j2:Nat},k1≠k2→j1≤ks.length→j2≤ks.length→k1*(ks.length+1)+j1≠k2*(ks.length+1)+j2:=by
       intro k1 k2 j1 j2 cM h1 h2 heq
       rcases Nat.lt_or_gt_of_ne cM with aU|aU
       ·have:=Nat.mul_le_mul_right (ks.length+1) aU
        rw[Nat.succ_mul]at this;omega
       ·have:=Nat.mul_le_mul_right (ks.length+1) aU
        rw[Nat.succ_mul]at this;omega
      by_cases Up:i=k
      ·subst Up
       rw[if_pos rfl,if_pos Cm]at Ag
       cases Ag
       obtain⟨kv,f1,f2,f3,f4,f5⟩:=mE i cs x e3 QY
       refine⟨kv,f1,?_,by dsimp only;rw[if_pos rfl];exact f3,by dsimp only;rw[if_pos rfl,if_pos rfl],fun j x' hx=>?_⟩
       ·rw[←f2]
        unfold bD
        rw[List.append_assoc,List.take_append_of_le_length (by rw[List.length_take];omega),List.take_take,Nat.min_self]
       ·have hj:=(List.getElem?_eq_some_iff.1 hx).1
        rw[ir f1]at hj
        dsimp only
        rw[if_neg (by omega)];exact f5 j x' hx
      ·rw[if_neg Up]at Ag
       obtain⟨kv,f1,f2,f3,f4,f5⟩:=mE k row x Ag QY
       refine⟨kv,f1,f2,by dsimp only;rw[if_neg Up];exact f3,?_,fun j x' hx=>?_⟩
       ·dsimp only
        rw[if_neg (aag (fun e=>Up e.symm) (Nat.le_refl _) (Nat.le_refl _)),if_neg Up];exact f4
       ·have hj:=(List.getElem?_eq_some_iff.1 hx).1
        rw[ir f1]at hj
        dsimp only
        rw[if_neg (aag (fun e=>Up e.symm) (by omega) (Nat.le_refl _))];exact f5 j x' hx
    ·rw[xj]at ha
     dsimp only
     by_cases e:q'=i*(ks.length+1)+ks.length
     ·rw[if_pos e]at ha ⊢;cases ha;exact cz2 zt.read
     ·rw[if_neg e]at ha ⊢;exact cz2 (cz1 (lV q' a' ha) (hq q' a' ha))
    ·refine Ke (z:=ks.length+1) (r:=r) (ys:=ys) uK (fun q'=>?_) ?_ (fun b hb aU=>?_) (fun b hbv=>?_)
     ·rw[xj]
      by_cases e:q'=i*(ks.length+1)+ks.length
      ·rw[if_pos e,if_pos e,if_pos (by omega)]
      ·rw[if_neg e,if_neg e]
     ·exact rq (cz2 zt)
     ·have cM:b≠E.m (.s d):=fun e=>by rw[e,ho]at hb;cases hb
      refine⟨(su (by rw[hb];intro e;injection e with e;exact T4 e.symm)).trans hb,?_,fun _=>Iff.rfl,rfl⟩
      show(E.h.setIfInBounds (E.m (.s d)) _)[b]? =_
      rw[Array.getElem?_setIfInBounds_ne (Ne.symm cM)]
     ·intro e
      have:=(ss (rq hy) hbv).1
      rw[this]at e;injection e with e;exact T4 e
   have Ly:w.heap[E.m (.s d)]? =some (.map es clock):=by rw[h.heap];exact hb
   refine vh (w':={w with heap:=w.heap.setIfInBounds (E.m (.s d)) (.map (es.modify i fun e=>{e with val:=y}) clock)}) ?_ ⟨_,_,_,hk,h1.pX Nl uh rfl ⟨rfl,rfl,rfl⟩ ho1 hs,.any _⟩
   have hfi:=IA he1 sT
   rw[he2]at hfi
   simp only[execOp,he,dS,hav,aoL]
   simp[Instr.entryStore,Sem.run_bind,qe Ly,asInt,asIntOf,hfi,MapKept.run_setObj_map _ Ly,Result.andThen]
  ·exact hk.elim
 ·exact hk.elim
theorem rn{av:AV}{v:Value}{xs:List AV}{ks:List VK}(hc:Cz E av v)(hv:Bk av=some xs)(hf:np ks xs=true): ∃kv:List Value,xs=kv.map .v∧bz ks kv=true∧v= .agg kv.toArray:=by
 obtain⟨kv,h1,h2⟩:=zE hf
 refine⟨kv,h1,h2,?_⟩
 cases av<;>simp only[Bk,Option.some.injEq]at hv<;>try(cases hv;done)
 ·subst hv
  cases hc with
  |ar n z xs ys hn hz hl hi hq=>
   have:ys=kv:=Ho (E:=E) (by
    have h3:=aD hz
    rw[h1]at h3
    simp at h3
    rw[hl,h3,hn]) (fun q a y ha hy=>hq q a y (by rw[h1];exact ha) hy)
   rw[this]
 ·subst hv
  cases hc with
  |agg cs ys hl hq=>
   subst h1
   have:ys=kv:=Ho (E:=E) (by simpa using hl) hq
   rw[this]
theorem Pm(hI:C.I=al)(sn: ∀t ks,C.eqs t=some ks→tl P t ks)(h:bq E0 E w0 w s a){o:Oper}{t:Nat}{x y:Operand}{neg:Bool}{ty:Nat}(he:o.op= .binOp (bif neg then .neq else .eql) t x y ty){K:bf}(hk:xEq C p neg t (bL s p x) (bL s p y) s K):Reads P E w a o s p K:=by
 obtain⟨b,hub,hk⟩:=hk
 rw[hI]at hk
 refine⟨_,hk,fun hp=>?_⟩
 obtain⟨GA,QX,xs,ys,Cj,zt,hb⟩:=bF hub hp
 obtain⟨ks,hks,afg⟩: ∃ks,C.eqs t=some ks∧np ks xs=true:=by
  unfold rH at GA
  cases hk:C.eqs t with
  |none=>rw[hk]at GA;cases dG:bL s p x<;>rw[dG]at GA<;>exact GA.elim
  |some ks=>
   rw[hk]at GA
   refine⟨ks,rfl,?_⟩
   cases dG:bL s p x<;>rw[dG]at GA Cj<;>simp only[Bk,Option.some.injEq]at Cj<;>first|exact GA.elim|(subst Cj;exact GA)|(cases Cj)
 have aff:np ks ys=true:=by
  unfold rH at QX
  rw[hks]at QX
  cases dG:bL s p y<;>rw[dG]at QX zt<;>simp only[Bk,Option.some.injEq]at zt<;>first|exact QX.elim|(subst zt;exact QX)|(cases zt)
 obtain⟨kv,h1,h2,h3⟩:=rn (h.ev hp x) Cj afg
 obtain⟨Ae,h4,h5,h6⟩:=rn (h.ev hp y) zt aff
 have law:=sn t ks hks
 obtain⟨b',eI,eH⟩:=law.eq kv Ae h2 h5
 have ui:b'=b:=by
  have:b'=true↔b=true:=by
   rw[eI,hb,h1,h4]
   exact⟨fun e=>by rw[e],AH⟩
  cases b<;>cases b'<;>simp_all
 subst ui
 cases neg with
 |false=>
  refine⟨.bool b',?_,.v _⟩
  simp only[execOp,he,cond_false,h3,h6]
  simp[Sem.run_bind,run_eqGuard_agg _ _ _ _ _ _ _ law.guard,run_eql_struct,eH,Result.andThen]
 |true=>
  refine⟨.bool (!b'),?_,.v _⟩
  simp only[execOp,he,cond_true,h3,h6]
  simp[Sem.run_bind,run_eqGuard_agg _ _ _ _ _ _ _ law.guard,run_neq_struct,eH,Result.andThen]
theorem VR(sn: ∀t ks,C.eqs t=some ks→tl P t ks)(h:bq E0 E w0 w s a){o:Oper}{t:Nat}{x y:Operand}{neg:Bool}{ty:Nat}(he:o.op= .binOp (bif neg then .neq else .eql) t x y ty){K:bf}(hk:xEq C p neg t (bL s p x) (bL s p y) s K)(hp:aY s p){v:Value}
  (hr:(execOp a.eval o).run P w= .ok (.value v) w)(w':World):(execOp a.eval o).run P w'= .ok (.value v) w':=by
 obtain⟨b,hub,hk⟩:=hk
 obtain⟨GA,QX,xs,ys,Cj,zt,hb⟩:=bF hub hp
 obtain⟨ks,hks,afg⟩: ∃ks,C.eqs t=some ks∧np ks xs=true:=by
  unfold rH at GA
  cases hk:C.eqs t with
  |none=>rw[hk]at GA;cases dG:bL s p x<;>rw[dG]at GA<;>exact GA.elim
  |some ks=>
   rw[hk]at GA
   refine⟨ks,rfl,?_⟩
   cases dG:bL s p x<;>rw[dG]at GA Cj<;>simp only[Bk,Option.some.injEq]at Cj<;>first|exact GA.elim|(subst Cj;exact GA)|(cases Cj)
 have aff:np ks ys=true:=by
  unfold rH at QX
  rw[hks]at QX
  cases dG:bL s p y<;>rw[dG]at QX zt<;>simp only[Bk,Option.some.injEq]at zt<;>first|exact QX.elim|(subst zt;exact QX)|(cases zt)
 obtain⟨kv,h1,h2,h3⟩:=rn (h.ev hp x) Cj afg
 obtain⟨Ae,h4,h5,h6⟩:=rn (h.ev hp y) zt aff
 have law:=sn t ks hks
 obtain⟨b',eI,eH⟩:=law.eq kv Ae h2 h5
 have key: ∃v',∀w,(execOp a.eval o).run P w= .ok (.value v') w:=by
  cases neg with
  |false=>
   refine⟨.bool b',fun w=>?_⟩
   simp only[execOp,he,cond_false,h3,h6]
   simp[Sem.run_bind,run_eqGuard_agg _ _ _ _ _ _ _ law.guard,run_eql_struct,eH,Result.andThen]
  |true=>
   refine⟨.bool (!b'),fun w=>?_⟩
   simp only[execOp,he,cond_true,h3,h6]
   simp[Sem.run_bind,run_eqGuard_agg _ _ _ _ _ _ _ law.guard,run_neq_struct,eH,Result.andThen]
 obtain⟨v',hv'⟩:=key
 rw[hv' w]at hr
 cases hr
 exact hv' w'
theorem Nc(hL:bn P L){t:Nat}(h:wV L t=true):P.underlying t=some .bool:=by
 unfold wV at h
 split at h
 ·rename_i ti ug
  split at h
  ·rename_i hk
   obtain⟨i,d,z,_,_,_,_,_,h7,h8⟩:=(hL.ok t ti ug).ex
   rw[hk]at h8
   rw[h7];exact congrArg some h8
  ·cases h
 ·cases h
theorem Ky(hL:bn P L){t:Nat}(h:sQ L t=true): ∃e,P.underlying t=some (.slice e):=by
 unfold sQ at h
 split at h
 ·rename_i ti ug
  split at h
  ·rename_i e hk
   obtain⟨i,d,z,_,_,_,_,_,h7,h8⟩:=(hL.ok t ti ug).ex
   rw[hk]at h8
   exact⟨e,by rw[h7];exact congrArg some h8⟩
  ·cases h
 ·cases h
theorem Ek(op:BinOp)(t:Nat)(x y:Operand)(a b:Bool)(w:World):(eqGuard op t x y (.bool a) (.bool b)).run P w= .ok () w:=by
 unfold eqGuard
 split<;>rfl
theorem BN(op:BinOp)(t:Nat)(x y:Operand)(A B:Option Addr)(n c m k:Nat)(w:World):(eqGuard op t x y (.slice A n c) (.slice B m k)).run P w= .ok () w:=by
 unfold eqGuard
 split<;>rfl
theorem Jd(hL:bn P C.L)(h:bq E0 E w0 w s a){o:Oper}{t:Nat}{x y:Operand}{neg:Bool}{ty:Nat}(he:o.op= .binOp (bif neg then .neq else .eql) t x y ty):
  (∀u v,bL s p x= .v (.bool u)→bL s p y= .v (.bool v)→wV C.L t=true→aY s p→ ∀w',(execOp a.eval o).run P w'= .ok (.value (.bool (bif neg then !(u==v)else u==v))) w')∧
  (∀r xs,bL s p x= .sl r xs→bL s p y= .v (.slice none 0 0)→sQ C.L t=true→aY s p→ ∃b:Bool,(b=true→xs.length=0)∧ ∀w',(execOp a.eval o).run P w'= .ok (.value (.bool (bif neg then !b else b))) w'):=by
 refine⟨fun u v hx hy hb hp w'=>?_,fun r xs hx hy hb hp=>?_⟩
 ·have h1:=h.ev hp x
  have h2:=h.ev hp y
  rw[hx]at h1;rw[hy]at h2
  have e1:a.eval x= .bool u:=by generalize a.eval x=z at h1;cases h1;rfl
  have e2:a.eval y= .bool v:=by generalize a.eval y=z at h2;cases h2;rfl
  have hu:=Nc hL hb
  cases neg with
  |false=>simp only[execOp,he,cond_false,e1,e2];simp[Sem.run_bind,Ek,run_eql_bool _ _ _ _ hu,Result.andThen]
  |true=>simp only[execOp,he,cond_true,e1,e2];simp[Sem.run_bind,Ek,run_neq_bool _ _ _ _ hu,Result.andThen]
 ·have h1:=h.ev hp x
  have h2:=h.ev hp y
  rw[hx]at h1;rw[hy]at h2
  have e2:a.eval y= .slice none 0 0:=by generalize a.eval y=z at h2;cases h2;rfl
  obtain⟨e,hu⟩:=Ky hL hb
  obtain⟨A,n,c,e1,hA⟩: ∃A n c,a.eval x= .slice A n c∧(A.isNone=true→xs.length=0):=by
   generalize a.eval x=z at h1
   cases h1 with
   |nA r A c=>exact⟨A,0,c,rfl,fun _=>rfl⟩
   |sl r xs z b o c u hp=>exact⟨_,_,_,rfl,fun hh=>by simp at hh⟩
  refine⟨A.isNone,hA,fun w'=>?_⟩
  have r1:(binOp .eql t (.slice A n c) (.slice none 0 0)).run P w'= .ok (.bool A.isNone) w':=Go.Lib.run_eql_slice_nil w' t e A n c 0 0 hu
  cases neg with
  |false=>simp only[execOp,he,cond_false,e1,e2];simp[Sem.run_bind,BN,r1,Result.andThen]
  |true=>simp only[execOp,he,cond_true,e1,e2];simp[Sem.run_bind,BN,run_neq_slice_nil w' t e A n c hu,Result.andThen]
theorem nv(hI:C.I=al)(hL:bn P C.L)(sn: ∀t ks,C.eqs t=some ks→tl P t ks)(h:bq E0 E w0 w s a){o:Oper}{t:Nat}{x y:Operand}{neg:Bool}{ty:Nat}(he:o.op= .binOp (bif neg then .neq else .eql) t x y ty){K:bf}(hk:Pn C p neg t (bL s p x) (bL s p y) s K):Reads P E w a o s p K:=by
 obtain⟨r1,r2⟩:=Jd (p:=p) hL h he
 unfold Pn at hk
 split at hk
 ·rename_i u v hx hy
  cases hb:wV C.L t with
  |false=>rw[hb]at hk;exact hk.elim
  |true=>
   rw[hb,cond_true,hI]at hk
   refine⟨_,hk,fun hp=>⟨_,r1 u v hx hy hb hp w,?_⟩⟩
   cases neg<;>exact .v _
 ·rename_i r xs hx hy
  cases hb:sQ C.L t with
  |false=>rw[hb]at hk;exact hk.elim
  |true=>
   rw[hb,cond_true]at hk
   by_cases hp:aY s p
   ·obtain⟨b,yD,Cn⟩:=r2 r xs hx hy hb hp
    have hu:under s p (b=true→C.I.eR xs=0):=by
     unfold under
     rw[hI]
     split
     ·exact yD
     ·exact fun _=>yD
    refine⟨_,hk b hu,fun _=>⟨_,Cn w,?_⟩⟩
    rw[hI]
    cases neg<;>exact .v _
   ·have hu:under s p (false=true→C.I.eR xs=0):=by
     unfold under
     split
     ·exact fun e=>by cases e
     ·exact fun _ e=>by cases e
    exact⟨_,hk false hu,fun Ub=>absurd Ub hp⟩
 ·exact Pm hI sn h he hk
theorem Je(hL:bn P C.L)(sn: ∀t ks,C.eqs t=some ks→tl P t ks)(h:bq E0 E w0 w s a){o:Oper}{t:Nat}{x y:Operand}{neg:Bool}{ty:Nat}(he:o.op= .binOp (bif neg then .neq else .eql) t x y ty){K:bf}(hk:Pn C p neg t (bL s p x) (bL s p y) s K)(hp:aY s p){v:Value}
  (hr:(execOp a.eval o).run P w= .ok (.value v) w)(w':World):(execOp a.eval o).run P w'= .ok (.value v) w':=by
 obtain⟨r1,r2⟩:=Jd (p:=p) hL h he
 unfold Pn at hk
 split at hk
 ·rename_i u v' hx hy
  cases hb:wV C.L t with
  |false=>rw[hb]at hk;exact hk.elim
  |true=>
   rw[r1 u v' hx hy hb hp w]at hr
   cases hr
   exact r1 u v' hx hy hb hp w'
 ·rename_i r xs hx hy
  cases hb:sQ C.L t with
  |false=>rw[hb]at hk;exact hk.elim
  |true=>
   obtain⟨b,yD,Cn⟩:=r2 r xs hx hy hb hp
   rw[Cn w]at hr
   cases hr
   exact Cn w'
 ·exact VR sn h he hk hp hr w'
structure Ok(P:Program)(C:dj):Prop where
 lay:bn P C.L
 al:C.I=Ab.al
 call:yz P C
 inl:zY P C
 AQ:zY P {C with inl:=C.AQ}
 yl:QE P C.yl
 cl: ∀k,C.cl k=true→C.sR k=false
 keys: ∀t ks,C.keys t=some ks→KeyLaw P t ks
 eqs: ∀t ks,C.eqs t=some ks→tl P t ks
theorem mm{o:Oper}{K:bf}{Q:Exit→Act→World→Prop}(h:bq E0 E w0 w s a)(hp:aY s p)(k:Reads P E w a o s p K):lj P o a w (fC E0 w0 o a K) Q:=by
 obtain⟨r,hk,hx⟩:=k
 obtain⟨x,hr,hc⟩:=hx hp
 exact cP hr ⟨r,s,E,hk,h,hc⟩
theorem AK(ok:Ok P C)(h:bq E0 E w0 w s a){o:Oper}{K:bf}{c:Call}(he:o.op= .call c)(hc:c.callee= .builtin .len)
  (hk:match J6 C.I C.L .len c.argTypes.toList (c.args.toList.map (bL s p))with|some (.v (.int k m))=> ∃z,m=z∧K (.v (.int k z)) s|_=>False):Reads P E w a o s p K:=by
 split at hk
 ·rename_i k m hp
  obtain⟨z,rfl,hk⟩:=hk
  refine⟨_,hk,fun wX=>?_⟩
  rw[ok.al]at hp
  exact tN ok.lay h wX (by rw[he];exact Kp hc hp)
 ·exact hk.elim
theorem zg{cl:Nat→Bool}{o:Oper}{K:Act→World→Prop}{Q:Exit→Act→World→Prop}(hn:lR cl o.op=false)(h:lj P o a w K Q):lj P o a w (fun a' w'=>K a' w'∧(lR cl o.op=true→bU w w')) Q:=
 lj.mono (fun _ _ hh=>⟨hh,fun hc=>by rw[hn]at hc;cases hc⟩) h
theorem Tv{d:Option Nat}{f:AV}{args:List AV}{K:bf}(hp:p≠[])(h:ZX (noI C d) p f args s K):ZX C p f args s K:=by
 unfold noI at h
 cases fB:zD C 4000 d with
 |false=>rw[fB]at h;exact h
 |true=>
  rw[fB]at h
  match p,hp with
  |x::q,_=>exact h
theorem Ps(ok:Ok P C)(h:bq E0 E w0 w s a){o:Oper}{K:bf}{Q:Exit→Act→World→Prop}(hk:Vs C [] o s K):lj P o a w (fun a' w'=>fC E0 w0 o a K a' w'∧(lR C.cl o.op=true→bU w w')) Q:=by
 by_cases mF: ∃c f,o.op= .call c∧c.callee= .value f
 ·obtain⟨c,f,he,hc⟩:=mF
  unfold Vs at hk
  rw[he]at hk
  dsimp only at hk
  rw[hc]at hk
  unfold noI at hk
  cases fB:zD C 4000 o.dst with
  |false=>rw[fB]at hk;exact wM (p:=[]) ok.cl ok.call ok.inl ok.yl h trivial he hc hk
  |true=>rw[fB]at hk;exact wM (p:=[]) (C:={C with sR:=fun _=>false}) (fun _ _=>rfl) ok.call ok.inl ok.yl h trivial he hc hk
 refine zg ?_ ?_
 ·unfold lR
  split
  ·rename_i c he
   split
   ·rename_i k hc;exact absurd ⟨c,_,he,hc⟩ mF
   ·rfl
  ·rfl
 unfold Vs at hk
 split at hk
 ·rename_i t he
  split at hk
  ·exact Dd ok.lay h he hk
  ·exact hk.elim
 ·rename_i t m k v he
  exact Fb ok.lay ok.al ok.keys h he hk
 ·rename_i t m k he
  exact mm (p:=[]) h trivial (xo ok.lay ok.keys h he hk)
 ·rename_i t m k he
  split at hk
  ·exact G9 ok.lay ok.al ok.keys h he hk
  ·exact hk.elim
 ·rename_i t m st v he
  exact Ai ok.al h he hk
 ·rename_i t x y ty he
  exact mm (p:=[]) h trivial (nv (neg:=false) ok.al ok.lay ok.eqs h he hk)
 ·rename_i t x y ty he
  exact mm (p:=[]) h trivial (nv (neg:=true) ok.al ok.lay ok.eqs h he hk)
 ·rename_i c x y he
  exact mm (p:=[]) h trivial (vj ok.al h he hk)
 ·rename_i e x he
  split at hk
  ·rename_i d _ hd _
   exact LK h he hk
  ·exact hk.elim
 ·rename_i e he
  split at hk
  ·exact Hn ok.lay ok.al h he hk
  ·exact hk.elim
 ·rename_i t x y he
  have hk:GZ C t (bL s [] x) (bL s [] y) s K:=hk
  have hk:(∃d i off z r tk ys ti,bL s [] x= .cG (.s d) i off z∧bL s [] y= .gs r tk ys∧C.L t=some ti∧ti.size=1∧NU C d i off z r tk ys s K)∨G5 C t (bL s [] x) (bL s [] y) s K:=by
   unfold GZ at hk
   split at hk
   ·rename_i d i off z r tk ys e1 e2
    cases hio:aeJ (look d s.b)with
    |false=>rw[hio,cond_false]at hk;right;exact hk
    |true=>
     rw[hio,cond_true]at hk
     split at hk
     ·rename_i ti ug;exact .inl ⟨d,i,off,z,r,tk,ys,ti,e1,e2,ug,hk.1,hk.2⟩
     ·exact hk.elim
   ·exact .inr hk
  rcases hk with⟨d,i,off,z,r,tk,ys,ti,e1,e2,ug,hz1,hk⟩|hk
  ·exact Jg ok.lay ok.al h he e1 e2 ug hz1 hk
  unfold G5 at hk
  split at hk
  ·rename_i n z ys dG
   exact Db ok.lay ok.al h he dG hk
  ·exact Hi ok.lay ok.al h he (LG hk)
 ·rename_i t x he
  cases fB:zD C 2000 o.dst with
  |false=>rw[fB]at hk;exact mm (p:=[]) h trivial (rj ok.lay ok.al h he hk)
  |true=>
   rw[fB,cond_true]at hk
   split at hk
   ·obtain⟨r,s',E1,k1,k2,k3,k4⟩:=Bh ok.lay h he hk
    obtain⟨x,Cj,I3⟩:=k4 trivial
    exact cP Cj ⟨r,s',E1,k1,k2,I3⟩
   ·exact hk.elim
 ·rename_i t x y he
  split at hk
  ·rename_i n hn
   exact mm (p:=[]) h trivial (xK ok.lay ok.al h he hn hk)
  ·exact hk.elim
 ·rename_i t x y he
  split at hk
  ·rename_i n hn
   exact mm (p:=[]) h trivial (tA ok.lay h he hn hk)
  ·exact hk.elim
 ·rename_i t len parts he
  split at hk
  ·rename_i d hd
   cases fB:Nd (d+3000) C.op with
   |true=>rw[fB,cond_true]at hk;exact Fc ok.lay h he hk
   |false=>
   rw[fB,cond_false]at hk
   obtain⟨r,s',E1,E2,w2,⟨r',Ag,k1⟩,k2,k3,k4,k5⟩:=rk ok.lay h he (uF hk)
   obtain⟨x,Cj,I3⟩:=k5 trivial
   exact cP Cj ⟨r',s',E2,k1,k4,Ag _ _ I3⟩
  ·exact hk.elim
 ·rename_i f first cap he
  split at hk
  ·rename_i hf
   obtain⟨r,s',E1,k1,k2,k3,k4⟩:=Bj h he hf hk
   obtain⟨x,Cj,I3⟩:=k4 trivial
   exact cP Cj ⟨r,s',E1,k1,k2,I3⟩
  ·split at hk
   ·rename_i hc
    cases hi:bZ (first.toList.map fun x=>rd (bL s [] x))with
    |false=>rw[hi]at hk;exact hk.elim
    |true=>
    rw[hi,cond_true]at hk
    obtain⟨r,s',E1,k1,k2,k3,k4⟩:=FY h he hc hi hk
    obtain⟨x,Cj,I3⟩:=k4 trivial
    exact cP Cj ⟨r,s',E1,k1,k2,I3⟩
   ·exact hk.elim
 ·rename_i t x y he
  split at hk
  ·rename_i d n m hd _ hn hm
   exact Jl ok.lay ok.al h he hn hm (Pl ok.al hk)
  ·exact hk.elim
 ·rename_i t x lo hi mx he
  split at hk
  ·exact mm (p:=[]) h trivial (yG ok.lay ok.al h he hk)
  ·exact hk.elim
 ·rename_i c he
  split at hk
  ·rename_i f hc
   exact absurd ⟨c,f,he,hc⟩ mF
  ·rename_i b hc
   unfold yH at hk
   split at hk
   ·rename_i d t t' x y h0 hd QW cQ
    cases htt:cS t t' with
    |false=>rw[htt]at hk;exact hk.elim
    |true=>
     rw[htt,cond_true]at hk
     have ajp:t=t':=dg htt
     obtain⟨x0,y0,hxy,e1,e2⟩: ∃x0 y0,c.args= #[x0,y0]∧bL s [] x0=x∧bL s [] y0=y:=by
      cases iH:c.args.toList with
      |nil=>rw[iH]at cQ;simp at cQ
      |cons x0 r=>cases r with
       |nil=>rw[iH]at cQ;simp at cQ
       |cons y0 r2=>cases r2 with
        |nil=>rw[iH]at cQ;simp at cQ;exact⟨x0,y0,Array.toList_inj.1 iH,cQ.1,cQ.2⟩
        |cons _ _=>rw[iH]at cQ;simp at cQ
     subst e1;subst e2
     cases fB:zD C 1000 (some d)with
     |true=>
      rw[fB,cond_true]at hk
      exact Ji ok.lay ok.al h he hc hxy (Array.toList_inj.1 QW) ajp.symm hk
     |false=>
     rw[fB,cond_false]at hk
     exact Fg ok.lay ok.al h he hc hxy (Array.toList_inj.1 QW) ajp.symm (Jh ok.al hk)
   ·rename_i t t' x y wX QW cQ
    obtain⟨x0,y0,hxy,e1,e2⟩: ∃x0 y0,c.args= #[x0,y0]∧bL s [] x0=x∧bL s [] y0=y:=by
     cases iH:c.args.toList with
     |nil=>rw[iH]at cQ;simp at cQ
     |cons x0 r=>cases r with
      |nil=>rw[iH]at cQ;simp at cQ
      |cons y0 r2=>cases r2 with
       |nil=>rw[iH]at cQ;simp at cQ;exact⟨x0,y0,Array.toList_inj.1 iH,cQ.1,cQ.2⟩
       |cons _ _=>rw[iH]at cQ;simp at cQ
    subst e1;subst e2
    exact Jf ok.lay ok.al h he hc hxy (Array.toList_inj.1 QW) hk
   ·exact mm (p:=[]) h trivial (AK ok h he hc hk)
   ·exact hk.elim
  ·exact hk.elim
 ·exact hk.elim
def Pe(P:Program)(cl:Nat→Bool)(E0:Env)(w0 w:World)(a:Act)(o:Oper)(s:St)(p:Path)(K:bf)(Q:Exit→Act→World→Prop):Prop:=
 ∃r s',K r s'∧(∀q,aY s' q↔aY s q)∧(aY s p→lj P o a w (fun a' w'=>fC E0 w0 o a (fun r0 s0=>r0=r∧s0=s') a' w'∧(lR cl o.op=true→bU w w')) Q)∧ ∃E1,bq E0 E1 w0 w s' a
theorem fb{o:Oper}{K:bf}{Q:Exit→Act→World→Prop}(h:bq E0 E w0 w s a)(hn:lR C.cl o.op=false)(k:Reads P E w a o s p K):Pe P C.cl E0 w0 w a o s p K Q:=by
 obtain⟨r,hk,hx⟩:=k
 refine⟨r,s,hk,fun _=>Iff.rfl,fun hp=>zg hn ?_,E,h⟩
 obtain⟨x,hr,hc⟩:=hx hp
 exact cP hr ⟨r,s,E,⟨rfl,rfl⟩,h,hc⟩
theorem Pt(ok:Ok P C)(h:bq E0 E w0 w s a){o:Oper}{K:bf}{Q:Exit→Act→World→Prop}(uW:p≠[])(hk:Vs C p o s K):Pe P C.cl E0 w0 w a o s p K Q:=by
 unfold Vs at hk
 split at hk
 ·split at hk
  ·exact absurd rfl uW
  ·exact hk.elim
 ·split at hk
  ·exact absurd rfl uW
  ·exact hk.elim
 ·rename_i t m k he
  exact fb h (by rw[he];rfl) (xo ok.lay ok.keys h he hk)
 ·split at hk
  ·exact absurd rfl uW
  ·exact hk.elim
 ·split at hk
  ·exact absurd rfl uW
  ·exact hk.elim
 ·rename_i t x y ty he
  exact fb h (by rw[he];rfl) (nv (neg:=false) ok.al ok.lay ok.eqs h he hk)
 ·rename_i t x y ty he
  exact fb h (by rw[he];rfl) (nv (neg:=true) ok.al ok.lay ok.eqs h he hk)
 ·rename_i c x y he
  exact fb h (by rw[he];first|rfl|(simp[lR,hc])) (vj ok.al h he hk)
 ·rename_i e x he
  split at hk
  ·exact absurd rfl uW
  ·exact hk.elim
 ·rename_i e he
  split at hk
  ·exact absurd rfl uW
  ·exact hk.elim
 ·rename_i t x y he
  split at hk
  ·exact absurd rfl uW
  ·exact hk.elim
 ·rename_i t x he
  cases fB:zD C 2000 o.dst with
  |false=>rw[fB]at hk;exact fb h (by rw[he];first|rfl|(simp[lR,hc])) (rj ok.lay ok.al h he hk)
  |true=>
   rw[fB,cond_true]at hk
   split at hk
   ·exact absurd rfl uW
   ·exact hk.elim
 ·rename_i t x y he
  split at hk
  ·rename_i n hn
   exact fb h (by rw[he];first|rfl|(simp[lR,hc])) (xK ok.lay ok.al h he hn hk)
  ·exact hk.elim
 ·rename_i t x y he
  split at hk
  ·rename_i n hn
   exact fb h (by rw[he];first|rfl|(simp[lR,hc])) (tA ok.lay h he hn hk)
  ·exact hk.elim
 ·rename_i t len parts he
  split at hk
  ·rename_i d hd
   cases fB:Nd (d+3000) C.op with
   |true=>
    rw[fB,cond_true]at hk
    exfalso
    revert hk
    split
    ·exact fun _=>absurd rfl uW
    ·exact fun hh=>hh
   |false=>
   rw[fB,cond_false]at hk
   obtain⟨r,s',E1,E2,w2,⟨r',Ag,k1⟩,k2,k3,k4,k5⟩:=rk ok.lay h he (uF hk)
   refine⟨r',s',k1,k3,fun hp=>?_,E1,k2⟩
   obtain⟨x,Cj,I3⟩:=k5 hp
   refine zg (by rw[he];rfl) ?_
   exact cP Cj ⟨r',s',E2,⟨rfl,rfl⟩,k4,Ag _ _ I3⟩
  ·exact hk.elim
 ·rename_i f first cap he
  split at hk
  ·rename_i hf
   obtain⟨r,s',E1,k1,k2,k3,k4⟩:=Bj h he hf hk
   refine⟨r,s',k1,k3,fun hp=>?_,E1,k2⟩
   obtain⟨x,Cj,I3⟩:=k4 hp
   refine zg (by rw[he];rfl) ?_
   exact cP Cj ⟨r,s',E1,⟨rfl,rfl⟩,k2,I3⟩
  ·split at hk
   ·rename_i hc
    cases hi:bZ (first.toList.map fun x=>rd (bL s p x))with
    |false=>rw[hi]at hk;exact hk.elim
    |true=>
    rw[hi,cond_true]at hk
    obtain⟨r,s',E1,k1,k2,k3,k4⟩:=FY h he hc hi hk
    refine⟨r,s',k1,k3,fun hp=>?_,E1,k2⟩
    obtain⟨x,Cj,I3⟩:=k4 hp
    refine zg (by rw[he];rfl) ?_
    exact cP Cj ⟨r,s',E1,⟨rfl,rfl⟩,k2,I3⟩
   ·exact hk.elim
 ·rename_i t x y he
  split at hk
  ·exact absurd rfl uW
  ·exact hk.elim
 ·rename_i t x lo hi mx he
  split at hk
  ·exact fb h (by rw[he];first|rfl|(simp[lR,hc])) (yG ok.lay ok.al h he hk)
  ·exact hk.elim
 ·rename_i c he
  split at hk
  ·rename_i f hc
   have hk:=Tv uW hk
   unfold ZX at hk
   split at hk
   ·rename_i k cap dG
    split at hk
    ·exact absurd rfl uW
    ·cases hi:bZ ((c.args.toList.map fun x=>rd (bL s p x))++cap)with
     |true=>
      rw[hi,cond_true]at hk
      obtain⟨r,mF,hk⟩:=hk
      refine⟨r,_,hk,fun q=>ig lT,fun hp=>?_,E,h.giveUp lT⟩
      refine wM ok.cl ok.call ok.inl ok.yl h hp he hc ?_
      unfold ZX
      rw[dG]
      dsimp only
      split
      ·exact absurd rfl uW
      ·rw[hi,cond_true];exact⟨r,mF,rfl,rfl⟩
     |false=>
      rw[hi,cond_false]at hk
      obtain⟨KL,r,mF,hk⟩:=hk
      refine⟨r,_,hk,fun q=>ig lT,fun hp=>?_,E,h.giveUp lT⟩
      refine wM ok.cl ok.call ok.inl ok.yl h hp he hc ?_
      unfold ZX
      rw[dG]
      dsimp only
      split
      ·exact absurd rfl uW
      ·rw[hi,cond_false];exact⟨KL,r,mF,rfl,rfl⟩
   ·split at hk
    ·exact absurd rfl uW
    ·exact hk.elim
   ·split at hk
    ·exact absurd rfl uW
    ·exact hk.elim
   ·exact hk.elim
  ·rename_i hc
   unfold yH at hk
   split at hk
   ·exact absurd rfl uW
   ·exact absurd rfl uW
   ·exact fb h (by rw[he];first|rfl|(simp[lR,hc])) (AK ok h he hc hk)
   ·exact hk.elim
  ·exact hk.elim
 ·exact hk.elim
theorem Iq(d e:Nat)(b:Bool): ∀q:Path,Ir d (q++[(e,b)])=(Ir d q||cS e d)
 |[]=>by simp[Ir]
 |(k,w)::r=>by simp only[List.cons_append,Ir,Iq d e b r,Bool.or_assoc]
theorem Gy{d e:Nat}(h:Qe d s.c=false):Ir d (dF s e)=false:=by
 unfold dF
 cases hl:look e s.c with
 |none=>rfl
 |some q=>
  dsimp only
  by_cases hh:Ir d q=true
  ·rw[zp hl hh]at h;cases h
  ·simpa using hh
theorem Gj(d:Nat)(b:Bool): ∀q:Path,aY s (q++[(d,b)])↔aY s q∧isB b (look d s.t)
 |[]=>by simp[aY]
 |(k,w)::r=>by simp only[List.cons_append,aY,Gj d b r,and_assoc]
def B5(E0:Env)(w0:World)(K:St→Prop)(a:Act)(w:World):Prop:= ∃s E,K s∧bq E0 E w0 w s a
theorem zB(h:bq E0 E w0 w s a){ops:Array Oper}{o og:Oper}{j d:Nat}{b:Bool}(hg:o.guard=some (j,b))(hj:ops[j]? =some og)(hd:og.dst=some d)(hb:isBool (look d s.t)=true):
  Region.wanted o (yielded ops a.tmps)=true↔aY s (dF s d++[(d,b)]):=by
 have hy:yielded ops a.tmps j=match a.tmps[d]? with|some (.bool x)=>some x|_=>none:=by
  simp only[yielded,hj,hd,Option.bind_some]
  rfl
 obtain⟨g,hgl⟩: ∃g,look d s.t=some (.v (.bool g)):=by
  unfold isBool at hb
  split at hb
  ·rename_i g hh;exact⟨g,hh⟩
  ·cases hb
 rw[Gj,hgl]
 simp only[Region.wanted,hg,hy]
 by_cases hp:aY s (dF s d)
 ·have hc:=bG (h.tm d _ hgl hp)
  have hq:a.tmps[d]? =some (.bool g):=by
   rw[Array.getD_eq_getD_getElem?]at hc
   cases hh:a.tmps[d]? with
   |none=>rw[hh]at hc;simp[undef]at hc
   |some z=>rw[hh]at hc;simp at hc;rw[hc]
  rw[hq]
  simp only[isB,hp,true_and]
  simp
 ·have hu:a.tmps.getD d undef=undef:=by
   unfold dF at hp
   cases hl:look d s.c with
   |none=>rw[hl]at hp;exact absurd trivial hp
   |some q=>rw[hl]at hp;exact h.cu d q hl hp
  have hq:(match a.tmps[d]? with|some (.bool x)=>some x|_=>none)=(none:Option Bool):=by
   rw[Array.getD_eq_getD_getElem?]at hu
   cases hh:a.tmps[d]? with
   |none=>rfl
   |some z=>rw[hh]at hu;simp at hu;subst hu;rfl
  rw[hq]
  constructor
  ·intro hh;simp at hh
  ·intro hh;exact absurd hh.1 hp
theorem Dj(ok:Ok P C){ops:Array Oper}{Q:Exit→Act→World→Prop}{K:St→Prop}{o:Oper}(h:bq E0 E w0 w s a)(hk:Hg C ops.toList o s K):
  if Region.wanted o (yielded ops a.tmps)then lj P o a w (fun a' w'=>B5 E0 w0 K a' w'∧(lR C.cl o.op=true→bU w w')) Q else B5 E0 w0 K (a.put o.dst undef) w:=by
  unfold Hg at hk
  cases hg:o.guard with
  |none=>
   rw[hg]at hk
   dsimp only at hk
   rw[if_pos (by simp[Region.wanted,hg])]
   cases hp:BB C.I C.L s [] o.op with
   |some r=>
    rw[hp]at hk
    dsimp only at hk
    rw[ok.al]at hp
    replace hp:=tO hp
    obtain⟨x,hr,hc⟩:=tN ok.lay h (p:=[]) trivial hp
    unfold lj
    rw[hr]
    exact⟨⟨_,_,hk.2,h.put hk.1 (fun _ _=>rfl) (.inl ⟨trivial,hc⟩)⟩,fun _=>bU.refl w⟩
   |none=>
    rw[hp]at hk
    dsimp only at hk
    refine lj.mono (fun a' w' hn=>?_) (Ps (Q:=Q) ok h hk)
    obtain⟨⟨x,rfl,r,s',E',⟨hd,jt⟩,hs,hc⟩,KP⟩:=hn
    exact⟨⟨_,_,jt,hs.put hd (fun _ _=>rfl) (.inl ⟨trivial,hc⟩)⟩,KP⟩
  |some jb=>
   obtain⟨j,b⟩:=jb
   rw[hg]at hk
   dsimp only at hk
   cases hj:ops.toList[j]? with
   |none=>rw[hj]at hk;exact hk.elim
   |some og=>
    rw[hj]at hk
    dsimp only at hk
    cases hd:og.dst with
    |none=>rw[hd]at hk;exact hk.elim
    |some d=>
     rw[hd]at hk
     dsimp only at hk
     cases hb:(wm s o.dst&&(isBool (look d s.t)&&K5 o.dst d))with
     |false=>rw[hb]at hk;exact hk.elim
     |true=>
      rw[hb,cond_true]at hk
      simp only[Bool.and_eq_true]at hb
      obtain⟨GB,yD,Cn⟩:=hb
      have hw:=zB h hg (by rw[←Array.getElem?_toList];exact hj) hd yD
      have vT: ∀d',o.dst=some d'→Ir d' (dF s d++[(d,b)])=false:=by
       intro d' so
       rw[so]at GB Cn
       simp only[wm,Bool.and_eq_true,Bool.not_eq_true']at GB
       rw[Iq,Gy GB.2]
       have cM: ¬d'=d:=fun e=>by subst e;simp[K5]at Cn
       rw[xZ (fun e=>cM e.symm)];rfl
      cases hp:BB C.I C.L s (dF s d++[(d,b)]) o.op with
      |some r=>
       rw[hp]at hk
       dsimp only at hk
       rw[ok.al]at hp
       replace hp:=tO hp
       by_cases wX:aY s (dF s d++[(d,b)])
       ·rw[if_pos (hw.2 wX)]
        obtain⟨x,hr,hc⟩:=tN ok.lay h wX hp
        unfold lj
        rw[hr]
        exact⟨⟨_,_,hk.2,h.put hk.1 vT (.inl ⟨wX,hc⟩)⟩,fun _=>bU.refl w⟩
       ·rw[if_neg (fun hh=>wX (hw.1 hh))]
        exact⟨_,_,hk.2,h.put hk.1 vT (.inr ⟨wX,rfl⟩)⟩
      |none=>
       rw[hp]at hk
       dsimp only at hk
       obtain⟨r,s',⟨na,jt⟩,hpi,eH,E1,ajv⟩:=Pt (Q:=Q) ok h (by simp) hk
       by_cases wX:aY s (dF s d++[(d,b)])
       ·rw[if_pos (hw.2 wX)]
        refine lj.mono (fun a' w' hn=>?_) (eH wX)
        obtain⟨⟨x,rfl,r0,s0,E',⟨rfl,rfl⟩,hs,hc⟩,KP⟩:=hn
        exact⟨⟨_,_,jt,hs.put na vT (.inl ⟨(hpi _).2 wX,hc⟩)⟩,KP⟩
       ·rw[if_neg (fun hh=>wX (hw.1 hh))]
        exact⟨_,_,jt,ajv.put na vT (.inr ⟨fun hh=>wX ((hpi _).1 hh),rfl⟩)⟩
abbrev WF(ro:Option Nat):Fence:={fn:=fun _=>True,depth:=none,alive:=false,round:=ro}
theorem lj.wpIn{o:Oper}{K:Act→World→Prop}{Q:Exit→Act→World→Prop}(ro:Option Nat)(h:lj P o a w K Q):o.wpIn (WF ro) 0 P a w K Q:=by
 have X1: ∀c,o.op≠ .defer c:=fun c hc=>by
  unfold lj at h
  simp only[execOp,hc,Sem.run_bind]at h
  cases hr:(resolve a.eval c o.type).run P w with
  |ok d w'=>rw[hr]at h;exact h
  |halt x w'=>rw[hr]at h;exact h
 refine⟨fun _ _=>trivial,?_⟩
 show o.uponIn _ _ _ _ _ _ ((o.semAt ro a.eval).run P w)
 rw[Oper.semAt_eq _ _ _ X1]
 unfold lj at h
 generalize (execOp a.eval o).run P w=r at*
 cases r with
 |ok n w'=>
  cases n<;>simp only[Dl]at h
  case value=>exact h
  case skip=>exact h
  case enter f args=>
   refine⟨fun hd=>(by cases hd),(callsIn_wide (n:=0)).2 (Calls.mono h ?_)⟩
   rintro e Rq ⟨x,rfl,e2⟩
   exact e2
  case round l f tmps nI body=>
   refine⟨fun hd=>(by cases hd),RoundIn.mono (F:=WF ro) h ?_⟩
   rintro e Rq ⟨x,rfl,e2⟩
   exact e2
 |halt x w'=>simp only[Dl]at h
theorem Dh(ok:Ok P C)(ro:Option Nat){ops:Array Oper}{Q:Exit→Act→World→Prop}{K:St→Prop}(hQ: ∀a w,B5 E0 w0 K a w→Q .normal a w):
  ∀{rest:List Oper} {s:St} {E:Env} {a:Act} {w:World},bq E0 E w0 w s a→Rj C ops.toList rest s K→wpListIn (WF ro) 0 P ops Q rest a w
 |[],s,E,a,w,h,hk=>hQ a w ⟨s,E,hk,h⟩
 |o::rest,s,E,a,w,h,hk=>by
  unfold Rj at hk
  have hn: ∀a w,B5 E0 w0 (fun s'=>Rj C ops.toList rest s' K) a w→wpListIn (WF ro) 0 P ops Q rest a w:=fun a w ⟨s',E',jt,hs⟩=>Dh ok ro hQ hs jt
  have h1:=Dj (Q:=Q) ok h hk
  unfold wpListIn
  by_cases hw:Region.wanted o (yielded ops a.tmps)=true
  ·rw[if_pos hw]at h1 ⊢
   exact(lj.mono (fun a w hh=>hn a w hh.1) h1).wpIn ro
  ·rw[if_neg hw]at h1 ⊢
   exact⟨fun _ _=>trivial,hn _ _ h1⟩
end Ab
namespace Ab
open Go
variable{P:Program}{L:nO}{E0 E E':Env}{w0 w w':World}{s s':St}{a:Act}{p:Path}{C:dj}
theorem BJ{d:Nat}{x:AV}: ∀{c:List (Nat×Path)} {t:List (Nat×AV)},look d (forget c t)=some x→look d c=none∧look d t=some x
 |[],t,h=>⟨rfl,h⟩
 |(k,q)::r,t,h=>by
  simp only[forget]at h
  obtain⟨h1,h2⟩:=BJ h
  rw[fQ]at h2
  by_cases hk:k=d
  ·rw[if_pos hk]at h2;cases h2
  ·rw[if_neg hk]at h2;exact⟨by rw[aB,if_neg hk];exact h1,h2⟩
theorem bq.clean(h:bq E0 E w0 w s a):bq E0 E w0 w s.clean a:=by
 refine⟨h.heap,h.wf,h.I8,h.up,h.sz,fun d x hd _=>?_,fun d q hd=>?_,h.bx,h.lv,h.gx,h.gl,h.ext,h.xz,h.same,h.gk,h.nl,h.ng,h.lo⟩
 ·obtain⟨h1,h2⟩:=BJ hd
  exact h.tm d x h2 (by unfold dF;rw[h1];trivial)
 ·simp[St.clean,look]at hd
theorem D5{d:Nat}{x:AV}: ∀{l:List Nat} {t:List (Nat×AV)},look d (UM l t)=some x→look d t=some x
 |[],t,h=>h
 |e::r,t,h=>by
  have:=D5 (l:=r) (t:=del e t) h
  rw[fQ]at this
  split at this
  ·cases this
  ·exact this
theorem bq.FA(h:bq E0 E w0 w s a)(hc:s.c=[])(l:List Nat):bq E0 E w0 w (s.FA l) a:=by
 refine⟨h.heap,h.wf,h.I8,h.up,h.sz,fun d x hd _=>?_,fun d q hd=>?_,h.bx,h.lv,h.gx,h.gl,h.ext,h.xz,h.same,h.gk,h.nl,h.ng,h.lo⟩
 ·exact h.tm d x (D5 hd) (by unfold dF;rw[hc];trivial)
 ·simp only[St.FA]at hd;rw[hc]at hd;simp[look]at hd
def Env.only(E:Env)(f:Nat→Prop):Env:=
 {E with live:=fun k=>match k with
  | .s d=>E.live (.s d)∧f d
  | .o i=>E.live (.o i)}
theorem H7(E:Env)(f:Nat→Prop):Tr E (E.only f):=
 ⟨rfl,fun _ _=>Iff.rfl,fun _=>rfl,fun _ h=>⟨h,rfl,rfl⟩,fun _ _ _ h=>h,fun _ _ h=>h⟩
theorem sV{b:List (Nat×Ob)}: ∀{l:List Nat},hasB b l=true→ ∀d∈l,∃ob,look d b=some ob
 |[],_,d,hd=>by simp at hd
 |e::r,h,d,hd=>by
  simp only[hasB,Bool.and_eq_true]at h
  rcases List.mem_cons.1 hd with rfl|hd
  ·cases hh:look d b with
   |none=>rw[hh]at h;simp at h
   |some ob=>exact⟨ob,rfl⟩
  ·exact sV h.2 d hd
theorem zA{b:List (Nat×Ob)}: ∀{l r:List Nat},hasB b (l++r)=true→hasB b l=true∧hasB b r=true
 |[],_,h=>⟨rfl,h⟩
 |e::l,r,h=>by
  simp only[List.cons_append,hasB,Bool.and_eq_true]at h ⊢
  exact⟨⟨h.1,(zA h.2).1⟩,(zA h.2).2⟩
theorem pN{b:List (Nat×Ob)}: ∀{cs:List AV},hasB b (jT cs)=true→ ∀(q:Nat) (a:AV),cs[q]? =some a→hasB b (zl a)=true
 |[],_,q,a,h=>by simp at h
 |x::r,h,q,a,hq=>by
  rw[jT]at h
  cases q with
  |zero=>simp at hq;subst hq;exact(zA h).1
  |succ q=>exact pN (zA h).2 q a (by simpa using hq)
theorem Cz.only{b:List (Nat×Ob)}{f:Nat→Prop}(hf: ∀d ob,look d b=some ob→f d){av:AV}{x:Value}(h:Cz E av x):hasB b (zl av)=true→Cz (E.only f) av x:=by
 have k:=H7 E f
 induction h with
 |any x=>exact fun _=> .any _
 |v x=>exact fun _=> .v _
 |nA r A c=>exact fun _=> .nA _ _ _
 |sl r xs z b o c u hp hc hm dV hz hr hi fY hu hq ih=>
  exact fun _=> .sl r xs z b o c u hp hc hm dV hz hr hi fY hu (fun q a dh=>k.cm (hq q a dh) (hi q a dh))
 |sX r t=>exact fun _=> .sX _ _
 |gs r t xs z b c e cells u hc hm h0 dV hz hr hb du ho fY hi hu hq ih=>
  exact fun _=> .gs r t xs z b c e cells u hc hm h0 dV hz hr hb du ho fY hi hu (fun q a dh=>k.cm (hq q a dh) (hi q a dh))
 |aO r cs off b o u hr hi fY hu hq ih=>
  exact fun _=> .aO r cs off b o u hr hi fY hu (fun q a dh=>k.cm (hq q a dh) (hi q a dh))
 |ptr q off hl=>
  intro hb
  cases q with
  |s e=>obtain⟨ob,ho⟩:=sV hb e (by simp[zl]);exact .ptr (E:=E.only f) (.s e) off ⟨hl,hf e ob ho⟩
  |o i=>exact .ptr (E:=E.only f) (.o i) off hl
 |ia q n hl hn hc hm=>
  intro hb
  cases q with
  |s e=>obtain⟨ob,ho⟩:=sV hb e (by simp[zl]);exact .ia (E:=E.only f) (.s e) n ⟨hl,hf e ob ho⟩ hn hc hm
  |o i=>exact .ia (E:=E.only f) (.o i) n hl hn hc hm
 |cG q i off z hl=>
  intro hb
  cases q with
  |s e=>obtain⟨ob,ho⟩:=sV hb e (by simp[zl]);exact .cG (E:=E.only f) (.s e) i off z ⟨hl,hf e ob ho⟩
  |o j=>exact .cG (E:=E.only f) (.o j) i off z hl
 |mp q hl=>
  intro hb
  cases q with
  |s e=>obtain⟨ob,ho⟩:=sV hb e (by simp[zl]);exact .mp (E:=E.only f) (.s e) ⟨hl,hf e ob ho⟩
  |o i=>exact .mp (E:=E.only f) (.o i) hl
 |pV q hl=>
  intro hb
  cases q with
  |s e=>obtain⟨ob,ho⟩:=sV hb e (by simp[zl]);exact .pV (E:=E.only f) (.s e) ⟨hl,hf e ob ho⟩
  |o i=>exact .pV (E:=E.only f) (.o i) hl
 |ar n z xs ys hn hz hl hi hq ih=>exact fun _=> .ar n z xs ys hn hz hl hi (fun q a y ha hy=>k.cm (hq q a y ha hy) (hi q a ha))
 |bm f' cs ys hl hi hq ih=>exact fun _=> .bm f' cs ys hl hi (fun q a y ha hy=>k.cm (hq q a y ha hy) (hi q a ha))
 |nc r z xs x hz h ih=>exact fun _=> .nc r z xs x hz (ih rfl)
 |fn g cap ys hl hq ih=>intro hb;exact .fn g cap ys hl fun q a y ha hy=>ih q a y ha hy (pN (by simpa[zl]using hb) q a ha)
 |agg cs ys hl hq ih=>intro hb;exact .agg cs ys hl fun q a y ha hy=>ih q a y ha hy (pN (by simpa[zl]using hb) q a ha)
 |fT cs ys hl hq ih=>intro hb;exact .fT cs ys hl fun q a y ha hy=>ih q a y ha hy (pN (by simpa[zl]using hb) q a ha)
theorem Hh{t:List (Nat×AV)}: ∀{t':List (Nat×AV)},wkT t t'→ ∀d b,look d t'=some b→(match look d t with|some a=>NX a b|none=>NX .any b)
 |[],_,d,b,h=>by simp[look]at h
 |(k,y)::r,h,d,b,hd=>by
  rw[aB]at hd
  by_cases hk:k=d
  ·subst hk;rw[if_pos rfl]at hd;cases hd;exact h.1
  ·rw[if_neg hk]at hd;exact Hh h.2 d b hd
theorem NW{t:List (Nat×Ob)}: ∀{t':List (Nat×Ob)},wkB t t'→ ∀d b,look d t'=some b→ ∃a,look d t=some a∧ahE a b
 |[],_,d,b,h=>by simp[look]at h
 |(k,y)::r,h,d,b,hd=>by
  rw[aB]at hd
  by_cases hk:k=d
  ·subst hk;rw[if_pos rfl]at hd;cases hd
   have h1:=h.1
   cases hl:look k t with
   |none=>rw[hl]at h1;exact h1.elim
   |some a=>rw[hl]at h1;exact⟨a,rfl,h1⟩
  ·rw[if_neg hk]at hd;exact NW h.2 d b hd
theorem za{b:List (Nat×Ob)}: ∀{t:List (Nat×AV)},Ts b t=true→ ∀d a,look d t=some a→hasB b (zl a)=true
 |[],_,d,a,h=>by simp[look]at h
 |(k,y)::r,h,d,a,hd=>by
  simp only[Ts,Bool.and_eq_true]at h
  rw[aB]at hd
  by_cases hk:k=d
  ·rw[if_pos hk]at hd;cases hd;exact h.1
  ·rw[if_neg hk]at hd;exact za h.2 d a hd
theorem wQ{b:List (Nat×Ob)}: ∀{t:List (Nat×Ob)},okB b t=true→ ∀d cs,look d t=some (.box cs)→hasB b (jT cs)=true
 |[],_,d,a,h=>by simp[look]at h
 |(k,.box y)::r,h,d,a,hd=>by
  simp only[okB,Bool.and_eq_true]at h
  rw[aB]at hd
  by_cases hk:k=d
  ·rw[if_pos hk]at hd;cases hd;exact h.1
  ·rw[if_neg hk]at hd;exact wQ h.2 d a hd
 |(k,.arr z xs)::r,h,d,a,hd=>by
  simp only[okB]at h
  rw[aB]at hd
  by_cases hk:k=d
  ·rw[if_pos hk]at hd;cases hd
  ·rw[if_neg hk]at hd;exact wQ h d a hd
 |(k,.ow p l xs)::r,h,d,a,hd=>by
  simp only[okB]at h
  rw[aB]at hd
  by_cases hk:k=d
  ·rw[if_pos hk]at hd;cases hd
  ·rw[if_neg hk]at hd;exact wQ h d a hd
 |(k,.lp n t ps nI body st)::r,h,d,a,hd=>by
  simp only[okB,Bool.and_eq_true]at h
  rw[aB]at hd
  by_cases hk:k=d
  ·rw[if_pos hk]at hd;cases hd
  ·rw[if_neg hk]at hd;exact wQ h.2 d a hd
theorem AD{b:List (Nat×Ob)}: ∀{t:List (Nat×Ob)},okB b t=true→ ∀{d n t' ps nI body st},look d t=some (.lp n t' ps nI body st)→Ts b t'=true
 |[],_,d,_,_,_,_,_,_,h=>by simp[look]at h
 |(k,o)::r,h,d,n,t',ps,nI,body,st,hd=>by
  rw[aB]at hd
  by_cases hk:k=d
  ·rw[if_pos hk]at hd;cases hd
   simp only[okB,Bool.and_eq_true]at h
   exact h.1
  ·rw[if_neg hk]at hd
   cases o with
   |box cs=>simp only[okB,Bool.and_eq_true]at h;exact AD h.2 hd
   |arr z xs=>simp only[okB]at h;exact AD h hd
   |ow p l xs=>simp only[okB]at h;exact AD h hd
   |lp=>simp only[okB,Bool.and_eq_true]at h;exact AD h.2 hd
theorem Ju{b:List (Nat×Ob)}{f:Nat→Prop}(hf: ∀d ob,look d b=some ob→f d){t t':List (Nat×AV)}(ht:wkT t t')(jU:Ts b t'=true){T:Array Value}(h: ∀d x,look d t=some x→Cz E x (T.getD d undef)):
  ∀d x,look d t'=some x→Cz (E.only f) x (T.getD d undef):=by
 intro d x hd
 refine Cz.only hf ?_ (za jU d x hd)
 have h1:=Hh ht d x hd
 cases hl:look d t with
 |none=>rw[hl]at h1;exact fF h1 (.any _)
 |some y=>rw[hl]at h1;exact fF h1 (h d y hl)
theorem kS.wk{b:List (Nat×Ob)}{f:Nat→Prop}(hf: ∀d ob,look d b=some ob→f d): ∀{aa:List Act} {fs fs':List Fr},wkU fs fs'→okU b fs'=true→kS E aa fs→kS (E.only f) aa fs'
 |[],[],[],_,_,_=>trivial
 |a::aa,g::fs,g'::fs',hw,jU,h=>by
  simp only[okU,Bool.and_eq_true]at jU
  exact⟨⟨h.1.1.trans hw.1.1,Ju hf hw.1.2 jU.1 h.1.2⟩,kS.wk hf hw.2 jU.2 h.2⟩
 |[],_::_,_,_,_,h=>h.elim
 |_::_,[],_,_,_,h=>h.elim
 |[],[],_::_,hw,_,_=>hw.elim
 |_::_,_::_,[],hw,_,_=>hw.elim
theorem bq.wk(h:bq E0 E w0 w s a)(hw:wk s s'): ∃E',bq E0 E' w0 w s' a:=by
 obtain⟨hn,hc,Nr,hg,hnx,ht,hb,hu,jU,fB⟩:=hw
 simp only[Oi,Bool.and_eq_true]at jU
 obtain⟨aeY,X0,aeX⟩:=jU
 have jU:Ts s'.b s'.t=true∧okB s'.b s'.b=true:=⟨aeY,X0⟩
 let f:Nat→Prop:=fun d=> ∃ob,look d s'.b=some ob
 have hf: ∀d ob,look d s'.b=some ob→f d:=fun d ob hd=>⟨ob,hd⟩
 have k:=H7 E f
 have tm: ∀d x,look d s.t=some x→Cz E x (a.tmps.getD d undef):=fun d x hd=>h.tm d x hd (by unfold dF;rw[hc];trivial)
 refine⟨E.only f,⟨h.heap,⟨h.wf.aN,h.wf.own,h.wf.fz⟩,h.I8,kS.wk hf hu aeX h.up,h.sz.trans hn,fun d x hd _=>?_,fun d q hd=>?_,fun d ob hd=>?_,fun d hl=>hl.2,fun i ob hi=>?_,fun i=>?_,?_,h.xz,h.same,hg▸h.gk,h.nl,h.ng,fun hl=>h.lo (fB.trans hl)⟩⟩
 ·refine Cz.only hf ?_ (za jU.1 d x hd)
  have h1:=Hh ht d x hd
  cases hl:look d s.t with
  |none=>rw[hl]at h1;exact fF h1 (.any _)
  |some y=>rw[hl]at h1;exact fF h1 (tm d y hl)
 ·rw[Nr]at hd;simp[look]at hd
 ·obtain⟨o0,h1,h2⟩:=NW hb d ob hd
  have h3:=h.bx d o0 h1
  cases o0 with
  |ow p l xs=>cases ob with
   |arr z xs=>exact h2.elim
   |box=>exact h2.elim
   |lp=>exact h2.elim
   |ow p' l' xs'=>
    obtain⟨rfl,rfl,rfl⟩:=h2
    exact yZ (fun hl=>⟨hl,hf d _ hd⟩) rfl rfl (fun ho=>⟨ho,rfl,fun o hh=>hh⟩) (fun a x hi hc=>k.cm hc hi) (fun b hb _=>⟨hb,rfl,fun _=>Iff.rfl,rfl⟩) h3
  |lp n t ps nI body st=>cases ob with
   |arr z xs=>exact h2.elim
   |ow=>exact h2.elim
   |box=>exact h2.elim
   |lp n' t' Vt Vb Lc st'=>
    obtain⟨rfl,e2,rfl,rfl,rfl,rfl⟩:=h2
    obtain⟨hl,ho,hs,rec,eI,h4,h5,h6,h7,h8,h9,hq⟩:=h3
    exact⟨⟨hl,hf d _ hd⟩,ho,hs,rec,eI,h4,h5,h6,h7,h8,h9,Ju hf e2 (AD jU.2 hd) hq⟩
  |box cs=>cases ob with
   |arr z xs=>exact h2.elim
   |ow=>exact h2.elim
   |lp=>exact h2.elim
   |box cs'=>
    obtain⟨hl,c,e,eI,ho,hs,du,hq⟩:=h3
    obtain⟨h4,h5⟩:=wK h2
    refine⟨⟨hl,hf d _ hd⟩,c,e,eI,ho,hs,du.trans h4,fun q av x ha hx=>?_⟩
    obtain⟨a0,h6,h7⟩:=h5 q av ha
    exact Cz.only hf (fF h7 (hq q a0 x h6 hx)) (pN (wQ jU.2 d _ hd) q av ha)
  |arr z xs=>cases ob with
   |box cs'=>exact h2.elim
   |ow=>exact h2.elim
   |lp=>exact h2.elim
   |arr z' xs'=>
    obtain⟨rfl,rfl⟩:=h2
    obtain⟨hl,ke,dV,hz,hm,c,e,eI,ho,hs,du,hi,hq⟩:=h3
    exact⟨⟨hl,hf d _ hd⟩,ke,dV,hz,hm,c,e,eI,ho,hs,du,hi,fun q av x ha hx=>k.cm (hq q av x ha hx) (hi q av ha)⟩
 ·exact k.ob (h.gk i ob (hg▸hi)) (h.gx i ob (hg▸hi))
 ·rw[←hnx];exact h.gl i
 ·exact⟨h.ext.size,h.ext.aN,fun q hq=>by
   cases q with
   |s d=>exact absurd hq (h.nl d)
   |o i=>exact h.ext.live (.o i) hq,h.ext.bp⟩
theorem bU.cell{x:Addr}{v:Value}(h:bU w w')(hc:w.cell? x=some v):w'.cell? x=some v:=by
 unfold World.cell? at*
 cases hb:w.heap[x.block]? with
 |none=>rw[hb]at hc;simp at hc
 |some o=>rw[h.get hb];rw[hb]at hc;exact hc
theorem PH{P:Program}{w:World}{at_:Addr}{u:TypeId}{k:Addr}{b:Bool}(h:w.heap[at_.block]? =none): ∀r,w.seen P at_ u k b≠ .ok r:=by
 intro r hr
 simp only[World.seen,h,bind,Except.bind,throwThe,MonadExceptOf.throw,pure,Except.pure]at hr
 repeat' split at hr
 all_goals first|cases hr|skip
 all_goals simp at*
theorem bU.seen{at_:Addr}{u:TypeId}{k:Addr}{b:Bool}(h:bU w w'){r}(hr:w.seen P at_ u k b= .ok r):w'.seen P at_ u k b= .ok r:=by
 cases hb:w.heap[at_.block]? with
 |none=>exact absurd hr (PH hb r)
 |some x=>
  have eI:=h.get hb
  rw[←hr]
  simp only[World.seen,hb,eI]
theorem bU.view{at_:Addr}{u:TypeId}{k:Addr}{b:Bool}(h:bU w w'){r}(hr:w.viewLoad P at_ u k b= .ok r):w'.viewLoad P at_ u k b= .ok r:=by
 cases hs:w.seen P at_ u k b with
 |error e=>simp[World.viewLoad,hs,bind,Except.bind]at hr
 |ok t=>rw[←hr];simp only[World.viewLoad,hs,h.seen hs]
theorem bU.far{x:Addr}{b:Bool}(h:bU w w'){r}(hr:w.farLoad P x b= .ok r):w'.farLoad P x b= .ok r:=by
 unfold World.farLoad at*
 cases hb:w.heap[x.block]? with
 |none=>rw[hb]at hr;simp at hr
 |some o=>
  rw[h.get hb]
  rw[hb]at hr
  cases o<;>simp only at hr ⊢ <;>try(cases hr;done)
  rename_i at_ u
  cases hv:w.viewLoad P at_ u x b with
  |error e=>rw[hv]at hr;simp at hr
  |ok t=>rw[h.view hv];rw[hv]at hr;exact hr
def CB{α:Type}:Sem α→Prop
 | .pure _=>True
 | .halt _=>True
 | .load _ _ k=> ∀v,CB (k v)
 | .program k=> ∀p,CB (k p)
 | .mark _ k=>CB k
 |_=>False
def cC(R:World→World→Prop)(P:Program){α:Type}(m:Sem α):Prop:= ∀w w' v w1,R w w'→m.run P w= .ok v w1→w1=w∧m.run P w'= .ok v w'
theorem Jz{α:Type}{x:Sem α}(hx:CB x):cC bU P x:=by
 induction x with
 |pure a=>intro w w' v w1 _ h;simp only[Sem.run]at h ⊢;cases h;exact⟨rfl,rfl⟩
 |halt h=>intro w w' v w1 _ h;simp[Sem.run]at h
 |load m ad k ih=>
  intro w w' v w1 hR h
  simp only[Sem.run]at h ⊢
  cases hc:w.cell? ad with
  |some y=>
   rw[hc]at h;rw[hR.cell hc]
   exact ih y (hx y) w w' v w1 hR h
  |none=>
   rw[hc]at h
   dsimp only at h
   cases hf:w.farLoad P ad (m== .atomic)with
   |error e=>rw[hf]at h;cases h
   |ok t=>
    rw[hf]at h
    obtain⟨y,l⟩:=t
    have h2:=hR.far hf
    have Nr:w'.cell? ad=none:=by
     unfold World.farLoad at hf
     unfold World.cell? at hc ⊢
     cases hb:w.heap[ad.block]? with
     |none=>rw[hb]at hf;simp at hf
     |some o=>rw[hR.get hb];rw[hb]at hc;exact hc
    rw[Nr,h2]
    exact ih y (hx y) w w' v w1 hR h
 |shape r k ih=>exact hx.elim
 |frozen a k ih=>exact hx.elim
 |getObj r k ih=>exact hx.elim
 |program k ih=>intro w w' v w1 hR h;simp only[Sem.run]at h ⊢;exact ih P (hx P) w w' v w1 hR h
 |mark m k ih=>intro w w' v w1 hR h;simp only[Sem.run]at h ⊢;exact ih hx w w' v w1 hR h
 |store m a v k _=>exact hx.elim
 |new o k _=>exact hx.elim
 |freeze a n k _=>exact hx.elim
 |setObj r o k _=>exact hx.elim
 |choose q k _=>exact hx.elim
 |sys c k _=>exact hx.elim
theorem CB.bind'{α β:Type}{x:Sem α}{f:α→Sem β}(hx:CB x)(hf: ∀a,CB (f a)):CB (x.bind f):=by
 induction x with
 |pure a=>exact hf a
 |halt h=>exact trivial
 |load m a k ih=>exact fun v=>ih v (hx v)
 |shape r k ih=>exact hx.elim
 |frozen a k ih=>exact hx.elim
 |getObj r k ih=>exact hx.elim
 |program k ih=>exact fun p=>ih p (hx p)
 |mark m k ih=>exact ih hx
 |store m a v k _=>exact hx.elim
 |new o k _=>exact hx.elim
 |freeze a n k _=>exact hx.elim
 |setObj r o k _=>exact hx.elim
 |choose q k _=>exact hx.elim
 |sys c k _=>exact hx.elim
theorem CB.bind{α β:Type}{x:Sem α}{f:α→Sem β}(hx:CB x)(hf: ∀a,CB (f a)):CB (x >>= f):=hx.bind' hf
section
variable{R:World→World→Prop}
theorem cC.bind{α β:Type}{x:Sem α}{f:α→Sem β}(hx:cC R P x)(hf: ∀a,cC R P (f a)):cC R P (x >>= f):=by
 intro w w' v w1 hR h
 rw[Sem.run_bind]at h ⊢
 cases hr:x.run P w with
 |halt y w2=>rw[hr]at h;cases h
 |ok y w2=>
  rw[hr]at h
  obtain⟨rfl,h2⟩:=hx w w' y w2 hR hr
  rw[h2]
  exact hf y w2 w' v w1 hR h
theorem bC{α:Type}(x:α):cC R P (pure x:Sem α):=by
 intro w w' v w1 _ h
 cases h;exact⟨rfl,rfl⟩
theorem eb{α:Type}{m:Sem α}(h: ∀w v w1,m.run P w≠ .ok v w1):cC R P m:=fun w _ v w1 _ hr=>absurd hr (h w v w1)
theorem dY{α:Type}(s:String):cC R P (stuck s:Sem α):=eb fun w v w1 h=>by cases h
theorem p8{α:Type}(u:Unsupported):cC R P (unsupported u:Sem α):=eb fun w v w1 h=>by cases h
theorem vo{α β:Type}{x:Sem α}{f:α→Sem β}(hf: ∀a w v w1,(f a).run P w≠ .ok v w1): ∀w v w1,(x >>= f).run P w≠ .ok v w1:=by
 intro w v w1 h
 rw[Sem.run_bind]at h
 cases hr:x.run P w with
 |halt y w2=>rw[hr]at h;cases h
 |ok y w2=>rw[hr]at h;exact hf y w2 v w1 h
theorem J2{α:Type}(x y:Int)(b:Bool)(c:BoundsCode): ∀w v w1,(runtimePanic (.bounds x y b c):Sem α).run P w≠ .ok v w1:=by
 unfold runtimePanic
 refine vo fun p w v w1=>?_
 intro h
 cases h
theorem fo{α:Type}(k:IntKind)(x y:Int)(c:BoundsCode): ∀w v w1,(boundsPanic k x y c:Sem α).run P w≠ .ok v w1:=by
 unfold boundsPanic
 dsimp only
 split<;>exact vo fun _=>J2 _ _ _ _
theorem gb(t:TypeId):cC R P (underlying t):=by
 unfold underlying
 intro w w' v w1 _ h
 simp only[Sem.run_bind,program,Sem.run,Result.andThen]at h ⊢
 cases hh:P.underlying t<;>rw[hh]at h<;>simp only at h ⊢ <;>cases h
 exact⟨rfl,rfl⟩
theorem Bo(t:TypeId):cC R P (typeInfo t):=by
 unfold typeInfo
 intro w w' v w1 _ h
 simp only[Sem.run_bind,program,Sem.run,Result.andThen]at h ⊢
 cases hh:P.info? t<;>rw[hh]at h<;>simp only at h ⊢ <;>cases h
 exact⟨rfl,rfl⟩
theorem iL(t:TypeId):cC R P (Go.sizeOf t):=by
 unfold Go.sizeOf
 exact(Bo t).bind fun _=>bC _
theorem Ds(t:TypeId):cC R P (isAgg t):=by
 unfold isAgg
 refine(gb t).bind fun d=>?_
 split<;>exact bC _
theorem Dq(v:Value):cC R P (asIntOf v):=by
 unfold asIntOf
 split
 ·exact bC _
 ·exact p8 _
 ·exact dY _
theorem Bm(v:Value):cC R P (Instr.sureAddr v):=by
 unfold Instr.sureAddr
 split
 ·exact bC _
 ·exact dY _
end
theorem Bn(x:Addr)(m:Mode):cC bU P (load x m):=Jz (fun _=>trivial)
theorem yK(x:Addr): ∀(n i:Nat) (acc:Array Value),cC bU P (loadCellsFrom x i n acc)
 |0,_,_=>bC _
 |n+1,i,acc=>by
  unfold loadCellsFrom
  exact(Bn _ _).bind fun v=>yK x n (i+1) (acc.push v)
theorem xt(t:TypeId)(v:Value):cC bU P (Instr.loadAt t v):=by
 unfold Instr.loadAt
 refine(Bm v).bind fun x=>?_
 unfold loadVar
 refine(Ds t).bind fun b=>?_
 split
 ·exact(iL t).bind fun n=>((yK x n 0 #[]).bind fun _=>bC _)
 ·exact Bn _ _
theorem Dr{R:World→World→Prop}(t:TypeId)(v i:Value):cC R P (Instr.indexAt t v i):=by
 unfold Instr.indexAt
 refine(Dq i).bind fun ki=>?_
 obtain⟨k,n⟩:=ki
 dsimp only
 refine(gb t).bind fun d=>?_
 split
 ·refine(Bm _).bind fun _=>?_
  refine cC.bind (bC _) fun y=>?_
  refine(gb t).bind fun d=>?_
  split
  ·split
   ·exact(iL _).bind fun _=>bC _
   ·repeat' first
     |exact p8 _
     |exact eb (fo _ _ _ _)
     |split
  ·exact eb (fo _ _ _ _)
 ·refine cC.bind (bC _) fun y=>?_
  refine(gb t).bind fun d=>?_
  split
  ·split
   ·exact(iL _).bind fun _=>bC _
   ·repeat' first
     |exact p8 _
     |exact eb (fo _ _ _ _)
     |split
  ·exact eb (fo _ _ _ _)
 ·refine cC.bind (dY _) fun y=>?_
  refine(gb t).bind fun d=>?_
  split
  ·split
   ·exact(iL _).bind fun _=>bC _
   ·repeat' first
     |exact p8 _
     |exact eb (fo _ _ _ _)
     |split
  ·exact eb (fo _ _ _ _)
theorem Jr{R:World→World→Prop}(t:TypeId)(cs:Array Value)(o:Nat):cC R P (Go.part t cs o):=by
 unfold Go.part
 refine(Ds t).bind fun b=>?_
 repeat' first
  |exact bC _
  |exact dY _
  |refine cC.bind (iL _) fun _=>?_
  |split
  |dsimp only
theorem Hs{R:World→World→Prop}(t:TypeId)(v i:Value):cC R P (Instr.index t v i):=by
 unfold Instr.index
 refine(Dq i).bind fun ki=>?_
 obtain⟨k,n⟩:=ki
 dsimp only
 refine(gb t).bind fun d=>?_
 split
 ·split
  ·exact(iL _).bind fun _=>Jr _ _ _
  ·exact eb (fo _ _ _ _)
 ·split
  ·exact bC _
  ·exact eb (fo _ _ _ _)
 ·exact dY _
def fE(R:World→World→Prop)(P:Program)(ops:Array Oper)(o:Oper)(v:Value)(a:Act)(w:World):Prop:=
 (Region.wanted o (yielded ops a.tmps)=true∧ ∀w',R w w'→(execOp a.eval o).run P w'= .ok (.value v) w')∨
 (Region.wanted o (yielded ops a.tmps)=false∧v=undef)
section
variable{R:World→World→Prop}{ops:Array Oper}{Q:Exit→Act→World→Prop}{md:Region.Mode}
theorem fE.of_same{o:Oper}{v:Value}{a a':Act}(hy:fE R P ops o v a w)(he:execOp a'.eval o=execOp a.eval o)
  (hw:Region.wanted o (yielded ops a'.tmps)=Region.wanted o (yielded ops a.tmps)):fE R P ops o v a' w:=by
 unfold fE at*
 rw[he,hw]
 exact hy
theorem fE.later(Lv: ∀a b c,R a b→R b c→R a c){o:Oper}{v:Value}{a:Act}(hy:fE R P ops o v a w)(hR:R w w'):fE R P ops o v a w':=
 hy.imp (fun h=>⟨h.1,fun w2 h2=>h.2 w2 (Lv _ _ _ hR h2)⟩) id
def BG:Op→Bool
 | .move _=>true
 | .assign _=>true
 | .pick _ _ _=>true
 | .binOp _ _ _ _ _=>true
 | .unOp _ _ _=>true
 | .fieldAddr _ _ _=>true
 | .nilCheck _=>true
 | .extract _ _=>true
 | .build _ _=>true
 | .load _ _=>true
 | .indexAddr _ _ _=>true
 | .index _ _ _=>true
 | .call c=>match c.callee with
  | .builtin .len=>true
  |_=>false
 |_=>false
def OS:Op→Bool
 | .alloc _=>true
 | .box _ _=>true
 | .buildSlice _ _ _=>true
 | .makeFunc _ _ _=>true
 |_=>false
def EH(cl:Nat→Bool)(o:Op):Bool:=BG o||(OS o||lR cl o)
def th(P:Program){α:Type}(m:Sem α):Prop:= ∀w v w1,m.run P w= .ok v w1→bU w w1
theorem th.bind{α β:Type}{x:Sem α}{f:α→Sem β}(hx:th P x)(hf: ∀a,th P (f a)):th P (x >>= f):=by
 intro w v w1 h
 rw[Sem.run_bind]at h
 cases hr:x.run P w with
 |halt y w2=>rw[hr]at h;cases h
 |ok y w2=>rw[hr]at h;exact(hx w y w2 hr).trans (hf y w2 v w1 h)
theorem cC.BO{α:Type}{m:Sem α}(h:cC (fun _ _=>True) P m):th P m:=fun w v w1 hr=>by
 have e:=(h w w v w1 trivial hr).1
 rw[e];exact bU.refl _
theorem gw{α:Type}(x:α):th P (pure x:Sem α):=(bC x).BO
theorem AU(t:TypeId)(cells:Array Value):th P (newRow t cells):=by
 unfold newRow newObj
 refine th.bind ?_ fun _=>gw _
 intro w v w1 h
 simp only[Sem.run]at h
 cases h
 intro b hb
 exact(Array.getElem?_push_lt hb).trans (Array.getElem?_eq_getElem hb).symm
theorem GD(t:TypeId)(v:Value):th P (newVar t v):=AU t _
theorem El(t:TypeId):th P (zeroValue t):=by
 unfold zeroValue
 refine(Bo t).BO.bind fun i=>?_
 split
 ·exact gw _
 ·exact(p8 _).BO
theorem Ut{o:Oper}(hg:OS o.op=true)(ρ:Operand→Value){w w':World}{n:Next}(h:(execOp ρ o).run P w= .ok n w'):(∃v,n= .value v)∧bU w w':=by
 have fin: ∀{m:Sem Value},th P m→(do pure (.value (←m)):Sem Next).run P w= .ok n w'→(∃v,n= .value v)∧bU w w':=by
  intro m hm h
  rw[Sem.run_bind]at h
  cases hr:m.run P w with
  |halt y w2=>rw[hr]at h;cases h
  |ok y w2=>rw[hr]at h;cases h;exact⟨⟨y,rfl⟩,hm w y w' hr⟩
 unfold OS at hg
 split at hg
 ·rename_i e he
  simp only[execOp,he]at h
  refine fin ?_ h
  unfold Instr.alloc
  exact(El _).bind fun z=>(GD _ _).bind fun _=>gw _
 ·rename_i e x he
  simp only[execOp,he]at h
  refine fin ?_ h
  unfold Instr.box
  exact(GD _ _).bind fun _=>gw _
 ·rename_i t len parts he
  simp only[execOp,he]at h
  refine fin ?_ h
  unfold Instr.buildSlice
  refine(gb t).BO.bind fun d=>?_
  split
  ·refine(iL _).BO.bind fun z=>?_
   dsimp only
   split
   ·exact fun w v w1 h=>by cases h
   ·split
    ·refine th.bind (gw _) fun zero=>?_
     split
     ·exact(AU _ _).bind fun _=>gw _
     ·exact(dY _).BO
    ·refine(El _).bind fun l=>th.bind (gw _) fun zero=>?_
     split
     ·exact(AU _ _).bind fun _=>gw _
     ·exact(dY _).BO
  ·exact(dY _).BO
 ·rename_i f first cap he
  simp only[execOp,he]at h
  exact fin (gw _) h
 ·cases hg
def jI(P:Program)(cl:Nat→Bool)(ops:Array Oper)(Q:Exit→Act→World→Prop)(i:Nat)(K:Act→World→Prop)(a:Act)(w:World):Prop:=
 match ops[i]? with
 |none=>K a w
 |some o=>if Region.wanted o (yielded ops a.tmps)then lj P o a w (fun a' w'=>K a' w'∧(EH cl o.op=true→bU w w')) Q else K (a.put o.dst undef) w
theorem xM{cl:Nat→Bool}{i:Nat}{a:Act}{w:World}{K K':Act→World→Prop}(h: ∀a w,K a w→K' a w)(hh:jI P cl ops Q i K a w):jI P cl ops Q i K' a w:=by
 unfold jI at*
 cases ho:ops[i]? with
 |none=>rw[ho]at hh;exact h _ _ hh
 |some o=>
  rw[ho]at hh
  dsimp only at hh ⊢
  split
  ·rename_i hw;rw[if_pos hw]at hh;exact lj.mono (fun a w h2=>⟨h _ _ h2.1,h2.2⟩) hh
  ·rename_i hw;rw[if_neg hw]at hh;exact h _ _ hh
def p6(P:Program)(cl:Nat→Bool)(md:Region.Mode)(ops:Array Oper)(Q:Exit→Act→World→Prop):Nat→Array Bool→Act→World→Prop
 |0,listed,a,w=>Region.ready md ops listed=[]∧Q .normal a w
 |fuel+1,listed,a,w=>
  (Region.ready md ops listed=[]→Q .normal a w)∧
  ∀i∈Region.ready md ops listed,jI P cl ops Q i (p6 P cl md ops Q fuel (listed.setIfInBounds i true)) a w
theorem pZ{cl:Nat→Bool}(ro:Option Nat): ∀(fuel:Nat) (listed:Array Bool) (a:Act) (w:World),p6 P cl md ops Q fuel listed a w→wpAnyIn (WF ro) 0 P md ops Q fuel listed a w
 |0,_,_,_,h=>h
 |fuel+1,listed,a,w,h=>by
  refine⟨h.1,fun i hi=>?_⟩
  have h1:=h.2 i hi
  unfold jI at h1
  unfold wpOpIn
  cases ho:ops[i]? with
  |none=>rw[ho]at h1;exact pZ ro fuel _ _ _ h1
  |some o=>
   rw[ho]at h1
   dsimp only at h1 ⊢
   split
   ·rename_i hw;rw[if_pos hw]at h1;exact(lj.mono (fun a w h2=>pZ ro fuel _ _ _ h2.1) h1).wpIn ro
   ·rename_i hw;rw[if_neg hw]at h1;exact⟨fun _ _=>trivial,pZ ro fuel _ _ _ h1⟩
theorem fE.jI{cl:Nat→Bool}(hrf: ∀w,R w w){i:Nat}{o:Oper}{v:Value}{a:Act}{w:World}(hi:ops[i]? =some o)(hy:fE R P ops o v a w){K:Act→World→Prop}(h:K (a.put o.dst v) w):jI P cl ops Q i K a w:=by
 unfold Ab.jI
 rw[hi]
 dsimp only
 rcases hy with⟨hw,hv⟩|⟨hw,rfl⟩
 ·rw[if_pos hw];unfold lj;rw[hv w (hrf w)];exact⟨h,fun _=>bU.refl w⟩
 ·rw[if_neg (by rw[hw];simp)];exact h
theorem Pp{cl:Nat→Bool}(Lv: ∀a b c,R a b→R b c→R a c){j:Nat}{oi oj:Oper}{v:Value}(hj:ops[j]? =some oj)(hap:oi.apart ops oj=true)
  (ajI:(∀w w',R w w')∨(EH cl oj.op=true∧ ∀w w',bU w w'→R w w'))
  (hsi: ∀cs b,oi.op≠ .select cs b)(hsj: ∀cs b,oj.op≠ .select cs b)
  (hQ: ∀c a w,Q (.panic c) (a.put oi.dst v) w→Q (.panic c) a w){K:Act→World→Prop}{a:Act}{w:World}
  (hy:fE R P ops oi v a w)(h:jI P cl ops Q j K (a.put oi.dst v) w):
  jI P cl ops Q j (fun a' w'=>fE R P ops oi v a' w'∧K (a'.put oi.dst v) w') a w:=by
 obtain⟨h1,h2,h3⟩:=Oper.apart_spec hap
 have bp: ∀(a:Act) (w:World),fE R P ops oi v a w→ ∀u,fE R P ops oi v (a.put oj.dst u) w:=fun a w hy u=>
  hy.of_same (execOp_put oi hsi a oj.dst u h3) (wanted_put oi a oj.dst u h3)
 have keepD: ∀d,fE R P ops oi v {a with defers:=d::a.defers} w:=fun d=>hy.of_same rfl rfl
 have hm: ∀w',(EH cl oj.op=true→bU w w')→R w w':=fun w' Ck=>ajI.elim (fun h=>h _ _) fun h=>h.2 _ _ (Ck h.1)
 unfold jI at*
 rw[hj]at h ⊢
 dsimp only at h ⊢
 rw[wanted_put oj a oi.dst v h1]at h
 split
 ·rename_i hw
  rw[if_pos hw]at h
  unfold lj at*
  rw[execOp_put oj hsj a oi.dst v h1]at h
  cases hr:(execOp a.eval oj).run P w with
  |ok n w'=>
   rw[hr]at h
   cases n<;>simp only[Dl]at h ⊢
   case value u=>exact⟨⟨bp a w' (hy.later Lv (hm _ h.2)) u,by rw[←Act.put_comm a v u h2];exact h.1⟩,h.2⟩
   case skip=>exact⟨⟨bp a w' (hy.later Lv (hm _ h.2)) _,by rw[←Act.put_comm a v undef h2];exact h.1⟩,h.2⟩
   case enter f args=>
    refine Calls.mono h ?_
    rintro e Rq ⟨u,rfl,he⟩
    exact⟨u,rfl,⟨bp a Rq (hy.later Lv (hm _ he.2)) u,by rw[←Act.put_comm a v u h2];exact he.1⟩,he.2⟩
   case round l f tmps nI body=>
    refine RoundIn.mono h ?_
    rintro e Rq ⟨u,rfl,he⟩
    exact⟨u,rfl,⟨bp a Rq (hy.later Lv (hm _ he.2)) u,by rw[←Act.put_comm a v u h2];exact he.1⟩,he.2⟩
  |halt x w'=>
   rw[hr]at h
   simp only[Dl]at h
 ·rename_i hw
  rw[if_neg hw]at h
  exact⟨bp a w hy _,by rw[←Act.put_comm a v undef h2];exact h⟩
theorem Hf{cl:Nat→Bool}(Lv: ∀a b c,R a b→R b c→R a c)(hrf: ∀w,R w w){i:Nat}{oi:Oper}{v:Value}(hi:ops[i]? =some oi)(ajx: ∀(j:Nat) (o:Oper) cs b,ops[j]? =some o→o.op≠ .select cs b)
  (hQ: ∀c a w,Q (.panic c) (a.put oi.dst v) w→Q (.panic c) a w)(M:Nat→Prop)
  (ajV: ∀j oj,ops[j]? =some oj→j≠i→M j→oi.apart ops oj=true∧((∀w w',R w w')∨(EH cl oj.op=true∧ ∀w w',bU w w'→R w w'))):
  ∀(fuel:Nat) (listed:Array Bool) (a:Act) (w:World),
   (∀(l:Array Bool) (j:Nat),(∀k,listed.getD k false=true→l.getD k false=true)→(∀k,l.getD k false=true→listed.getD k false=true∨M k)→j≠i→j∈Region.ready md ops l→M j)→
   i∈Region.ready md ops listed→fE R P ops oi v a w→
   p6 P cl md ops Q fuel (listed.setIfInBounds i true) (a.put oi.dst v) w→p6 P cl md ops Q (fuel+1) listed a w:=by
 intro fuel
 induction fuel with
 |zero=>
  intro listed a w _ hr hy H
  refine⟨fun h=>(by rw[h]at hr;cases hr),fun j hj=>?_⟩
  by_cases X3:j=i
  ·subst X3;exact hy.jI hrf hi H
  ·have:=ready_mono hj X3
   rw[H.1]at this
   cases this
 |succ fuel ih=>
  intro listed a w hM hr hy H
  refine⟨fun h=>(by rw[h]at hr;cases hr),fun j hj=>?_⟩
  by_cases X3:j=i
  ·subst X3;exact hy.jI hrf hi H
  ·have h1:=H.2 j (ready_mono hj X3)
   obtain⟨Qk,oj,hoj,jE⟩:=mem_ready.1 hj
   have hMj:M j:=hM listed j (fun k hk=>hk) (fun k hk=> .inl hk) X3 hj
   obtain⟨hap,hmd⟩:=ajV j oj hoj X3 hMj
   have h2:=Pp Lv hoj hap hmd (fun cs b=>ajx i oi cs b hi) (fun cs b=>ajx j oj cs b hoj) hQ hy h1
   refine xM (fun a' w' h3=>ih (listed.setIfInBounds j true) a' w' (fun l k hs hl hki hk=>hM l k (fun k2 Ef=>hs k2 (getD_set_true Ef)) (fun k2 Ef=>?_) hki hk) (ready_mono hr (Ne.symm X3)) h3.1 ?_) h2
   ·rcases hl k2 Ef with h4|h4
    ·by_cases hjk:j=k2
     ·subst hjk;exact .inr hMj
     ·rw[getD_set_ne false hjk]at h4;exact .inl h4
    ·exact .inr h4
   ·rw[Array.setIfInBounds_comm _ _ X3]
    exact h3.2
end
end Ab
namespace Ab
open Go
variable{P:Program}{L:nO}{E0 E E':Env}{w0 w w':World}{s s':St}{a:Act}{p:Path}{C:dj}
theorem Pq(ok:Ok P C)(h:bq E0 E w0 w s a){o:Oper}{K:bf}(hm:BG o.op=true)(hk:Vs C p o s K):
  Ln P E0 w0 w a o s p K∧ ∀w' v,aY s p→(bU w w'∨ ∀t x,o.op≠ .load t x)→(execOp a.eval o).run P w= .ok (.value v) w→(execOp a.eval o).run P w'= .ok (.value v) w':=by
 have gh: ∀{K:bf},Reads P E w a o s p K→Ln P E0 w0 w a o s p K:=fun{K} ⟨r,hk,hx⟩=>⟨r,s,E,hk,h,fun _=>Iff.rfl,hx⟩
 unfold Vs at hk
 split at hk<;>rename_i he<;>(try(rw[he]at hm;cases hm;done))
 ·refine⟨gh (nv (neg:=false) ok.al ok.lay ok.eqs h he hk),fun w' v hp _ hr=>?_⟩
  exact Je (neg:=false) ok.lay ok.eqs h he hk hp hr w'
 ·refine⟨gh (nv (neg:=true) ok.al ok.lay ok.eqs h he hk),fun w' v hp _ hr=>?_⟩
  exact Je (neg:=true) ok.lay ok.eqs h he hk hp hr w'
 ·refine⟨gh (vj ok.al h he hk),fun w' v _ _ hr=>?_⟩
  have hs:cC (fun _ _=>True) P (execOp a.eval o):=by
   simp only[execOp,he]
   refine cC.bind ?_ fun b=>?_
   ·unfold asBool;split
    ·exact bC _
    ·exact dY _
   ·exact bC _
  exact(hs w w' _ _ trivial hr).2
 ·refine⟨?_,fun w' v _ hA hr=>?_⟩
  ·cases fB:zD C 2000 o.dst with
   |false=>rw[fB]at hk;exact gh (rj ok.lay ok.al h he hk)
   |true=>
    rw[fB,cond_true]at hk
    split at hk
    ·exact Bh ok.lay h he hk
    ·exact hk.elim
  have hs:cC bU P (execOp a.eval o):=by
   simp only[execOp,he]
   exact(xt _ _).bind fun _=>bC _
  rcases hA with hA|hA
  ·exact(hs w w' _ _ hA hr).2
  ·exact absurd he (hA _ _)
 ·split at hk
  ·rename_i n hn
   refine⟨gh (xK ok.lay ok.al h he hn hk),fun w' v _ _ hr=>?_⟩
   have hs:cC (fun _ _=>True) P (execOp a.eval o):=by
    simp only[execOp,he]
    exact(Dr _ _ _).bind fun _=>bC _
   exact(hs w w' _ _ trivial hr).2
  ·exact hk.elim
 ·split at hk
  ·rename_i n hn
   refine⟨gh (tA ok.lay h he hn hk),fun w' v _ _ hr=>?_⟩
   have hs:cC (fun _ _=>True) P (execOp a.eval o):=by
    simp only[execOp,he]
    exact(Hs _ _ _).bind fun _=>bC _
   exact(hs w w' _ _ trivial hr).2
  ·exact hk.elim
 ·rename_i c he
  split at hk
  ·rename_i f hc;rw[he]at hm;simp only[BG,hc]at hm;cases hm
  ·rename_i b hc
   rw[he]at hm
   simp only[BG,hc]at hm
   have hk0:=hk
   unfold yH at hk
   split at hk
   ·cases hm
   ·cases hm
   ·refine⟨gh (AK ok h he hc hk),fun w' v wX _ hr=>?_⟩
    split at hk
    ·rename_i k m hp
     rw[ok.al]at hp
     obtain⟨x,h1,_⟩:=vw ok.lay h wX (by rw[he];exact Kp hc hp)
     have hb:U8 o.op=true:=by rw[he];rfl
     have h2:=h1 w (fun e=>absurd (hb.symm.trans e) (by decide))
     rw[hr]at h2
     cases h2
     exact h1 w' (fun e=>absurd (hb.symm.trans e) (by decide))
    ·exact hk.elim
   ·exact hk.elim
  ·exact hk.elim
 ·exact hk.elim
def VJ(o:Op)(w w':World):Prop:=
 match o with
 | .load _ _=>bU w w'
 | .build _ _=>w'=w
 |_=>True
theorem Di(ok:Ok P C){ops:Array Oper}{K:St→Prop}{o:Oper}(h:bq E0 E w0 w s a)(hm:BG o.op=true)(hk:Hg C ops.toList o s K):
  ∃v,fE (VJ o.op) P ops o v a w∧B5 E0 w0 K (a.put o.dst v) w:=by
  have aaC: ∀{p:Path} {r:AV},aY s p→rV al C.L s p o.op=some r→ ∃x,(∀w',VJ o.op w w'→(execOp a.eval o).run P w'= .ok (.value x) w')∧Cz E r x:=by
   intro p r hp hr
   obtain⟨x,h1,h2⟩:=vw ok.lay h hp hr
   refine⟨x,fun w' hR=>?_,h2⟩
   cases ho:o.op<;>rw[ho]at hm hR h1<;>first|(exact h1 w' (fun e=>absurd (show true=false from e) (by decide)))|(cases hm;done)|skip
   ·have e:w'=w:=hR
    exact h1 w' fun _=>e
   ·have hs:cC bU P (execOp a.eval o):=by
     simp only[execOp,ho]
     exact(xt _ _).bind fun _=>bC _
    exact(hs w w' _ _ hR (h1 w fun _=>rfl)).2
  have OK: ∀{p:Path} {K:bf},Vs C p o s K→ ∃r s' E',K r s'∧bq E0 E' w0 w s' a∧(∀q,aY s' q↔aY s q)∧(aY s p→ ∃x,(∀w',VJ o.op w w'→(execOp a.eval o).run P w'= .ok (.value x) w')∧Cz E' r x):=by
   intro p K hk
   obtain⟨⟨r,s',E',h1,hS,hP,h2⟩,h3⟩:=Pq ok h hm hk
   refine⟨r,s',E',h1,hS,hP,fun hp=>?_⟩
   obtain⟨x,h4,h5⟩:=h2 hp
   refine⟨x,fun w' hR=>h3 w' x hp ?_ h4,h5⟩
   by_cases hl: ∃t y,o.op= .load t y
   ·obtain⟨t,y,hl⟩:=hl
    rw[hl]at hR;exact .inl hR
   ·exact .inr fun t y e=>hl ⟨t,y,e⟩
  unfold Hg at hk
  cases hg:o.guard with
  |none=>
   rw[hg]at hk
   dsimp only at hk
   have hwt:Region.wanted o (yielded ops a.tmps)=true:=by simp[Region.wanted,hg]
   cases hp:BB C.I C.L s [] o.op with
   |some r=>
    rw[hp]at hk
    dsimp only at hk
    rw[ok.al]at hp
    replace hp:=tO hp
    obtain⟨x,hr,hc⟩:=aaC (p:=[]) trivial hp
    exact⟨x,.inl ⟨hwt,hr⟩,_,_,hk.2,h.put hk.1 (fun _ _=>rfl) (.inl ⟨trivial,hc⟩)⟩
   |none=>
    rw[hp]at hk
    dsimp only at hk
    obtain⟨r,s',E',⟨hd,jt⟩,hS,hP,hx⟩:=OK hk
    obtain⟨x,hr,hc⟩:=hx trivial
    exact⟨x,.inl ⟨hwt,hr⟩,_,_,jt,hS.put hd (fun _ _=>rfl) (.inl ⟨trivial,hc⟩)⟩
  |some jb=>
   obtain⟨j,b⟩:=jb
   rw[hg]at hk
   dsimp only at hk
   cases hj:ops.toList[j]? with
   |none=>rw[hj]at hk;exact hk.elim
   |some og=>
    rw[hj]at hk
    dsimp only at hk
    cases hd:og.dst with
    |none=>rw[hd]at hk;exact hk.elim
    |some d=>
     rw[hd]at hk
     dsimp only at hk
     cases hb:(wm s o.dst&&(isBool (look d s.t)&&K5 o.dst d))with
     |false=>rw[hb]at hk;exact hk.elim
     |true=>
      rw[hb,cond_true]at hk
      simp only[Bool.and_eq_true]at hb
      obtain⟨GB,yD,Cn⟩:=hb
      have hw:=zB h hg (by rw[←Array.getElem?_toList];exact hj) hd yD
      have vT: ∀d',o.dst=some d'→Ir d' (dF s d++[(d,b)])=false:=by
       intro d' so
       rw[so]at GB Cn
       simp only[wm,Bool.and_eq_true,Bool.not_eq_true']at GB
       rw[Iq,Gy GB.2]
       have cM: ¬d'=d:=fun e=>by subst e;simp[K5]at Cn
       rw[xZ (fun e=>cM e.symm)];rfl
      have hnw: ¬aY s (dF s d++[(d,b)])→Region.wanted o (yielded ops a.tmps)=false:=fun wX=>by
       cases hwt:Region.wanted o (yielded ops a.tmps)with
       |false=>rfl
       |true=>exact absurd (hw.1 hwt) wX
      cases hp:BB C.I C.L s (dF s d++[(d,b)]) o.op with
      |some r=>
       rw[hp]at hk
       dsimp only at hk
       rw[ok.al]at hp
       replace hp:=tO hp
       by_cases wX:aY s (dF s d++[(d,b)])
       ·obtain⟨x,hr,hc⟩:=aaC wX hp
        exact⟨x,.inl ⟨hw.2 wX,hr⟩,_,_,hk.2,h.put hk.1 vT (.inl ⟨wX,hc⟩)⟩
       ·exact⟨undef,.inr ⟨hnw wX,rfl⟩,_,_,hk.2,h.put hk.1 vT (.inr ⟨wX,rfl⟩)⟩
      |none=>
       rw[hp]at hk
       dsimp only at hk
       obtain⟨r,s',E',⟨na,jt⟩,hS,hP,hx⟩:=OK hk
       by_cases wX:aY s (dF s d++[(d,b)])
       ·obtain⟨x,hr,hc⟩:=hx wX
        exact⟨x,.inl ⟨hw.2 wX,hr⟩,_,_,jt,hS.put na vT (.inl ⟨(hP _).2 wX,hc⟩)⟩
       ·exact⟨undef,.inr ⟨hnw wX,rfl⟩,_,_,jt,hS.put na vT (.inr ⟨fun hh=>wX ((hP _).1 hh),rfl⟩)⟩
theorem Jj(ok:Ok P C){ops:Array Oper}{Q:Exit→Act→World→Prop}{K:St→Prop}{i:Nat}{o:Oper}(hi:ops[i]? =some o)(h:bq E0 E w0 w s a)(hk:Hg C ops.toList o s K):jI P C.cl ops Q i (B5 E0 w0 K) a w:=by
 unfold jI
 rw[hi]
 dsimp only
 by_cases hm:BG o.op=true
 ·obtain⟨v,hy,hA⟩:=Di ok h hm hk
  rcases hy with⟨hw,hv⟩|⟨hw,rfl⟩
  ·rw[if_pos hw]
   have hR:VJ o.op w w:=by unfold VJ;split;exact bU.refl w;rfl;trivial
   unfold lj
   rw[hv w hR]
   exact⟨hA,fun _=>bU.refl w⟩
  ·rw[if_neg (by rw[hw];simp)];exact hA
 ·have h1:=Dj (Q:=Q) ok h hk
  split
  ·rename_i hw
   rw[if_pos hw]at h1
   by_cases hg:OS o.op=true
   ·unfold lj at h1 ⊢
    cases hr:(execOp a.eval o).run P w with
    |halt y w2=>rw[hr]at h1;cases y<;>exact h1
    |ok n w2=>
     obtain⟨⟨v,rfl⟩,hA⟩:=Ut hg a.eval hr
     rw[hr]at h1
     exact⟨h1.1,fun _=>hA⟩
   ·exact lj.mono (fun a w h2=>⟨h2.1,fun Ed=>h2.2 (by unfold EH at Ed;simpa[hm,hg]using Ed)⟩) h1
  ·rename_i hw;rw[if_neg hw]at h1;exact h1
def inL(j:Nat):List Nat→Bool
 |[]=>false
 |k::r=>cS k j||inL j r
def GO(ops:Array Oper)(listed:Array Bool)(i:Nat)(M:List Nat):List Nat:=
 (List.range ops.size).filter fun j=> !(cS j i)&& !(listed.getD j true)&&(match ops[j]? with
  |some o=>o.after.all fun e=> !Region.binds .any e||listed.getD e.on false||inL e.on M
  |none=>false)
def ahead(ops:Array Oper)(listed:Array Bool)(i:Nat):Nat→List Nat→List Nat
 |0,M=>M
 |f+1,M=>bif cS (GO ops listed i M).length M.length then M else ahead ops listed i f (GO ops listed i M)
def ZZ(o:Op):Bool:=match o with
 | .build _ _=>false
 |o=>BG o
def Nb(o:Op):Bool:=match o with
 | .load _ _=>true
 |_=>false
def Hr(cl:Nat→Bool)(ops:Array Oper)(listed:Array Bool)(i:Nat):Bool:=
 match ops[i]? with
 |none=>false
 |some oi=>
  let M:=ahead ops listed i ops.size []
  (Region.ready .any ops listed).contains i&&ZZ oi.op&&
  (M.all fun j=>match ops[j]? with
   |some oj=>oi.apart ops oj&&(!Nb oi.op||EH cl oj.op)
   |none=>true)&&
  ((List.range ops.size).all fun j=>cS j i||inL j M||listed.getD j false||(match ops[j]? with
   |some oj=>oj.after.any fun e=>Region.binds .any e&& !(listed.getD e.on false)&& !(inL e.on M)
   |none=>false))
def Ba(cl:Nat→Bool)(ops:Array Oper):Tree→Nat→Array Bool→Option (List Nat)→Bool
 | .done,_,l,none=>(Region.ready .any ops l).isEmpty
 | .one i t,f+1,l,none=>Hr cl ops l i&&Ba cl ops t f (l.setIfInBounds i true) none
 | .fork i t u,f+1,l,none=>match Region.ready .any ops l with
  |r::rs=>cS r i&&Ba cl ops t f (l.setIfInBounds i true) none&&Ba cl ops u (f+1) l (some rs)
  |[]=>false
 | .fork i t u,f+1,l,some (r::rs)=>cS r i&&Ba cl ops t f (l.setIfInBounds i true) none&&Ba cl ops u (f+1) l (some rs)
 | .nil,_+1,_,some []=>true
 |_,_,_,_=>false
theorem Is{j:Nat}: ∀{M:List Nat},inL j M=true↔j∈M
 |[]=>by simp[inL]
 |k::r=>by
  simp only[inL,Bool.or_eq_true,List.mem_cons,Is (M:=r)]
  constructor
  ·rintro(h|h)
   ·exact .inl (dg h).symm
   ·exact .inr h
  ·rintro(h|h)
   ·exact .inl (by subst h;exact eZ j)
   ·exact .inr h
theorem LY(ok:Ok P C){ops:Array Oper}{Q:Exit→Act→World→Prop}(hs:Region.noSelect ops=true)(hQ: ∀c a w,¬Q (.panic c) a w){K:St→Prop}{i:Nat}{oi:Oper}{fuel:Nat}{listed:Array Bool}(hi:ops[i]? =some oi)(ht:Hr C.cl ops listed i=true)
  (hK: ∀a w,B5 E0 w0 K a w→p6 P C.cl .any ops Q fuel (listed.setIfInBounds i true) a w)(h:bq E0 E w0 w s a)(hk:Hg C ops.toList oi s K):p6 P C.cl .any ops Q (fuel+1) listed a w:=by
 unfold Hr at ht
 rw[hi]at ht
 dsimp only at ht
 simp only[Bool.and_eq_true,List.contains_iff_mem,List.all_eq_true,List.mem_range]at ht
 obtain⟨⟨⟨hr,htk⟩,hM⟩,aj1⟩:=ht
 have hm:BG oi.op=true:=by
  unfold ZZ at htk
  split at htk
  ·cases htk
  ·exact htk
 have VC: ∀t ps,oi.op≠ .build t ps:=fun t ps e=>by rw[e]at htk;cases htk
 obtain⟨v,hy,hA⟩:=Di ok h hm hk
 generalize hMd:ahead ops listed i ops.size []=M at*
 have hrf: ∀w,VJ oi.op w w:=fun w=>by unfold VJ;split;exact bU.refl w;rfl;trivial
 refine Hf (R:=VJ oi.op) ?_ hrf hi (Region.noSelect_spec hs) (fun c a w hq=>absurd hq (hQ _ _ _)) (fun j=>j∈M) ?_ fuel listed a w ?_ hr hy (hK _ _ hA)
 ·intro a b c h1 h2
  generalize oi.op=x at h1 h2 ⊢
  cases x<;>first|trivial|exact bU.trans h1 h2|exact(show c=b from h2).trans (show b=a from h1)
 ·intro j oj hj cM hjM
  have h1:=hM j hjM
  rw[hj]at h1
  simp only[Bool.and_eq_true,Bool.or_eq_true,Bool.not_eq_true']at h1
  refine⟨h1.1,?_⟩
  by_cases hl:Nb oi.op=true
  ·right
   refine⟨h1.2.resolve_left (by rw[hl];simp),fun w w' hA=>?_⟩
   unfold Nb at hl
   unfold VJ
   split at hl
   ·rename_i heq;rw[heq];exact hA
   ·cases hl
  ·left
   intro w w'
   unfold VJ
   split
   ·rename_i heq;rw[heq]at hl;exact absurd rfl hl
   ·rename_i heq;exact absurd heq (VC _ _)
   ·trivial
 ·intro l j T5 hl cM hj
  obtain⟨Qk,oj,hoj,jE⟩:=mem_ready.1 hj
  have aU:j<ops.size:=(Array.getElem?_eq_some_iff.1 hoj).1
  have h1:=aj1 j aU
  simp only[Bool.or_eq_true]at h1
  rcases h1 with((h1|h1)|h1)|h1
  ·exact absurd (dg h1) cM
  ·exact Is.1 h1
  ·have h2:=T5 j h1
   rw[Array.getD_eq_getD_getElem?]at h2 Qk
   cases hh:l[j]? with
   |none=>rw[hh]at h2;simp at h2
   |some b=>rw[hh]at h2 Qk;simp at h2 Qk;rw[h2]at Qk;cases Qk
  ·rw[hoj]at h1
   obtain⟨e,he,h2⟩:=Array.any_eq_true'.1 h1
   simp only[Bool.and_eq_true,Bool.not_eq_true']at h2
   obtain⟨⟨h3,h4⟩,h5⟩:=h2
   have h6:=jE e he h3
   rcases hl e.on h6 with h7|h7
   ·rw[h7]at h4;cases h4
   ·rw[Is.2 h7]at h5;cases h5
theorem tD(ok:Ok P C){ops:Array Oper}{Q:Exit→Act→World→Prop}{K:St→Prop}(hs:Region.noSelect ops=true)(hQ: ∀c a w,¬Q (.panic c) a w)(hN: ∀a w,B5 E0 w0 K a w→Q .normal a w):
  ∀(t:Tree) (fuel:Nat) (listed:Array Bool) (Cg:Option (List Nat)) {s:St} {E:Env} {a:Act} {w:World},Ba C.cl ops t fuel listed Cg=true→bq E0 E w0 w s a→Df C ops.toList t s K→
   match Cg with
   |none=>p6 P C.cl .any ops Q fuel listed a w
   |some rs=> ∃f,fuel=f+1∧ ∀i∈rs,jI P C.cl ops Q i (p6 P C.cl .any ops Q f (listed.setIfInBounds i true)) a w
 | .done,fuel,listed,Cg,s,E,a,w,hc,h,hk=>by
  cases Cg with
  |some rs=>simp[Ba]at hc
  |none=>
   simp only[Ba,List.isEmpty_iff]at hc
   have:Q .normal a w:=hN a w ⟨s,E,hk,h⟩
   cases fuel with
   |zero=>exact⟨hc,this⟩
   |succ f=>exact⟨fun _=>this,by rw[hc];simp⟩
 | .one i t,fuel,listed,Cg,s,E,a,w,hc,h,hk=>by
  cases fuel with
  |zero=>cases Cg<;>simp[Ba]at hc
  |succ f=>
   cases Cg with
   |some rs=>simp[Ba]at hc
   |none=>
    simp only[Ba,Bool.and_eq_true]at hc
    unfold Df at hk
    cases hi:ops.toList[i]? with
    |none=>rw[hi]at hk;exact hk.elim
    |some oi=>
     rw[hi]at hk
     exact LY ok hs hQ (by rw[←Array.getElem?_toList];exact hi) hc.1 (fun a w ⟨s',E',jt,h'⟩=>tD ok hs hQ hN t f _ none hc.2 h' jt) h hk
 | .fork i t u,fuel,listed,Cg,s,E,a,w,hc,h,hk=>by
  cases fuel with
  |zero=>cases Cg<;>simp[Ba]at hc
  |succ f=>
   have key: ∀(r:Nat) (rs:List Nat),(cS r i&&Ba C.cl ops t f (listed.setIfInBounds i true) none&&Ba C.cl ops u (f+1) listed (some rs))=true→
     ∀j∈r::rs,jI P C.cl ops Q j (p6 P C.cl .any ops Q f (listed.setIfInBounds j true)) a w:=by
    intro r rs hc j hj
    simp only[Bool.and_eq_true]at hc
    have VA:r=i:=dg hc.1.1
    subst VA
    unfold Df at hk
    rcases List.mem_cons.1 hj with rfl|hj
    ·have hk1:=hk.1
     cases hi:ops.toList[j]? with
     |none=>rw[hi]at hk1;exact hk1.elim
     |some oi=>
      rw[hi]at hk1
      exact xM (fun a w ⟨s',E',jt,h'⟩=>tD ok hs hQ hN t f _ none hc.1.2 h' jt) (Jj ok (by rw[←Array.getElem?_toList];exact hi) h hk1)
    ·obtain⟨f',hf,h2⟩:=tD ok hs hQ hN u (f+1) listed (some rs) hc.2 h hk.2
     cases hf
     exact h2 j hj
   cases Cg with
   |none=>
    simp only[Ba]at hc
    split at hc
    ·rename_i r rs hr
     refine⟨fun h0=>by simp[hr]at h0,?_⟩
     rw[hr]
     exact key r rs hc
    ·cases hc
   |some rs=>
    cases rs with
    |nil=>simp[Ba]at hc
    |cons r rs=>simp only[Ba]at hc;exact⟨f,rfl,key r rs hc⟩
 | .nil,fuel,listed,Cg,s,E,a,w,hc,h,hk=>by
  cases Cg with
  |none=>simp[Ba]at hc
  |some rs=>
   cases fuel with
   |zero=>cases rs<;>simp[Ba]at hc
   |succ f=>
    cases rs with
    |nil=>exact⟨f,rfl,fun i hi=>by cases hi⟩
    |cons r rs=>simp[Ba]at hc
end Ab
namespace Ab
open Go
variable{P:Program}{L:nO}{E0 E E':Env}{w0 w w':World}{s s':St}{a a':Act}{p:Path}{C:dj}
theorem K8(h:bq E0 E w0 w s a): ∀d x,look d s.clean.t=some x→Cz E x (a.tmps.getD d undef):=fun d x hd=>h.clean.tm d x hd trivial
theorem Dfs.tail{n0:Nat}{l l':List Deferred}(h:Dfs n0 E (l++l')):Dfs n0 E l':=by
 obtain⟨Bs,h1,h2,h3⟩:=h
 obtain⟨Bs1,Bs2,e1,e2,e3⟩:=List.append_eq_map_iff.1 h1
 subst e1
 exact⟨Bs2,e3.symm,(List.nodup_append.1 h2).2.1,fun B hB=>h3 B (by simp[hB])⟩
theorem bq.push(h:bq E0 E w0 w s a){n:Nat}{t:List (Nat×AV)}{A:Array Value}(hn:A.size=n)(ht: ∀d x,look d t=some x→Cz E x (A.getD d undef)):
  bq {E0 with up:=a::E0.up} E w0 w {s with n:=n,t:=t,c:=[],up:={n:=s.n,t:=s.clean.t}::s.up} {tmps:=A,defers:=[]}:=
 ⟨h.heap,h.wf,h.I8,⟨⟨h.sz,K8 h⟩,h.up⟩,hn,fun d x hd _=>ht d x hd,fun d q hd=>by simp[look]at hd,h.bx,h.lv,h.gx,h.gl,⟨h.ext.size,h.ext.aN,h.ext.live,h.ext.bp⟩,h.xz,h.same,h.gk,h.nl,h.ng,h.lo⟩
theorem bq.pop{f:Fr}{u:List Fr}(h:bq {E0 with up:=a::E0.up} E w0 w s a')(hu:s.up=f::u):bq E0 E w0 w {s with n:=f.n,t:=f.t,c:=[],up:=u} a:=by
 have hup:=h.up
 rw[hu]at hup
 exact⟨h.heap,h.wf,by have:=h.I8;simp only[QC,List.map_cons,List.flatten_cons]at this;exact this.tail,hup.2,hup.1.1,fun d x hd _=>hup.1.2 d x hd,fun d q hd=>by simp[look]at hd,h.bx,h.lv,h.gx,h.gl,
  ⟨h.ext.size,h.ext.aN,h.ext.live,h.ext.bp⟩,h.xz,h.same,h.gk,h.nl,h.ng,h.lo⟩
theorem Du{b:List (Nat×Ob)}{f:Nat→Prop}(hf: ∀d ob,look d b=some ob→f d){t:List (Nat×AV)}(jU:Ts b t=true){T:Array Value}(h: ∀d x,look d t=some x→Cz E x (T.getD d undef)):
  ∀d x,look d t=some x→Cz (E.only f) x (T.getD d undef):=fun d x hd=>Cz.only hf (h d x hd) (za jU d x hd)
theorem kS.only{b:List (Nat×Ob)}{f:Nat→Prop}(hf: ∀d ob,look d b=some ob→f d): ∀{aa:List Act} {fs:List Fr},okU b fs=true→kS E aa fs→kS (E.only f) aa fs
 |[],[],_,_=>trivial
 |a::aa,g::fs,jU,h=>by
  simp only[okU,Bool.and_eq_true]at jU
  exact⟨⟨h.1.1,Du hf jU.1 h.1.2⟩,kS.only hf jU.2 h.2⟩
 |[],_::_,_,h=>h.elim
 |_::_,[],_,h=>h.elim
theorem bq.drop(h:bq E0 E w0 w s a)(hc:s.c=[]){b':List (Nat×Ob)}(hb: ∀d ob,look d b'=some ob→look d s.b=some ob)(jU:Oi {s with b:=b'}=true):
  ∃f:Nat→Prop,(∀d ob,look d b'=some ob→f d)∧bq E0 (E.only f) w0 w {s with b:=b'} a:=by
 simp only[Oi,Bool.and_eq_true]at jU
 obtain⟨aeY,X0,aeX⟩:=jU
 let f:Nat→Prop:=fun d=> ∃ob,look d b'=some ob
 have hf: ∀d ob,look d b'=some ob→f d:=fun d ob hd=>⟨ob,hd⟩
 have k:=H7 E f
 refine⟨f,hf,⟨h.heap,⟨h.wf.aN,h.wf.own,h.wf.fz⟩,h.I8,kS.only hf aeX h.up,h.sz,fun d x hd _=>?_,fun d q hd=>?_,fun d ob hd=>?_,fun d hl=>hl.2,fun i ob hi=>k.ob (h.gk i ob hi) (h.gx i ob hi),h.gl,?_,h.xz,h.same,h.gk,h.nl,h.ng,h.lo⟩⟩
 ·exact Cz.only hf (h.tm d x hd (by unfold dF;show aY s (match look d s.c with|some q=>q|none=>[]);rw[hc];trivial)) (za aeY d x hd)
 ·have na:look d s.c=some q:=hd
  rw[hc]at na;simp[look]at na
 ·have h3:=h.bx d ob (hb d ob hd)
  cases ob with
  |box cs=>
   obtain⟨hl,c,e,eI,ho,hs,du,hq⟩:=h3
   exact⟨⟨hl,hf d _ hd⟩,c,e,eI,ho,hs,du,fun q av x ha hx=>Cz.only hf (hq q av x ha hx) (pN (wQ X0 d _ hd) q av ha)⟩
  |arr z xs=>
   obtain⟨hl,ke,dV,hz,hm,c,e,eI,ho,hs,du,hi,hq⟩:=h3
   exact⟨⟨hl,hf d _ hd⟩,ke,dV,hz,hm,c,e,eI,ho,hs,du,hi,fun q av x ha hx=>k.cm (hq q av x ha hx) (hi q av ha)⟩
  |ow p l xs=>exact yZ (fun hl=>⟨hl,hf d _ hd⟩) rfl rfl (fun ho=>⟨ho,rfl,fun o hh=>hh⟩) (fun a x hi hc=>k.cm hc hi) (fun b hb _=>⟨hb,rfl,fun _=>Iff.rfl,rfl⟩) h3
  |lp n t ps nI body st=>
   obtain⟨hl,ho,hs,rec,eI,h4,h5,h6,h7,h8,h9,hq⟩:=h3
   exact⟨⟨hl,hf d _ hd⟩,ho,hs,rec,eI,h4,h5,h6,h7,h8,h9,Du hf (AD X0 hd) hq⟩
 ·exact⟨h.ext.size,h.ext.aN,fun q hq=>by
   cases q with
   |s d=>exact absurd hq (h.nl d)
   |o i=>exact h.ext.live (.o i) hq,h.ext.bp⟩
theorem yc{b0:List (Nat×Ob)}{l:List Nat}{d:Nat}: ∀{b:List (Nat×Ob)},look d (xB b0 l b)=if aeM b0 l d then look d b else none
 |[]=>by simp[xB,look]
 |(k,o)::r=>by
  simp only[xB]
  cases hb:aeM b0 l k with
  |true=>
   rw[cond_true,aB,aB,yc]
   by_cases hk:k=d
   ·subst hk;rw[if_pos rfl,if_pos rfl,hb];rfl
   ·rw[if_neg hk,if_neg hk]
  |false=>
   rw[cond_false,aB,yc]
   by_cases hk:k=d
   ·subst hk;rw[hb];rfl
   ·rw[if_neg hk]
theorem Gx{b0:List (Nat×Ob)}{l:List Nat}{d:Nat}{ob:Ob}{b:List (Nat×Ob)}(h:look d (xB b0 l b)=some ob):look d b=some ob:=by
 rw[yc]at h
 split at h
 ·exact h
 ·cases h
theorem Ft{α:Type}{d e:Nat}{x:α}{t:List (Nat×α)}(h:look d (del e t)=some x):look d t=some x:=by
 rw[fQ]at h
 split at h
 ·cases h
 ·exact h
theorem bq.mz(h:bq E0 E w0 w s a){d:Nat}(hd:look d s.b=none){ob:Ob}{o:Obj}(uh:ca (E.addKey (.s d) o) (.s d) ob):
  bq E0 (E.addKey (.s d) o) w0 (w.alloc o) {s with b:=cR d ob s.b} a:=by
 have zx: ¬E.live (.s d):=fun hl=>by obtain⟨ob,ho⟩:=h.lv d hl;rw[hd]at ho;cases ho
 have hE:=nJ h.wf zx o
 have hs:=h.xW (T:=fun _=>false) hE (fun _ hf=>hf.elim) qs (GQ h.wf _ _) (w':=w.alloc o) (by show w.heap.push _=_;rw[h.heap];rfl) (tH _ _) (fun _ _ hf=>hf.elim)
  (cR d ob s.b) s.g s.nx (fun d' DW h'=>by
   rw[aF]at h'
   by_cases so:d=d'
   ·rw[if_pos so]at h';cases h';subst so;exact .inr uh
   ·rw[if_neg so]at h';exact .inl ⟨DW,h',(nY (fun _=>rfl) DW).symm,(fun hf=>hf),fun hf=>hf⟩)
  (fun d' hl=>by
   rw[aF]
   by_cases so:d=d'
   ·exact⟨ob,by rw[if_pos so]⟩
   ·rw[if_neg so]
    rcases hl with hl|hl
    ·exact absurd (by injection hl with hl;exact hl.symm) so
    ·exact h.lv d' hl)
  (fun i DW h'=> .inl ⟨h',fun hf=>hf⟩)
  (fun i=>by
   constructor
   ·rintro(hl|hl)
    ·cases hl
    ·exact(h.gl i).1 hl
   ·exact fun hl=> .inr ((h.gl i).2 hl)) h.gk (fun b=>GR h.ng d b)
 have:fG (fun _=>false) s.t=s.t:=kU (fun _=>rfl) _
 rw[this,pE (fun _=>rfl)]at hs
 exact hs
def Env.eJ(E:Env)(o:Obj):Env:={E with h:=E.h.push o,own:=fun b=>if b=E.h.size then .jF else E.own b}
theorem EP(hw:Wf E)(o:Obj):Ext (fun _=>False) E (E.eJ o):=
 ⟨by simp[Env.eJ],
  fun b i hb=>⟨hb,by have:=hw.aN b i hb;exact yq E.h o this i,rfl⟩,
  fun q hq=>⟨hq,rfl,rfl⟩,
  fun b hb _=>⟨by simp only[Env.eJ];rw[if_neg (by omega)],by simp only[Env.eJ];rw[Array.getElem?_push,if_neg (by omega)],fun _=>Iff.rfl,rfl⟩⟩
theorem QD(hw:Wf E)(o:Obj):Wf (E.eJ o):=
 ⟨fun b i hs=>by have:=hw.aN b i hs;simp[Env.eJ];omega,fun b hb=>by
  simp only[Env.eJ]at hb
  by_cases h:b=E.h.size
  ·simp[Env.eJ,h]
  ·rw[if_neg h]at hb;have:=hw.own b hb;simp[Env.eJ];omega,
  fun b i hs hr=>by
  obtain⟨c,e,h⟩:=hw.fz b i hs hr
  have:=hw.aN b i hs
  exact⟨c,e,by simp only[Env.eJ];rw[Array.getElem?_push,if_neg (by omega)];exact h⟩⟩
theorem bq.mark(h:bq E0 E w0 w s a):bq E0 (E.eJ (.deferred (some []))) w0 (w.alloc (.deferred (some []))) s {a with defers:={target:= .collected w.heap.size,args:= #[]}::a.defers}:=by
 have hE:=EP h.wf (.deferred (some []))
 have hs:=h.xW (T:=fun _=>false) hE (fun _ hf=>hf.elim) qs (QD h.wf _) (w':=w.alloc (.deferred (some []))) (by show w.heap.push _=_;rw[h.heap];rfl) (tH _ _) (fun _ _ hf=>hf.elim)
  s.b s.g s.nx (fun d' DW h'=> .inl ⟨DW,h',(nY (fun _=>rfl) DW).symm,(fun hf=>hf),fun hf=>hf⟩) (fun d' hl=>h.lv d' hl)
  (fun i DW h'=> .inl ⟨h',fun hf=>hf⟩) h.gl h.gk (fun b=>by
   have:=h.ng b
   simp only[Env.eJ]
   split
   ·simp[di,Own.di]
   ·exact this)
 have:fG (fun _=>false) s.t=s.t:=kU (fun _=>rfl) _
 rw[this,pE (fun _=>rfl)]at hs
 obtain⟨Bs,q1,q2,q3⟩:=h.I8
 refine⟨hs.heap,hs.wf,⟨w.heap.size::Bs,?_,?_,?_⟩,hs.up,hs.sz,hs.tm,hs.cu,hs.bx,hs.lv,hs.gx,hs.gl,hs.ext,hs.xz,hs.same,hs.gk,hs.nl,hs.ng,hs.lo⟩
 ·simp only[QC,List.cons_append,List.map_cons]
  rw[←q1];rfl
 ·refine List.nodup_cons.2 ⟨fun hB=>?_,q2⟩
  have:=(Array.getElem?_eq_some_iff.1 (q3 _ hB).1).1
  rw[h.heap]at this;omega
 ·intro B hB
  rcases List.mem_cons.1 hB with rfl|hB
  ·rw[h.heap];exact⟨by simp[Env.eJ],by simp[Env.eJ],h.ext.size⟩
  ·obtain⟨q4,q5,q6⟩:=q3 B hB
   have aU:=(Array.getElem?_eq_some_iff.1 q4).1
   exact⟨by simp only[Env.eJ];rw[Array.getElem?_push,if_neg (by omega)];exact q4,by simp only[Env.eJ];rw[if_neg (by omega)];exact q5,q6⟩
def Env.nD(E:Env)(b:Nat)(o:Obj):Env:={E with h:=E.h.setIfInBounds b o}
theorem bq.take(h:bq E0 E w0 w s a){d:Deferred}{ds:List Deferred}(hd:a.defers=d::ds):
  ∃B,d.target= .collected B∧w.heap[B]? =some (.deferred (some []))∧bq E0 (E.nD B (.deferred none)) w0 (w.putObj B (.deferred none)) s {a with defers:=ds}:=by
 obtain⟨Bs,q1,q2,q3⟩:=h.I8
 have q1':=q1
 simp only[QC,hd,List.cons_append]at q1
 cases Bs with
 |nil=>simp at q1
 |cons B Bs=>
  simp only[List.map_cons,List.cons.injEq]at q1
  obtain⟨e1,e2⟩:=q1
  obtain⟨q4,q5,q6⟩:=q3 B (by simp)
  have aU:=(Array.getElem?_eq_some_iff.1 q4).1
  have sU: ∀b i,aR (E.nD B (.deferred none)).h b i=aR E.h b i:=fun b i=>by
   simp only[Env.nD,aR]
   by_cases hbB:b=B
   ·subst hbB
    rw[q4,Array.getElem?_setIfInBounds_self]
    simp[aU]
   ·rw[Array.getElem?_setIfInBounds_ne (Ne.symm hbB)]
  have xj: ∀b,b≠B→(E.nD B (.deferred none)).h[b]? =E.h[b]? :=fun b hb=>by
   simp only[Env.nD];rw[Array.getElem?_setIfInBounds_ne (Ne.symm hb)]
  have hE:Ext (fun o=>o= .jF) E (E.nD B (.deferred none)):=by
   refine⟨by simp[Env.nD],fun b i hb=>⟨hb,sU b i,rfl⟩,fun q hq=>⟨hq,rfl,rfl⟩,fun b hb hn=>⟨rfl,?_,fun _=>Iff.rfl,rfl⟩⟩
   exact xj b fun e=>by subst e;exact hn q5
  have hT: ∀t,(fun o=>o=Own.jF) (.tok t)→(fun _:Tok=>false) t=true:=fun t ht=>by cases ht
  have cz: ∀{av:AV} {x:Value},Cz E av x→Cz (E.nD B (.deferred none)) av x:=fun{av x} hx=>by
   have:=(hx.ext hE h.wf (fun _=>false) hT).1
   rwa [jY (fun _=>rfl)]at this
  have ob: ∀{k:Key} {o:Ob},ca E k o→ca (E.nD B (.deferred none)) k o:=fun{k o} ho=>by
   have:=ca.move hE h.wf (fun _=>false) hT (by intro hf;cases hf) (by intro _ hf;cases hf) ho
   rwa [nY (fun _=>rfl)]at this
  refine⟨B,by rw[e1],by rw[h.heap];exact q4,?_⟩
  refine⟨by simp[World.putObj,Env.nD,h.heap],⟨fun b o hs=>by have:=h.wf.aN b o hs;simpa[Env.nD]using this,fun b hb=>by have:=h.wf.own b hb;simpa[Env.nD]using this,fun b o hs hr=>by
   obtain⟨c,e,hc⟩:=h.wf.fz b o hs hr
   have:b≠B:=fun e=>by subst e;rw[q4]at hc;cases hc
   exact⟨c,e,(xj b this).trans hc⟩⟩,⟨Bs,?_,(List.nodup_cons.1 q2).2,fun B' hB'=>?_⟩,?_,h.sz,
   fun d x hd hp=>cz (h.tm d x hd hp),h.cu,fun d o hd=>ob (h.bx d o hd),h.lv,fun i o hi=>ob (h.gx i o hi),h.gl,⟨by simp only[Env.nD];simpa using h.ext.size,fun b o hs=>?_,h.ext.live,fun b hb hn=>?_⟩,h.xz,?_,h.gk,h.nl,h.ng,h.lo⟩
  ·exact e2
  ·obtain⟨q7,q8,q9⟩:=q3 B' (by simp[hB'])
   have:B'≠B:=fun e=>by subst e;exact(List.nodup_cons.1 q2).1 hB'
   exact⟨(xj B' this).trans q7,q8,q9⟩
  ·have:=kS.move hE h.wf (fun _=>false) hT h.up
   rwa [pE (fun _=>rfl)]at this
  ·obtain⟨k1,k2,k3⟩:=h.ext.aN b o hs
   exact⟨k1,(sU b o).trans k2,k3⟩
  ·obtain⟨k1,k2,k3,k4⟩:=h.ext.bp b hb hn
   exact⟨k1,(xj b (by omega)).trans k2,k3,k4⟩
  ·exact⟨h.same.1,h.same.2.1,h.same.2.2⟩
end Ab
namespace Ab
open Go
variable{P:Program}{F:Fence}{n:Nat}{Q:Exit→Act→World→Prop}{a:Act}{w:World}
theorem lu{b:Frame}{k:List Item}{cs:List Frame}{c:Code}:step P (lone (b.atR a (.code (.scope c)::k)) cs w)= .next (lone (b.atR a (.code c:: .inScope c::k)) cs w):=
 step_lone_go (by simp[stepG,stepG.exec,Frame.atR])
theorem Fh{b:Frame}{k:List Item}{cs:List Frame}{c:Code}:step P (lone (b.atR a (.inScope c::k)) cs w)= .next (lone (b.atR a k) cs w):=
 step_lone_go (by simp[stepG,stepG.exec,Frame.atR])
theorem LN{c:Code}(h:c.wpIn F n P (Exit.noGoto Q) a w):(Code.scope c).wpIn F n P Q a w:=by
 intro b k cs Ec hb hr
 have h0:(lone (b.atR a (.code (.scope c)::k)) cs w).fenced P F:=fenced_calm hb hr rfl
 obtain⟨e,a₁,w₁,hq,KO⟩:=h b (.inScope c::k) cs Ec hb hr
 cases e with
 |normal=>exact⟨.normal,a₁,w₁,hq,.head h0 lu (StepsIn.trans KO (.one (fenced_calm hb hr rfl) Fh))⟩
 |exit id=>
  have hx:exitTo id (.inScope c::k)=exitTo id k:=by simp[exitTo]
  exact⟨.exit id,a₁,w₁,hq,fun k' hk=> .head h0 lu (KO.1 k' (by rw[hx];exact hk)),
   fun Ag hk=>let⟨k₁,h1,h2⟩:=KO.2 Ag (by rw[hx];exact hk);⟨k₁,h1,.head h0 lu h2⟩⟩
 |goto l=>exact hq.elim
 |ret=>exact⟨_,a₁,w₁,hq,.of_steps (.one h0 lu) KO⟩
 |panic ch=>exact⟨_,a₁,w₁,hq,.of_steps (.one h0 lu) KO⟩
 |outgrown=>exact⟨_,a₁,w₁,hq,.of_steps (.one h0 lu) KO⟩
end Ab
namespace Ab
open Go
variable{P:Program}{L:nO}{E0 E E':Env}{w0 w w':World}{s s':St}{a:Act}{p:Path}{C:dj}
def uT:Code→Bool
 | .seq a b=>uT a&&uT b
 | .cond _ a b=>uT a&&uT b
 | .block _ a=>uT a
 | .loop a=>uT a
 | .rangeFunc .. =>false
 | .scope a=>uT a
 |_=>true
def cg(cl:Nat→Bool)(T:Nat→Tree):Code→Bool
 | .region id ops true=>Region.noSelect ops&&Ba cl ops (T id) ops.size (Array.replicate ops.size false) none
 | .seq a b=>cg cl T a&&cg cl T b
 | .cond _ a b=>cg cl T a&&cg cl T b
 | .block _ a=>cg cl T a
 | .loop a=>cg cl T a
 | .scope a=>cg cl T a
 | .rangeFunc _ _ a b=>(uT a&&uT b)&&(cg cl T a&&cg cl T b)
 |_=>true
def B4(E0:Env)(w0:World)(Q:Ex→St→Prop):Exit→Act→World→Prop
 | .normal,a,w=> ∃s E,Q .normal s∧bq E0 E w0 w s a
 | .exit k,a,w=> ∃s E,Q (.exit k) s∧bq E0 E w0 w s a
 | .ret,a,w=> ∃s E,Q .ret s∧bq E0 E w0 w s a
 |_,_,_=>False
theorem B4.mono{Q Q':Ex→St→Prop}(hq: ∀e s,Q e s→Q' e s){e:Exit}{a:Act}{w:World}(h:B4 E0 w0 Q e a w):B4 E0 w0 Q' e a w:=by
 cases e<;>first|exact h.elim|(obtain⟨s,E,h1,h2⟩:=h;exact⟨s,E,hq _ _ h1,h2⟩)
theorem bq.drew(h:bq E0 E w0 w s a)(n:Nat):bq E0 E w0 {w with drawn:=n} s a:=
 ⟨h.heap,h.wf,h.I8,h.up,h.sz,h.tm,h.cu,h.bx,h.lv,h.gx,h.gl,h.ext,h.xz,⟨h.same.1,h.same.2.1,h.same.2.2⟩,h.gk,h.nl,h.ng,h.lo⟩
theorem uG{F:Fence}{n:Nat}{Q:Exit→Act→World→Prop}{c:Code}(I:Nat→Act→World→Prop)(n₀:Nat)(h₀:I n₀ a w)
  (round: ∀k a w,I k a w→c.wpIn F n P (Exit.then (fun a' w'=> ∃n',n'<k∧I n' a' w') Q) a w):(Code.loop c).wpIn F n P Q a w:=by
 refine wpIn_loop (fun a w=> ∃n,I n a w) (fun a w=>leastOf (fun n=>I n a w)) ⟨n₀,h₀⟩ ?_
 intro a w hI
 refine wpIn_mono (round _ a w (leastOf_spec hI).1) ?_
 intro e a' w' hq
 cases e with
 |normal=>
  obtain⟨n',aU,hI'⟩:=hq
  exact show(∃n,I n a' w')∧leastOf (fun n=>I n a' w')<leastOf (fun n=>I n a w)from⟨⟨n',hI'⟩,Nat.lt_of_le_of_lt ((leastOf_spec ⟨n',hI'⟩).2 n' hI') aU⟩
 |exit id=>exact hq
 |goto l=>exact hq
 |ret=>exact hq
 |panic ch=>exact hq
 |outgrown=>exact hq
def Lj(P:Program)(c:Code)(W:St→(Ex→St→Prop)→Prop)(ro:Option Nat):Prop:=
 ∀{E0:Env} {w0:World} {Q:Ex→St→Prop} {s:St} {E:Env} {a:Act} {w:World},bq E0 E w0 w s a→W s Q→c.wpIn (WF ro) 0 P (B4 E0 w0 Q) a w
theorem Gt{α β:Type}: ∀{l:List α} {m:List β},D7 l m=true→l.length=m.length
 |[],[],_=>rfl
 |_::r,_::q,h=>by simp[Gt (l:=r) (m:=q) (by simpa[D7]using h)]
 |[],_::_,h=>by simp[D7]at h
 |_::_,[],h=>by simp[D7]at h
theorem Gi{n:Nat}: ∀{ps:List Nat} {aa:List AV} {vs:List Value} {t:List (Nat×AV)} {A:Array Value},A.size=n→Lh n ps=true→aa.length=ps.length→vs.length=ps.length→
  (∀(q:Nat) (b:AV) (y:Value),aa[q]? =some b→vs[q]? =some y→Cz E b y)→(∀d x,look d t=some x→Cz E x (A.getD d undef))→
  (((ps.zip vs).foldl (fun t (q:Nat×Value)=>t.setIfInBounds q.1 q.2) A).size=n∧ ∀d x,look d (MR ps aa t)=some x→Cz E x (((ps.zip vs).foldl (fun t (q:Nat×Value)=>t.setIfInBounds q.1 q.2) A).getD d undef))
 |[],aa,vs,t,A,hn,_,_,_,_,ht=>⟨hn,by cases aa<;>exact ht⟩
 |p::ps,[],vs,t,A,_,_,h,_,_,_=>by simp at h
 |p::ps,b::aa,[],t,A,_,_,_,h,_,_=>by simp at h
 |p::ps,b::aa,y::vs,t,A,hn,hp,h1,h2,hv,ht=>by
  simp only[Lh,Bool.and_eq_true]at hp
  have hpn:p<n:=by simpa using hp.1
  refine Gi (ps:=ps) (aa:=aa) (vs:=vs) (t:=cR p b t) (A:=A.setIfInBounds p y) (by simpa using hn) hp.2 (by simpa using h1) (by simpa using h2) (fun q b' y' hb hy=>hv (q+1) b' y' (by simpa using hb) (by simpa using hy)) fun d x hd=>?_
  rw[aF]at hd
  by_cases hpd:p=d
  ·subst hpd
   rw[if_pos rfl]at hd;cases hd
   rw[Array.getD_eq_getD_getElem?,Array.getElem?_setIfInBounds_self]
   simp only[hn,hpn,if_true,Option.getD_some]
   exact hv 0 b y rfl rfl
  ·rw[if_neg hpd]at hd
   rw[Array.getD_eq_getD_getElem?,Array.getElem?_setIfInBounds_ne hpd,←Array.getD_eq_getD_getElem?]
   exact ht d x hd
theorem RL(w:World)(b:Nat)(o:Obj):iz w (w.putObj b o):=⟨rfl,rfl,rfl⟩
theorem bq.Ti(h:bq E0 E w0 w s a){kd:Nat}{n:Nat×Nat}{t:List (Nat×AV)}{ps:List Nat}{nI body:Unit→Code}{st:LS}(hk:look kd s.b=some (.lp n t ps nI body st)){rec:Loop}(hr:w.heap[E.m (.s kd)]? =some (.loop rec)){st':LS}{ls:LoopState}{pe:Option Code}(fY:agK st' ls pe):
  bq E0 (E.write (.s kd) (.loop {rec with state:=ls,pending:=pe})) w0 (w.putObj (E.m (.s kd)) (.loop {rec with state:=ls,pending:=pe})) {s with b:=cR kd (.lp n t ps nI body st') s.b} a:=by
 obtain⟨hl,ho,hs,acw,eI,h4,h5,h6,h7,h8,h9,hq⟩:=h.bx kd _ hk
 rw[h.heap]at hr
 have:acw=rec:=by rw[eI]at hr;cases hr;rfl
 subst this
 have hE:=ib ho hs (.loop {acw with state:=ls,pending:=pe})
 have aU:E.m (.s kd)<E.h.size:=(Array.getElem?_eq_some_iff.1 eI).1
 refine h.pX hk ⟨hl,ho,hs,{acw with state:=ls,pending:=pe},by simp[Env.write,aU],h4,h5,h6,h7,fY,h9,?_⟩ rfl (RL _ _ _) ho hs
 have:=wO hE h.wf (fun _=>false) (eY _) hq
 rwa [kU (fun _=>rfl)]at this
theorem Pg(ps:Array Tmp)(vs:List Value)(A:Array Value):
  (ps.zip vs.toArray).foldl (fun t (q:Tmp×Value)=>t.setIfInBounds q.1 q.2) A=(ps.toList.zip vs).foldl (fun t (q:Nat×Value)=>t.setIfInBounds q.1 q.2) A:=by
 rw[←Array.foldl_toList,Array.toList_zip]
theorem I9{kd:Nat}{ps:List Nat}{nI body:Code}{Wa Wb:St→(Ex→St→Prop)→Prop}(ha: ∀l,Lj P nI Wa (some l))(hb: ∀l,Lj P body Wb (some l)){args:List AV}{K:bf}{vs:List Value}
  (hk:He kd ps (fun _=>nI) (fun _=>body) Wa Wb args s K)(h:bq E0 E w0 w s a)(hlen:vs.length=args.length)(hv: ∀(q:Nat) (b:AV) (y:Value),args[q]? =some b→vs[q]? =some y→Cz E b y):
  YieldAt Fence.wide 0 P (E.m (.s kd)) vs.toArray w fun e w'=> ∃x,e= .returned x∧ ∃r s' E',K r s'∧bq E0 E' w0 w' s' a∧Cz E' r x:=by
 unfold He at hk
 split at hk
 ·rename_i n t Vt Vb Lc e8
  obtain⟨⟨rfl,rfl,rfl⟩,hk⟩:=hk
  cases ui:D7 Vt args&&Lh n.2 Vt&&bZ args with
  |false=>rw[ui]at hk;exact hk.elim
  |true=>
   rw[ui,cond_true]at hk
   simp only[Bool.and_eq_true]at ui
   obtain⟨⟨VF,hl2⟩,_⟩:=ui
   have VF:=Gt VF
   obtain⟨Ee,ho,hs,rec,eI,h4,h5,h6,h7,h8,h9,hq⟩:=h.bx kd _ e8
   have aoV:w.heap[E.m (.s kd)]? =some (.loop rec):=by rw[h.heap];exact eI
   have hy:=run_yield (P:=P) (args:=vs.toArray) aoV (by rw[←Array.length_toList (xs:=rec.params),h5];simp[hlen,VF])
   obtain⟨hA1,hA2⟩:=Gi (E:=E) (ps:=Vt) (aa:=args) (vs:=vs) (t:=t) (A:=rec.tmps) h4 hl2 VF.symm (by rw[hlen,VF]) hv hq
   refine⟨rec.fn,_,rec.assign,rec.body,hy,roundIn_of_wpIn (F:=Fence.wide) trivial ?_⟩
   rw[h6,h7]
   have Uq:(rec.params.zip vs.toArray).foldl (fun tmps (x:Tmp×Value)=>tmps.setIfInBounds x.1 x.2) rec.tmps=(Vt.zip vs).foldl (fun t (q:Nat×Value)=>t.setIfInBounds q.1 q.2) rec.tmps:=by
    rw[Pg,h5]
   have afi:(rec.params.zip vs.toArray).foldl (fun tmps x=>match x with|(t,a)=>tmps.setIfInBounds t a) rec.tmps=(Vt.zip vs).foldl (fun t (q:Nat×Value)=>t.setIfInBounds q.1 q.2) rec.tmps:=Uq
   rw[afi]
   have h3:=h.push hA1 hA2
   refine wpIn_mono (ha (E.m (.s kd)) h3 hk) fun e a1 w1 hp=>?_
   cases e with
   |normal=>
    obtain⟨s4,E4,VG,h4'⟩:=hp
    dsimp only at VG
    split at VG
    ·rename_i n4 t4 ps4 asg4 body4 ajM
     obtain⟨hlive4,ho4,hs4,acv,hb4,g4,g5,g6,g7,g8,g9,gq⟩:=h4'.bx kd _ ajM
     have aaz:w1.heap[E4.m (.s kd)]? =some (.loop acv):=by rw[h4'.heap];exact hb4
     obtain⟨e4,VG⟩:=VG
     have hm4:E4.m (.s kd)=E.m (.s kd):=by rw[g9,e4,h9]
     have aoK:acv.state= .ready:=g8.1
     refine⟨_,run_beginRound (P:=P) (l:=E.m (.s kd)) (by rw[←hm4];exact aaz) aoK,?_⟩
     have h5':=h4'.Ti ajM aaz (st':= .busy) (ls:= .busy) (pe:=acv.pending) rfl
     rw[hm4]at h5'
     refine wpIn_mono (hb (E.m (.s kd)) h5' VG) fun e a2 w2 KK=>?_
     have fin: ∀{ex:Ex} {s5:St} {E5:Env},L9 kd n.1 s.b K ex s5→bq {E0 with up:=a::E0.up} E5 w0 w2 s5 a2→
       ∃v w',(Instr.endRound (E.m (.s kd)) (yh ex)).run P w2= .ok v w'∧ ∃x,Ending.returned v= .returned x∧ ∃r s' E',K r s'∧bq E0 E' w0 w' s' a∧Cz E' r x:=by
      intro ex s5 E5 hr Qi
      unfold L9 at hr
      split at hr
      ·rename_i f u n5 t5 ps5 agD U6 hup Uh
       obtain⟨e5,hr⟩:=hr
       obtain⟨ae7,ho5,aoR,PM,hb5,f4,f5,f6,f7,f8,f9,fq⟩:=Qi.bx kd _ Uh
       have hm5:E5.m (.s kd)=E.m (.s kd):=by rw[f9,e5,h9]
       have KJ:w2.heap[E5.m (.s kd)]? =some (.loop PM):=by rw[Qi.heap];exact hb5
       refine⟨_,_,run_endRound (P:=P) (yh ex) (by rw[←hm5];exact KJ),_,rfl,?_⟩
       have h6':=Qi.Ti Uh KJ (st':=XE ex) (ls:=if(yh ex).isNone then .ready else .done) (pe:=yh ex) (by cases ex<;>simp[agK,yh,XE])
       have h7':=h6'.pop (f:=f) (u:=u) hup
       rw[hm5]at h7'
       generalize hB:xB s.b (reach s5.b 4 (wS s.b s5.b)) (cR kd (.lp n5 t5 ps5 agD U6 (XE ex)) s5.b)=B at hr
       cases jU:Oi {n:=f.n,t:=f.t,c:=[],g:=s5.g,nx:=s5.nx,up:=u,fl:=s5.fl,b:=B}with
       |false=>rw[jU]at hr;exact hr.elim
       |true=>
        rw[jU,cond_true]at hr
        obtain⟨ff,_,h8'⟩:=h7'.drop rfl (b':=B) (fun d ob hd=>by rw[←hB]at hd;exact Gx hd) jU
        refine⟨_,_,_,hr,h8',?_⟩
        cases ex<;>exact .v _
      ·exact hr.elim
     cases e with
     |normal=>obtain⟨s5,E5,hr,Qi⟩:=KK;exact fin hr Qi
     |exit k=>obtain⟨s5,E5,hr,Qi⟩:=KK;exact fin hr Qi
     |ret=>obtain⟨s5,E5,hr,Qi⟩:=KK;exact fin hr Qi
     |goto l=>exact KK.elim
     |panic c=>exact KK.elim
     |outgrown=>exact KK.elim
    ·exact VG.elim
   |exit k=>obtain⟨s4,E4,VG,_⟩:=hp;exact VG.elim
   |ret=>obtain⟨s4,E4,VG,_⟩:=hp;exact VG.elim
   |goto l=>exact hp.elim
   |panic c=>exact hp.elim
   |outgrown=>exact hp.elim
 ·exact hk.elim
theorem del_drop{kd:Nat}(h:bq E0 E w0 w s a)(hc:s.c=[])(jU:Oi {s with b:=del kd s.b}=true): ∃E',bq E0 E' w0 w {s with b:=del kd s.b} a:=
 let⟨f,_,h1⟩:=h.drop hc (b':=del kd s.b) (fun d ob hd=>Ft hd) jU
 ⟨E.only f,h1⟩
theorem JJ(ok:Ok P C){g:Operand}{ps:Array Tmp}{nI body:Code}{Q:Ex→St→Prop}(ha: ∀l,Lj P nI (fun s Q=>pY C nI s Q) (some l))(hb: ∀l,Lj P body (fun s Q=>pY C body s Q) (some l))
  (h:bq E0 E w0 w s a)(hk:pY C (.rangeFunc g ps nI body) s Q):(Code.rangeFunc g ps nI body).wpIn (WF none) 0 P (B4 E0 w0 Q) a w:=by
 unfold pY at hk
 have hgv:=h.ev (p:=[]) trivial g
 split at hk
 ·rename_i k cap dG e8
  rw[dG]at hgv
  cases VH:a.eval g<;>rw[VH]at hgv<;>cases hgv
  rename_i ys hl hq
  generalize hkd:C.base+999=kd at hk e8
  have hk:=hk (w.heap.size+1)
  have h1:=h.clean.mark
  have Nl:look kd s.clean.b=none:=e8
  let DC:FuncId→Loop:=fun fn=>{state:= .ready,pending:=none,fn:=fn,tmps:=a.tmps,params:=ps,assign:=nI,body:=body,defers:=w.heap.size}
  have h2: ∀fn,bq E0 ((E.eJ (.deferred (some []))).addKey (.s kd) (.loop (DC fn))) w0 ((w.alloc (.deferred (some []))).alloc (.loop (DC fn)))
    {s.clean with b:=cR kd (.lp (w.heap.size+1,s.n) s.clean.t ps.toList (fun _=>nI) (fun _=>body) .Xb) s.b} {a with defers:={target:= .collected w.heap.size,args:= #[]}::a.defers}:=fun fn=>by
   have zx: ¬(E.eJ (.deferred (some []))).live (.s kd):=fun tz=>by obtain⟨ob,ho⟩:=h1.lv kd tz;rw[Nl]at ho;cases ho
   have hE:=nJ h1.wf zx (.loop (DC fn))
   refine h1.mz Nl ⟨.inl rfl,by simp[Env.addKey],fun o hs=>?_,DC fn,by simp[Env.addKey],h.sz,rfl,rfl,rfl,⟨rfl,rfl⟩,?_,?_⟩
   ·simp only[Env.addKey,if_true]at hs
    have:=h1.wf.aN _ _ hs;omega
   ·simp[Env.addKey,Env.eJ,←h.heap]
   ·have:=wO hE h1.wf (fun _=>false) (fun _ hf=>hf.elim) (t:=s.clean.t) (A:=a.tmps) (fun d x hd=>h1.tm d x hd trivial)
    rwa [kU (fun _=>rfl)]at this
  have hY:QE P (fun d args s2 K2=>bif cS d kd then He kd ps.toList (fun _=>nI) (fun _=>body) (fun s Q=>pY C nI s Q) (fun s Q=>pY C body s Q) args s2 K2 else C.yl d args s2 K2):=by
   intro d args s2 K2 E0' E2 w0' w2 a2 vs Ef Lw hlen hv
   by_cases hd:d=kd
   ·subst hd
    rw[eZ,cond_true]at Ef
    exact I9 ha hb Ef Lw hlen hv
   ·rw[xZ hd,cond_false]at Ef
    exact ok.yl Ef Lw hlen hv
  refine wpIn_rangeFunc ?_
  intro fn _
  have h3:=h2 fn
  have hwl:((w.alloc (.deferred (some []))).alloc (.loop (DC fn))).heap=((E.eJ (.deferred (some []))).addKey (.s kd) (.loop (DC fn))).h:=h3.heap
  have hm:((E.eJ (.deferred (some []))).addKey (.s kd) (.loop (DC fn))).m (.s kd)=w.heap.size+1:=by simp[Env.addKey,Env.eJ,←h.heap]
  obtain⟨vW,AT⟩:=ok.AQ _ hY (vs:= .func (.yield (w.heap.size+1)) #[] #[]::ys) hk h3 (by simp[hl]) (fun q b y eI hy=>by
   cases q with
   |zero=>
    simp at eI hy;subst eI;subst hy
    rw[←hm];exact .pV _ (.inl rfl)
   |succ q=>
    simp at eI hy
    have zx: ¬(E.eJ (.deferred (some []))).live (.s kd):=fun tz=>by obtain⟨ob,ho⟩:=h1.lv kd tz;rw[Nl]at ho;cases ho
    have e1:=(hq q b y eI hy).ext (EP h.wf (.deferred (some []))) h.wf (fun _=>false) (fun _ hf=>hf.elim)
    have e2:=e1.1
    rw[jY (fun _=>rfl)]at e2
    have e3:=(e2.ext (nJ h1.wf zx (.loop (DC fn))) h1.wf (fun _=>false) (fun _ hf=>hf.elim)).1
    rwa [jY (fun _=>rfl)]at e3)
  refine⟨w.heap.size+1,[{target:= .collected w.heap.size,args:= #[]}],(w.alloc (.deferred (some []))).alloc (.loop (DC fn)),{target:= .fn (.func k) ys.toArray,args:= #[.func (.yield (w.heap.size+1)) #[] #[]]},(w.alloc (.deferred (some []))).alloc (.loop (DC fn)),k,
   #[.func (.yield (w.heap.size+1)) #[] #[]]++ys.toArray,(w.alloc (.deferred (some []))).alloc (.loop (DC fn)),run_enterLoop_outer _ _ _ _ _,?_,fun _ _=>trivial,?_,fun hd=>(by cases hd),?_⟩
  ·simp only[resolve,VH]
   simp[go_sem]
  ·simp only[invoke]
   simp[go_sem,vW _ _]
  ·have KO:(Value.func (.yield (w.heap.size+1)) #[] #[]::ys).toArray= #[.func (.yield (w.heap.size+1)) #[] #[]]++ys.toArray:=Array.toList_inj.1 (by simp)
   rw[KO]at AT
   refine(callsIn_wide (n:=0)).2 (Calls.mono AT ?_)
   rintro e w3 ⟨x,rfl,r,s3,E3,hr,hs3,_⟩
   unfold Z1 at hr
   split at hr
   ·rename_i n5 t5 ps5 agD U6 st5 Uh
    obtain⟨e5,hr⟩:=hr
    cases jU:Oi {s3.clean with b:=del kd s3.b}with
    |false=>rw[jU]at hr;exact hr.elim
    |true=>
     rw[jU,cond_true]at hr
     obtain⟨ae7,ho5,aoR,PM,hb5,f4,f5,f6,f7,f8,f9,fq⟩:=hs3.bx kd _ Uh
     have hm5:E3.m (.s kd)=w.heap.size+1:=f9.trans e5
     have KJ:w3.heap[E3.m (.s kd)]? =some (.loop PM):=by rw[hs3.heap];exact hb5
     have VC:PM.state≠ .busy:=by
      cases st5 with
      |Xb=>rw[f8.1];simp
      |dn e=>rw[f8.1];simp
      |busy=>exact hr.elim
      |exh=>exact hr.elim
     have h6:=hs3.clean.Ti Uh KJ (st':= .exh) (ls:= .exhausted) (pe:=PM.pending) rfl
     rw[hm5]at h6
     have No:=run_endLoop (P:=P) (w:=w3) (l:=w.heap.size+1) (r:=PM) (by rw[←hm5];exact KJ) VC
     have T5: ∀d ob,look d (del kd s3.b)=some ob→look d (cR kd (.lp n5 t5 ps5 agD U6 .exh) s3.b)=some ob:=fun d ob hd=>by
      rw[fQ]at hd
      rw[aF]
      split at hd
      ·cases hd
      ·rename_i cM;rw[if_neg cM];exact hd
     obtain⟨ff,_,h7⟩:=h6.drop rfl (b':=del kd s3.b) T5 jU
     refine⟨_,_,No,?_⟩
     cases st5 with
     |Xb=>
      rw[f8.2]at h7 ⊢
      exact⟨_,_,hr,h7⟩
     |dn e=>
      rw[f8.2.1]at h7 ⊢
      cases e with
      |normal=>exact absurd f8.2.1 (by rw[show yh Ex.normal=none from rfl];exact f8.2.2)
      |exit k=>exact wpIn_exit ⟨_,_,hr,h7⟩
      |ret=>exact wpIn_ret ⟨_,_,hr,h7⟩
     |busy=>exact hr.elim
     |exh=>exact hr.elim
   ·exact hr.elim
 ·exact hk.elim
theorem dK(ok:Ok P C)(hm:P.follows .mixedOrders=true): ∀(c:Code) (ro:Option Nat),(ro=none∨uT c=true)→cg C.cl C.tree c=true→Lj P c (fun s Q=>pY C c s Q) ro
 | .skip,ro,_,_=>fun h hk=>wpIn_skip ⟨_,_,hk,h⟩
 | .label l,ro,_,_=>fun h hk=>wpIn_label ⟨_,_,hk,h⟩
 | .exit id,ro,_,_=>fun h hk=>wpIn_exit ⟨_,_,hk,h⟩
 | .ret,ro,_,_=>fun h hk=>wpIn_ret ⟨_,_,hk,h⟩
 | .region id ops false,ro,_,_=>fun h hk=>by
  unfold pY at hk
  refine wpIn_region_list (Dh ok ro (fun a w ⟨s',E',jt,h'⟩=>?_) h hk)
  have h3:=h'.clean.FA rfl (C.dead id)
  cases hb:Nd (id+5000) C.op with
  |false=>rw[hb]at jt;exact⟨_,_,jt,h3⟩
  |true=>
   rw[hb,cond_true]at jt
   unfold Jx at jt
   split at jt
   ·rename_i s5 Qi
    obtain⟨E5,h5,_⟩:=ed h3 Qi
    obtain⟨s6,hw6,jt⟩:=jt
    obtain⟨E6,h6⟩:=h5.wk hw6
    exact⟨_,_,jt,h6⟩
   ·exact jt.elim
 | .region id ops true,ro,_,hd=>by
  intro h hk
  rename_i E0 w0 Q s E a0 w1 hro0
  unfold pY at hk
  simp only[cg,Bool.and_eq_true]at hd
  obtain⟨s',hk,s2,Lw,hQ⟩:=hk
  subst Lw
  refine wpIn_region_any hm (pZ (cl:=C.cl) ro _ _ _ _ ?_)
  refine tD ok hd.1 (fun c a w hq=>hq) (fun a w ⟨s1,E',jt,h'⟩=>?_) (C.tree id) ops.size _ none hd.2 (h.drew _) hk
  have fin: ∀{E2:Env} {s3:St},(bif Nd (id+5000) C.op then Jx C.ρ (Le s'.clean.b) s3 (fun s2=>Q .normal s2)else Q .normal s3)→bq E0 E2 w0 w s3 a→ ∃s4 E4,Q .normal s4∧bq E0 E4 w0 w s4 a:=fun{E2 s3} hq h3=>by
   cases hb:Nd (id+5000) C.op with
   |false=>rw[hb]at hq;exact⟨_,_,hq,h3⟩
   |true=>
    rw[hb,cond_true]at hq
    unfold Jx at hq
    split at hq
    ·rename_i s5 Qi
     obtain⟨E5,h5,_⟩:=ed h3 Qi
     obtain⟨s6,hw6,hq⟩:=hq
     obtain⟨E6,h6⟩:=h5.wk hw6
     exact⟨_,_,hq,h6⟩
    ·exact hq.elim
  rcases jt with jt|jt
  ·exact fin hQ (by rw[←jt];exact h'.clean.FA rfl _)
  ·obtain⟨E2,h2⟩:=h'.clean.wk jt
   exact fin hQ (h2.clean.FA rfl _)
 | .seq x y,ro,Ec,hd=>fun h hk=>by
  unfold pY at hk
  simp only[cg,Bool.and_eq_true]at hd
  simp only[uT,Bool.and_eq_true]at Ec
  refine wpIn_seq (wpIn_mono (dK ok hm x ro (Ec.imp id (·.1)) hd.1 h hk) fun e a' w' hq=>?_)
  cases e with
  |normal=>obtain⟨s',E',h1,h2⟩:=hq;exact dK ok hm y ro (Ec.imp id (·.2)) hd.2 h2 h1
  |exit k=>exact hq
  |ret=>exact hq
  |goto l=>exact hq
  |panic c=>exact hq
  |outgrown=>exact hq
 | .cond c x y,ro,Ec,hd=>fun h hk=>by
  unfold pY at hk
  simp only[cg,Bool.and_eq_true]at hd
  simp only[uT,Bool.and_eq_true]at Ec
  have hc:=h.ev (p:=[]) trivial c
  split at hk
  ·rename_i b hb
   rw[hb]at hc
   have Nr:=bG hc
   exact wpIn_cond_split Nr (fun ht=>dK ok hm x ro (Ec.imp id (·.1)) hd.1 h (hk.1 ht)) (fun hf=>dK ok hm y ro (Ec.imp id (·.2)) hd.2 h (hk.2 hf))
  ·exact hk.elim
 | .block id x,ro,Ec,hd=>fun h hk=>by
  unfold pY at hk
  simp only[cg]at hd
  simp only[uT]at Ec
  refine wpIn_block (wpIn_mono (dK ok hm x ro Ec hd h hk) fun e a' w' hq=>?_)
  cases e with
  |normal=>exact hq
  |exit k=>
   obtain⟨s',E',h1,h2⟩:=hq
   dsimp only at h1
   simp only[Exit.inBlock]
   by_cases hki:k=id
   ·subst hki
    rw[eZ,cond_true]at h1
    rw[if_pos rfl]
    exact⟨s',E',h1,h2⟩
   ·rw[xZ hki,cond_false]at h1
    rw[if_neg hki]
    exact⟨s',E',h1,h2⟩
  |ret=>exact hq
  |goto l=>exact hq
  |panic c=>exact hq
  |outgrown=>exact hq
 | .loop x,ro,Ec,hd=>by
  intro h hk
  rename_i E0 w0 Q s E a w
  unfold pY at hk
  simp only[cg]at hd
  simp only[uT]at Ec
  obtain⟨N,hg0⟩:=hk
  obtain⟨s2,E1,hg,h1⟩: ∃s2 E1,Ix (fun s Q=>pY C x s Q) Q N s2∧bq E0 E1 w0 w s2 a:=by
   rcases hg0 with hg|⟨s2,hw,hg⟩
   ·exact⟨_,_,hg,h⟩
   ·obtain⟨E1,h1⟩:=h.wk hw;exact⟨_,_,hg,h1⟩
  refine uG (fun n a w=> ∃s E,Ix (fun s Q=>pY C x s Q) Q n s∧bq E0 E w0 w s a) N ⟨s2,E1,hg,h1⟩ ?_
  rintro n a w ⟨s3,E2,hg2,h2⟩
  cases n with
  |zero=>exact hg2.elim
  |succ n=>
   unfold Ix at hg2
   refine wpIn_mono (dK ok hm x ro Ec hd h2 hg2) fun e a' w' hq=>?_
   cases e with
   |normal=>
    obtain⟨s',E',hq,h3⟩:=hq
    rcases hq with hg4|⟨s4,hwk,hg4⟩
    ·exact⟨n,Nat.lt_succ_self n,s',E',hg4,h3⟩
    ·obtain⟨E3,h4⟩:=h3.wk hwk
     exact⟨n,Nat.lt_succ_self n,s4,E3,hg4,h4⟩
   |exit k=>exact hq
   |ret=>exact hq
   |goto l=>exact hq
   |panic c=>exact hq
   |outgrown=>exact hq
 | .rangeFunc g ps x y,ro,Ec,hd=>fun h hk=>by
  simp only[cg,Bool.and_eq_true]at hd
  have:ro=none:=Ec.resolve_right (by simp[uT])
  subst this
  exact JJ ok (fun l=>dK ok hm x (some l) (.inr hd.1.1) hd.2.1) (fun l=>dK ok hm y (some l) (.inr hd.1.2) hd.2.2) h hk
 | .scope x,ro,Ec,hd=>fun h hk=>by
  unfold pY at hk
  simp only[cg]at hd
  simp only[uT]at Ec
  refine LN (wpIn_mono (dK ok hm x ro Ec hd h hk) fun e a' w' hq=>?_)
  cases e with
  |goto l=>exact hq
  |_=>exact hq
 | .goto _,_,_,_=>fun h hk=>by unfold pY at hk;exact hk.elim
 | .refuse _,_,_,_=>fun h hk=>by unfold pY at hk;exact hk.elim
def number{α:Type}:Nat→List α→List (Nat×α)
 |_,[]=>[]
 |k,a::r=>(k,a)::number (k+1) r
def init(n:Nat)(args:List AV)(g:Nat→Option Ob)(nx:Nat)(fl:Bool:=false):St:={n:=n,t:=number 0 args,b:=[],c:=[],g:=g,nx:=nx,fl:=fl}
def RO(L:nO)(s:St):ResultVar→Option AV
 | .tmp t=>some (bL s [] (.tmp t))
 | .cell a t=>match L t with
  |some ti=>match ti.k,bL s [] (.tmp a)with
   | .arr n _,.ptr (.s d) 0=>match look d s.b with
    |some (.arr z xs)=>some (.ar n z xs)
    |_=>none
   |_,p=>Tm s ti p
  |none=>none
def W8(I:Pr)(L:nO)(s:St):ResultVar→Prop
 | .tmp _=>True
 | .cell a t=>match L t with
  |some ti=>match ti.k,bL s [] (.tmp a)with
   | .arr n _,.ptr (.s d) 0=>match look d s.b with
    |some (.arr z xs)=>I.eR xs=n∧n*z=ti.size
    |_=>True
   |_,_=>True
  |none=>True
def Gf(I:Pr)(L:nO)(s:St):List ResultVar→Prop
 |[]=>True
 |r::rs=>W8 I L s r∧Gf I L s rs
def sx(L:nO)(s:St):List ResultVar→Option (List AV)
 |[]=>some []
 |r::rs=>match RO L s r with
  |some v=>match sx L s rs with
   |some vs=>some (v::vs)
   |none=>none
  |none=>none
def single:List AV→AV
 |[v]=>v
 |vs=> .fT vs
def forced(a:AV)(K:AV→Prop):Prop:=
 match a with
 | .any=>K .any
 | .v x=>K (.v x)
 | .sl r xs=>K (.sl r xs)
 | .gs r t xs=>K (.gs r t xs)
 | .aO r cs off=>K (.aO r cs off)
 | .ptr k off=>K (.ptr k off)
 | .ia k n=>K (.ia k n)
 | .cG k i off z=>K (.cG k i off z)
 | .mp i=>K (.mp i)
 | .pV k=>K (.pV k)
 | .ar n z xs=>K (.ar n z xs)
 | .fn f cap=>K (.fn f cap)
 | .bm f cs=>K (.bm f cs)
 | .nc r z xs=>K (.nc r z xs)
 | .agg cs=>K (.agg cs)
 | .fT vs=>K (.fT vs)
theorem AX(a:AV)(K:AV→Prop):forced a K=K a:=by cases a<;>rfl
def Fe(C:dj)(rs:List ResultVar)(s:St)(R:AV→(Nat→Option Ob)→Nat→Prop):Prop:=
 match sx C.L s rs with
 |some vs=>match jw C.ρ (jT vs) s with
  |some s1=>match sx C.L s1 rs with
   |some LU=>Gf C.I C.L s1 rs∧bZ (LU.map rd)=true∧forced (single (LU.map rd)) fun r=>match s1 with|⟨_,_,_,_,g,nx,_,_⟩=>R r g nx
   |none=>False
  |none=>False
 |none=>False
def Q6(P:Program)(f:Nat)(args:List AV)(g:Nat→Option Ob)(nx:Nat)(R:AV→(Nat→Option Ob)→Nat→Prop):Prop:=
 bZ args=true→ ∀(E:Env) (w:World) (vs:List Value),wE E w g nx→vs.length=args.length→(∀(q:Nat) (a:AV) (y:Value),args[q]? =some a→vs[q]? =some y→Cz E a y)→
  Calls P f vs.toArray w fun e w'=> ∃r g' gG x E',R r g' gG∧e= .returned x∧wE E' w' g' gG∧Ext di E E'∧iz w w'∧Cz E' r x∧cm r=true∧bU w w'
def uE(P:Program)(fl:Bool)(f:Nat)(args:List AV)(g:Nat→Option Ob)(nx:Nat)(R:AV→(Nat→Option Ob)→Nat→Prop):Prop:=
 bZ args=true→ ∀(E:Env) (w:World) (vs:List Value),wE E w g nx→(fl=true→ ∀b o,E.aN b o→E.dx b<1000000)→vs.length=args.length→(∀(q:Nat) (a:AV) (y:Value),args[q]? =some a→vs[q]? =some y→Cz E a y)→
  Calls P f vs.toArray w fun e w'=> ∃r g' gG x E',R r g' gG∧e= .returned x∧wE E' w' g' gG∧Ext di E E'∧iz w w'∧Cz E' r x∧cm r=true∧bU w w'
theorem uE.plain{f:Nat}{args:List AV}{g:Nat→Option Ob}{nx:Nat}{R:AV→(Nat→Option Ob)→Nat→Prop}(h:uE P false f args g nx R):Q6 P f args g nx R:=
 fun hi E w vs hG hl hv=>h hi E w vs hG (fun e=>by cases e) hl hv
theorem Q6.call{f:Nat}{args:List AV}{g:Nat→Option Ob}{nx:Nat}{r:AV}{g':Nat→Option Ob}{gG:Nat}(h:Q6 P f args g nx fun r1 g1 zb=>r1=r∧g1=g'∧zb=gG):km P f args g nx r g' gG:=
 fun hi E w vs hG hl hv=>(h hi E w vs hG hl hv).mono fun e w' ⟨r1,g1,zb,x,E',⟨e1,e2,e3⟩,h1,h2,h3,h4,h5,h6,h7⟩=>by subst e1;subst e2;subst e3;exact⟨x,E',h1,h2,h3,h4,h5,h6,h7⟩
theorem Q6.mono{f:Nat}{args:List AV}{g:Nat→Option Ob}{nx:Nat}{R R':AV→(Nat→Option Ob)→Nat→Prop}(h:Q6 P f args g nx R)(hR: ∀r g n,R r g n→R' r g n):Q6 P f args g nx R':=
 fun hi E w vs hG hl hv=>(h hi E w vs hG hl hv).mono fun e w' ⟨r1,g1,zb,x,E',h0,h1,h2,h3,h4,h5,h6,h7⟩=>⟨r1,g1,zb,x,E',hR _ _ _ h0,h1,h2,h3,h4,h5,h6,h7⟩
theorem BI{α:Type}{d:Nat}{x:α}: ∀{k:Nat} {l:List α},look d (number k l)=some x→k≤d∧l[d - k]? =some x
 |k,[],h=>by simp[number,look]at h
 |k,y::r,h=>by
  rw[number,aB]at h
  by_cases hk:k=d
  ·subst hk;rw[if_pos rfl]at h;cases h;simp
  ·rw[if_neg hk]at h
   obtain⟨h1,h2⟩:=BI h
   refine⟨by omega,?_⟩
   rw[show d - k=(d - (k+1))+1 by omega];simpa using h2
theorem zc{args:List AV}{n:Nat}{vs:List Value}(hl:vs.length=args.length)(hv: ∀(q:Nat) (a:AV) (y:Value),args[q]? =some a→vs[q]? =some y→Cz E a y):
  ∀d x,look d (number 0 args)=some x→Cz E x ((vs.toArray++Array.replicate (n - vs.toArray.size) undef).getD d undef):=fun d x hd=>by
 obtain⟨h1,h2⟩:=BI hd
 have aU:d<vs.length:=by rw[hl];simpa using(List.getElem?_eq_some_iff.1 h2).1
 have h3:vs[d]? =some vs[d]:=by simp[aU]
 have:=hv d x vs[d] (by simpa using h2) h3
 rw[Array.getD_eq_getD_getElem?,Array.getElem?_append_left (by simpa using aU)]
 simpa[aU]using this
theorem KB{fl:Bool}{args:List AV}{g:Nat→Option Ob}{nx n:Nat}{vs:List Value}(hG:wE E w g nx)(fB:fl=true→ ∀b o,E.aN b o→E.dx b<1000000)(hl:vs.length=args.length)(hn:args.length≤n)
  (hv: ∀(q:Nat) (a:AV) (y:Value),args[q]? =some a→vs[q]? =some y→Cz E a y):
  bq {E with up:=[]} E w w (init n args g nx fl) {tmps:=vs.toArray++Array.replicate (n - vs.toArray.size) undef,defers:=[]}:=by
 refine⟨hG.heap,hG.wf,⟨[],rfl,List.nodup_nil,fun B hB=>by cases hB⟩,trivial,?_,fun d x hd _=>zc hl hv d x hd,fun d q hd=>?_,fun d ob hd=>?_,fun d hl=>absurd hl (hG.nl d),hG.gx,hG.gl,
  ⟨Nat.le_refl _,fun _ _ h=>⟨h,rfl,rfl⟩,fun _ h=>⟨h,rfl,rfl⟩,fun _ _ _=>⟨rfl,rfl,fun _=>Iff.rfl,rfl⟩⟩,fun b _=>hG.own b,.refl _,hG.gk,hG.nl,hG.ng,fun e b=>⟨hG.ng b,fB e b⟩⟩
 ·simp[init];omega
 ·simp[init,look]at hd
 ·simp[init,look]at hd
def Ao(P:Program)(w:World)(tmps:Array Value)(r:ResultVar):Sem Value:=
 match r with
 | .tmp t=>pure (tmps.getD t undef)
 | .cell a t=>do loadVar t (←asAddr (tmps.getD a undef))
theorem Ge{I:Pr}: ∀{rs:List ResultVar} {q:Nat} {r:ResultVar},Gf I L s rs→rs[q]? =some r→W8 I L s r
 |[],q,r,_,h=>by simp at h
 |x::rs,q,r,hp,h=>by
  cases q with
  |zero=>simp at h;subst h;exact hp.1
  |succ q=>exact Ge hp.2 (by simpa using h)
theorem PL(ok:Ok P C)(h:bq E0 E w0 w s a){r:ResultVar}{v:AV}(hr:RO C.L s r=some v)(hp:W8 C.I C.L s r): ∃x,(Ao P w a.tmps r).run P w= .ok x w∧Cz E v x:=by
 cases r with
 |tmp t=>cases hr;exact⟨_,rfl,h.ev (p:=[]) trivial (.tmp t)⟩
 |cell d t=>
  have BM: ∃x,(execOp a.eval {dst:=none,op:= .load t (.tmp d),type:=0,pos:= "",after:= #[],guard:=none}).run P w= .ok (.value x) w∧Cz E v x:=by
   simp only[RO]at hr
   simp only[W8]at hp
   cases hL:C.L t with
   |none=>rw[hL]at hr;cases hr
   |some ti=>
    rw[hL]at hr hp
    dsimp only at hr hp
    split at hr
    ·rename_i n e' d' hk1 Ef
     split at hr
     ·rename_i z xs e8
      cases hr
      have hp:C.I.eR xs=n∧n*z=ti.size:=by
       rw[hk1,Ef]at hp
       simp only[e8]at hp
       exact hp
      obtain⟨p1,p2⟩:=hp
      obtain⟨r,hr1,VB⟩:=rj (K:=fun r _=>r= .ar n z xs) (o:={dst:=none,op:= .load t (.tmp d),type:=0,pos:= "",after:= #[],guard:=none}) (p:=[]) ok.lay ok.al h rfl (by
       unfold NZ
       rw[hL]
       dsimp only
       rw[Ef]
       dsimp only
       rw[e8]
       dsimp only
       rw[hk1]
       exact⟨⟨rfl,p1,p2⟩,rfl⟩)
      subst hr1
      exact VB trivial
     ·cases hr
    ·have hpu:rV al C.L s [] (Op.load t (.tmp d))=some v:=by
      simp only[rV]
      rw[hL];exact hr
     exact tN ok.lay h (p:=[]) trivial (o:={dst:=none,op:= .load t (.tmp d),type:=0,pos:= "",after:= #[],guard:=none}) hpu
  obtain⟨x,h1,h2⟩:=BM
  have dG:a.eval (.tmp d)=a.tmps.getD d undef:=rfl
  simp only[execOp,dG]at h1
  simp only[Ao]
  cases hv:a.tmps.getD d undef with
  |pointer q=>
   cases q with
   |none=>rw[hv]at h1;simp[Instr.loadAt,Instr.sureAddr,stuck,Sem.run_bind,Sem.run,Result.andThen]at h1
   |some ad=>
    rw[hv]at h1
    have e1:(Instr.loadAt t (.pointer (some ad))).run P w=(loadVar t ad).run P w:=rfl
    have e2:(do loadVar t (←asAddr (.pointer (some ad))):Sem Value).run P w=(loadVar t ad).run P w:=by simp[asAddr,go_sem]
    rw[e2,←e1]
    rw[Sem.run_bind]at h1
    cases VB:(Instr.loadAt t (.pointer (some ad))).run P w with
    |ok y w2=>rw[VB]at h1;cases h1;exact⟨_,rfl,h2⟩
    |halt y w2=>rw[VB]at h1;cases h1
  |_=>rw[hv]at h1;simp[Instr.loadAt,Instr.sureAddr,stuck,Sem.run_bind,Sem.run,Result.andThen]at h1
theorem Gg{L:nO}: ∀{rs:List ResultVar} {vs:List AV},sx L s rs=some vs→vs.length=rs.length∧ ∀(q:Nat) (r:ResultVar) (v:AV),rs[q]? =some r→vs[q]? =some v→RO L s r=some v
 |[],vs,h=>by cases h;exact⟨rfl,fun q r v h=>by simp at h⟩
 |r::rs,vs,h=>by
  unfold sx at h
  cases h1:RO L s r with
  |none=>rw[h1]at h;cases h
  |some v=>
   rw[h1]at h
   dsimp only at h
   cases h2:sx L s rs with
   |none=>rw[h2]at h;cases h
   |some vs'=>
    rw[h2]at h
    cases h
    obtain⟨h3,h4⟩:=Gg h2
    refine⟨by simp[h3],fun q r' v' hq hv=>?_⟩
    cases q with
    |zero=>simp at hq hv;subst hq;subst hv;exact h1
    |succ q=>exact h4 q r' v' (by simpa using hq) (by simpa using hv)
theorem rS(ok:Ok P C)(h:bq E0 E w0 w s a){fn:Func}{vs:List AV}(hr:sx C.L s fn.results.toList=some vs)(hrp:Gf C.I C.L s fn.results.toList):
  ∃x,(results fn a.tmps).run P w= .ok x w∧Cz E (single vs) x:=by
 obtain⟨hl,hq⟩:=Gg hr
 let nF:ResultVar→Value:=fun r=>match(Ao P w a.tmps r).run P w with
  | .ok v _=>v
  |_=>undef
 have hx: ∀(q:Nat) (r:ResultVar),fn.results.toList[q]? =some r→ ∃v,vs[q]? =some v∧(Ao P w a.tmps r).run P w= .ok (nF r) w∧Cz E v (nF r):=by
  intro q r hqr
  have aU:q<vs.length:=by rw[hl];exact(List.getElem?_eq_some_iff.1 hqr).1
  obtain⟨x,h1,h2⟩:=PL ok h (hq q r vs[q] hqr (by simp[aU])) (Ge hrp hqr)
  have:nF r=x:=by simp only[nF,h1]
  rw[this]
  exact⟨vs[q],by simp[aU],h1,h2⟩
 have Nj:(fn.results.mapM (Ao P w a.tmps)).run P w= .ok (fn.results.map nF) w:=JD P w fn.results fun r hr=>by
  obtain⟨q,uV⟩:=List.getElem?_of_mem hr
  obtain⟨v,_,h2,_⟩:=hx q r uV
  exact h2
 have eH:(results fn a.tmps).run P w= .ok (if h:(fn.results.map nF).size=1 then(fn.results.map nF)[0]else .tuple (fn.results.map nF)) w:=by
  have:results fn a.tmps=(do let vs←fn.results.mapM (Ao P w a.tmps);pure (if h:vs.size=1 then vs[0]else .tuple vs)):=by
   unfold results
   congr 2
  rw[this,Sem.run_bind,Nj]
  rfl
 refine⟨_,eH,?_⟩
 have ajo: ∀(q:Nat) (b:AV) (y:Value),vs[q]? =some b→(fn.results.map nF).toList[q]? =some y→Cz E b y:=by
  intro q b y hb hy
  have aU:q<fn.results.toList.length:=by rw[←hl];exact(List.getElem?_eq_some_iff.1 hb).1
  obtain⟨v,h1,_,h3⟩:=hx q fn.results.toList[q] (by simp[aU])
  rw[h1]at hb;cases hb
  simp at hy
  obtain⟨r',h4,rfl⟩:=hy
  rw[←Array.getElem?_toList,List.getElem?_eq_getElem aU]at h4
  cases h4
  exact h3
 by_cases h1:(fn.results.map nF).size=1
 ·rw[dif_pos h1]
  have VF:vs.length=1:=by rw[hl];simpa using h1
  cases hvs:vs with
  |nil=>rw[hvs]at VF;simp at VF
  |cons v r=>
   have hr0:r=[]:=by rw[hvs]at VF;simpa using VF
   subst hr0
   exact ajo 0 v _ (by rw[hvs];rfl) (by rw[Array.getElem?_toList];exact Array.getElem?_eq_getElem _)
 ·rw[dif_neg h1]
  have cM:vs.length≠1:=by rw[hl];simpa using h1
  have:single vs= .fT vs:=by
   unfold single
   split
   ·simp at cM
   ·rfl
  rw[this]
  exact Cz.fT (E:=E) vs (fn.results.map nF).toList (by simp[hl]) ajo
theorem sO{fn:Func}{tmps:Array Value}{R:Ending→World→Prop}: ∀{ds:List Deferred} {E:Env} {w:World},bq E0 E w0 w s {tmps:=tmps,defers:=ds}→
  (∀E' w',bq E0 E' w0 w' s {tmps:=tmps,defers:=[]}→ ∃v,(results fn tmps).run P w'= .ok v w'∧R (.returned v) w')→LeavesInM Fence.wide 0 P fn tmps R ds .returning w
 |[],E,w,h,hR=>by
  obtain⟨v,h1,h2⟩:=hR E w h
  exact⟨v,h1,h2⟩
 |d::ds,E,w,h,hR=>by
  obtain⟨B,h1,h2,h3⟩:=h.take rfl
  exact⟨by simp,.inl ⟨B,_,h1,run_takeDeferred h2,sO h3 hR⟩⟩
theorem zU(ok:Ok P C)(hm:P.follows .mixedOrders=true){f:Nat}{fn:Func}{c:Code}(hf:P.funcs[f]? =some fn)(hb:fn.body=some c)(hd:cg C.cl C.tree c=true){vs:List Value}{Q:Ex→St→Prop}{R:Ending→World→Prop}
  (h:bq E0 E w0 w s {tmps:=vs.toArray++Array.replicate (fn.ntmps - vs.toArray.size) undef,defers:=[]})(hk:pY C c s Q)(hex: ∀k s',¬Q (.exit k) s')
  (No: ∀s' E' w' tmps,(Q .normal s'∨Q .ret s')→bq E0 E' w0 w' s' {tmps:=tmps,defers:=[]}→ ∃v,(results fn tmps).run P w'= .ok v w'∧R (.returned v) w'):Calls P f vs.toArray w R:=by
 refine(callsIn_wide (n:=0)).1 (callsIn_of_wp_marks (F:=Fence.wide) hf hb trivial ?_ rfl)
 refine wpIn_mono (F:=Fence.wide) (dK ok hm c none (.inl rfl) hd h hk) fun e a w' hq=>?_
 cases e with
 |normal=>obtain⟨s',E',h1,h2⟩:=hq;exact sO h2 fun E2 w2 h3=>No s' E2 w2 _ (.inl h1) h3
 |ret=>obtain⟨s',E',h1,h2⟩:=hq;exact sO h2 fun E2 w2 h3=>No s' E2 w2 _ (.inr h1) h3
 |exit k=>obtain⟨s',E',h1,h2⟩:=hq;exact absurd h1 (hex k s')
 |goto l=>exact hq.elim
 |panic c=>exact hq.elim
 |outgrown=>exact hq.elim
theorem uE.of(ok:Ok P C)(hm:P.follows .mixedOrders=true){f:Nat}{fn:Func}{c:Code}(hf:P.funcs[f]? =some fn)(hb:fn.body=some c)(hd:cg C.cl C.tree c=true){args:List AV}{g:Nat→Option Ob}{nx:Nat}
  (hn:args.length≤fn.ntmps){R:AV→(Nat→Option Ob)→Nat→Prop}(fl:Bool)
  (hk:pY C c (init fn.ntmps args g nx fl) (fun e s=>match e with
   | .normal=>Fe C fn.results.toList s R
   | .ret=>Fe C fn.results.toList s R
   |_=>False)):uE P fl f args g nx R:=by
 intro hi E w vs hG fB hl hv
 refine zU ok hm hf hb hd (KB hG fB hl hn hv) hk (fun k s' h=>h) fun s' E1 w' tmps hq h=>?_
 have hr:Fe C fn.results.toList s' R:=hq.elim id id
 unfold Fe at hr
 cases h1:sx C.L s' fn.results.toList with
 |none=>rw[h1]at hr;exact hr.elim
 |some vs=>
  rw[h1]at hr
  dsimp only at hr
  cases h2:jw C.ρ (jT vs) s' with
  |none=>rw[h2]at hr;exact hr.elim
  |some s1=>
   rw[h2]at hr
   dsimp only at hr
   cases h3:sx C.L s1 fn.results.toList with
   |none=>rw[h3]at hr;exact hr.elim
   |some LU=>
    rw[h3]at hr
    obtain⟨hrp,lV,hR⟩:=hr
    rw[AX]at hR
    obtain⟨E2,zu,_⟩:=ed h h2
    obtain⟨x,h4,h5⟩:=rS ok zu h3 hrp
    have Uo:Ab.cm (single (LU.map rd))=true:=by
     unfold single
     split
     ·rename_i v hv;rw[hv]at lV;simp only[bZ,Bool.and_true]at lV;exact lV
     ·exact lV
    refine⟨x,h4,_,_,_,x,E2.mask,hR,rfl,zu.mask,?_,zu.same,?_,?_,fun b hb=>?_⟩
    ·refine⟨zu.ext.size,zu.ext.aN,fun k hk=>?_,fun b hb hg=>?_⟩
     ·cases k with
      |s d=>exact absurd hk (hG.nl d)
      |o i=>obtain⟨k1,k2,k3⟩:=zu.ext.live _ hk;exact⟨⟨rfl,k1⟩,k2,k3⟩
     ·obtain⟨k1,k2,k3,k4⟩:=zu.ext.bp b hb hg
      refine⟨?_,k2,k3,k4⟩
      simp only[Env.mask]
      have k1':E2.own b=E.own b:=k1
      rw[k1',hG.own b];rfl
    ·refine(zj E2).cm ?_ ?_
     ·have h6:single (LU.map rd)=rd (single LU):=by
       unfold single
       cases LU with
       |nil=>rfl
       |cons v r=>cases r with
        |nil=>rfl
        |cons v2 r2=>
         simp only[List.map_cons,rd,qd]
         rw[show jX (fun _=>true) (v::v2::r2)=(v::v2::r2).map (qd fun _=>true)from by
          generalize v::v2::r2=l
          induction l with
          |nil=>rfl
          |cons x l ih=>simp[jX,ih]]
         rfl
      rw[h6]
      exact(Cz.ext (Ext.refl (fun _=>False) E2) zu.wf (fun _=>true) (fun _ h=>h.elim) h5).1
     ·exact Uo
    ·exact Uo
    ·have k2:=(zu.ext.bp b (by show b<E.h.size;rw[←hG.heap];exact hb) (hG.ng b)).2.1
     rw[zu.heap,hG.heap];exact k2
theorem Q6.of(ok:Ok P C)(hm:P.follows .mixedOrders=true){f:Nat}{fn:Func}{c:Code}(hf:P.funcs[f]? =some fn)(hb:fn.body=some c)(hd:cg C.cl C.tree c=true){args:List AV}{g:Nat→Option Ob}{nx:Nat}
  (hn:args.length≤fn.ntmps){R:AV→(Nat→Option Ob)→Nat→Prop}
  (hk:pY C c (init fn.ntmps args g nx) (fun e s=>match e with
   | .normal=>Fe C fn.results.toList s R
   | .ret=>Fe C fn.results.toList s R
   |_=>False)):Q6 P f args g nx R:=(uE.of ok hm hf hb hd hn false hk).plain
structure FI where
 c:Unit→Code
 n:Nat
 rs:List ResultVar
 tree:Nat→Tree
 op:List Nat
 ρ:Nat
 dead:Nat→List Nat
 hand:Option (Pr→List AV→St→bf→Prop)
def Ew(n:Nat)(args:List AV)(s:St):St:={n:=n,t:=number 0 args,b:=s.b,c:=[],g:=s.g,nx:=s.nx,up:={n:=s.n,t:=s.clean.t}::s.up,fl:=s.fl}
def W7(I:Pr)(L:nO)(rs:List ResultVar)(b0:List (Nat×Ob))(K:bf)(s:St):Prop:=
 match sx L s rs,s.up with
 |some vs,f::u=>Gf I L s rs∧(fun s':St=>(Oi s'&&hasB s'.b (jT vs))=true∧forced (single vs) (fun r=>K r s')) {n:=f.n,t:=f.t,c:=[],g:=s.g,nx:=s.nx,up:=u,fl:=s.fl,b:=xB b0 (reach s.b 4 (jT vs++wS b0 s.b)) s.b}
 |_,_=>False
def XV(I:Pr)(L:nO)(rs:List ResultVar)(b0:List (Nat×Ob))(K:bf):Ex→St→Prop
 | .normal,s=>W7 I L rs b0 K s
 | .ret,s=>W7 I L rs b0 K s
 | .exit _,_=>False
def ue(T:Nat→Option FI)(k:Nat):Bool:=match T k with|some _=>true|none=>false
def T3(C0:dj)(T:Nat→Option FI)(F:Nat→dj):YH→Nat→List AV→St→bf→Prop:=fun yl k args s K=>match T k with
  |some fi=>(match fi.hand with
   |some H=>H C0.I args s K
   |none=>(bif lL args.length fi.n then pY {F k with tree:=fi.tree,op:=fi.op,ρ:=fi.ρ,dead:=fi.dead,yl:=yl} (fi.c ()) (Ew fi.n args s) (XV C0.I C0.L fi.rs s.b K)else False))
  |none=>False
def m0(C0:dj)(T:Nat→Option FI):Nat→Nat→dj
 |0,base=>{C0 with base:=base*1000,sR:=ue T,inl:=fun _ _ _ _ _=>False,AQ:=fun _ _ _ _ _=>False,yl:=fun _ _ _ _=>False}
 |n+1,base=>{C0 with base:=base*1000,sR:=ue T,yl:=fun _ _ _ _=>False,inl:=(fun yl k args s K=>match T k with|some fi=>(match fi.hand with|some H=>H C0.I args s K|none=>(bif lL args.length fi.n then pY {m0 C0 T n (base*256+k)with tree:=fi.tree,op:=fi.op,ρ:=fi.ρ,dead:=fi.dead,yl:=yl} (fi.c ()) (Ew fi.n args s) (XV C0.I C0.L fi.rs s.b K)else False))|none=>False),AQ:=(fun yl k args s K=>match T k with|some fi=>(match fi.hand with|some H=>H C0.I args s K|none=>(bif lL args.length fi.n then pY {m0 C0 T n (base*256+k)with tree:=fi.tree,op:=fi.op,ρ:=fi.ρ,dead:=fi.dead,yl:=yl} (fi.c ()) (Ew fi.n args s) (XV C0.I C0.L fi.rs s.b K)else False))|none=>False)}
def Vj(P:Program)(k:Nat)(H:Pr→List AV→St→bf→Prop):Prop:=
 nP P k∧ ∀{args:List AV} {s:St} {K:bf} {E0 E:Env} {w0 w:World} {a:Act} {vs:List Value},H al args s K→bq E0 E w0 w s a→vs.length=args.length→(∀(q:Nat) (b:AV) (y:Value),args[q]? =some b→vs[q]? =some y→Cz E b y)→
  Calls P k vs.toArray w fun e w'=> ∃x,e= .returned x∧ ∃r s' E',K r s'∧bq E0 E' w0 w' s' a∧Cz E' r x
def lk(P:Program)(cl:Nat→Bool)(k:Nat)(fi:FI):Prop:=(∃H,fi.hand=some H∧Vj P k H)∨fi.hand=none∧ ∃fn,P.funcs[k]? =some fn∧fn.body=some (fi.c ())∧fn.ntmps=fi.n∧fn.results.toList=fi.rs∧cg cl fi.tree (fi.c ())=true∧nP P k
def bk(P:Program)(cl:Nat→Bool)(T:Nat→Option FI):Prop:= ∀k fi,T k=some fi→lk P cl k fi
theorem Ow{C0:dj}{T:Nat→Option FI}: ∀{n base:Nat},(m0 C0 T n base).L=C0.L∧(m0 C0 T n base).I=C0.I∧(m0 C0 T n base).call=C0.call∧(m0 C0 T n base).cl=C0.cl∧(m0 C0 T n base).sR=ue T
 |0,_=>⟨rfl,rfl,rfl,rfl,rfl⟩
 |_+1,_=>⟨rfl,rfl,rfl,rfl,rfl⟩
theorem BF{C0:dj}{T:Nat→Option FI}: ∀{n base:Nat},(m0 C0 T n base).keys=C0.keys∧(m0 C0 T n base).eqs=C0.eqs
 |0,_=>⟨rfl,rfl⟩
 |_+1,_=>⟨rfl,rfl⟩
theorem ahs(P:Program):QE P (fun _ _ _ _=>False):=fun hk=>hk.elim
theorem MZ{C0:dj}{T:Nat→Option FI}: ∀{n base:Nat},QE P (m0 C0 T n base).yl
 |0,_=>ahs P
 |_+1,_=>ahs P
theorem Kn{b:List (Nat×Ob)}{vs:List AV}(h:hasB b (jT vs)=true):hasB b (zl (single vs))=true:=by
 unfold single
 split
 ·rename_i v
  simp only[jT,List.append_nil]at h
  exact h
 ·exact h
theorem KA{C0:dj}{T:Nat→Option FI}(hT:bk P C0.cl T)(hL:bn P C0.L)(hI:C0.I=al)(hc:yz P C0)(iH: ∀k,C0.cl k=true→ue T k=false)(sS: ∀t ks,C0.keys t=some ks→KeyLaw P t ks)(AS: ∀t ks,C0.eqs t=some ks→tl P t ks)(hm:P.follows .mixedOrders=true)(n b0:Nat)(apj: ∀base,zY P (m0 C0 T n base)∧zY P {m0 C0 T n base with inl:=(m0 C0 T n base).AQ})(C1:dj):zY P {C1 with inl:=T3 C0 T (fun k=>m0 C0 T n (b0*256+k))}:=
 fun yl Vz {k args s K E0 E w0 w a vs} hk h hl hv=>by
  replace hk:T3 C0 T (fun k=>m0 C0 T n (b0*256+k)) yl k args s K:=hk
  simp only[T3]at hk
  generalize b0*256+k=base at hk
  obtain⟨Fy,api⟩:=apj base
  cases jt:T k with
  |none=>rw[jt]at hk;exact hk.elim
  |some fi=>
   rw[jt]at hk
   dsimp only at hk
   rcases hT k fi jt with⟨H,hH,vW,ajz⟩|⟨hH,fn,f1,f2,f3,f4,f5,f6⟩
   ·rw[hH]at hk
    rw[hI]at hk
    exact⟨vW,ajz hk h hl hv⟩
   rw[hH]at hk
   dsimp only at hk
   refine⟨f6,?_⟩
   cases hle:lL args.length fi.n with
   |false=>rw[hle]at hk;exact hk.elim
   |true=>
    rw[hle,cond_true]at hk
    have ae8:args.length≤fi.n:=by simpa using hle
    obtain⟨m1,m2,m3,m4,m5⟩:=Ow (C0:=C0) (T:=T) (n:=n) (base:=base)
    have ok':Ok P {m0 C0 T n base with tree:=fi.tree,op:=fi.op,ρ:=fi.ρ,dead:=fi.dead,yl:=yl}:=
     ⟨by show bn P (m0 C0 T n base).L;rw[m1];exact hL,m2.trans hI,fun ρ f args g nx r g' gG hh=>hc ρ f args g nx r g' gG (by rw[←m3];exact hh),fun yl' aeO {_ _ _ _ _ _ _ _ _ _} hh=>Fy yl' aeO hh,fun yl' aeO {_ _ _ _ _ _ _ _ _ _} hh=>api yl' aeO hh,Vz,fun k hk=>by show(m0 C0 T n base).sR k=false;rw[m5];exact iH k (by rw[←m4];exact hk),
      fun t ks hk=>sS t ks (by have hk:(m0 C0 T n base).keys t=some ks:=hk;rw[(BF (C0:=C0) (T:=T) (n:=n) (base:=base)).1]at hk;exact hk),fun t ks hk=>AS t ks (by have hk:(m0 C0 T n base).eqs t=some ks:=hk;rw[(BF (C0:=C0) (T:=T) (n:=n) (base:=base)).2]at hk;exact hk)⟩
    have hs:=h.push (n:=fi.n) (t:=number 0 args) (A:=vs.toArray++Array.replicate (fi.n - vs.toArray.size) undef) (by simp;omega) (zc hl hv)
    rw[←f3]at hs
    refine zU ok' hm f1 f2 (by show cg (m0 C0 T n base).cl _ _=true;rw[m4];exact f5) (s:=Ew fi.n args s) (by rw[←f3];exact hs) hk (fun k s' hh=>hh) fun s' E' w' tmps hq hs'=>?_
    have hr:W7 C0.I C0.L fi.rs s.b K s':=hq.elim id id
    unfold W7 at hr
    split at hr
    ·rename_i LU f u h1 hup
     obtain⟨hrp,hr⟩:=hr
     obtain⟨x,h4,h5⟩:=rS ok' hs' (fn:=fn) (vs:=LU) (by rw[f4];show sx (m0 C0 T n base).L s' fi.rs=_;rw[m1];exact h1) (by rw[f4];show Gf (m0 C0 T n base).I (m0 C0 T n base).L s' fi.rs;rw[m1,m2];exact hrp)
     generalize hB:xB s.b (reach s'.b 4 (jT LU++wS s.b s'.b)) s'.b=B at hr
     obtain⟨jU,hr⟩:=hr
     ·rw[AX]at hr
      simp only[Bool.and_eq_true]at jU
      obtain⟨ff,hff,h8⟩:=(hs'.pop hup).drop rfl (b':=B) (fun d ob hd=>by rw[←hB]at hd;exact Gx hd) jU.1
      exact⟨x,h4,x,rfl,_,_,_,hr,h8,Cz.only hff h5 (Kn jU.2)⟩
    ·exact hr.elim
theorem vN{C0:dj}{T:Nat→Option FI}(hT:bk P C0.cl T)(hL:bn P C0.L)(hI:C0.I=al)(hc:yz P C0)(iH: ∀k,C0.cl k=true→ue T k=false)(sS: ∀t ks,C0.keys t=some ks→KeyLaw P t ks)(AS: ∀t ks,C0.eqs t=some ks→tl P t ks)(hm:P.follows .mixedOrders=true): ∀{n base:Nat},zY P (m0 C0 T n base)∧zY P {m0 C0 T n base with inl:=(m0 C0 T n base).AQ}
 |0,_=>⟨fun _ _ {_ _ _ _ _ _ _ _ _ _} hk=>hk.elim,fun _ _ {_ _ _ _ _ _ _ _ _ _} hk=>hk.elim⟩
 |n+1,base=>by
  have a:=fun b=>vN hT hL hI hc iH sS AS hm (n:=n) (base:=b)
  exact⟨KA hT hL hI hc iH sS AS hm n base a (m0 C0 T (n+1) base),KA hT hL hI hc iH sS AS hm n base a (m0 C0 T (n+1) base)⟩
theorem mkC_inl{C0:dj}{T:Nat→Option FI}(hT:bk P C0.cl T)(hL:bn P C0.L)(hI:C0.I=al)(hc:yz P C0)(iH: ∀k,C0.cl k=true→ue T k=false)(sS: ∀t ks,C0.keys t=some ks→KeyLaw P t ks)(AS: ∀t ks,C0.eqs t=some ks→tl P t ks)(hm:P.follows .mixedOrders=true): ∀{n base:Nat},zY P (m0 C0 T n base):=(vN hT hL hI hc iH sS AS hm).1
 mutual
def px:AV→Prop
  | .sl _ xs=>xs.length≤maxLen∧rC xs
  | .gs _ _ xs=>xs.length≤maxLen∧rC xs
  | .aO _ cs _=>qv cs
  | .fn _ cs=>qv cs
  | .agg cs=>qv cs
  | .fT cs=>qv cs
  |_=>True
def qv:List AV→Prop
  |[]=>True
  |a::r=>px a∧qv r
def rC:List (List AV)→Prop
  |[]=>True
  |l::r=>qv l∧rC r
end
theorem lK: ∀{cs:List AV},(∀(q:Nat) (a:AV),cs[q]? =some a→px a)→qv cs
 |[],_=>by simp only[qv]
 |a::r,h=>by simp only[qv];exact⟨h 0 a rfl,lK fun q b hq=>h (q+1) b (by simpa using hq)⟩
theorem yd: ∀{xs:List (List AV)},(∀(q:Nat) (a:AV),xs.flatten[q]? =some a→px a)→rC xs
 |[],_=>by simp only[rC]
 |l::r,h=>by
  simp only[rC]
  refine⟨lK fun q b hq=>h q b ?_,yd fun q b hq=>h (l.length+q) b ?_⟩
  ·rw[List.flatten_cons,List.getElem?_append_left (List.getElem?_eq_some_iff.1 hq).1];exact hq
  ·rw[List.flatten_cons,List.getElem?_append_right (by omega)];simpa using hq
theorem vI{α β:Type}{l:List α}{m:List β}(h:m.length=l.length){q:Nat}{a:α}(ha:l[q]? =some a): ∃b,m[q]? =some b:=
 have aU:q<m.length:=by rw[h];exact(List.getElem?_eq_some_iff.1 ha).1
 ⟨m[q],List.getElem?_eq_getElem aU⟩
theorem Cz.px{a:AV}{x:Value}(h:Cz E a x):px a:=by
 induction h with
 |sl r xs z b o c u hp hc hm dV hz hr hi hs hu hq ih=>simp only[Ab.px];exact⟨by omega,yd ih⟩
 |gs r t xs z b c e cells u hc hm h0 dV hz hr hb du ho fY hi hu hq ih=>simp only[Ab.px];exact⟨by omega,yd ih⟩
 |nA=>simp[Ab.px,rC]
 |sX=>simp[Ab.px,rC]
 |aO r cs off b o u hr hi hs hu hq ih=>simp only[Ab.px];exact lK ih
 |fn f cap ys hl hq ih=>simp only[Ab.px];exact lK fun q a ha=>let⟨y,hy⟩:=vI hl ha;ih q a y ha hy
 |agg cs ys hl hq ih=>simp only[Ab.px];exact lK fun q a ha=>let⟨y,hy⟩:=vI hl ha;ih q a y ha hy
 |fT cs ys hl hq ih=>simp only[Ab.px];exact lK fun q a ha=>let⟨y,hy⟩:=vI hl ha;ih q a y ha hy
 |_=>simp only[Ab.px]
theorem Rk{args args':List AV}(hw:ZV args args'){vs:List Value}(h: ∀(q:Nat) (a:AV) (y:Value),args[q]? =some a→vs[q]? =some y→Cz E a y):
  args.length=args'.length∧ ∀(q:Nat) (a:AV) (y:Value),args'[q]? =some a→vs[q]? =some y→Cz E a y:=by
 obtain⟨h1,h2⟩:=wK hw
 refine⟨h1,fun q a y ha hy=>?_⟩
 obtain⟨a0,e1,e2⟩:=h2 q a ha
 exact fF e2 (h q a0 y e1 hy)
 mutual
def I0:AV→AV→Prop
  | .agg cs,.agg cs'=>ZV cs cs'
  | .fT cs,.fT cs'=>LO cs cs'
  |a,b=>NX a b
def LO:List AV→List AV→Prop
  |[],[]=>True
  |a::r,b::q=>I0 a b∧LO r q
  |_,_=>False
end
 mutual
theorem wL{x y:AV}{v:Value}(hw:I0 x y)(h:Cz E x v):Cz E y v:=by
  unfold I0 at hw
  split at hw
  ·rename_i cs cs'
   cases h with
   |agg _ ys hl hq=>
    obtain⟨h1,h2⟩:=Rk hw hq
    exact .agg cs' ys (hl.trans h1) h2
  ·rename_i cs cs'
   cases h with
   |fT _ ys hl hq=>
    obtain⟨h1,h2⟩:=tB hw hq
    exact .fT cs' ys (hl.trans h1) h2
  ·exact fF hw h
theorem tB{args args':List AV}(hw:LO args args'){vs:List Value}(h: ∀(q:Nat) (a:AV) (y:Value),args[q]? =some a→vs[q]? =some y→Cz E a y):
   args.length=args'.length∧ ∀(q:Nat) (a:AV) (y:Value),args'[q]? =some a→vs[q]? =some y→Cz E a y:=by
  match args,args',hw with
  |[],[],_=>exact⟨rfl,fun q a y ha=>by simp at ha⟩
  |a::r,b::q,hw=>
   unfold LO at hw
   cases vs with
   |nil=>
    obtain⟨h1,_⟩:=tB (args:=r) (args':=q) (vs:=[]) hw.2 (fun q a y ha hy=>by simp at hy)
    exact⟨by simp[h1],fun q a y ha hy=>by simp at hy⟩
   |cons v vs=>
    obtain⟨h1,h2⟩:=tB (args:=r) (args':=q) (vs:=vs) hw.2 (fun j a y ha hy=>h (j+1) a y (by simpa using ha) (by simpa using hy))
    refine⟨by simp[h1],fun j c y hc hy=>?_⟩
    cases j with
    |zero=>simp at hc hy;subst hc;subst hy;exact wL hw.1 (h 0 a v (by simp) (by simp))
    |succ j=>exact h2 j c y (by simpa using hc) (by simpa using hy)
end
theorem km.amk{f:Nat}{args args':List AV}{g:Nat→Option Ob}{nx:Nat}{r:AV}{g':Nat→Option Ob}{gG:Nat}(hw:LO args args')(hi:bZ args'=true)(h:km P f args' g nx r g' gG):km P f args g nx r g' gG:=
 fun _ E w vs hG hl hv=>by
  obtain⟨h1,h2⟩:=tB hw hv
  exact h hi E w vs hG (hl.trans h1) h2
theorem Q6.akG{f:Nat}{args:List AV}{g:Nat→Option Ob}{nx:Nat}{r:AV}{g':Nat→Option Ob}{gG:Nat}(hr:cm r=true)(h:Q6 P f args g nx fun r1 g1 zb=>I0 r1 r∧g1=g'∧zb=gG):km P f args g nx r g' gG:=
 fun hi E w vs hG hl hv=>(h hi E w vs hG hl hv).mono fun e w' ⟨r1,g1,zb,x,E',⟨e1,e2,e3⟩,h1,h2,h3,h4,h5,h6,h7⟩=>by subst e2;subst e3;exact⟨x,E',h1,h2,h3,h4,wL e1 h5,hr,h7⟩
structure Any(P:Program)(call:oO):Prop where
 use: ∀{ρ f:Nat} {args:List AV} {g:Nat→Option Ob} {nx:Nat} {r:AV} {g':Nat→Option Ob} {gG:Nat},nP P f→km P f args g nx r g' gG→call ρ f args g nx r g' gG
def post(C:dj)(rs:List ResultVar)(R:AV→(Nat→Option Ob)→Nat→Prop)(e:Ex)(s:St):Prop:=
 match e with
 | .normal=>Fe C rs s R
 | .ret=>Fe C rs s R
 |_=>False
theorem Qv{P:Program}{L:nO}(hL:bn P L)(hm:P.follows .mixedOrders=true){f:Nat}{fn:Func}{c:Code}(hf:P.funcs[f]? =some fn)(hb:fn.body=some c){args:List AV}{g:Nat→Option Ob}{nx:Nat}
  {R:AV→(Nat→Option Ob)→Nat→Prop}(fl:Bool)(ρ:Nat)(sh:List Nat)(tree:Nat→Tree)(dead:Nat→List Nat)(op:List Nat)(cl:Nat→Bool){keys eqs:Nat→Option (List VK)}(sS: ∀t ks,keys t=some ks→KeyLaw P t ks)(AS: ∀t ks,eqs t=some ks→tl P t ks){T:Nat→Option FI}(hT:bk P cl T)(iH: ∀k,cl k=true→ue T k=false)(fuel:Nat)(hd:cg cl tree c=true)(n:Nat)(hn:fn.ntmps=n)(I5:lL args.length n=true){rs:List ResultVar}(T6:fn.results.toList=rs)
  (hk: ∀(I:Pr) (call:oO),I=al→Any P call→qv args→pY (m0 {I:=I,L:=L,ρ:=ρ,sh:=sh,tree:=tree,call:=call,op:=op,dead:=dead,cl:=cl,keys:=keys,eqs:=eqs} T fuel 0) c (init n args g nx fl) (post (m0 {I:=I,L:=L,ρ:=ρ,sh:=sh,tree:=tree,call:=call,op:=op,dead:=dead,cl:=cl,keys:=keys,eqs:=eqs} T fuel 0) rs R)):uE P fl f args g nx R:=by
 subst hn
 subst T6
 let call:oO:=fun ρ f args g nx r g' gG=>nP P f∧km P f args g nx r g' gG
 intro hi E w vs hG fB hl hv
 have hc:yz P {I:=al,L:=L,ρ:=ρ,sh:=sh,tree:=tree,call:=call,op:=op,dead:=dead,cl:=cl,keys:=keys,eqs:=eqs}:=fun _ _ _ _ _ _ _ _ h=>h
 have Yc:=vN hT (C0:={I:=al,L:=L,ρ:=ρ,sh:=sh,tree:=tree,call:=call,op:=op,dead:=dead,cl:=cl,keys:=keys,eqs:=eqs}) hL rfl hc iH sS AS hm (n:=fuel) (base:=0)
 obtain⟨hC,Yc⟩:=Yc
 obtain⟨m1,m2,m3,m4,m5⟩:=Ow (C0:={I:=al,L:=L,ρ:=ρ,sh:=sh,tree:=tree,call:=call,op:=op,dead:=dead,cl:=cl,keys:=keys,eqs:=eqs}) (T:=T) (n:=fuel) (base:=0)
 have ok':Ok P (m0 {I:=al,L:=L,ρ:=ρ,sh:=sh,tree:=tree,call:=call,op:=op,dead:=dead,cl:=cl,keys:=keys,eqs:=eqs} T fuel 0):=
  ⟨by rw[m1];exact hL,m2,fun ρ f args g nx r g' gG hh=>hc ρ f args g nx r g' gG (by rw[m3]at hh;exact hh),hC,Yc,MZ,fun k hk=>by rw[m5];rw[m4]at hk;exact iH k hk,
   fun t ks hk=>by rw[(BF (T:=T) (n:=fuel) (base:=0)).1]at hk;exact sS t ks hk,fun t ks hk=>by rw[(BF (T:=T) (n:=fuel) (base:=0)).2]at hk;exact AS t ks hk⟩
 have Lv:(m0 {I:=al,L:=L,ρ:=ρ,sh:=sh,tree:=tree,call:=call,op:=op,dead:=dead,cl:=cl,keys:=keys,eqs:=eqs} T fuel 0).tree=tree:=by cases fuel<;>rfl
 refine uE.of ok' hm hf hb (by rw[Lv,m4];exact hd) (Kq I5) fl ?_ hi E w vs hG fB hl hv
 exact hk al call rfl ⟨fun h1 h2=>⟨h1,h2⟩⟩ (lK fun q a ha=>let⟨y,hy⟩:=vI hl ha;(hv q a y ha hy).px)
theorem U0{P:Program}{L:nO}(hL:bn P L)(hm:P.follows .mixedOrders=true){f:Nat}{fn:Func}{c:Code}(hf:P.funcs[f]? =some fn)(hb:fn.body=some c){args:List AV}{g:Nat→Option Ob}{nx:Nat}
  {R:AV→(Nat→Option Ob)→Nat→Prop}(ρ:Nat)(sh:List Nat)(tree:Nat→Tree)(dead:Nat→List Nat)(op:List Nat)(cl:Nat→Bool){keys eqs:Nat→Option (List VK)}(sS: ∀t ks,keys t=some ks→KeyLaw P t ks)(AS: ∀t ks,eqs t=some ks→tl P t ks){T:Nat→Option FI}(hT:bk P cl T)(iH: ∀k,cl k=true→ue T k=false)(fuel:Nat)(hd:cg cl tree c=true)(n:Nat)(hn:fn.ntmps=n)(I5:lL args.length n=true){rs:List ResultVar}(T6:fn.results.toList=rs)
  (hk: ∀(I:Pr) (call:oO),I=al→Any P call→qv args→pY (m0 {I:=I,L:=L,ρ:=ρ,sh:=sh,tree:=tree,call:=call,op:=op,dead:=dead,cl:=cl,keys:=keys,eqs:=eqs} T fuel 0) c (init n args g nx) (post (m0 {I:=I,L:=L,ρ:=ρ,sh:=sh,tree:=tree,call:=call,op:=op,dead:=dead,cl:=cl,keys:=keys,eqs:=eqs} T fuel 0) rs R)):Q6 P f args g nx R:=by
 subst hn
 subst T6
 let call:oO:=fun ρ f args g nx r g' gG=>nP P f∧km P f args g nx r g' gG
 intro hi E w vs hG hl hv
 have hc:yz P {I:=al,L:=L,ρ:=ρ,sh:=sh,tree:=tree,call:=call,op:=op,dead:=dead,cl:=cl,keys:=keys,eqs:=eqs}:=fun _ _ _ _ _ _ _ _ h=>h
 have Yc:=vN hT (C0:={I:=al,L:=L,ρ:=ρ,sh:=sh,tree:=tree,call:=call,op:=op,dead:=dead,cl:=cl,keys:=keys,eqs:=eqs}) hL rfl hc iH sS AS hm (n:=fuel) (base:=0)
 obtain⟨hC,Yc⟩:=Yc
 obtain⟨m1,m2,m3,m4,m5⟩:=Ow (C0:={I:=al,L:=L,ρ:=ρ,sh:=sh,tree:=tree,call:=call,op:=op,dead:=dead,cl:=cl,keys:=keys,eqs:=eqs}) (T:=T) (n:=fuel) (base:=0)
 have ok':Ok P (m0 {I:=al,L:=L,ρ:=ρ,sh:=sh,tree:=tree,call:=call,op:=op,dead:=dead,cl:=cl,keys:=keys,eqs:=eqs} T fuel 0):=
  ⟨by rw[m1];exact hL,m2,fun ρ f args g nx r g' gG hh=>hc ρ f args g nx r g' gG (by rw[m3]at hh;exact hh),hC,Yc,MZ,fun k hk=>by rw[m5];rw[m4]at hk;exact iH k hk,
   fun t ks hk=>by rw[(BF (T:=T) (n:=fuel) (base:=0)).1]at hk;exact sS t ks hk,fun t ks hk=>by rw[(BF (T:=T) (n:=fuel) (base:=0)).2]at hk;exact AS t ks hk⟩
 have Lv:(m0 {I:=al,L:=L,ρ:=ρ,sh:=sh,tree:=tree,call:=call,op:=op,dead:=dead,cl:=cl,keys:=keys,eqs:=eqs} T fuel 0).tree=tree:=by cases fuel<;>rfl
 refine Q6.of ok' hm hf hb (by rw[Lv,m4];exact hd) (Kq I5) ?_ hi E w vs hG hl hv
 exact hk al call rfl ⟨fun h1 h2=>⟨h1,h2⟩⟩ (lK fun q a ha=>let⟨y,hy⟩:=vI hl ha;(hv q a y ha hy).px)
theorem tF(P:Program)(cl:Nat→Bool):bk P cl (fun _=>none):=fun k fi h=>by cases h
end Ab
namespace Ab
open Go
variable{kp:Prop}{P:Program}{L:nO}{E0 E E':Env}{w0 w w':World}{s s':St}{a:Act}{p:Path}{C:dj}
structure kj(E:Env)(r:Nat)(w w':World):Prop where
 same:iz w w'
 size:E.h.size≤w'.heap.size
 cells: ∀b,b<E.h.size→w'.heap[b]? =E.h[b]? ∨ ∃c c' e,E.h[b]? =some (.cells c e (0,0))∧w'.heap[b]? =some (.cells c' e (0,0))∧c'.size=c.size∧ ∀o,¬(E.aN b o∧E.dx b=r)→c'[o]? =c[o]?
def Env.dv(E:Env)(r:Nat)(kp:Prop)(w':World):Env:={E with h:=w'.heap,aN:=fun b o=>E.aN b o∧(kp∨E.dx b≠r)}
theorem kj.cell{r:Nat}(k:kj E r w w'){b o:Nat}(hb:b<E.h.size)(h: ¬(E.aN b o∧E.dx b=r)):aR w'.heap b o=aR E.h b o:=by
 rcases k.cells b hb with h1|⟨c,c',e,h1,h2,h3,h4⟩
 ·unfold aR;rw[h1]
 ·unfold aR;rw[h1,h2];exact h4 o h
theorem kj.block{r:Nat}(k:kj E r w w'){b:Nat}(hb:b<E.h.size)(h: ∀o,¬(E.aN b o∧E.dx b=r)):w'.heap[b]? =E.h[b]? :=by
 rcases k.cells b hb with h1|⟨c,c',e,h1,h2,h3,h4⟩
 ·exact h1
 ·have:c'=c:=by
   apply Array.ext h3
   intro i hi1 hi2
   have:=h4 i (h i)
   rw[Array.getElem?_eq_getElem hi1,Array.getElem?_eq_getElem hi2]at this
   exact Option.some.inj this
  rw[h1,h2,this]
theorem nV{r:Nat}: ∀{cs:List AV},AF r cs→ ∀(q:Nat) (a:AV),cs[q]? =some a→rY r a
 |[],_,q,a,h=>by simp at h
 |x::l,h,q,a,hq=>by
  simp only[AF]at h
  cases q with
  |zero=>simp at hq;subst hq;exact h.1
  |succ q=>exact nV h.2 q a (by simpa using hq)
theorem kI{r:Nat}: ∀{xs:List (List AV)},nh r xs→ ∀(q:Nat) (a:AV),xs.flatten[q]? =some a→rY r a
 |[],_,q,a,h=>by simp at h
 |x::l,h,q,a,hq=>by
  simp only[nh]at h
  rw[List.flatten_cons]at hq
  by_cases aU:q<x.length
  ·rw[List.getElem?_append_left aU]at hq;exact nV h.1 q a hq
  ·rw[List.getElem?_append_right (by omega)]at hq;exact kI h.2 _ a hq
theorem MW{r:Nat}: ∀{cs:List AV},(∀a∈cs,rY r a)→AF r cs
 |[],_=>by simp only[AF]
 |x::l,h=>by simp only[AF];exact⟨h x (by simp),MW fun a ha=>h a (by simp[ha])⟩
theorem zf{r:Nat}: ∀{xs:List (List AV)},(∀l∈xs,AF r l)→nh r xs
 |[],_=>by simp only[nh]
 |x::l,h=>by simp only[nh];exact⟨h x (by simp),zf fun a ha=>h a (by simp[ha])⟩
theorem Cz.dv{r:Nat}(k:kj E r w w')(hw:Wf E){av:AV}{x:Value}(h:Cz E av x):rY r av→Cz (E.dv r kp w') av x:=by
 induction h with
 |any x=>exact fun _=> .any _
 |v x=>exact fun _=> .v _
 |nA q A c=>exact fun _=> .nA _ _ _
 |sl q xs z b o c u hp hc hm dV hz hr hi hs hu hq ih=>
  intro hn
  simp only[rY]at hn
  have hb: ∀o',E.aN b o'→ ¬(E.aN b o'∧E.dx b=r):=fun o' _ hh=>hn.1 (hr.symm.trans hh.2)
  exact .sl q xs z b o c u hp hc hm dV hz hr hi (fun i a ha=>⟨hs i a ha,.inr fun e=>hn.1 (hr.symm.trans e)⟩) (fun i a ha=>(k.cell (hw.aN _ _ (hs i a ha)) (hb _ (hs i a ha))).trans (hu i a ha)) (fun i a ha=>ih i a ha (kI hn.2 i a ha))
 |sX q t=>exact fun _=> .sX _ _
 |gs q t xs z b c e cells u hc hm h0 dV hz hr hb du ho fY hi hu hq ih=>
  intro hn
  simp only[rY]at hn
  have cM:E.dx b≠r:=fun e=>hn.1 (hr.symm.trans e)
  have aU:b<E.h.size:=(Array.getElem?_eq_some_iff.1 hb).1
  have zy:=k.block aU fun o hh=>cM hh.2
  exact .gs q t xs z b c e cells u hc hm h0 dV hz hr (by show w'.heap[b]? =_;rw[zy];exact hb) du ho (fun o=>⟨fun hh=>(fY o).1 hh.1,fun hh=>⟨(fY o).2 hh,.inr cM⟩⟩) hi (fun i a ha=>by
   show aR w'.heap b (0+i)=_
   rw[k.cell aU fun hh=>cM hh.2];exact hu i a ha) (fun i a ha=>ih i a ha (kI hn.2 i a ha))
 |aO q cs off b o u hr hi hs hu hq ih=>
  intro hn
  simp only[rY]at hn
  exact .aO q cs off b o u hr hi (fun i a ha=>⟨hs i a ha,.inr fun e=>hn.1 ((hr i a ha).symm.trans e)⟩) (fun i a ha=>(k.cell (hw.aN _ _ (hs i a ha)) fun hh=>hn.1 ((hr i a ha).symm.trans hh.2)).trans (hu i a ha)) (fun i a ha=>ih i a ha (nV hn.2 i a ha))
 |ptr k' off hl=>exact fun _=>Cz.ptr (E:=E.dv r kp w') k' off hl
 |ia k' n hl hn hc hm=>exact fun _=>Cz.ia (E:=E.dv r kp w') k' n hl hn hc hm
 |cG k' i off z hl=>exact fun _=>Cz.cG (E:=E.dv r kp w') k' i off z hl
 |mp k' hl=>exact fun _=>Cz.mp (E:=E.dv r kp w') k' hl
 |pV k' hl=>exact fun _=>Cz.pV (E:=E.dv r kp w') k' hl
 |ar n z xs ys hn hz hl hi hq ih=>intro h;simp only[rY]at h;exact .ar n z xs ys hn hz hl hi fun q a y ha hy=>ih q a y ha hy (kI h q a ha)
 |fn f cs ys hl hq ih=>intro h;simp only[rY]at h;exact .fn f cs ys hl fun q a y ha hy=>ih q a y ha hy (nV h q a ha)
 |bm f cs ys hl hi hq ih=>intro h;simp only[rY]at h;exact .bm f cs ys hl hi fun q a y ha hy=>ih q a y ha hy (nV h q a ha)
 |nc q z xs x hz h ih=>
  intro hn
  simp only[rY]at hn
  refine .nc q z xs x hz (ih ?_)
  simp only[rY]
  refine⟨hn.1,?_⟩
  exact MW fun a ha=>by obtain⟨i,hi⟩:=List.getElem?_of_mem ha;exact kI hn.2 i a hi
 |agg cs ys hl hq ih=>intro h;simp only[rY]at h;exact .agg cs ys hl fun q a y ha hy=>ih q a y ha hy (nV h q a ha)
 |fT cs ys hl hq ih=>intro h;simp only[rY]at h;exact .fT cs ys hl fun q a y ha hy=>ih q a y ha hy (nV h q a ha)
 mutual
def jj(r:Nat):AV→AV
  | .sl q xs=>bif cS q r then .any else .sl q xs
  | .gs q t xs=>bif cS q r then .any else .gs q t xs
  | .aO q cs o=>bif cS q r then .any else .aO q cs o
  | .nc q z xs=>bif cS q r then .any else .nc q z xs
  | .agg cs=> .agg (ub r cs)
  | .fT cs=> .fT (ub r cs)
  |a=>a
def ub(r:Nat):List AV→List AV
  |[]=>[]
  |a::l=>jj r a::ub r l
end
 mutual
def Oj(I:Pr)(r:Nat):AV→Prop
  | .sl q xs=>bif cS q r then True else I.nr r xs
  | .gs q _ xs=>bif cS q r then True else I.nr r xs
  | .aO q cs _=>bif cS q r then True else I.nr r [cs]
  | .nc q _ xs=>bif cS q r then True else I.nr r xs
  | .ar _ _ xs=>I.nr r xs
  | .fn _ cs=>I.nr r [cs]
  | .bm _ cs=>I.nr r [cs]
  | .agg cs=>P1 I r cs
  | .fT cs=>P1 I r cs
  |_=>True
def P1(I:Pr)(r:Nat):List AV→Prop
  |[]=>True
  |a::l=>Oj I r a∧P1 I r l
end
def zn(r:Nat):List (Nat×AV)→List (Nat×AV)
 |[]=>[]
 |(d,a)::l=>(d,jj r a)::zn r l
def nrT(I:Pr)(r:Nat):List (Nat×AV)→Prop
 |[]=>True
 |(_,a)::l=>Oj I r a∧nrT I r l
def OE(r:Nat):Ob→Ob
 | .box cs=> .box (ub r cs)
 | .lp n t ps nI body st=> .lp n (zn r t) ps nI body st
 |o=>o
def nrO(I:Pr)(r:Nat):Ob→Prop
 | .box cs=>P1 I r cs
 | .arr _ xs=>I.nr r xs
 | .ow _ _ xs=>I.nr r xs
 | .lp _ t _ _ _ _=>nrT I r t
def Gw(r:Nat):List (Nat×Ob)→List (Nat×Ob)
 |[]=>[]
 |(d,o)::l=>(d,OE r o)::Gw r l
def nrB(I:Pr)(r:Nat):List (Nat×Ob)→Prop
 |[]=>True
 |(_,o)::l=>nrO I r o∧nrB I r l
def TU(r:Nat):List Fr→List Fr
 |[]=>[]
 |f::l=>{n:=f.n,t:=zn r f.t}::TU r l
def nrU(I:Pr)(r:Nat):List Fr→Prop
 |[]=>True
 |f::l=>nrT I r f.t∧nrU I r l
def OD(r:Nat)(s:St):St:={s with t:=zn r s.t,b:=Gw r s.b,up:=TU r s.up}
def TW(Q:AV→Prop)(I:Pr)(args:List AV)(s:St)(K:bf):Prop:=
 match args with
 |[.agg [.sl r xs]]=>bif lL 1000000 r&&s.fl then(Q (.agg [.sl r xs])∧(s.c=[]∧ ∀i,s.g i=none)∧nrT I r s.t∧nrB I r s.b∧nrU I r s.up)∧K (.fT []) (OD r s)else False
 |_=>False
theorem ua(r:Nat): ∀(cs:List AV) (q:Nat),(ub r cs)[q]? =(cs[q]?).map (jj r)
 |[],q=>by simp[ub]
 |a::l,q=>by cases q<;>simp[ub,ua r l]
theorem tZ(r:Nat): ∀(cs:List AV),(ub r cs).length=cs.length
 |[]=>rfl
 |a::l=>by simp[ub,tZ r l]
theorem zd{I:Pr}{r:Nat}: ∀{cs:List AV},P1 I r cs→ ∀(q:Nat) (a:AV),cs[q]? =some a→Oj I r a
 |[],_,q,a,h=>by simp at h
 |x::l,h,q,a,hq=>by
  simp only[P1]at h
  cases q with
  |zero=>simp at hq;subst hq;exact h.1
  |succ q=>exact zd h.2 q a (by simpa using hq)
theorem Cz.TV{r:Nat}(k:kj E r w w')(hw:Wf E){av:AV}{x:Value}(h:Cz E av x):Oj al r av→Cz (E.dv r kp w') (jj r av) x:=by
 have one: ∀{q:Nat} {xs:List (List AV)},(bif cS q r then True else al.nr r xs)→cS q r=false→q≠r∧nh r xs:=fun{q xs} h hq=>by
  rw[hq,cond_false]at h
  exact⟨fun e=>by subst e;simp at hq,h⟩
 induction h with
 |sl q xs z b o c u hp hc hm dV hz hr hi hs hu hq ih=>
  intro hn
  simp only[Oj]at hn
  simp only[jj]
  cases he:cS q r with
  |true=>exact .any _
  |false=>exact Cz.dv k hw (.sl q xs z b o c u hp hc hm dV hz hr hi hs hu hq) (by simp only[cond_false,rY];exact one hn he)
 |nA q A c=>
  intro _
  simp only[jj]
  cases cS q r with
  |true=>exact .any _
  |false=>exact .nA _ _ _
 |sX q t=>
  intro _
  simp only[jj]
  cases cS q r with
  |true=>exact .any _
  |false=>exact .sX _ _
 |gs q t xs z b c e cells u hc hm h0 dV hz hr hb du ho fY hi hu hq ih=>
  intro hn
  simp only[Oj]at hn
  simp only[jj]
  cases he:cS q r with
  |true=>exact .any _
  |false=>exact Cz.dv k hw (.gs q t xs z b c e cells u hc hm h0 dV hz hr hb du ho fY hi hu hq) (by simp only[cond_false,rY];exact one hn he)
 |aO q cs off b o u hr hi hs hu hq ih=>
  intro hn
  simp only[Oj]at hn
  simp only[jj]
  cases he:cS q r with
  |true=>exact .any _
  |false=>
   have:=one hn he
   simp only[nh]at this
   exact Cz.dv k hw (.aO q cs off b o u hr hi hs hu hq) (by simp only[cond_false,rY];exact⟨this.1,this.2.1⟩)
 |nc q z xs x hz h ih=>
  intro hn
  simp only[Oj]at hn
  simp only[jj]
  cases he:cS q r with
  |true=>exact .any _
  |false=>exact Cz.dv k hw (.nc q z xs x hz h) (by simp only[cond_false,rY];exact one hn he)
 |ar n z xs ys hn hz hl hi hq ih=>
  intro h
  simp only[Oj]at h
  exact Cz.dv k hw (.ar n z xs ys hn hz hl hi hq) (by simp only[jj,rY];exact h)
 |fn f cs ys hl hq ih=>
  intro h
  simp only[Oj]at h
  have h:nh r [cs]:=h
  simp only[nh]at h
  exact Cz.dv k hw (.fn f cs ys hl hq) (by simp only[jj,rY];exact h.1)
 |bm f cs ys hl hi hq ih=>
  intro h
  simp only[Oj]at h
  have h:nh r [cs]:=h
  simp only[nh]at h
  exact Cz.dv k hw (.bm f cs ys hl hi hq) (by simp only[jj,rY];exact h.1)
 |agg cs ys hl hq ih=>
  intro h
  simp only[Oj]at h
  simp only[jj]
  refine .agg _ ys (by rw[tZ];exact hl) fun q a y ha hy=>?_
  rw[ua]at ha
  cases hc:cs[q]? with
  |none=>rw[hc]at ha;cases ha
  |some a0=>rw[hc]at ha;cases ha;exact ih q a0 y hc hy (zd h q a0 hc)
 |fT cs ys hl hq ih=>
  intro h
  simp only[Oj]at h
  simp only[jj]
  refine .fT _ ys (by rw[tZ];exact hl) fun q a y ha hy=>?_
  rw[ua]at ha
  cases hc:cs[q]? with
  |none=>rw[hc]at ha;cases ha
  |some a0=>rw[hc]at ha;cases ha;exact ih q a0 y hc hy (zd h q a0 hc)
 |any x=>exact fun _=> .any _
 |v x=>exact fun _=> .v _
 |ptr k' off hl=>exact fun _=>Cz.ptr (E:=E.dv r kp w') k' off hl
 |ia k' n hl hn hc hm=>exact fun _=>Cz.ia (E:=E.dv r kp w') k' n hl hn hc hm
 |cG k' i off z hl=>exact fun _=>Cz.cG (E:=E.dv r kp w') k' i off z hl
 |mp k' hl=>exact fun _=>Cz.mp (E:=E.dv r kp w') k' hl
 |pV k' hl=>exact fun _=>Cz.pV (E:=E.dv r kp w') k' hl
theorem tW{r d:Nat}: ∀{t:List (Nat×AV)},look d (zn r t)=(look d t).map (jj r)
 |[]=>rfl
 |(k,a)::l=>by
  simp only[zn,aB]
  split
  ·rfl
  ·exact tW
theorem yb{r d:Nat}: ∀{b:List (Nat×Ob)},look d (Gw r b)=(look d b).map (OE r)
 |[]=>rfl
 |(k,o)::l=>by
  simp only[Gw,aB]
  split
  ·rfl
  ·exact yb
theorem Ia{I:Pr}{r d:Nat}{a:AV}: ∀{t:List (Nat×AV)},nrT I r t→look d t=some a→Oj I r a
 |[],_,h=>by cases h
 |(k,x)::l,h,hd=>by
  simp only[nrT]at h
  rw[aB]at hd
  split at hd
  ·cases hd;exact h.1
  ·exact Ia h.2 hd
theorem Ol{I:Pr}{r d:Nat}{o:Ob}: ∀{b:List (Nat×Ob)},nrB I r b→look d b=some o→nrO I r o
 |[],_,h=>by cases h
 |(k,x)::l,h,hd=>by
  simp only[nrB]at h
  rw[aB]at hd
  split at hd
  ·cases hd;exact h.1
  ·exact Ol h.2 hd
theorem Bp{r:Nat}(k:kj E r w w')(hw:Wf E){t:List (Nat×AV)}(hn:nrT al r t){T:Array Value}(h: ∀d x,look d t=some x→Cz E x (T.getD d undef)): ∀d x,look d (zn r t)=some x→Cz (E.dv r kp w') x (T.getD d undef):=fun d x hd=>by
 rw[tW]at hd
 cases hl:look d t with
 |none=>rw[hl]at hd;cases hd
 |some y=>rw[hl]at hd;cases hd;exact(h d y hl).TV k hw (Ia hn hl)
theorem kS.dv{r:Nat}(k:kj E r w w')(hw:Wf E): ∀{aa:List Act} {fs:List Fr},nrU al r fs→kS E aa fs→kS (E.dv r kp w') aa (TU r fs)
 |[],[],_,_=>trivial
 |a::aa,f::fs,hn,h=>by
  simp only[nrU]at hn
  exact⟨⟨h.1.1,Bp k hw hn.1 h.1.2⟩,kS.dv k hw hn.2 h.2⟩
 |[],_::_,_,h=>h.elim
 |_::_,[],_,h=>h.elim
theorem T1{r:Nat}{g:Bool}{a:Option AV}:isB g (a.map (jj r))↔isB g a:=by
 cases a with
 |none=>exact Iff.rfl
 |some a=>
  cases a with
  |sl q xs=>simp only[Option.map_some,jj];cases cS q r<;>exact Iff.rfl
  |gs q t xs=>simp only[Option.map_some,jj];cases cS q r<;>exact Iff.rfl
  |aO q cs o=>simp only[Option.map_some,jj];cases cS q r<;>exact Iff.rfl
  |nc q z xs=>simp only[Option.map_some,jj];cases cS q r<;>exact Iff.rfl
  |agg cs=>simp only[Option.map_some,jj];exact Iff.rfl
  |fT cs=>simp only[Option.map_some,jj];exact Iff.rfl
  |_=>exact Iff.rfl
theorem Tt{r:Nat}(k:kj E r w w')(hw:Wf E){d:Nat}{o:Ob}(hn:nrO al r o)(h:ca E (.s d) o):ca (E.dv r kp w') (.s d) (OE r o):=by
 cases o with
 |box cs=>
  obtain⟨h1,c,e,h2,h3,h4,h5,h6⟩:=h
  have aU:E.m (.s d)<E.h.size:=(Array.getElem?_eq_some_iff.1 h2).1
  refine⟨h1,c,e,by show w'.heap[E.m (.s d)]? =_;rw[k.block aU fun o hh=>h4 o hh.1];exact h2,h3,fun o hh=>h4 o hh.1,by rw[tZ];exact h5,fun q a x ha hx=>?_⟩
  rw[ua]at ha
  cases hc:cs[q]? with
  |none=>rw[hc]at ha;cases ha
  |some a0=>rw[hc]at ha;cases ha;exact(h6 q a0 x hc hx).TV k hw (zd hn q a0 hc)
 |arr z xs=>
  obtain⟨h1,h2,h3,h4,h5,c,e,h6,h7,h8,h9,Ah,Iw⟩:=h
  have aU:E.m (.s d)<E.h.size:=(Array.getElem?_eq_some_iff.1 h6).1
  exact⟨h1,h2,h3,h4,h5,c,e,by show w'.heap[E.m (.s d)]? =_;rw[k.block aU fun o hh=>h8 o hh.1];exact h6,h7,fun o hh=>h8 o hh.1,h9,Ah,fun q a x ha hx=>(Iw q a x ha hx).dv k hw (kI hn q a ha)⟩
 |ow p sN xs=>
  obtain⟨h1,h2,h3,h4,u,h5,h6,h7,h8⟩:=h
  have aU:E.m (.s d)<E.h.size:=hw.own _ (by rw[h2];simp)
  have zy:w'.heap[E.m (.s d)]? =E.h[E.m (.s d)]? :=k.block aU fun o hh=>h3 o hh.1
  refine⟨h1,h2,fun o hh=>h3 o hh.1,h4,u,?_,fun q a ha=>(h6 q a ha).dv k hw (kI hn q a ha),?_,h8⟩
  ·show ES p _ w'.heap[E.m (.s d)]? xs u
   rw[zy];exact h5
  ·intro q r' ys hq hl
   have hnr:=kI hn q _ hq
   simp only[rY]at hnr
   rcases h7 q r' ys hq hl with hh|⟨z,b,c,e,cells,g1,g2,g3,g4,g5,g6,g7,g8,g9,Yd,g11⟩
   ·exact .inl hh
   ·have cM:E.dx b≠r:=fun e=>hnr.1 (g7.symm.trans e)
    exact .inr ⟨z,b,c,e,cells,g1,g2,g3,g4,g5,g6,g7,by show w'.heap[b]? =_;rw[k.block (Array.getElem?_eq_some_iff.1 g8).1 fun o hh=>cM hh.2];exact g8,g9,Yd,fun o=>⟨fun hh=>(g11 o).1 hh.1,fun hh=>⟨(g11 o).2 hh,.inr cM⟩⟩⟩
 |lp n t ps nI body st=>
  obtain⟨h1,h2,h3,rec,h4,h5,h6,h7,h8,h9,Ah,Iw⟩:=h
  have aU:E.m (.s d)<E.h.size:=(Array.getElem?_eq_some_iff.1 h4).1
  exact⟨h1,h2,fun o hh=>h3 o hh.1,rec,by show w'.heap[E.m (.s d)]? =_;rw[k.block aU fun o hh=>h3 o hh.1];exact h4,h5,h6,h7,h8,h9,Ah,Bp k hw hn Iw⟩
theorem kj.other{r b:Nat}(k:kj E r w w'){x:Obj}(h:E.h[b]? =some x)(hx: ∀c e q,x≠ .cells c e q):w'.heap[b]? =some x:=by
 rcases k.cells b (Array.getElem?_eq_some_iff.1 h).1 with h1|⟨c,c',e,h1,_⟩
 ·exact h1.trans h
 ·rw[h]at h1;cases h1;exact absurd rfl (hx _ _ _)
theorem MS{r:Nat}: ∀{p:Path},aY (OD r s) p↔aY s p
 |[]=>Iff.rfl
 |(d,w)::q=>by
  simp only[aY]
  rw[show(OD r s).t=zn r s.t from rfl,tW,MS]
  exact and_congr T1 Iff.rfl
theorem bq.dv(h:bq E0 E w0 w s a){r:Nat}(k:kj E r w w')(hr:1000000≤r)(fB:s.fl=true)(hc:s.c=[])(hg: ∀i,s.g i=none)(ht:nrT al r s.t)(hb:nrB al r s.b)(hu:nrU al r s.up):bq E0 (E.dv r kp w') w0 w' (OD r s) a:=by
 have low: ∀b o,b<E0.h.size→ ¬(E.aN b o∧E.dx b=r):=fun b o aU hh=>by
  have h1:=h.ext.bp b aU (h.lo fB b).1
  have h2:=(h.lo fB b).2 o ((h1.2.2.1 o).1 hh.1)
  rw[←h1.2.2.2,hh.2]at h2
  omega
 have aiQ: ∀b o,E0.aN b o→ ¬(E.dx b=r):=fun b o hs he=>by
  have h2:=(h.lo fB b).2 o hs
  have h3:=(h.ext.aN b o hs).2.2
  omega
 refine⟨rfl,⟨fun b o hh=>Nat.lt_of_lt_of_le (h.wf.aN b o hh.1) k.size,fun b hh=>Nat.lt_of_lt_of_le (h.wf.own b hh) k.size,fun b o hh hq=>?_⟩,?_,kS.dv k h.wf hu h.up,h.sz,fun d x hd hp=>?_,fun d q hd=>?_,fun d ob hd=>?_,fun d hl=>?_,fun i ob hi=>?_,h.gl,⟨Nat.le_trans h.ext.size k.size,fun b o hs=>⟨⟨(h.ext.aN b o hs).1,.inr (aiQ b o hs)⟩,?_,(h.ext.aN b o hs).2.2⟩,h.ext.live,fun b aU hn=>?_⟩,h.xz,h.same.trans k.same,h.gk,h.nl,h.ng,h.lo⟩
 ·obtain⟨c,e,h1⟩:=h.wf.fz b o hh.1 hq
  rcases k.cells b (Array.getElem?_eq_some_iff.1 h1).1 with h2|⟨c1,c',e1,h2,h3,_⟩
  ·exact⟨c,e,h2.trans h1⟩
  ·exact⟨c',e1,h3⟩
 ·obtain⟨Bs,h1,h2,h3⟩:=h.I8
  refine⟨Bs,h1,h2,fun B hB=>?_⟩
  obtain⟨g1,g2,g3⟩:=h3 B hB
  exact⟨k.other g1 (fun _ _ _ e=>by cases e),g2,g3⟩
 ·have na:look d (zn r s.t)=some x:=hd
  rw[tW]at na
  cases hl:look d s.t with
  |none=>rw[hl]at na;cases na
  |some y=>
   rw[hl]at na;cases na
   exact(h.tm d y hl (by rw[dF,hc];exact trivial)).TV k h.wf (Ia ht hl)
 ·have na:look d s.c=some q:=hd
  rw[hc]at na;cases na
 ·have na:look d (Gw r s.b)=some ob:=hd
  rw[yb]at na
  cases hl:look d s.b with
  |none=>rw[hl]at na;cases na
  |some y=>rw[hl]at na;cases na;exact Tt k h.wf (Ol hb hl) (h.bx d y hl)
 ·obtain⟨ob,ho⟩:=h.lv d hl
  exact⟨OE r ob,by show look d (Gw r s.b)=_;rw[yb,ho];rfl⟩
 ·have:s.g i=some ob:=hi
  rw[hg i]at this;cases this
 ·show aR w'.heap b o=_
  rw[k.cell (h.wf.aN b o (h.ext.aN b o hs).1) fun hh=>aiQ b o hs hh.2]
  exact(h.ext.aN b o hs).2.1
 ·obtain⟨g1,g2,g3,g4⟩:=h.ext.bp b aU hn
  refine⟨g1,?_,fun o=>⟨fun hh=>(g3 o).1 hh.1,fun hh=>⟨(g3 o).2 hh,.inr fun he=>low b o aU ⟨(g3 o).2 hh,he⟩⟩⟩,g4⟩
  show w'.heap[b]? =_
  rw[k.block (Nat.lt_of_lt_of_le aU h.ext.size) fun o=>low b o aU]
  exact g2
def Li(P:Program)(f:Nat)(Q:AV→Prop):Prop:=
 ∀(E:Env) (w:World) (r:Nat) (xs:List (List AV)) (x:Value),Q (.agg [.sl r xs])→1000000≤r→w.heap=E.h→Wf E→Cz E (.agg [.sl r xs]) x→
  Calls P f #[x] w fun e w'=>e= .returned (.tuple #[])∧kj E r w w'
theorem XQ{f:Nat}{Q:AV→Prop}(he:nP P f)(hs:Li P f Q):Vj P f (TW Q):=by
 refine⟨he,fun{args s K E0 E w0 w a vs} hH h hl hv=>?_⟩
 unfold TW at hH
 split at hH
 ·rename_i r xs
  cases hb:lL 1000000 r&&s.fl with
  |false=>rw[hb]at hH;exact hH.elim
  |true=>
   rw[hb,cond_true]at hH
   simp only[Bool.and_eq_true]at hb
   obtain⟨⟨q0,⟨q1,q2⟩,q3,q4,q5⟩,hK⟩:=hH
   match vs,hl with
   |[x],_=>
    refine(hs E w r xs x q0 (Kq hb.1) h.heap h.wf (hv 0 _ x rfl rfl)).mono fun e w' ⟨h1,h2⟩=>?_
    exact⟨_,h1,_,_,E.dv r False w',hK,h.dv h2 (Kq hb.1) hb.2 q1 q2 q3 q4 q5,.fT [] [] rfl fun q a y ha=>by simp at ha⟩
 ·exact hH.elim
end Ab
namespace Ab
open Go
variable{P:Program}{L:nO}{E:Env}{w0 w w':World}{r:Nat}
def zk:Value→Value
 | .int k _=> .int k 0
 | .string _=> .string ⟨#[]⟩
 | .bool _=> .bool false
 | .slice _ _ _=> .slice none 0 0
 |v=>v
structure fA(E:Env)(r:Nat)(w0 w:World):Prop where
 same:iz w0 w
 size:E.h.size≤w.heap.size
 cells: ∀b,b<E.h.size→w.heap[b]? =E.h[b]? ∨ ∃c c' e,E.h[b]? =some (.cells c e (0,0))∧w.heap[b]? =some (.cells c' e (0,0))∧c'.size=c.size∧
  ∀o,c'[o]? =c[o]? ∨(E.aN b o∧E.dx b=r)∧ ∃u,c[o]? =some u∧c'[o]? =some (zk u)
theorem fA.spoilt(h:fA E r w0 w):kj E r w0 w:=
 ⟨h.same,h.size,fun b hb=>(h.cells b hb).imp id fun⟨c,c',e,h1,h2,h3,h4⟩=>⟨c,c',e,h1,h2,h3,fun o ho=>(h4 o).resolve_right fun hh=>ho hh.1⟩⟩
theorem fA.refl(h:w.heap=E.h):fA E r w w:=⟨.refl _,by rw[h];exact Nat.le_refl _,fun b _=> .inl (by rw[h])⟩
theorem fA.get(h:fA E r w0 w)(hw:Wf E){b o:Nat}{u:Value}(hs:E.aN b o)(hu:aR E.h b o=some u):aR w.heap b o=some u∨aR w.heap b o=some (zk u):=by
 rcases h.cells b (hw.aN b o hs)with h1|⟨c,c',e,h1,h2,h3,h4⟩
 ·left;unfold aR;rw[h1];exact hu
 ·unfold aR at hu ⊢
  rw[h1]at hu
  rw[h2]
  rcases h4 o with h5|⟨_,u',h5,h6⟩
  ·exact .inl (h5.trans hu)
  ·right
   have hu:c[o]? =some u:=hu
   rw[h5]at hu;cases hu;exact h6
def Lk(E:Env)(w w':World):Prop:=w.heap.size≤w'.heap.size∧ ∀b,E.h.size≤b→b<w.heap.size→w'.heap[b]? =w.heap[b]?
theorem Lk.refl:Lk E w w:=⟨Nat.le_refl _,fun _ _ _=>rfl⟩
theorem Lk.trans{w1 w2 w3:World}(h:Lk E w1 w2)(k:Lk E w2 w3):Lk E w1 w3:=⟨Nat.le_trans h.1 k.1,fun b h1 h2=>(k.2 b h1 (Nat.lt_of_lt_of_le h2 h.1)).trans (h.2 b h1 h2)⟩
theorem Lk.get{b:Nat}{x:Obj}(h:Lk E w w')(hb:E.h.size≤b)(hx:w.heap[b]? =some x):w'.heap[b]? =some x:=by
 rw[h.2 b hb (Array.getElem?_eq_some_iff.1 hx).1];exact hx
theorem fA.alloc(h:fA E r w0 w)(o:Obj):fA E r w0 (w.alloc o):=
 ⟨h.same.trans ⟨rfl,rfl,rfl⟩,by have:=h.size;show _≤(w.heap.push o).size;rw[Array.size_push];omega,fun b hb=>by
  have eI:b<w.heap.size:=Nat.lt_of_lt_of_le hb h.size
  have:(w.alloc o).heap[b]? =w.heap[b]? :=by show(w.heap.push o)[b]? =_;rw[Array.getElem?_push_lt eI,Array.getElem?_eq_getElem eI]
  rw[this];exact h.cells b hb⟩
theorem Lk.alloc(o:Obj):Lk E w (w.alloc o):=
 ⟨by show _≤(w.heap.push o).size;rw[Array.size_push];omega,fun b _ hb=>by show(w.heap.push o)[b]? =_;rw[Array.getElem?_push_lt hb,Array.getElem?_eq_getElem hb]⟩
theorem GN(o:Obj):(w.alloc o).heap[w.heap.size]? =some o:=by show(w.heap.push o)[w.heap.size]? =_;simp
theorem fA.anJ(h:fA E r w0 w){b:Nat}{o:Obj}(hb:E.h.size≤b)(hh:w'.heap=w.heap.setIfInBounds b o)(hs:iz w w'):fA E r w0 w':=
 ⟨h.same.trans hs,by rw[hh];simpa using h.size,fun b' eI=>by rw[hh,Array.getElem?_setIfInBounds_ne (by omega)];exact h.cells b' eI⟩
def oN(E:Env)(r:Nat)(row:List (Value→Prop))(v:Value):Prop:=
 ∃A n c,v= .slice A n c∧n≤maxLen∧(n=0∨ ∃b o,A=some ⟨b,o,none⟩∧E.dx b=r∧ ∀i,i<n→ ∀(q:Nat) (S:Value→Prop),row[q]? =some S→E.aN b (o+(i*row.length+q))∧ ∃u,aR E.h b (o+(i*row.length+q))=some u∧S u)
theorem W3{row:List (Value→Prop)}{xs:List (List AV)}{v:Value}(h:Cz E (.sl r xs) v)(hl: ∀l∈xs,l.length=row.length)(hr: ∀l∈xs,∀(q:Nat) (a:AV) (S:Value→Prop),l[q]? =some a→row[q]? =some S→ ∀x,Cz E a x→S x):oN E r row v:=by
 cases h with
 |nA=>exact⟨_,_,_,rfl,Nat.zero_le _,.inl rfl⟩
 |sl _ _ z b o c u hp hc hm dV hz hrr hi hs hu hq=>
  refine⟨_,_,_,rfl,Nat.le_trans hc hm,.inr ⟨b,o,rfl,hrr,fun i hi q S hS=>?_⟩⟩
  have AR:xs[i]∈xs:=List.getElem_mem hi
  have Af:z=row.length:=(hz _ AR).symm.trans (hl _ AR)
  have hq1:q<row.length:=(List.getElem?_eq_some_iff.1 hS).1
  have hx:xs[i]? =some xs[i]:=List.getElem?_eq_getElem hi
  have dh:xs[i][q]? =some (xs[i][q]'(by rw[hl _ AR];exact hq1)):=List.getElem?_eq_getElem _
  have hf:xs.flatten[i*row.length+q]? =some (xs[i][q]'(by rw[hl _ AR];exact hq1)):=by
   have e1:i*row.length+q=i*z+q:=by rw[Af]
   rw[e1,dH hz hx q (by omega)];exact dh
  exact⟨hs _ _ hf,_,hu _ _ hf,hr _ AR q _ S dh hS _ (hq _ _ hf)⟩
theorem oN.nil{row:List (Value→Prop)}:oN E r row (.slice none 0 0):=⟨_,_,_,rfl,Nat.zero_le _,.inl rfl⟩
theorem oN.zk{row:List (Value→Prop)}{v:Value}(h:oN E r row v):zk v= .slice none 0 0:=by
 obtain⟨A,n,c,rfl,_,_⟩:=h;rfl
theorem fA.row(h:fA E r w0 w)(hw:Wf E){row:List (Value→Prop)}{A:Option Addr}{n c:Nat}(hv:oN E r row (.slice A n c))(hz: ∀S∈row,∀u,S u→S (zk u)){i:Nat}(hi:i<n):
  ∃b o,A=some ⟨b,o,none⟩∧ ∃ys:List Value,ys.length=row.length∧(∀(q:Nat) (y:Value),ys[q]? =some y→aR w.heap b (o+i*row.length+q)=some y)∧ ∀(q:Nat) (S:Value→Prop) (y:Value),row[q]? =some S→ys[q]? =some y→S y:=by
 obtain⟨A',n',c',he,_,h1⟩:=hv
 cases he
 rcases h1 with h1|⟨b,o,rfl,hr,h1⟩
 ·omega
 refine⟨b,o,rfl,?_⟩
 have key: ∀q,q<row.length→ ∃y,aR w.heap b (o+i*row.length+q)=some y∧ ∀S,row[q]? =some S→S y:=fun q hq=>by
  obtain⟨h2,u,h3,h4⟩:=h1 i hi q _ (List.getElem?_eq_getElem hq)
  rw[Nat.add_assoc]
  rcases h.get hw h2 h3 with h5|h5
  ·exact⟨_,h5,fun S hS=>by rw[List.getElem?_eq_getElem hq]at hS;cases hS;exact h4⟩
  ·exact⟨_,h5,fun S hS=>by rw[List.getElem?_eq_getElem hq]at hS;cases hS;exact hz _ (List.getElem_mem hq) _ h4⟩
 have build: ∀m,m≤row.length→ ∃ys:List Value,ys.length=m∧(∀(q:Nat) (y:Value),ys[q]? =some y→aR w.heap b (o+i*row.length+q)=some y)∧ ∀(q:Nat) (S:Value→Prop) (y:Value),row[q]? =some S→ys[q]? =some y→S y:=by
  intro m
  induction m with
  |zero=>intro _;exact⟨[],rfl,fun q y hh=>by simp at hh,fun q S y _ hh=>by simp at hh⟩
  |succ m ih=>
   intro hm
   obtain⟨ys,g1,g2,g3⟩:=ih (by omega)
   obtain⟨y,g4,g5⟩:=key m (by omega)
   refine⟨ys++[y],by simp[g1],fun q y' hq=>?_,fun q S y' hS hq=>?_⟩
   ·by_cases aU:q<m
    ·rw[List.getElem?_append_left (by omega)]at hq;exact g2 q y' hq
    ·have:q=m:=by have:=(List.getElem?_eq_some_iff.1 hq).1;simp at this;omega
     subst this
     rw[List.getElem?_append_right (by omega)]at hq;simp[g1]at hq;subst hq;exact g4
   ·by_cases aU:q<m
    ·rw[List.getElem?_append_left (by omega)]at hq;exact g3 q S y' hS hq
    ·have:q=m:=by have:=(List.getElem?_eq_some_iff.1 hq).1;simp at this;omega
     subst this
     rw[List.getElem?_append_right (by omega)]at hq;simp[g1]at hq;subst hq;exact g5 S hS
 exact build row.length (Nat.le_refl _)
theorem xn{zs:List Value}{n q:Nat}(hq:q<n*zs.length):(Builtin.zeroCells zs.toArray n).toList[q]? =zs[q % zs.length]? :=by
 have hz:0<zs.length:=by
  rcases Nat.eq_zero_or_pos zs.length with h|h
  ·rw[h]at hq;simp at hq
  ·exact h
 have hm:=Nat.mod_lt q hz
 simp[Builtin.zeroCells,hq,hm]
theorem nQ{zs:List Value}{n:Nat}:(Builtin.zeroCells zs.toArray n).toList.length=n*zs.length:=by simp[Builtin.zeroCells]
theorem fA.clear(hL:bn P L)(h:fA E r w0 w)(hw:Wf E)(hr:1000000≤r){row:List (Value→Prop)}{v:Value}(hv:oN E r row v){t e ty:Nat}{ti te:TI}(ht:L t=some ti)(hk:ti.k= .slice e)(he:L e=some te)
  (h0:0<row.length)(hl:te.zero.length=row.length)(hz: ∀(q:Nat) (S:Value→Prop) (z u:Value),row[q]? =some S→te.zero[q]? =some z→S u→zk u=z):
  ∃w',(Builtin.clear_ #[t] ty #[v]).run P w= .ok (.tuple #[]) w'∧fA E r w0 w'∧Lk E w w':=by
 obtain⟨i1,d1,z1,a1,a2,a3,a4,a5,a6,a7⟩:=(hL.ok t ti ht).ex
 obtain⟨i2,d2,z2,b1,b2,b3,b4,b5,b6,b7⟩:=(hL.ok e te he).ex
 rw[hk]at a7
 dsimp only at a7
 subst a7
 have hzv: ∀w,(zeroValue e).run P w= .ok z2 w:=fun w=>by simp[zeroValue,typeInfo,go_sem,b1,b4]
 obtain⟨A,n,c,rfl,_,h1⟩:=hv
 have aiD:(n=0∨A=none)→(Builtin.clear_ #[t] ty #[.slice A n c]).run P w= .ok (.tuple #[]) w:=by
  rintro(rfl|rfl)
  ·cases A<;>simp[Builtin.clear_,eK a6]
  ·simp[Builtin.clear_,eK a6]
 cases n with
 |zero=>exact⟨w,aiD (.inl rfl),h,.refl⟩
 |succ n=>
  rcases h1 with h1|⟨b,o,rfl,T7,h1⟩
  ·cases h1
  have Uf:0<(n+1)*row.length:=Nat.mul_pos (by omega) (by omega)
  have cell: ∀q,q<(n+1)*row.length→E.aN b (o+q)∧ ∃u z,aR E.h b (o+q)=some u∧te.zero[q % row.length]? =some z∧zk u=z:=fun q hq=>by
   have hm:=Nat.mod_lt q (show 0<row.length by omega)
   have hd:q / row.length<n+1:=(Nat.div_lt_iff_lt_mul (by omega)).2 hq
   obtain⟨g1,u,g2,g3⟩:=h1 (q / row.length) hd (q % row.length) _ (List.getElem?_eq_getElem hm)
   rw[Nat.div_add_mod' q row.length]at g1 g2
   have KG:te.zero[q % row.length]? =some (te.zero[q % row.length]'(by omega)):=List.getElem?_eq_getElem _
   exact⟨g1,u,_,g2,KG,hz _ _ _ u (List.getElem?_eq_getElem hm) KG g3⟩
  have GB:b<E.h.size:=hw.aN _ _ (cell 0 Uf).1
  obtain⟨c0,e0,hc0⟩:=hw.fz b _ (cell 0 Uf).1 (by omega)
  obtain⟨c1,hc1,du,I6⟩: ∃c1,w.heap[b]? =some (.cells c1 e0 (0,0))∧c1.size=c0.size∧ ∀o,c1[o]? =c0[o]? ∨(E.aN b o∧E.dx b=r)∧ ∃u,c0[o]? =some u∧c1[o]? =some (zk u):=by
   rcases h.cells b GB with h2|⟨c,c',e,h2,h3,h4,h5⟩
   ·exact⟨c0,h2.trans hc0,rfl,fun o=> .inl rfl⟩
   ·rw[hc0]at h2;cases h2;exact⟨c',h3,h4,h5⟩
  have Fy: ∀q,q<(n+1)*row.length→o+q<c0.size:=fun q hq=>by
   obtain⟨_,u,_,g2,_⟩:=cell q hq
   unfold aR at g2
   rw[hc0]at g2
   exact(Array.getElem?_eq_some_iff.1 g2).1
  have Uj:=Fy ((n+1)*row.length - 1) (by omega)
  have hvs:z2.cells=te.zero.toArray:=by rw[←b5]
  obtain⟨w',g1,g2,g3⟩:=fH P b o e0 (Builtin.zeroCells te.zero.toArray (n+1)).toList 0 w c1 hc1 (by rw[nQ,hl,du];omega) (fun v hv=>by
   obtain⟨q,hq⟩:=List.getElem?_of_mem hv
   have uV:=(List.getElem?_eq_some_iff.1 hq).1
   rw[nQ]at uV
   rw[xn uV]at hq
   exact(hL.ok e te he).alX v (List.mem_of_getElem? hq))
  obtain⟨f1,f2⟩:=pR o (Builtin.zeroCells te.zero.toArray (n+1)).toList 0 c1 (by rw[nQ,hl,du];omega)
  generalize hF:((Builtin.zeroCells te.zero.toArray (n+1)).toList.zipIdx.foldl (fun cs (x,j)=>cs.setIfInBounds (o+j) x) c1)=F at g2 f1 f2
  have Ly:b<w.heap.size:=Nat.lt_of_lt_of_le GB h.size
  have ajt:w'.heap.size=w.heap.size:=by rw[g2];simp
  refine⟨w',?_,⟨h.same.trans g3,by rw[ajt];exact h.size,fun b' eI=>?_⟩,by rw[ajt];exact Nat.le_refl _,fun b' eI _=>by rw[g2,Array.getElem?_setIfInBounds_ne (by omega)]⟩
  ·simp[Builtin.clear_,eK a6,hzv,hvs,g1]
  ·by_cases ui:b'=b
   ·subst ui
    right
    refine⟨c0,F,e0,hc0,by rw[g2];simp[Ly],by rw[f1,du],fun o'=>?_⟩
    rw[f2 o',nQ,hl]
    by_cases uX:o+0≤o'∧o'<o+0+(n+1)*row.length
    ·rw[if_pos uX]
     right
     obtain⟨q,rfl⟩: ∃q,o'=o+q:=⟨o' - o,by omega⟩
     have hq:q<(n+1)*row.length:=by omega
     obtain⟨k1,u,z,k2,k3,k4⟩:=cell q hq
     refine⟨⟨k1,T7⟩,u,?_,?_⟩
     ·unfold aR at k2;rw[hc0]at k2;exact k2
     ·rw[show o+q - (o+0)=q by omega,xn (by rw[hl];exact hq),hl,k3,k4]
    ·rw[if_neg uX];exact I6 o'
   ·rw[g2,Array.getElem?_setIfInBounds_ne (Ne.symm ui)];exact h.cells b' eI
end Ab
namespace Ab
open Go
def eqZ:Value→Value→Bool
 | .int .i64 0,.int .i64 0=>true
 | .int .u8 0,.int .u8 0=>true
 | .int .i32 0,.int .i32 0=>true
 | .int .u32 0,.int .u32 0=>true
 | .int .u64 0,.int .u64 0=>true
 | .bool false,.bool false=>true
 | .string ⟨⟨[]⟩⟩,.string ⟨⟨[]⟩⟩=>true
 | .slice none 0 0,.slice none 0 0=>true
 | .pointer none,.pointer none=>true
 | .map none,.map none=>true
 | .nilFunc,.nilFunc=>true
 | .nilIface,.nilIface=>true
 |_,_=>false
theorem afs{a b:Value}(h:eqZ a b=true):a=b:=by
 unfold eqZ at h
 split at h<;>first|rfl|cases h
def Yp:List Value→List Value→Bool
 |[],[]=>true
 |a::r,b::q=>eqZ a b&&Yp r q
 |_,_=>false
theorem O0: ∀{a b:List Value},Yp a b=true→a=b
 |[],[],_=>rfl
 |x::r,y::q,h=>by
  simp only[Yp,Bool.and_eq_true]at h
  rw[afs h.1,O0 h.2]
 |[],_::_,h=>by cases h
 |_::_,[],h=>by cases h
def OU(P:Program):List Field→List (Nat×Nat)→Bool
 |[],[]=>true
 |f::r,(o,z)::q=>cS f.offset o&&(match P.info? f.type with
  |some i=>cS i.size z
  |none=>false)&&OU P r q
 |_,_=>false
theorem KV{P:Program}: ∀{F:List Field} {fs:List (Nat×Nat)},OU P F fs=true→F.length=fs.length∧ ∀(j o z:Nat),fs[j]? =some (o,z)→ ∃f i',F[j]? =some f∧f.offset=o∧P.info? f.type=some i'∧i'.size=z
 |[],[],_=>⟨rfl,fun j o z h=>by simp at h⟩
 |f::r,(o,z)::q,h=>by
  simp only[OU,Bool.and_eq_true]at h
  obtain⟨⟨h1,h2⟩,h3⟩:=h
  obtain⟨h4,h5⟩:=KV h3
  refine⟨by simp[h4],fun j o' z' hj=>?_⟩
  cases j with
  |zero=>
   simp at hj
   cases hi:P.info? f.type with
   |none=>rw[hi]at h2;cases h2
   |some i=>rw[hi]at h2;exact⟨f,i,rfl,(dg h1).trans hj.1,hi,(dg h2).trans hj.2⟩
  |succ j=>exact h5 j o' z' (by simpa using hj)
 |[],_::_,h=>by cases h
 |_::_,[],h=>by cases h
def aal(P:Program):TK→TypeDesc→Bool
 | .slice e,.slice e'=>cS e' e
 | .cU fs,.struct F=>OU P F.toList fs
 | .arr n e,.array n' e'=>cS n' n&&cS e' e
 | .map k e,.map k' e'=>cS k' k&&cS e' e
 | .int k,.int k'=>k'==k
 | .bool,.bool=>true
 | .str,.string=>true
 | .sc,d=>match d with
  | .struct _=>false
  | .array _ _=>false
  |_=>true
 |_,_=>false
def Oh:List Value→Bool
 |[]=>true
 |a::r=>rR a&&Oh r
def ftB:List Field→List Nat→Bool
 |_,[]=>true
 |f::r,t::q=>cS f.type t&&ftB r q
 |[],_::_=>false
theorem Uv: ∀{F:List Field} {l:List Nat},ftB F l=true→ ∀(j t:Nat),l[j]? =some t→ ∃f,F[j]? =some f∧f.type=t
 |_,[],_,j,t,h=>by simp at h
 |f::r,t::q,h,j,t',hj=>by
  simp only[ftB,Bool.and_eq_true]at h
  cases j with
  |zero=>simp at hj;exact⟨f,rfl,(dg h.1).trans hj⟩
  |succ j=>exact Uv h.2 j t' (by simpa using hj)
 |[],_::_,h,_,_,_=>by cases h
def apT:TypeDesc→List Nat→Bool
 | .struct F,l=>ftB F.toList l
 |_,[]=>true
 |_,_=>false
def tiB(P:Program)(t:Nat)(ti:TI):Bool:=
 match P.info? t with
 |none=>false
 |some i=>match P.underlying t with
  |none=>false
  |some d=>match i.zero with
   |none=>false
   |some z=>cS i.size ti.size&&cS i.bytes ti.bytes&&Yp z.cells.toList ti.zero&&aal P ti.k d&&cS ti.zero.length ti.size&&Oh ti.zero&&(ti.agg||rR z)&&apT d ti.ft
theorem Kb: ∀{l:List Value},Oh l=true→ ∀x∈l,rR x=true
 |[],_,x,hx=>by cases hx
 |a::r,h,x,hx=>by
  simp only[Oh,Bool.and_eq_true]at h
  rcases List.mem_cons.1 hx with rfl|hx
  ·exact h.1
  ·exact Kb h.2 x hx
theorem acq{P:Program}{t:Nat}{ti:TI}(h:tiB P t ti=true):agH P t ti:=by
 unfold tiB at h
 cases hi:P.info? t with
 |none=>rw[hi]at h;cases h
 |some i=>
  rw[hi]at h
  dsimp only at h
  cases hd:P.underlying t with
  |none=>rw[hd]at h;cases h
  |some d=>
   rw[hd]at h
   dsimp only at h
   cases hz:i.zero with
   |none=>rw[hz]at h;cases h
   |some z=>
    rw[hz]at h
    simp only[Bool.and_eq_true]at h
    obtain⟨⟨⟨⟨⟨⟨⟨h1,h2⟩,h3⟩,h4⟩,h5⟩,h6⟩,h7'⟩,hft⟩:=h
    refine⟨⟨i,d,z,hi,dg h1,dg h2,hz,O0 h3,hd,?_⟩,dg h5,Kb h6,(fun sW i' z' e1 e2=>by
     rw[hi]at e1;cases e1;rw[hz]at e2;cases e2;rw[sW]at h7';simpa using h7'),fun F hF j t' hj=>by
     rw[hd]at hF;cases hF
     obtain⟨f,g1,g2⟩:=Uv hft j t' hj
     exact⟨f,by rw[←Array.getElem?_toList];exact g1,g2⟩⟩
    unfold aal at h4
    split at h4
    ·rename_i hk;rw[hk];rw[dg h4]
    ·rename_i fs F hk
     rw[hk]
     obtain⟨h7,h8⟩:=KV h4
     refine⟨F,rfl,by simpa using h7,fun j o z hj=>?_⟩
     obtain⟨f,i',g1,g2,g3,g4⟩:=h8 j o z hj
     exact⟨f,i',by rw[←Array.getElem?_toList];exact g1,g2,g3,g4⟩
    ·rename_i hk
     simp only[Bool.and_eq_true]at h4
     rw[hk,dg h4.1,dg h4.2]
    ·rename_i hk
     simp only[Bool.and_eq_true]at h4
     rw[hk,dg h4.1,dg h4.2]
    ·rename_i k k' hk
     rw[hk]
     have:k'=k:=by simpa using h4
     rw[this]
    ·rename_i hk;rw[hk]
    ·rename_i hk;rw[hk]
    ·rename_i hk
     rw[hk]
     split at h4
     ·cases h4
     ·cases h4
     ·rename_i _ hns hna
      dsimp only
      split
      ·exact hns _ rfl
      ·exact hna _ _ rfl
      ·trivial
    ·cases h4
inductive BT where
 |leaf
 |node (l:BT) (k:Nat) (v:TI) (r:BT)
def BT.get:BT→Nat→Option TI
 | .leaf,_=>none
 | .node l k v r,t=>bif cS t k then some v else bif r6 t k then l.get t else r.get t
def btB(P:Program):BT→Bool
 | .leaf=>true
 | .node l k v r=>tiB P k v&&btB P l&&btB P r
theorem BT.ok{P:Program}: ∀{T:BT},btB P T=true→ ∀t ti,T.get t=some ti→agH P t ti
 | .leaf,_,t,ti,h=>by cases h
 | .node l k v r,hb,t,ti,h=>by
  simp only[btB,Bool.and_eq_true]at hb
  simp only[BT.get]at h
  cases h1:cS t k with
  |true=>rw[h1,cond_true]at h;cases h;rw[dg h1];exact acq hb.1.1
  |false=>
   rw[h1,cond_false]at h
   cases h2:r6 t k with
   |true=>rw[h2,cond_true]at h;exact BT.ok hb.1.2 t ti h
   |false=>rw[h2,cond_false]at h;exact BT.ok hb.2 t ti h
def tab:BT:=
 (.node (.node (.node (.node (.node (.node (.node (.node .leaf 1 ⟨.sc,1,8,[.nilFunc],[]⟩ .leaf) 2 ⟨.int .i64,1,8,[.int .i64 0],[]⟩ .leaf) 3 ⟨.int .i64,1,8,[.int .i64 0],[]⟩ (.node (.node .leaf 4 ⟨.bool,1,1,[.bool false],[]⟩ .leaf) 5 ⟨.int .u8,1,1,[.int .u8 0],[]⟩ .leaf)) 6 ⟨.int .u8,1,1,[.int .u8 0],[]⟩ (.node (.node (.node .leaf 7 ⟨.cU [(0,1),(1,1),(2,1),(3,1)],4,24,[.int .i64 0,.int .i64 0,.bool false,.int .u8 0],[2,3,4,6]⟩ .leaf) 8 ⟨.cU [(0,1),(1,1),(2,1),(3,1)],4,24,[.int .i64 0,.int .i64 0,.bool false,.int .u8 0],[2,3,4,6]⟩ .leaf) 9 ⟨.str,1,16,[.string ⟨#[]⟩],[]⟩ (.node (.node .leaf 10 ⟨.str,1,16,[.string ⟨#[]⟩],[]⟩ .leaf) 11 ⟨.str,1,16,[.string ⟨#[]⟩],[]⟩ .leaf))) 12 ⟨.int .u64,1,8,[.int .u64 0],[]⟩ (.node (.node (.node (.node .leaf 13 ⟨.cU [(0,1),(1,1)],2,24,[.string ⟨#[]⟩,.int .u64 0],[9,12]⟩ .leaf) 14 ⟨.cU [(0,1),(1,1)],2,24,[.string ⟨#[]⟩,.int .u64 0],[9,12]⟩ .leaf) 15 ⟨.sc,1,8,[.pointer none],[]⟩ (.node (.node .leaf 16 ⟨.sc,1,8,[.pointer none],[]⟩ .leaf) 17 ⟨.sc,1,8,[.pointer none],[]⟩ .leaf)) 18 ⟨.cU [(0,1)],1,8,[.pointer none],[17]⟩ (.node (.node (.node .leaf 19 ⟨.cU [(0,1)],1,8,[.pointer none],[17]⟩ .leaf) 20 ⟨.sc,1,16,[.nilIface],[]⟩ .leaf) 21 ⟨.int .i32,1,4,[.int .i32 0],[]⟩ (.node .leaf 22 ⟨.slice 57,1,24,[dJ],[]⟩ .leaf)))) 23 ⟨.cU [(0,1)],1,24,[dJ],[22]⟩ (.node (.node (.node (.node (.node .leaf 24 ⟨.cU [(0,1)],1,24,[dJ],[22]⟩ .leaf) 25 ⟨.sc,1,8,[.nilFunc],[]⟩ .leaf) 26 ⟨.sc,1,8,[.nilFunc],[]⟩ (.node (.node .leaf 27 ⟨.sc,1,8,[.nilFunc],[]⟩ .leaf) 28 ⟨.sc,1,8,[.nilFunc],[]⟩ .leaf)) 29 ⟨.slice 28,1,24,[dJ],[]⟩ (.node (.node (.node .leaf 30 ⟨.slice 3,1,24,[dJ],[]⟩ .leaf) 31 ⟨.sc,1,8,[.nilFunc],[]⟩ .leaf) 32 ⟨.int .i64,1,8,[.int .i64 0],[]⟩ (.node (.node .leaf 33 ⟨.sc,1,8,[.nilFunc],[]⟩ .leaf) 34 ⟨.slice 4,1,24,[dJ],[]⟩ .leaf))) 35 ⟨.sc,1,8,[.nilFunc],[]⟩ (.node (.node (.node (.node .leaf 37 ⟨.sc,1,8,[.nilFunc],[]⟩ .leaf) 38 ⟨.sc,1,8,[.nilFunc],[]⟩ .leaf) 39 ⟨.sc,1,8,[.nilFunc],[]⟩ (.node (.node .leaf 41 ⟨.sc,1,8,[.nilFunc],[]⟩ .leaf) 43 ⟨.sc,1,8,[.nilFunc],[]⟩ .leaf)) 45 ⟨.sc,1,8,[.nilFunc],[]⟩ (.node (.node (.node .leaf 46 ⟨.sc,1,8,[.nilFunc],[]⟩ .leaf) 47 ⟨.sc,1,8,[.nilFunc],[]⟩ .leaf) 49 ⟨.sc,1,8,[.nilFunc],[]⟩ (.node .leaf 51 ⟨.sc,1,8,[.nilFunc],[]⟩ .leaf))))) 52 ⟨.sc,1,8,[.nilFunc],[]⟩ (.node (.node (.node (.node (.node (.node .leaf 53 ⟨.sc,1,8,[.nilFunc],[]⟩ .leaf) 54 ⟨.sc,1,8,[.nilFunc],[]⟩ .leaf) 55 ⟨.slice 61,1,24,[dJ],[]⟩ (.node (.node .leaf 56 ⟨.cU [(0,1),(1,1),(2,1)],3,48,[.string ⟨#[]⟩,.int .i64 0,dJ],[9,3,55]⟩ .leaf) 57 ⟨.cU [(0,1),(1,1),(2,1)],3,48,[.string ⟨#[]⟩,.int .i64 0,dJ],[9,3,55]⟩ .leaf)) 58 ⟨.sc,1,8,[.nilFunc],[]⟩ (.node (.node (.node .leaf 59 ⟨.slice 64,1,24,[dJ],[]⟩ .leaf) 60 ⟨.cU [(0,1),(1,1),(2,1),(3,1)],4,56,[.string ⟨#[]⟩,.int .i64 0,dJ,.int .i64 0],[9,3,59,3]⟩ .leaf) 61 ⟨.cU [(0,1),(1,1),(2,1),(3,1)],4,56,[.string ⟨#[]⟩,.int .i64 0,dJ,.int .i64 0],[9,3,59,3]⟩ (.node (.node .leaf 62 ⟨.sc,1,8,[.nilFunc],[]⟩ .leaf) 63 ⟨.cU [(0,1),(1,1),(2,1),(3,1)],4,56,[.int .i64 0,.string ⟨#[]⟩,.int .i64 0,dJ],[3,9,3,30]⟩ .leaf))) 64 ⟨.cU [(0,1),(1,1),(2,1),(3,1)],4,56,[.int .i64 0,.string ⟨#[]⟩,.int .i64 0,dJ],[3,9,3,30]⟩ (.node (.node (.node (.node .leaf 65 ⟨.sc,1,8,[.nilFunc],[]⟩ .leaf) 66 ⟨.sc,1,8,[.nilFunc],[]⟩ .leaf) 67 ⟨.sc,1,8,[.nilFunc],[]⟩ (.node (.node .leaf 68 ⟨.sc,1,8,[.nilFunc],[]⟩ .leaf) 69 ⟨.sc,1,8,[.nilFunc],[]⟩ .leaf)) 70 ⟨.sc,1,8,[.nilFunc],[]⟩ (.node (.node (.node .leaf 71 ⟨.sc,1,8,[.nilFunc],[]⟩ .leaf) 72 ⟨.sc,1,8,[.nilFunc],[]⟩ .leaf) 73 ⟨.sc,1,8,[.nilFunc],[]⟩ (.node .leaf 74 ⟨.sc,1,8,[.nilFunc],[]⟩ .leaf)))) 75 ⟨.arr 2 3,2,16,[.int .i64 0,.int .i64 0],[]⟩ (.node (.node (.node (.node (.node .leaf 76 ⟨.sc,1,8,[.pointer none],[]⟩ .leaf) 77 ⟨.sc,1,8,[.nilFunc],[]⟩ .leaf) 78 ⟨.sc,1,8,[.nilFunc],[]⟩ (.node (.node .leaf 79 ⟨.cU [(0,4),(4,1),(5,1)],6,88,[.string ⟨#[]⟩,.int .i64 0,dJ,.int .i64 0,dJ,.nilFunc],[61,30,78]⟩ .leaf) 80 ⟨.cU [(0,4),(4,1),(5,1)],6,88,[.string ⟨#[]⟩,.int .i64 0,dJ,.int .i64 0,dJ,.nilFunc],[61,30,78]⟩ .leaf)) 81 ⟨.sc,1,8,[.nilFunc],[]⟩ (.node (.node (.node .leaf 82 ⟨.sc,1,8,[.nilFunc],[]⟩ .leaf) 83 ⟨.sc,1,8,[.nilFunc],[]⟩ .leaf) 84 ⟨.sc,1,8,[.nilFunc],[]⟩ (.node .leaf 85 ⟨.map 87 30,1,8,[.map none],[]⟩ .leaf))) 86 ⟨.cU [(0,1),(1,1),(2,1)],3,32,[.int .i64 0,.string ⟨#[]⟩,.int .i64 0],[3,9,3]⟩ (.node (.node (.node (.node .leaf 87 ⟨.cU [(0,1),(1,1),(2,1)],3,32,[.int .i64 0,.string ⟨#[]⟩,.int .i64 0],[3,9,3]⟩ .leaf) 88 ⟨.sc,1,8,[.nilFunc],[]⟩ .leaf) 89 ⟨.sc,1,8,[.nilFunc],[]⟩ (.node (.node .leaf 90 ⟨.sc,1,8,[.nilFunc],[]⟩ .leaf) 91 ⟨.sc,1,8,[.nilFunc],[]⟩ .leaf)) 92 ⟨.sc,1,8,[.nilFunc],[]⟩ (.node (.node (.node .leaf 93 ⟨.sc,1,8,[.nilFunc],[]⟩ .leaf) 94 ⟨.sc,1,8,[.nilFunc],[]⟩ .leaf) 95 ⟨.sc,1,8,[.nilFunc],[]⟩ (.node .leaf 96 ⟨.sc,1,8,[.nilFunc],[]⟩ .leaf)))))) 97 ⟨.sc,1,8,[.nilFunc],[]⟩ (.node (.node (.node (.node (.node (.node (.node .leaf 98 ⟨.slice 31,1,24,[dJ],[]⟩ .leaf) 99 ⟨.cU [(0,1)],1,8,[.nilFunc],[28]⟩ .leaf) 100 ⟨.cU [(0,1)],1,8,[.nilFunc],[28]⟩ (.node (.node .leaf 101 ⟨.slice 100,1,24,[dJ],[]⟩ .leaf) 103 ⟨.sc,1,8,[.nilFunc],[]⟩ .leaf)) 104 ⟨.sc,1,8,[.nilFunc],[]⟩ (.node (.node (.node .leaf 105 ⟨.sc,1,8,[.nilFunc],[]⟩ .leaf) 106 ⟨.slice 34,1,24,[dJ],[]⟩ .leaf) 107 ⟨.sc,1,8,[.nilFunc],[]⟩ (.node (.node .leaf 108 ⟨.sc,1,8,[.nilFunc],[]⟩ .leaf) 109 ⟨.arr 12 3,12,96,[.int .i64 0,.int .i64 0,.int .i64 0,.int .i64 0,.int .i64 0,.int .i64 0,.int .i64 0,.int .i64 0,.int .i64 0,.int .i64 0,.int .i64 0,.int .i64 0],[]⟩ .leaf))) 110 ⟨.arr 12 3,12,96,[.int .i64 0,.int .i64 0,.int .i64 0,.int .i64 0,.int .i64 0,.int .i64 0,.int .i64 0,.int .i64 0,.int .i64 0,.int .i64 0,.int .i64 0,.int .i64 0],[]⟩ (.node (.node (.node (.node .leaf 111 ⟨.sc,1,8,[.nilFunc],[]⟩ .leaf) 112 ⟨.sc,1,8,[.nilFunc],[]⟩ .leaf) 113 ⟨.sc,1,8,[.nilFunc],[]⟩ (.node (.node .leaf 114 ⟨.sc,1,8,[.nilFunc],[]⟩ .leaf) 115 ⟨.sc,1,8,[.nilFunc],[]⟩ .leaf)) 116 ⟨.sc,1,8,[.nilFunc],[]⟩ (.node (.node (.node .leaf 117 ⟨.sc,1,8,[.nilFunc],[]⟩ .leaf) 118 ⟨.sc,1,8,[.nilFunc],[]⟩ .leaf) 119 ⟨.sc,1,8,[.nilFunc],[]⟩ (.node .leaf 120 ⟨.sc,1,8,[.nilFunc],[]⟩ .leaf)))) 121 ⟨.sc,1,8,[.nilFunc],[]⟩ (.node (.node (.node (.node (.node .leaf 122 ⟨.arr 6 3,6,48,[.int .i64 0,.int .i64 0,.int .i64 0,.int .i64 0,.int .i64 0,.int .i64 0],[]⟩ .leaf) 123 ⟨.sc,1,8,[.nilFunc],[]⟩ .leaf) 124 ⟨.sc,1,8,[.nilFunc],[]⟩ (.node (.node .leaf 125 ⟨.sc,1,8,[.nilFunc],[]⟩ .leaf) 126 ⟨.sc,1,8,[.nilFunc],[]⟩ .leaf)) 127 ⟨.sc,1,8,[.nilFunc],[]⟩ (.node (.node (.node .leaf 128 ⟨.sc,1,8,[.nilFunc],[]⟩ .leaf) 129 ⟨.sc,1,8,[.pointer none],[]⟩ .leaf) 131 ⟨.sc,1,8,[.nilFunc],[]⟩ (.node .leaf 132 ⟨.sc,1,8,[.nilFunc],[]⟩ .leaf))) 133 ⟨.sc,1,8,[.nilFunc],[]⟩ (.node (.node (.node (.node .leaf 134 ⟨.sc,1,8,[.nilFunc],[]⟩ .leaf) 135 ⟨.sc,1,8,[.nilFunc],[]⟩ .leaf) 136 ⟨.sc,1,8,[.nilFunc],[]⟩ (.node (.node .leaf 137 ⟨.sc,1,8,[.nilFunc],[]⟩ .leaf) 139 ⟨.sc,1,8,[.nilFunc],[]⟩ .leaf)) 140 ⟨.arr 5 3,5,40,[.int .i64 0,.int .i64 0,.int .i64 0,.int .i64 0,.int .i64 0],[]⟩ (.node (.node (.node .leaf 141 ⟨.sc,1,8,[.nilFunc],[]⟩ .leaf) 143 ⟨.sc,1,8,[.nilFunc],[]⟩ .leaf) 144 ⟨.sc,1,8,[.nilFunc],[]⟩ (.node .leaf 145 ⟨.sc,1,8,[.nilFunc],[]⟩ .leaf))))) 146 ⟨.sc,1,8,[.nilFunc],[]⟩ (.node (.node (.node (.node (.node (.node .leaf 147 ⟨.sc,1,8,[.nilFunc],[]⟩ .leaf) 148 ⟨.sc,1,8,[.nilFunc],[]⟩ .leaf) 149 ⟨.sc,1,8,[.nilFunc],[]⟩ (.node (.node .leaf 150 ⟨.sc,1,8,[.nilFunc],[]⟩ .leaf) 151 ⟨.map 3 3,1,8,[.map none],[]⟩ .leaf)) 152 ⟨.sc,1,8,[.nilFunc],[]⟩ (.node (.node (.node .leaf 153 ⟨.sc,1,8,[.nilFunc],[]⟩ .leaf) 154 ⟨.sc,1,8,[.nilFunc],[]⟩ .leaf) 155 ⟨.sc,1,8,[.nilFunc],[]⟩ (.node (.node .leaf 156 ⟨.sc,1,8,[.nilFunc],[]⟩ .leaf) 157 ⟨.sc,1,8,[.nilFunc],[]⟩ .leaf))) 158 ⟨.arr 256 4,256,256,(List.replicate 256 [.bool false]).flatten,[]⟩ (.node (.node (.node (.node .leaf 159 ⟨.arr 256 4,256,256,(List.replicate 256 [.bool false]).flatten,[]⟩ .leaf) 161 ⟨.sc,1,8,[.nilFunc],[]⟩ .leaf) 162 ⟨.sc,1,8,[.nilFunc],[]⟩ (.node (.node .leaf 163 ⟨.sc,1,8,[.pointer none],[]⟩ .leaf) 164 ⟨.sc,1,8,[.nilFunc],[]⟩ .leaf)) 166 ⟨.sc,1,8,[.nilFunc],[]⟩ (.node (.node (.node .leaf 167 ⟨.sc,1,8,[.nilFunc],[]⟩ .leaf) 168 ⟨.sc,1,8,[.nilFunc],[]⟩ .leaf) 169 ⟨.arr 256 5,256,256,(List.replicate 256 [.int .u8 0]).flatten,[]⟩ (.node .leaf 170 ⟨.int .u64,1,8,[.int .u64 0],[]⟩ .leaf)))) 171 ⟨.cU [(0,1),(1,1)],2,2,[.int .u8 0,.int .u8 0],[5,5]⟩ (.node (.node (.node (.node (.node .leaf 172 ⟨.cU [(0,1),(1,1)],2,2,[.int .u8 0,.int .u8 0],[5,5]⟩ .leaf) 173 ⟨.arr 16 172,32,32,[.int .u8 0,.int .u8 0,.int .u8 0,.int .u8 0,.int .u8 0,.int .u8 0,.int .u8 0,.int .u8 0,.int .u8 0,.int .u8 0,.int .u8 0,.int .u8 0,.int .u8 0,.int .u8 0,.int .u8 0,.int .u8 0,.int .u8 0,.int .u8 0,.int .u8 0,.int .u8 0,.int .u8 0,.int .u8 0,.int .u8 0,.int .u8 0,.int .u8 0,.int .u8 0,.int .u8 0,.int .u8 0,.int .u8 0,.int .u8 0,.int .u8 0,.int .u8 0],[]⟩ .leaf) 174 ⟨.sc,1,8,[.nilFunc],[]⟩ (.node (.node .leaf 175 ⟨.sc,1,8,[.nilFunc],[]⟩ .leaf) 176 ⟨.sc,1,8,[.nilFunc],[]⟩ .leaf)) 177 ⟨.sc,1,8,[.nilFunc],[]⟩ (.node (.node (.node .leaf 178 ⟨.sc,1,8,[.nilFunc],[]⟩ .leaf) 179 ⟨.cU [(0,1),(1,1),(2,1),(3,1)],4,40,[.pointer none,.pointer none,.pointer none,.string ⟨#[]⟩],[17,17,17,9]⟩ .leaf) 180 ⟨.cU [(0,1),(1,1),(2,1),(3,1)],4,40,[.pointer none,.pointer none,.pointer none,.string ⟨#[]⟩],[17,17,17,9]⟩ (.node .leaf 181 ⟨.arr 0 16,0,0,[],[]⟩ .leaf))) 182 ⟨.cU [(0,0)],0,0,[],[181]⟩ (.node (.node (.node (.node .leaf 183 ⟨.cU [(0,0)],0,0,[],[181]⟩ .leaf) 184 ⟨.sc,1,8,[.nilFunc],[]⟩ .leaf) 186 ⟨.int .u8,1,1,[.int .u8 0],[]⟩ (.node (.node .leaf 187 ⟨.int .u8,1,1,[.int .u8 0],[]⟩ .leaf) 188 ⟨.sc,1,8,[.nilFunc],[]⟩ .leaf)) 189 ⟨.sc,1,8,[.pointer none],[]⟩ (.node (.node (.node .leaf 190 ⟨.int .i32,1,4,[.int .i32 0],[]⟩ .leaf) 191 ⟨.int .i32,1,4,[.int .i32 0],[]⟩ .leaf) 192 ⟨.cU [(0,1),(1,1),(2,1),(3,1),(4,1),(5,1),(6,1),(7,1),(8,1),(9,1),(10,1)],11,48,[.int .u64 0,.int .u64 0,.int .u32 0,.int .u8 0,.int .u8 0,.int .u8 0,.int .u8 0,.nilFunc,.pointer none,.int .i32 0,.int .i32 0],[12,12,185,186,5,5,187,188,189,190,191]⟩ (.node .leaf 193 ⟨.cU [(0,1),(1,1),(2,1),(3,1),(4,1),(5,1),(6,1),(7,1),(8,1),(9,1),(10,1)],11,48,[.int .u64 0,.int .u64 0,.int .u32 0,.int .u8 0,.int .u8 0,.int .u8 0,.int .u8 0,.nilFunc,.pointer none,.int .i32 0,.int .i32 0],[12,12,185,186,5,5,187,188,189,190,191]⟩ .leaf)))))))
def L:nO:=fun t=>tab.get t
theorem lay:bn Go.Proofs.Tryz.prog L:=⟨BT.ok (by kernel_rfl)⟩
noncomputable abbrev PP:Program:=Go.Proofs.Tryz.prog
theorem mixed:PP.follows .mixedOrders=true:=by kernel_rfl
def vi(n:Int):AV:= .v (.int .i64 n)
def vb(b:Bool):AV:= .v (.bool b)
def vs(b:ByteArray):AV:= .v (.string b)
section
variable{I:Pr}(hI:I=al)
 include hI
theorem ilt_t{a b:Int}(h:I.aV a b=true):a<b:=by subst hI;simpa[al]using h
theorem ilt_f{a b:Int}(h:I.aV a b=false):b≤a:=by subst hI;simpa[al]using h
theorem ile_t{a b:Int}(h:I.pK a b=true):a≤b:=by subst hI;simpa[al]using h
theorem ile_f{a b:Int}(h:I.pK a b=false):b<a:=by subst hI;simpa[al]using h
theorem ieq_t{a b:Int}(h:I.aJ a b=true):a=b:=by subst hI;simpa[al]using h
theorem ieq_f{a b:Int}(h:I.aJ a b=false):a≠b:=by subst hI;simpa[al]using h
theorem seq_t{a b:ByteArray}(h:I.seq a b=true):a=b:=by subst hI;simpa[al]using h
theorem seq_f{a b:ByteArray}(h:I.seq a b=false):a≠b:=by subst hI;simpa[al]using h
theorem not_t{a:Bool}(h:I.not a=true):a=false:=by subst hI;simpa[al]using h
theorem not_f{a:Bool}(h:I.not a=false):a=true:=by subst hI;simpa[al]using h
theorem i_lt(a b:Int):I.aV a b=decide (a<b):=by subst hI;rfl
theorem i_le(a b:Int):I.pK a b=decide (a≤b):=by subst hI;rfl
theorem i_eq(a b:Int):I.aJ a b=decide (a=b):=by subst hI;rfl
theorem i_seq(a b:ByteArray):I.seq a b=decide (a=b):=by subst hI;rfl
theorem i_not(a:Bool):I.not a= !a:=by subst hI;rfl
theorem i_pick(c a b:Bool):I.pick c a b=(bif c then a else b):=by subst hI;rfl
theorem i_wrap(k:IntKind)(n:Int):I.wrap k n=k.wrap n:=by subst hI;rfl
theorem i_add(a b:Int):I.add a b=a+b:=by subst hI;rfl
theorem i_sub(a b:Int):I.sub a b=a - b:=by subst hI;rfl
theorem i_mul(a b:Int):I.mul a b=a*b:=by subst hI;rfl
theorem i_len(l:List (List AV)):I.eR l=l.length:=by subst hI;rfl
theorem i_bsz(l:ByteArray):I.Lb l=l.size:=by subst hI;rfl
theorem i_app(l m:List (List AV)):I.app l m=l++m:=by subst hI;rfl
end
theorem ga{n:Int}(h: -9223372036854775808≤n∧n≤9223372036854775807):IntKind.wrap .i64 n=n:=by
 have hb:IntKind.bits .i64=64:=rfl
 have hs:IntKind.signed .i64=true:=rfl
 unfold IntKind.wrap
 rw[hb,hs]
 simp only[Bool.true_and,ge_iff_le,decide_eq_true_eq]
 have e1:(2:Int) ^ 64=18446744073709551616:=by decide
 have e2:(2:Int) ^ (64 - 1)=9223372036854775808:=by decide
 rw[e1,e2]
 split<;>omega
structure Md where
 map:{α:Type}→(α→List AV)→List α→List (List AV)
 ln:{α:Type}→List α→Nat
def Md.al:Md:=⟨fun f l=>l.map f,List.length⟩
section
variable{M:Md}(hM:M= .al)
 include hM
theorem m_map{α:Type}(f:α→List AV)(l:List α):M.map f l=l.map f:=by subst hM;rfl
theorem m_len{α:Type}(f:α→List AV)(l:List α):(M.map f l).length=l.length:=by subst hM;simp[Md.al]
end
instance:Inhabited ByteArray:=⟨⟨#[]⟩⟩
def an(n:Int):List AV:=[vi n]
def cA(n:Bool):List AV:=[vb n]
def eStr(n:ByteArray):List AV:=[vs n]
def fD(k:Nat):Bool:= !Nd k [25,39,42,50,51,53,54,56,57,58,60,70,71,73,77,87,88,91,107,110,111,115,116,122,128,129,143,150,154,163,164,167]
theorem maxLen_val:maxLen=9223372036854775807:=rfl
theorem enters{k:Nat}{fn:Func}{c:Code}(hf:PP.funcs[k]? =some fn)(hb:fn.body=some c)(hn:(fn.name== "runtime.NumGoroutine")=false):nP PP k:=
 fun args w=>HD hf hb (by simpa using hn) args w
end Ab
