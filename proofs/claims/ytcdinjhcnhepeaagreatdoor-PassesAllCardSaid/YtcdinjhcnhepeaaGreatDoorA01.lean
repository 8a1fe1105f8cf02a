/- PassesAll holds of all pairs of cores (no condition): a part of the proof: an abstract interpreter of the code that is proved sound, models of the functions, and laws of these models. -/
import Derived.Test.YtcdinjhcnhepeaaGreatDoorA00
import Derived.MapKept
import Derived.Laws.StructEq
import Derived.Lib.SliceRun
import Derived.Laws.Cover3
import Derived.TacticsIn
import Derived.OrdersIn
import Derived.Orders
import Derived.Stop.Looks
import Derived.Deep.LoopGhost
import Derived.Test.YtcdinjhcnhepeaaGreatDoorProg
set_option linter.unusedVariables false
set_option linter.unusedSimpArgs false
set_option linter.unusedSectionVars false
namespace Ab
open Go
variable{P:Program}{L:pN}{E0 E E':Env}{w0 w w':World}{s:St}{a:Act}{p:Path}{C:ey}
def Env.kill(E:Env)(d:Nat):Env:={E with live:=fun k=>k≠ .s d∧E.live k}
theorem Cz.fK{d:Nat}{av:AV}{x:Value}(h:Cz E av x):cH av=true→Cz (E.kill d) av x:=by
 induction h with
 |any x=>exact fun _=> .any _
 |v x=>exact fun _=> .v _
 |pd r A c=>exact fun _=> .pd _ _ _
 |sl r xs z b o c u hp hc hm ew hz hr hi gZ hu hq ih=>exact fun _=> .sl r xs z b o c u hp hc hm ew hz hr hi gZ hu (fun q a dx=>ih q a dx (hi q a dx))
 |vk r t=>exact fun _=> .vk _ _
 |gs r t xs=>intro hi;simp[cH]at hi
 |aX r cs off b o u hr hi gZ hu hq ih=>exact fun _=> .aX r cs off b o u hr hi gZ hu (fun q a dx=>ih q a dx (hi q a dx))
 |ptr k off hl=>intro hi;exact Cz.ptr (E:=E.kill d) k off ⟨fun e=>by subst e;simp[cH,Key.loc]at hi,hl⟩
 |jB k n hl hn hc hm=>intro hi;exact Cz.jB (E:=E.kill d) k n ⟨fun e=>by subst e;simp[cH,Key.loc]at hi,hl⟩ hn hc hm
 |dc k i off z hl=>intro hi;exact Cz.dc (E:=E.kill d) k i off z ⟨fun e=>by subst e;simp[cH,Key.loc]at hi,hl⟩
 |mp k hl=>intro hi;exact Cz.mp (E:=E.kill d) k ⟨fun e=>by subst e;simp[cH,Key.loc]at hi,hl⟩
 |rQ k hl=>intro hi;exact Cz.rQ (E:=E.kill d) k ⟨fun e=>by subst e;simp[cH,Key.loc]at hi,hl⟩
 |ar n z xs ys hn hz hl hi hq ih=>exact fun _=> .ar n z xs ys hn hz hl hi fun q a y ha hy=>ih q a y ha hy (hi q a ha)
 |bm f cs ys hl hi hq ih=>exact fun _=> .bm f cs ys hl hi fun q a y ha hy=>ih q a y ha hy (hi q a ha)
 |nG r z xs x hz h ih=>exact fun _=> .nG r z xs x hz (ih rfl)
 |fn f cap ys hl hq ih=>intro hi;exact .fn f cap ys hl fun q a y ha hy=>ih q a y ha hy (bD (by simpa[cH]using hi) q a ha)
 |agg cs ys hl hq ih=>intro hi;exact .agg cs ys hl fun q a y ha hy=>ih q a y ha hy (bD (by simpa[cH]using hi) q a ha)
 |gY cs ys hl hq ih=>intro hi;exact .gY cs ys hl fun q a y ha hy=>ih q a y ha hy (bD (by simpa[cH]using hi) q a ha)
theorem sm{e d:Nat}(h:dy e d=false):Key.s e≠ .s d:=fun hh=>by injection hh with hh;subst hh;rw[gA]at h;cases h
theorem Cz.kill{d:Nat}{av:AV}{x:Value}(h:Cz E av x):Cz (E.kill d) (sb d lP lP av) x:=by
 induction h with
 |any x=>exact .any _
 |v x=>exact .v _
 |pd r A c=>exact .pd _ _ _
 |sl r xs z b o c u hp hc hm ew hz hr hi gZ hu hq ih=>exact Cz.fK (.sl r xs z b o c u hp hc hm ew hz hr hi gZ hu hq) rfl
 |vk r t=>exact .vk _ _
 |gs r t xs z b c e cells u hc hm h0 ew hz hr hb ef ho gZ hi hu hq ih=>
  exact Cz.gs (E:=E.kill d) r t xs z b c e cells u hc hm h0 ew hz hr hb ef ho gZ hi hu (fun q a ha=>(hq q a ha).fK (hi q a ha))
 |aX r cs off b o u hr hi gZ hu hq ih=>exact Cz.fK (.aX r cs off b o u hr hi gZ hu hq) rfl
 |ptr k off hl=>
  cases k with
  |o i=>exact Cz.fK (.ptr _ _ hl) rfl
  |s e=>simp only[sb];cases hb:dy e d with
   |true=>exact .any _
   |false=>exact Cz.ptr (E:=E.kill d) (.s e) off ⟨sm hb,hl⟩
 |jB k m hl hn hc hm=>
  cases k with
  |o i=>exact Cz.fK (.jB _ _ hl hn hc hm) rfl
  |s e=>simp only[sb];cases hb:dy e d with
   |true=>exact .any _
   |false=>exact Cz.jB (E:=E.kill d) (.s e) m ⟨sm hb,hl⟩ hn hc hm
 |dc k i off z hl=>
  cases k with
  |o i=>exact Cz.fK (.dc _ _ _ _ hl) rfl
  |s e=>simp only[sb];cases hb:dy e d with
   |true=>exact .any _
   |false=>exact Cz.dc (E:=E.kill d) (.s e) i off z ⟨sm hb,hl⟩
 |mp k hl=>
  cases k with
  |o i=>exact Cz.fK (.mp _ hl) rfl
  |s e=>simp only[sb];cases hb:dy e d with
   |true=>exact .any _
   |false=>exact Cz.mp (E:=E.kill d) (.s e) ⟨sm hb,hl⟩
 |rQ k hl=>
  cases k with
  |o i=>exact Cz.fK (.rQ _ hl) rfl
  |s e=>simp only[sb];cases hb:dy e d with
   |true=>exact .any _
   |false=>exact Cz.rQ (E:=E.kill d) (.s e) ⟨sm hb,hl⟩
 |ar n z xs ys hn hz hl hi hq ih=>exact Cz.fK (.ar n z xs ys hn hz hl hi hq) rfl
 |bm f cs ys hl hi hq ih=>exact Cz.fK (.bm f cs ys hl hi hq) rfl
 |nG r z xs x hz h ih=>exact Cz.fK (.nG r z xs x hz h) rfl
 |fn f cap ys hl hq ih=>
  simp only[sb];exact .fn f _ ys (by rw[gP];exact hl) fun q a y ha hy=>by
   rw[pR]at ha;cases hc:cap[q]? with
   |none=>rw[hc]at ha;simp at ha
   |some a'=>rw[hc]at ha;simp at ha;subst ha;exact ih q a' y hc hy
 |agg cs ys hl hq ih=>
  simp only[sb];exact .agg _ ys (by rw[gP];exact hl) fun q a y ha hy=>by
   rw[pR]at ha;cases hc:cs[q]? with
   |none=>rw[hc]at ha;simp at ha
   |some a'=>rw[hc]at ha;simp at ha;subst ha;exact ih q a' y hc hy
 |gY cs ys hl hq ih=>
  simp only[sb];exact .gY _ ys (by rw[gP];exact hl) fun q a y ha hy=>by
   rw[pR]at ha;cases hc:cs[q]? with
   |none=>rw[hc]at ha;simp at ha
   |some a'=>rw[hc]at ha;simp at ha;subst ha;exact ih q a' y hc hy
theorem FD{d:Nat}{t:List (Nat×AV)}{T:Array Value}(h: ∀e x,look e t=some x→Cz E x (T.getD e undef)): ∀e x,look e (OM d lP lP t)=some x→Cz (E.kill d) x (T.getD e undef):=by
 intro e x hd;rw[uP]at hd;cases hh:look e t with
 |none=>rw[hh]at hd;simp at hd
 |some y=>rw[hh]at hd;simp at hd;subst hd;exact(h e y hh).kill
theorem mE.kill{d:Nat}: ∀{ab:List Act} {fs:List Fr},mE E ab fs→mE (E.kill d) ab (sbU d lP lP fs)
 |[],[],_=>trivial
 |a::ab,f::fs,h=>⟨⟨h.1.1,FD h.1.2⟩,mE.kill h.2⟩
 |[],_::_,h=>h.elim
 |_::_,[],h=>h.elim
theorem cB.kill{d:Nat}{k:Key}{ob:Ob}(hk:k≠ .s d)(h:cB E k ob):cB (E.kill d) k (U8 d lP lP ob):=by
 cases ob with
 |box cs=>
  obtain⟨g1,c,e,g2,g3,g4,g5,g6⟩:=h;refine⟨⟨hk,g1⟩,c,e,g2,g3,g4,by rw[gP];exact g5,fun q a x ha hx=>?_⟩;rw[pR]at ha;cases hc:cs[q]? with
  |none=>rw[hc]at ha;simp at ha
  |some a'=>rw[hc]at ha;simp at ha;subst ha;exact(g6 q a' x hc hx).kill
 |arr z xs=>
  obtain⟨g1,gl,gz,gz',gm,c,e,g2,g3,g4,g5,g6,g7⟩:=h;exact⟨⟨hk,g1⟩,gl,gz,gz',gm,c,e,g2,g3,g4,g5,g6,fun q a x ha hx=>(g7 q a x ha hx).fK (g6 q a ha)⟩
 |ow p l xs=>exact A5 (fun g=>⟨hk,g⟩) rfl rfl (fun ho=>⟨ho,rfl,fun o hh=>hh⟩) (fun a x hi hc=>hc.fK hi) (fun b hb _=>⟨hb,rfl,fun _=>Iff.rfl,rfl⟩) h
 |lp n t ps pH body st=>
  obtain⟨g1,g3,g4,rec,g2,g5,g6,g7,g8,g9,g10,gq⟩:=h;exact⟨⟨hk,g1⟩,g3,g4,rec,g2,g5,g6,g7,g8,g9,g10,FD gq⟩
theorem bJ.kill(h:bJ E0 E w0 w s a)(d:Nat):bJ E0 (E.kill d) w0 w (s.sb d lP lP) a:=by
 have hF: ∀(o:Nat) (g:Bool),lP o≠ .v (.bool g):=fun o g hh=>by cases hh
 refine⟨h.heap,⟨h.wf.aR,h.wf.own,h.wf.fz⟩,h.Lv,h.up.kill,h.sz,?_,?_,?_,?_,?_,?_,⟨h.ext.size,h.ext.aR,fun k hk=>?_,h.ext.bH⟩,h.zu,h.same,h.gk,h.nl,h.ng,h.lo⟩
 ·intro e x he hp;have ri:look e (OM d lP lP s.t)=some x:=he
  rw[uP]at ri;cases hh:look e s.t with
  |none=>rw[hh]at ri;simp at ri
  |some y=>rw[hh]at ri;simp at ri;subst ri;exact(h.tm e y hh ((uJ d lP lP hF hF).1 hp)).kill
 ·intro e q he hp;exact h.cu e q he (fun hh=>hp ((uJ d lP lP hF hF).2 hh))
 ·intro e ob he;have ri:look e (JW d lP lP (del d s.b))=some ob:=he
  rw[oB,jy]at ri;by_cases hde:d=e
  ·rw[if_pos hde]at ri;simp at ri
  ·rw[if_neg hde]at ri;cases hh:look e s.b with
   |none=>rw[hh]at ri;simp at ri
   |some y=>rw[hh]at ri;simp at ri;subst ri;exact(h.bx e y hh).kill (fun hh=>hde (by injection hh with hh;exact hh.symm))
 ·intro e he;obtain⟨ob,ho⟩:=h.lv e he.2;refine⟨U8 d lP lP ob,?_⟩;show look e (JW d lP lP (del d s.b))=_;rw[oB,jy,if_neg (fun hh=>he.1 (by rw[hh])),ho];rfl
 ·intro i ob hi;have h1:=(h.gx i ob hi).kill (d:=d) (fun hh=>by cases hh)
  have P6:=h.gk i ob hi
  cases ob with
  |arr z xs=>exact h1
  |lp=>exact P6.elim
  |ow=>exact P6.elim
  |box cs=>
   obtain⟨g1,c,e,g2,g3,g4,g5,g6⟩:=h1;refine⟨g1,c,e,g2,g3,g4,by rw[g5,gP],fun q a x ha hx=>?_⟩;have:=g6 q (Ab.sb d lP lP a) x (by rw[pR,ha];rfl) hx
   rwa [PY (P6 q a ha)]at this
 ·intro i;exact⟨fun hh=>(h.gl i).1 hh.2,fun hh=>⟨(fun e=>by cases e),(h.gl i).2 hh⟩⟩
 ·obtain⟨k1,k2,k3⟩:=h.ext.live k hk;exact⟨⟨fun e=>by subst e;exact h.nl d hk,k1⟩,k2,k3⟩
def Env.cM(E:Env)(d b:Nat)(n:Nat×Nat)(h':Array Obj):Env:=
 {E with h:=h',m:=fun q=>if q= .s d then b else E.m q,len:=fun q=>if q= .s d then n else E.len q,live:=fun q=>q= .s d∨E.live q,own:=fun b'=>if b'=b then .key (.s d)else E.own b'}
structure AA(E:Env)(d b:Nat)(h':Array Obj):Prop where
 nl: ¬E.live (.s d)
 at':b=E.h.size∨(b<E.h.size∧E.own b= .key (.s d)∧ ∀o,¬E.aR b o)
 rest: ∀b',b'<E.h.size→b'≠b→h'[b']? =E.h[b']?
 size:E.h.size≤h'.size
 lt:b<h'.size
theorem AA.ext{d b:Nat}{n:Nat×Nat}{h':Array Obj}(k:AA E d b h')(hw:Wf E):Ext (fun o=>o= .key (.s d)) E (E.cM d b n h'):=by
 have hb: ∀b' o,E.aR b' o→b'≠b:=fun b' o hs e=>by
  subst e;rcases k.at' with e|⟨_,_,h3⟩
  ·have:=hw.aR b' o hs;omega
  ·exact h3 o hs
 refine⟨k.size,fun b' o hs=>⟨hs,?_,rfl⟩,fun q hq=>⟨.inr hq,?_,?_⟩,fun b' fP hn=>?_⟩
 ·simp only[Env.cM,aW];rw[k.rest b' (hw.aR b' o hs) (hb b' o hs)]
 ·simp only[Env.cM];rw[if_neg (fun e=>by subst e;exact k.nl hq)]
 ·simp only[Env.cM];rw[if_neg (fun e=>by subst e;exact k.nl hq)]
 ·have dj:b'≠b:=fun e=>by
   subst e;rcases k.at' with e|⟨_,h2,_⟩
   ·omega
   ·exact hn h2
  exact⟨by simp only[Env.cM];rw[if_neg dj],k.rest b' fP dj,fun _=>Iff.rfl,rfl⟩
theorem AA.wf{d b:Nat}{n:Nat×Nat}{h':Array Obj}(k:AA E d b h')(hw:Wf E):Wf (E.cM d b n h'):=
 ⟨fun b' o hs=>Nat.lt_of_lt_of_le (hw.aR b' o hs) k.size,fun b' fP=>by
  simp only[Env.cM]at fP;by_cases hh:b'=b
  ·subst hh;exact k.lt
  ·rw[if_neg hh]at fP;exact Nat.lt_of_lt_of_le (hw.own b' fP) k.size,fun b' o hs hr=>by
  have dj:b'≠b:=fun e=>by
   subst e;rcases k.at' with e|⟨_,_,h3⟩
   ·have:=hw.aR b' o hs;omega
   ·exact h3 o hs
  obtain⟨c,e,hc⟩:=hw.fz b' o hs hr;exact⟨c,e,by simp only[Env.cM];rw[k.rest b' (hw.aR b' o hs) dj];exact hc⟩⟩
theorem AA.cz{d b:Nat}{n:Nat×Nat}{h':Array Obj}(k:AA E d b h')(hw:Wf E){av:AV}{x:Value}(h:Cz E av x):Cz (E.cM d b n h') av x:=by
 have:=(h.ext (k.ext (n:=n) hw) hw (fun _=>false) (gw _)).1
 rwa [lF (fun _=>rfl)]at this
theorem AA.nest{d b:Nat}{n:Nat×Nat}{h':Array Obj}(k:AA E d b h')(hw:Wf E){e:Nat}: ∀b',E.own b'= .tok (.n e)→b'<E.h.size→(E.cM d b n h').own b'= .tok (.n e)∧(E.cM d b n h').h[b']? =E.h[b']? ∧(∀o,(E.cM d b n h').aR b' o↔E.aR b' o)∧(E.cM d b n h').eo b'=E.eo b':=fun b' ho fP=>by
 obtain⟨q1,q2,q3,q4⟩:=(k.ext (n:=n) hw).bH b' fP (by rw[ho];simp);exact⟨q1.trans ho,q2,q3,q4⟩
theorem bJ.cM(h:bJ E0 E w0 w s a){d b:Nat}{n:Nat×Nat}(hd:look d s.b=none)(k:AA E d b w'.heap)(Gu:jQ w w'){ob:Ob}(wj:cB (E.cM d b n w'.heap) (.s d) ob):bJ E0 (E.cM d b n w'.heap) w0 w' {s with b:=dt d ob s.b} a:=by
 have hx:=h.zU (T:=fun _=>false) (k.ext (n:=n) h.wf) (gw _) (MR _) (k.wf h.wf) (w':=w') rfl Gu
  (fun b' hb hc=>by have:=h.zu b' hb;rw[hc]at this;simp[Own.loc,Key.loc]at this) (dt d ob s.b) s.g s.nx
  (fun d' Gb h'=>by
   rw[aJ]at h';by_cases uy:d=d'
   ·rw[if_pos uy]at h';cases h';subst uy;exact .inr wj
   ·rw[if_neg uy]at h';exact .inl ⟨Gb,h',(p6 (fun _=>rfl) Gb).symm,(fun hf=>uy (by injection hf with hf;injection hf with hf;exact hf.symm)),fun hf=>by cases hf⟩)
  (fun d' hl=>by
   rw[aJ];by_cases uy:d=d'
   ·exact⟨ob,by rw[if_pos uy]⟩
   ·rw[if_neg uy];rcases hl with hl|hl
    ·exact absurd (by injection hl with hl;exact hl.symm) uy
    ·exact h.lv d' hl)
  (fun i Gb h'=> .inl ⟨h',fun hf=>by cases hf⟩)
  (fun i=>⟨fun hh=>by rcases hh with hh|hh;cases hh;exact(h.gl i).1 hh,fun hh=> .inr ((h.gl i).2 hh)⟩) h.gk (fun b'=>by
   have:=h.ng b'
   simp only[Env.cM]
   split
   ·simp[dW,Own.dW,Key.loc]
   ·exact this)
 have:iv (fun _=>false) s.t=s.t:=mG (fun _=>rfl) _
 rw[this,rp (fun _=>rfl)]at hx;exact hx
structure Grown(P:Program)(w:World)(t ty z:Nat)(x y:Value)(zu:Array Value)(b n:Nat)(ns:List Value):Prop where
 ex: ∃(w':World) (b' c' e':Nat) (cells:Array Value),(Builtin.append_ #[t,t] ty #[x,y]).run P w= .ok (.slice (some ⟨b',0,none⟩) (n+1) c') w'∧jQ w w'∧n+1≤c'∧c'≤maxLen∧cells.size=c'*z∧
  (∀q,q<n*z→cells[q]? =zu[q]?)∧(∀q,q<z→cells[n*z+q]? =ns[q]?)∧w'.heap[b']? =some (.cells cells e' (0,0))∧b'<w'.heap.size∧w.heap.size≤w'.heap.size∧(∀b1,b1<w.heap.size→b1≠b'→w'.heap[b1]? =w.heap[b1]?)∧(b'=w.heap.size∨b'=b)
theorem TE{t ty e:Nat}{i:TypeInfo}{zv:Value}(hu:P.underlying t=some (.slice e))(hi:P.info? e=some i)(hz:i.zero=some zv)(B6:zv.cells.size=i.size)(b2 o2 c2 b:Nat){ns:List Value}(n1:ns.length=i.size)
  (n2: ∀(j:Nat) (u:Value),ns[j]? =some u→w.cell? ((⟨b2,o2,none⟩:Addr).add j)=some u)(hb:i.bytes≤70368744177664)(Ai: ∀u∈ns,u.oneCell'=true):
  Grown P w t ty i.size (.slice none 0 0) (.slice (some ⟨b2,o2,none⟩) 1 c2) #[] b 0 ns:=by
 have eY:=run_append_nil (P:=P) w t ty e i zv hu hi hz ⟨b2,o2,none⟩ 1 c2 ns (by omega) n2 (by omega) (by omega) (by omega)
 refine⟨_,w.heap.size,_,e,ns.toArray++Builtin.zeroCells zv.cells (grownCap w 1 0 e - 1),eY,⟨rfl,rfl,rfl⟩,grownCap_ge w 1 0 e,grownCap_le_maxLen w 1 0 e (by unfold maxLen;omega),?_,fun q hq=>by omega,fun q hq=>?_,?_,?_,?_,fun b1 AF dj=>?_,.inl rfl⟩
 ·simp only[Array.size_append,rP,B6];simp only[List.size_toArray,n1];have:=grownCap_ge w 1 0 e
  generalize grownCap w 1 0 e=cap at this ⊢;rw[Nat.sub_mul];have:i.size≤cap*i.size:=Nat.le_mul_of_pos_left _ (by omega)
  omega
 ·rw[Nat.zero_mul,Nat.zero_add,Array.getElem?_append_left (by simpa[n1]using hq)];simp
 ·show(w.heap.push _)[w.heap.size]? =_;simp
 ·show _<(w.heap.push _).size;simp
 ·show _≤(w.heap.push _).size;simp
 ·show(w.heap.push _)[b1]? =_;rw[Array.getElem?_push,if_neg (by omega)]
theorem Qc{t ty e:Nat}{i:TypeInfo}{zv:Value}(hu:P.underlying t=some (.slice e))(hi:P.info? e=some i)(hz:i.zero=some zv)(B6:zv.cells.size=i.size)(h1:1≤i.size){b n c e0:Nat}{cells:Array Value}(hbk:w.heap[b]? =some (.cells cells e0 (0,0)))
  (ef:cells.size=c*i.size)(hn:n≤c)(hc:c≤maxLen)(b2 o2 c2:Nat){ns:List Value}(n1:ns.length=i.size)
  (n2: ∀(j:Nat) (u:Value),ns[j]? =some u→w.cell? ((⟨b2,o2,none⟩:Addr).add j)=some u)(hb:(n+1)*i.bytes≤70368744177664)(hnm:n+1≤70368744177664)(Ai: ∀u∈ns,u.oneCell'=true):
  Grown P w t ty i.size (.slice (some ⟨b,0,none⟩) n c) (.slice (some ⟨b2,o2,none⟩) 1 c2) cells b n ns:=by
 have bc:b<w.heap.size:=(Array.getElem?_eq_some_iff.1 hbk).1
 have hnz:n*i.size≤c*i.size:=Nat.mul_le_mul_right _ hn
 by_cases uY:n+1≤c
 ·have hmul:(n+1)*i.size≤c*i.size:=Nat.mul_le_mul_right _ uY
  rw[Nat.add_mul]at hmul;obtain⟨w',g1,g2,g3⟩:=iw P b (n*i.size) e0 ns 0 w cells hbk (by omega) (fun v hv=>by rw[vH];exact Ai v hv);obtain⟨f1,f2⟩:=rN (n*i.size) ns 0 cells (by omega);generalize (ns.zipIdx.foldl (fun cs (x,j)=>cs.setIfInBounds (n*i.size+j) x) cells)=F at g2 f1 f2;have eY:(Builtin.append_ #[t,t] ty #[.slice (some ⟨b,0,none⟩) n c,.slice (some ⟨b2,o2,none⟩) 1 c2]).run P w= .ok (.slice (some ⟨b,0,none⟩) (n+1) c) w':=by
   have h2: ∀w,(underlying t).run P w= .ok (.slice e) w:=fa hu
   have h3: ∀w,(Go.sizeOf e).run P w= .ok i.size w:=fun w=>kh hi w
   have hf:=run_firstCells_some (P:=P) w i.size 1 ⟨b2,o2,none⟩ 1 c2 ns (by omega) n2
   simp[Builtin.append_,Sem.run_bind,h2,h3,Result.andThen,Builtin.lenOf,uY,hf,eG,g1]
  refine⟨w',b,c,e0,F,eY,g3,uY,hc,by rw[f1];exact ef,fun q hq=>?_,fun q hq=>?_,by rw[g2];simp[bc],by rw[g2];simpa using bc,by rw[g2];simp,fun b1 AF dj=>by rw[g2,Array.getElem?_setIfInBounds_ne (Ne.symm dj)],.inr rfl⟩
  ·rw[f2,if_neg (by omega)]
  ·rw[f2,if_pos ⟨by omega,by omega⟩];congr 1;omega
 ·have hold: ∀(j:Nat) (v:Value),(cells.toList.take (n*i.size))[j]? =some v→w.cell? ((⟨b,0,none⟩:Addr).add j)=some v:=fun j v hj=>by
   have hjl:=(bq.1 hj).1
   rw[List.getElem?_take,if_pos (by simp at hjl;omega)]at hj;rw[eG,kP,aW,hbk];simpa using hj
  have eY:=run_append_grow (P:=P) w t ty e i zv hu hi hz ⟨b,0,none⟩ n c (cells.toList.take (n*i.size)) (by simp;omega) hold ⟨b2,o2,none⟩ 1 c2 ns (by omega) n2 (by omega) (by omega) (growslice_fits (by omega) (by omega))
  refine⟨_,w.heap.size,_,e,(cells.toList.take (n*i.size)).toArray++ns.toArray++Builtin.zeroCells zv.cells (grownCap w (n+1) c e - (n+1)),eY,⟨rfl,rfl,rfl⟩,grownCap_ge w _ c e,grownCap_le_maxLen w _ c e (by unfold maxLen;omega),?_,fun q hq=>?_,fun q hq=>?_,?_,?_,?_,fun b1 AF dj=>?_,.inl rfl⟩
  ·simp only[Array.size_append,rP,B6];simp only[List.size_toArray,n1,List.length_take,Array.length_toList,ef];have hg:=grownCap_ge w (n+1) c e
   generalize grownCap w (n+1) c e=cap at hg ⊢;rw[Nat.sub_mul,Nat.add_mul];have:(n+1)*i.size≤cap*i.size:=Nat.mul_le_mul_right _ hg
   rw[Nat.add_mul]at this;omega
  ·rw[Array.getElem?_append_left (by simp;omega),Array.getElem?_append_left (by simp;omega)];simp only[List.getElem?_toArray,List.getElem?_take,Array.getElem?_toList];rw[if_pos hq]
  ·rw[Array.getElem?_append_left (by simp;omega),Array.getElem?_append_right (by simp;omega)];simp only[List.size_toArray,List.length_take,Array.length_toList,List.getElem?_toArray];congr 1;omega
  ·show(w.heap.push _)[w.heap.size]? =_;simp
  ·show _<(w.heap.push _).size;simp
  ·show _≤(w.heap.push _).size;simp
  ·show(w.heap.push _)[b1]? =_;rw[Array.getElem?_push,if_neg (by omega)]
theorem NQ: ∀{cs:List AV},TX cs=true→ ∀(q:Nat) (a:AV),cs[q]? =some a→ ∃x,a= .v x
 |[],_,q,a,h=>by simp at h
 |b::r,h,q,a,hq=>by
  simp only[TX,Bool.and_eq_true]at h;cases q with
  |zero=>simp at hq;subst hq;cases b<;>first|exact⟨_,rfl⟩|(simp[isV]at h)
  |succ q=>exact NQ h.2 q a (by simpa using hq)
theorem Bc(r:Nat): ∀(cs:List AV) (q:Nat),(cv r cs)[q]? =(cs[q]?).map (eJ r)
 |[],q=>by simp[cv]
 |a::cs,q=>by cases q<;>simp[cv,Bc r cs]
theorem wR(r:Nat): ∀(cs:List AV),(cv r cs).length=cs.length
 |[]=>rfl
 |a::cs=>by simp[cv,wR r cs]
theorem uN{r:Nat}{x:Value}:eJ r (.v x)= .v x∨(eJ r (.v x)= .sl r []∧x= .slice none 0 0):=by
 unfold eJ
 split
 ·rename_i h;cases h;exact .inr ⟨rfl,rfl⟩
 ·exact .inl rfl
theorem WK{d b z:Nat}{n:Nat×Nat}{h':Array Obj}(k:AA E d b h')(hw:Wf E){xs:List (List AV)}{u0:Nat→Value}{r:Nat}{cs:List AV}{ns:List Value}{cells:Array Value}{e0:Nat}(ew:0<z)(hz: ∀l∈xs,l.length=z)
  (nw: ∀(q:Nat) (a:AV),xs.flatten[q]? =some a→cH a=true)(hu0: ∀(q:Nat) (a:AV),xs.flatten[q]? =some a→Cz E a (u0 q))(hn0:H0 E (.n d) z none xs u0)(lg:TX cs=true)(jY:cs.length=z)(hns:ns.length=z)
  (Lt: ∀(q:Nat) (a:AV) (y:Value),cs[q]? =some a→ns[q]? =some y→Cz E a y)(hlen:n.1=xs.length+1)(P9:n.1≤n.2)(at7:n.2≤maxLen)(hb:h'[b]? =some (.cells cells e0 (0,0)))(ef:cells.size=n.2*z)
  (hold: ∀(q:Nat) (a:AV),xs.flatten[q]? =some a→cells[q]? =some (u0 q))(xU: ∀q,q<z→cells[xs.length*z+q]? =ns[q]?):cB (E.cM d b n h') (.s d) (.ow (.sl z) none (xs++[cv r cs])):=by
 have hD:=aH hz
 have XA:(E.cM d b n h').m (.s d)=b:=by simp[Env.cM]
 have rj: ∀(q:Nat) (a:AV),(xs++[cv r cs]).flatten[q]? =some a→(q<xs.length*z∧xs.flatten[q]? =some a)∨(∃j x,q=xs.length*z+j∧j<z∧cs[j]? =some (.v x)∧ns[j]? =some x∧a=eJ r (.v x)):=by
  intro q a ha;rw[List.flatten_append]at ha;by_cases bc:q<xs.flatten.length
  ·rw[gg bc]at ha;exact .inl ⟨by omega,ha⟩
  ·rw[iY (by omega)]at ha;simp only[List.flatten_cons,List.flatten_nil,List.append_nil,Bc]at ha;cases hc:cs[q - xs.flatten.length]? with
   |none=>rw[hc]at ha;cases ha
   |some b0=>
    rw[hc]at ha;cases ha;obtain⟨x,rfl⟩:=NQ lg _ _ hc;have hj:q - xs.flatten.length<z:=by rw[←jY];exact(bq.1 hc).1
    have hy:ns[q - xs.flatten.length]? =some ns[q - xs.flatten.length]:=by simp[hns,hj]
    have h1:=Lt _ _ _ hc hy
    refine .inr ⟨q - xs.flatten.length,x,by omega,hj,hc,?_,rfl⟩;rw[hy];cases h1;rfl
 let u:Nat→Value:=fun q=>if q<xs.length*z then u0 q else ns[q - xs.length*z]?.getD undef;have D6: ∀q,q<xs.length*z→u q=u0 q:=fun q hq=>by simp only[u];rw[if_pos hq]
 have UN: ∀j x,ns[j]? =some x→u (xs.length*z+j)=x:=fun j x hx=>by simp only[u];rw[if_neg (by omega),Nat.add_sub_cancel_left,hx];rfl
 refine⟨.inl rfl,by rw[XA];simp[Env.cM],fun o hs=>?_,fun q a ha=>?_,u,⟨ew,fun l hl=>?_,?_,?_,?_,cells,e0,?_,?_,fun q a ha=>?_⟩,fun q a ha=>?_,?_,?_⟩
 ·rw[XA]at hs;rcases k.at' with e|⟨_,_,h3⟩
  ·have:=hw.aR b o hs;omega
  ·exact h3 o hs
 ·rcases rj q a ha with⟨_,h1⟩|⟨j,x,_,_,_,_,rfl⟩
  ·exact nw q a h1
  ·rcases uN (r:=r) (x:=x)with h|⟨h,_⟩<;>rw[h]<;>rfl
 ·rcases List.mem_append.1 hl with h|h
  ·exact hz l h
  ·simp at h;subst h;rw[wR];exact jY
 ·simp[Env.cM,hlen]
 ·simpa[Env.cM]using P9
 ·simpa[Env.cM]using at7
 ·rw[XA];exact hb
 ·simpa[Env.cM]using ef
 ·rcases rj q a ha with⟨h0,h1⟩|⟨j,x,rfl,hj,_,h3,rfl⟩
  ·rw[D6 q h0];exact hold q a h1
  ·rw[UN j x h3,xU j hj,h3]
 ·rcases rj q a ha with⟨h0,h1⟩|⟨j,x,rfl,hj,_,h3,rfl⟩
  ·rw[D6 q h0];exact k.cz hw (hu0 q a h1)
  ·rw[UN j x h3];rcases uN (r:=r) (x:=x)with h|⟨h,e⟩
   ·rw[h];exact .v _
   ·rw[h,e];exact .pd _ _ _
 ·intro q r' ys hq hl;rcases rj q _ hq with⟨h0,h1⟩|⟨j,x,rfl,hj,_,h3,h4⟩
  ·rw[D6 q h0];exact(hn0.1 q r' ys h1 (fun hh=>hh)).mono (k.nest hw)
  ·rcases uN (r:=r) (x:=x)with h|⟨h,e⟩
   ·rw[h]at h4;cases h4
   ·rw[h]at h4;cases h4;exact .inl ⟨rfl,(UN j x h3).trans e⟩
 ·intro q q' r1 r2 ys Fa b1 hq xd _ _ dj AF;rcases rj q _ hq with⟨h0,h1⟩|⟨j,x,rfl,hj,_,h3,h4⟩
  ·rcases rj q' _ xd with⟨h0',Um⟩|⟨j,x,rfl,hj,_,h3,h4⟩
   ·rw[D6 q h0]at AF;rw[D6 q' h0'];exact hn0.2 q q' r1 r2 ys Fa b1 h1 Um (fun hh=>hh) (fun hh=>hh) dj AF
   ·rw[UN j x h3];rcases uN (r:=r) (x:=x)with h|⟨h,e⟩
    ·rw[h]at h4;cases h4
    ·rw[e];intro hh;cases hh
  ·rw[UN j x h3]at AF;rcases uN (r:=r) (x:=x)with h|⟨h,e⟩
   ·rw[h]at h4;cases h4
   ·rw[e]at AF;cases AF
theorem LI(hL:bG P C.L)(hI:C.I=ak)(h:bJ E0 E w0 w s a){o:Oper}{t t' d:Nat}{x y:Operand}{c:Call}(he:o.op= .call c)(hc:c.callee= .builtin .append)(cI:c.args= #[x,y])(Uh:c.argTypes= #[t,t'])(htt:t'=t){K:bB}{Q:Exit→Act→World→Prop}
  (hk:UA C t d (cd s [] x) (cd s [] y) s K):mS P o a w (hZ E0 w0 o a K) Q:=by
 subst htt;unfold UA at hk;generalize C.base+d=d at hk;have hx:=h.ev (p:=[]) trivial x
 have hy:=h.ev (p:=[]) trivial y
 have fin: ∀x' w',(Builtin.append_ #[t',t'] o.type #[a.eval x,a.eval y]).run P w= .ok x' w'→Out E0 w0 a K x' w'→mS P o a w (hZ E0 w0 o a K) Q:=fun x' w' g1 g2=>by
  refine dq (x:=x') (w':=w') ?_ g2;simp only[execOp,he,resolve,hc,invoke,builtin,cI,Uh];simp[Sem.run_bind,invoke,builtin,g1,Result.andThen]
 split at hk
 ·rename_i e ti r cs ux Ry;obtain⟨hu,Nq,i,i1,i2,i3,zv,i4,i5⟩:=iZ hL ux;have B6:zv.cells.size=i.size:=by rw[i2,←(hL.ok e ti Nq).N9,←i5];simp
  have hy':=p9 Ry hy
  cases lg:(TX cs&&(dy cs.length ti.size&&(oZ 1 ti.size&&rC cs)))with
  |false=>rw[lg]at hk;exact hk.elim
  |true=>
   rw[lg,az]at hk;simp only[Bool.and_eq_true]at lg;obtain⟨ha1,ha2,ha3,ha4⟩:=lg;have ha2:cs.length=ti.size:=dK ha2
   have ha3:1≤ti.size:=by simpa using ha3
   obtain⟨b2,o2,c2,Ug,ns,n1,n2,n3,n4⟩:=hy'.cells h.heap (by simp) (z:=i.size) (fun l hl=>by simp at hl;subst hl;rw[ha2,i2]);have n1:ns.length=i.size:=by rw[n1];simp
   have n4': ∀(q:Nat) (a:AV) (y:Value),cs[q]? =some a→ns[q]? =some y→Cz E a y:=fun q b y h1 h2=>n4 q b y (by simpa using h1) h2
   have Ai:=Cw (E:=E) (by rw[n1,i2,ha2]) n4' ha4
   have Ug:a.eval y= .slice (some ⟨b2,o2,none⟩) 1 c2:=Ug
   split at hk
   ·rename_i er
    split at hk
    ·rename_i gC;obtain⟨k1,zs,n',⟨rfl,Ls⟩,hk⟩:=hk;have hn1:n'=1:=by rw[←Ls,hI];rfl
     subst hn1;rw[hI]at k1;obtain⟨k1,_⟩:(0+1)*ti.bytes≤70368744177664∧0+1≤70368744177664:=k1;rw[er]at hx;have ex:=bX hx
     obtain⟨w',b',c',e',cells,g1,g2,g3,g4,g5,g6,g7,g8,g9,g10,g11,g12⟩:=(TE (P:=P) (w:=w) (t:=t') (ty:=o.type) hu i1 i4 B6 b2 o2 c2 w.heap.size n1 n2 (by rw[i3];omega) Ai).ex;have fP:b'=w.heap.size:=g12.elim id id
     have Bt: ¬E.live (.s d):=fun hl=>by obtain⟨ob,ho⟩:=h.lv d hl;rw[gC]at ho;cases ho
     have hA:AA E d b' w'.heap:=⟨Bt,.inl (by rw[fP,h.heap]),fun b1 AF dj=>by rw[←h.heap];rw[←h.heap]at AF;exact g11 b1 AF dj,by rw[←h.heap];exact g10,g9⟩
     have wj:=WK (n:=(1,c')) hA h.wf (xs:=[]) (u0:=fun _=>undef) (r:=r) (z:=ti.size) (by omega) (by simp) (by simp) (by simp) ⟨fun q r ys hq=>by simp at hq,fun q q' r r' ys Fa b hq=>by simp at hq⟩ ha1 ha2 (by rw[n1,i2]) n4' (by simp) (by omega) g4 g8 (by rw[g5,i2]) (by simp) (fun q hq=>by
      have:=g7 q (by rw[i2];exact hq)
      simpa using this)
     refine fin _ w' (by rw[ex,Ug];exact g1) ⟨_,_,_,hk,h.cM gC hA g2 wj,?_⟩;have:=Cz.jB (E:=E.cM d b' (1,c') w'.heap) (.s d) 1 (.inl rfl) (by simp[Env.cM]) (by simp[Env.cM];omega) (by simp[Env.cM];exact g4)
     simpa[Env.cM]using this
    ·exact hk.elim
   ·rename_i k n er;cases hkd:dy k d with
    |false=>rw[hkd]at hk;exact hk.elim
    |true=>
     rw[hkd,az]at hk;have:=dK hkd
     subst this
     split at hk
     ·rename_i z xs gC;obtain⟨e0,zs,n',⟨k1,k2,k3,k4⟩,hk⟩:=hk;subst e0;rw[hI]at k1 k2 k3 k4;have k2:xs.length=n:=k2
      have k3:xs++[cv r cs]=zs:=k3
      have k4:zs.length=n':=k4
      obtain⟨k1,k5⟩:(n+1)*ti.bytes≤70368744177664∧n+1≤70368744177664:=k1;subst k2;subst k3;obtain⟨hl,ho,hs,nw,u0,⟨ew,hz,jg,hle,hm,cl,e1,hb,ef,hu0⟩,hq,wS⟩:=h.bx k _ gC;rw[er]at hx;cases eK:a.eval x<;>rw[eK]at hx<;>cases hx;have hD:=aH hz
      have bc:E.m (.s k)<E.h.size:=(Array.getElem?_eq_some_iff.1 hb).1
      obtain⟨w',b',c',e',cells,g1,g2,g3,g4,g5,g6,g7,g8,g9,g10,g11,g12⟩:=(Qc (P:=P) (w:=w) (t:=t') (ty:=o.type) hu i1 i4 B6 (by omega) (b:=E.m (.s k)) (n:=xs.length) (c:=(E.len (.s k)).2) (by rw[h.heap];exact hb) (by rw[ef,i2]) (by omega) hm b2 o2 c2 n1 n2 (by rw[i3];exact k1) k5 Ai).ex;have h2:=h.kill k
      have hA:AA (E.kill k) k b' w'.heap:=⟨fun hh=>hh.1 rfl,g12.imp (fun e=>by rw[e,h.heap];rfl) (fun e=>by subst e;exact⟨bc,ho,hs⟩),fun b1 AF dj=>by
        have:=g11 b1 (by rw[h.heap];exact AF) dj
        rw[this,h.heap];rfl,by have:=g10;rw[h.heap]at this;exact this,g9⟩
      have wj:=WK (n:=(xs.length+1,c')) hA h2.wf (xs:=xs) (u0:=u0) (r:=r) (z:=ti.size) ew hz nw (fun q b sO=>(hq q b sO).fK (nw q b sO)) (wS.mono fun b hb _=>⟨hb,rfl,fun _=>Iff.rfl,rfl⟩) ha1 ha2 (by rw[n1,i2]) (fun q b y h1 h2=>(n4' q b y h1 h2).fK (n3 q b (by simpa using h1))) rfl g3 g4 g8 (by rw[g5,i2]) (fun q b sO=>by
       have xd:=(bq.1 sO).1
       rw[g6 q (by rw[i2];omega)];exact hu0 q b sO) (fun q hq=>by
       have:=g7 q (by rw[i2];exact hq)
       rw[i2]at this;exact this)
      refine fin _ w' (by rw[eK,Ug];exact g1) ⟨_,_,_,hk,h2.cM (by show look k (JW k lP lP (del k s.b))=none;rw[oB,jy,if_pos rfl];rfl) hA g2 wj,?_⟩;have Ls:n'=xs.length+1:=by rw[←k4];simp
      have:=Cz.jB (E:=(E.kill k).cM k b' (xs.length+1,c') w'.heap) (.s k) n' (.inl rfl) (by simp[Env.cM,Ls]) (by simp[Env.cM];omega) (by simp[Env.cM];exact g4)
      rw[Ls]at this ⊢;simpa[Env.cM]using this
     ·exact hk.elim
   ·exact hk.elim
 ·exact hk.elim
theorem Ns{t:Tok}{r:Nat}{ys:List (List AV)}{v:Value}(h:Cz E (.sl r ys) v)(hr:tR E t r ys v):Cz E (.gs r t ys) v:=by
 rcases hr with⟨rfl,rfl⟩|⟨z,b,c,e,cells,rfl,h2,h3,h4,h5,h6,h7,h8,h9,B8,KV⟩
 ·exact .vk _ _
 ·by_cases hy:ys.length=0
  ·have:ys=[]:=List.eq_nil_of_length_eq_zero hy
   subst this;exact .gs r t [] z b c e cells (fun _=>undef) (by simp) h3 h4 h5 h6 h7 h8 h9 B8 KV (by simp) (by simp) (by simp)
  ·generalize hv:Value.slice (some ⟨b,0,none⟩) ys.length c=v at h;cases h with
   |pd=>simp at hy
   |sl _ _ z' b' o' c' u hp hc hm ew hz hrg hi hs hu hq=>
    injection hv with e1 e2 e3;injection e1 with e1;injection e1 with e1 e4;subst e1;subst e4;subst e3;have Tt:z'=z:=by
     cases ys with
     |nil=>simp at hy
     |cons l rr=>rw[←hz l (by simp),h6 l (by simp)]
    subst Tt;exact .gs r t ys z' b c e cells u h2 h3 h4 h5 h6 h7 h8 h9 B8 KV hi hu hq
theorem tw{t:Tok}{r:Nat}{ys:List (List AV)}{v:Value}(h:Cz E (.gs r t ys) v):tR E t r ys v:=by
 cases h with
 |vk=>exact .inl ⟨rfl,rfl⟩
 |gs _ _ _ z b c e cells u hc hm h0 ew hz hr hb ef ho gZ hi hu hq=>exact .inr ⟨z,b,c,e,cells,rfl,hc,hm,h0,ew,hz,hr,hb,ef,ho,gZ⟩
theorem uB{t:Tok}{r:Nat}{ys:List (List AV)}{v:Value}{b:Nat}(h:tR E t r ys v)(hb:Hb v=some b):E.own b= .tok t∧b<E.h.size:=by
 rcases h with⟨_,rfl⟩|⟨z,b',c,e,cells,rfl,h2,h3,h4,h5,h6,h7,h8,h9,B8,KV⟩
 ·cases hb
 ·cases hb;exact⟨B8,(Array.getElem?_eq_some_iff.1 h8).1⟩
def Env.uF(E:Env)(b:Nat)(t:Tok):Env:={E with own:=fun b'=>if b'=b then .tok t else E.own b'}
theorem tR.uF{t:Tok}{b:Nat}{t1:Tok}{r:Nat}{ys:List (List AV)}{v:Value}(h:tR E t r ys v)(hb:Hb v≠some b):tR (E.uF b t1) t r ys v:=by
 rcases h with h|⟨z,b',c,e,cells,rfl,h2,h3,h4,h5,h6,h7,h8,h9,B8,KV⟩
 ·exact .inl h
 ·exact .inr ⟨z,b',c,e,cells,rfl,h2,h3,h4,h5,h6,h7,h8,h9,by simp only[Env.uF];rw[if_neg (fun e=>hb (by rw[←e];rfl))];exact B8,KV⟩
theorem tR.own{t:Tok}{b:Nat}{t1:Tok}{r:Nat}{ys:List (List AV)}{v:Value}(h:tR E t r ys v)(hb:Hb v=some b):tR (E.uF b t1) t1 r ys v:=by
 rcases h with h|⟨z,b',c,e,cells,rfl,h2,h3,h4,h5,h6,h7,h8,h9,B8,KV⟩
 ·exact .inl h
 ·exact .inr ⟨z,b',c,e,cells,rfl,h2,h3,h4,h5,h6,h7,h8,h9,by simp only[Env.uF];rw[if_pos (by injection hb)],KV⟩
theorem Dn{T:Tok→Bool}{b:List (Nat×Ob)}{k d:Nat}{ob x:Ob}(h:look d (dt k ob (gd T b))=some x):(d=k∧x=ob)∨(d≠k∧ ∃y,look d b=some y∧x=zo T y):=by
 rw[aJ]at h;by_cases hk:k=d
 ·rw[if_pos hk]at h;cases h;exact .inl ⟨hk.symm,rfl⟩
 ·rw[if_neg hk,cN]at h;cases hh:look d b with
  |none=>rw[hh]at h;cases h
  |some y=>rw[hh]at h;cases h;exact .inr ⟨fun e=>hk e.symm,y,rfl,rfl⟩
theorem CD(h:bJ E0 E w0 w s a){k:Nat}{p:OwK}{xs:List (List AV)}(gC:look k s.b=some (.ow p none xs)){u:Nat→Value}(uw:Hg p (E.len (.s k)) E.h[E.m (.s k)]? xs u)
  (TD: ∀(q:Nat) (a:AV),xs.flatten[q]? =some a→Cz E a (u q))(hn:H0 E (.n k) p.z none xs u){i off r:Nat}{ys:List (List AV)}(hq:xs.flatten[i*p.z+off]? =some (.sl r ys))(t:Tok){p':OwK}(hpz:p'.z=p.z)(abK:Hg p' (E.len (.s k)) E.h[E.m (.s k)]? xs u):
  ∃E',bJ E0 E' w0 w {s with t:=iv (bC (.n k)) s.t,b:=dt k (.ow p' (some (i,off)) xs) (gd (bC (.n k)) s.b),up:=nU (bC (.n k)) s.up} a∧Cz E' (.gs r t ys) (u (i*p.z+off)):=by
 obtain⟨hl,ho,hs,nw,_⟩:=h.bx k _ gC;have hR:=hn.1 _ r ys hq (fun hh=>hh)
 have HK:=TD _ _ hq
 cases hb:Hb (u (i*p.z+off))with
 |none=>
  have abC:ys=[]∧u (i*p.z+off)= .slice none 0 0:=by
   rcases hR with hR|⟨z,b',c,e,cells,h1,_⟩
   ·exact hR
   ·rw[h1]at hb;cases hb
  have wj:cB E (.s k) (.ow p' (some (i,off)) xs):=⟨hl,ho,hs,nw,u,abK,TD,by rw[hpz];exact⟨fun q r ys hq _=>hn.1 q r ys hq (fun hh=>hh),fun q q' r r' ys Fa b hq xd _ _=>hn.2 q q' r r' ys Fa b hq xd (fun hh=>hh) (fun hh=>hh)⟩⟩
  have hx:=h.zU (T:=bC (.n k)) (Ext.refl (fun _=>False) E) (fun _ hf=>hf.elim) sq h.wf (w':=w) h.heap (jQ.refl _) (fun _ _ hf=>hf.elim) (dt k (.ow p' (some (i,off)) xs) (gd (bC (.n k)) s.b)) s.g s.nx
   (fun d ob hd=>by
    rcases Dn hd with⟨rfl,rfl⟩|⟨dj,y,hy,rfl⟩
    ·exact .inr wj
    ·exact .inl ⟨y,hy,rfl,(fun hf=>hf),fun hf=>hf⟩)
   (fun d hl=>by
    rw[aJ];by_cases hk:k=d
    ·exact⟨_,by rw[if_pos hk]⟩
    ·rw[if_neg hk,cN];obtain⟨ob,ho⟩:=h.lv d hl;exact⟨_,by rw[ho];rfl⟩)
   (fun j ob hj=> .inl ⟨hj,fun hf=>hf⟩) (fun j=>h.gl j) h.gk h.ng
  exact⟨E,hx,by rw[abC.1,abC.2];exact .vk _ _⟩
 |some b0=>
  obtain⟨wj,bc⟩:=uB hR hb;have hE:Ext (fun o=>o= .tok (.n k)) E (E.uF b0 t):=
   ⟨Nat.le_refl _,fun _ _ h=>⟨h,rfl,rfl⟩,fun _ h=>⟨h,rfl,rfl⟩,fun b hb dj=>⟨by simp only[Env.uF];rw[if_neg (fun e=>by subst e;exact dj wj)],rfl,fun _=>Iff.rfl,rfl⟩⟩
  have hT: ∀t',(fun o=>o=Own.tok (.n k)) (.tok t')→bC (.n k) t'=true:=fun t' ht=>(mU _ _).2 (by cases ht;rfl)
  have cz: ∀{a:AV} {x:Value},cH a=true→Cz E a x→Cz (E.uF b0 t) a x:=fun{a x} hi hc=>(hc.ext hE h.wf _ hT).2 hi
  have rh:E.m (.s k)≠b0:=fun e=>by rw[e,wj]at ho;cases ho
  have at1:cB (E.uF b0 t) (.s k) (.ow p' (some (i,off)) xs):=by
   refine⟨hl,by simp only[Env.uF];rw[if_neg rh];exact ho,hs,nw,u,abK,fun q a ha=>cz (nw q a ha) (TD q a ha),?_,fun q q' r r' ys Fa b hq xd _ _=>hn.2 q q' r r' ys Fa b hq xd (fun hh=>hh) (fun hh=>hh)⟩;intro q' r' Fa xd tG;rw[hpz]at tG;refine(hn.1 q' r' Fa xd (fun hh=>hh)).uF fun e=>?_;exact hn.2 (i*p.z+off) q' r r' ys Fa b0 hq xd (fun hh=>hh) (fun hh=>hh) (fun e=>tG e.symm) hb e
  have hx:=h.zU (T:=bC (.n k)) hE hT (fun o ho=>by subst ho;left;rfl) ⟨h.wf.aR,fun b hb=>by
    simp only[Env.uF]at hb;by_cases e:b=b0
    ·subst e;exact bc
    ·rw[if_neg e]at hb;exact h.wf.own b hb,h.wf.fz⟩ (w':=w) h.heap (jQ.refl _)
   (fun b hb hc=>by have:=h.zu b hb;rw[hc]at this;cases this) (dt k (.ow p' (some (i,off)) xs) (gd (bC (.n k)) s.b)) s.g s.nx
   (fun d ob hd=>by
    rcases Dn hd with⟨rfl,rfl⟩|⟨dj,y,hy,rfl⟩
    ·exact .inr at1
    ·exact .inl ⟨y,hy,rfl,(fun hf=>by cases hf),fun hf=>dj (by injection hf with hf;injection hf)⟩)
   (fun d hl=>by
    rw[aJ];by_cases hk:k=d
    ·exact⟨_,by rw[if_pos hk]⟩
    ·rw[if_neg hk,cN];obtain⟨ob,ho⟩:=h.lv d hl;exact⟨_,by rw[ho];rfl⟩)
   (fun j ob hj=> .inl ⟨hj,fun hf=>by cases hf⟩) (fun j=>h.gl j) h.gk (fun b=>by
    have:=h.ng b
    simp only[Env.uF]
    split
    ·exact kF _
    ·exact this)
  exact⟨_,hx,Ns (cz rfl HK) (hR.own hb)⟩
theorem S9(hL:bG P L){t:Nat}{ti:TI}(ht:L t=some ti)(hz:ti.size=1)(vh:ti.agg=false){b o:Nat}{v:Value}(hc:aW w.heap b o=some v):(Instr.loadAt t (.pointer (some ⟨b,o,none⟩))).run P w= .ok v w:=by
 have kG:part ti [.v v] 0=some (.v v):=by unfold part;rw[hz,vh];rfl
 obtain⟨x,h1,h2⟩:=kj (P:=P) (E:=⟨w.heap,fun _ _=>False,fun _=>0,fun _=>0,fun _=>False,fun _=>(0,0),fun _=> .WR,[]⟩) (w:=w) hL ht (b:=b) (o:=o) kG (fun q a' ha=>by
  cases q with
  |zero=>simp at ha;subst ha;exact⟨v,by simpa using hc,.v _⟩
  |succ q=>simp at ha)
 cases h2;simpa using h1
theorem So{ti:TI}{e:Nat}(h:ti.k= .slice e):ti.agg=false:=by unfold TI.agg;rw[h]
theorem Dj(hL:bG P C.L)(h:bJ E0 E w0 w s a){o:Oper}{t d:Nat}{x:Operand}(he:o.op= .load t x){K:bB}(hk:Uy C t d (cd s [] x) s K):NY P E0 w0 w a o s [] K:=by
 unfold Uy at hk
 split at hk
 ·rename_i ti k i off z uX er
  split at hk
  ·rename_i e z' xs kH gC;obtain⟨cs,r,ys,⟨e0,e1,e2,e3⟩,hk⟩:=hk;subst e0;have hx:=h.ev (p:=[]) trivial x
   rw[er]at hx;cases eK:a.eval x<;>rw[eK]at hx<;>cases hx;obtain⟨hl,ho,hs,nw,u,uw,hq,wS⟩:=h.bx k _ gC;have TA:=uw
   obtain⟨ew,hz,jg,hle,hm,c,e1',hb,ef,hu⟩:=uw;have GD:cs.length=z:=hz cs (fU e1)
   have xT:off<z:=by rw[←GD];exact(bq.1 e2).1
   have hD:xs.flatten[i*z+off]? =some (.sl r ys):=by rw[eF hz e1 off xT];exact e2
   obtain⟨E',g1,g2⟩:=CD h gC TA hq wS (p':= .sl z) hD (.l (C.base+d)) rfl TA;refine⟨_,_,E',hk,g1,fun q=>(nj (s:=s.sR (bC (.n k))) (s':={s with t:=iv (bC (.n k)) s.t,b:=dt k (.ow (.sl z) (some (i,off)) xs) (gd (bC (.n k)) s.b),up:=nU (bC (.n k)) s.up}) (fun _ _=>rfl)).trans (jE (bC (.n k))),fun _=>⟨u (i*z+off),?_,g2⟩⟩;simp only[execOp,he,eK];simp[S9 (w:=w) hL uX e3 (So kH) (b:=E.m (.s k)) (o:=i*z+off) (v:=u (i*z+off)) (by simp[aW,h.heap,hb,hu _ _ hD])]
  ·exact hk.elim
 ·exact hk.elim
theorem MK{k z i off r:Nat}{xs xs':List (List AV)}{u:Nat→Value}{ys:List (List AV)}{v:Value}(hn:H0 E (.n k) z (some (i,off)) xs u)(hD: ∀q',xs'.flatten[q']? =if q'=i*z+off then(if q'<xs.flatten.length then some (.sl r ys)else none)else xs.flatten[q']?)
  (hr:tR E' (.n k) r ys v)(hE: ∀b,E.own b= .tok (.n k)→b<E.h.size→E'.own b= .tok (.n k)∧E'.h[b]? =E.h[b]? ∧(∀o,E'.aR b o↔E.aR b o)∧E'.eo b=E.eo b)(hv: ∀b,Hb v=some b→E.own b≠ .tok (.n k)):
  H0 E' (.n k) z none xs' (fun q'=>if q'=i*z+off then v else u q'):=by
 have rj: ∀(q' r':Nat) (Fa:List (List AV)),xs'.flatten[q']? =some (.sl r' Fa)→(q'=i*z+off∧r'=r∧Fa=ys)∨(q'≠i*z+off∧xs.flatten[q']? =some (.sl r' Fa)):=fun q' r' Fa hq=>by
  rw[hD]at hq;by_cases e:q'=i*z+off
  ·rw[if_pos e]at hq
   split at hq
   ·cases hq;exact .inl ⟨e,rfl,rfl⟩
   ·cases hq
  ·rw[if_neg e]at hq;exact .inr ⟨e,hq⟩
 refine⟨fun q' r' Fa hq _=>?_,fun q1 q2 r1 r2 ys1 ys2 b hq1 hq2 _ _ dj hb CL=>?_⟩
 ·rcases rj q' r' Fa hq with⟨e,rfl,rfl⟩|⟨e,h1⟩
  ·dsimp only;rw[if_pos e];exact hr
  ·dsimp only;rw[if_neg e];exact(hn.1 q' r' Fa h1 e).mono hE
 ·dsimp only at hb CL;rcases rj q1 _ _ hq1 with⟨e,rfl,rfl⟩|⟨e,h1⟩
  ·rcases rj q2 _ _ hq2 with⟨e',rfl,rfl⟩|⟨e',Um⟩
   ·exact dj (e.trans e'.symm)
   ·rw[if_pos e]at hb;rw[if_neg e']at CL;exact hv b hb (uB (hn.1 q2 _ _ Um e') CL).1
  ·rcases rj q2 _ _ hq2 with⟨e',rfl,rfl⟩|⟨e',Um⟩
   ·rw[if_neg e]at hb;rw[if_pos e']at CL;exact hv b CL (uB (hn.1 q1 _ _ h1 e) hb).1
   ·rw[if_neg e]at hb;rw[if_neg e']at CL;exact hn.2 q1 q2 r1 r2 ys1 ys2 b h1 Um e e' dj hb CL
theorem FB{l:List AV}{o:Nat}{x:AV}(ho:o<l.length)(q:Nat):(bV l o [x])[q]? =if q=o then some x else l[q]? :=by
 rw[zM (by simp;omega)];by_cases h:q=o
 ·subst h;rw[if_pos ⟨Nat.le_refl _,by simp⟩,if_pos rfl];simp
 ·rw[if_neg h,if_neg (by simp;omega)]
theorem LG(hL:bG P C.L)(hI:C.I=ak)(h:bJ E0 E w0 w s a){o:Oper}{t:Nat}{x y:Operand}(he:o.op= .store t x y){d i off z r:Nat}{tk:Tok}{ys:List (List AV)}(hx0:cd s [] x= .dc (.s d) i off z)(hy0:cd s [] y= .gs r tk ys){ti:TI}(uX:C.L t=some ti)(anM:ti.size=1){K:bB}{Q:Exit→Act→World→Prop}
  (hk:QJ C d i off z r tk ys s K):mS P o a w (hZ E0 w0 o a K) Q:=by
 unfold QJ at hk
 split at hk
 ·rename_i z' j aaY xs gC;obtain⟨Rv,e0,zs,⟨e1,e2,cs,e3,e4,e5⟩,hk⟩:=hk;subst e0;subst e1;subst e2;rw[hI]at e5;have e5:xs.set i (bV cs off [.sl r ys])=zs:=e5
  subst e5;have hx:=h.ev (p:=[]) trivial x
  rw[hx0]at hx;cases eK:a.eval x<;>rw[eK]at hx<;>cases hx;have hy:=h.ev (p:=[]) trivial y
  rw[hy0]at hy;generalize hav:a.eval y=v at hy;obtain⟨hl,ho,hs,nw,u,⟨ew,hz,jg,hle,hm,c,e1',hb,ef,hu⟩,hq,wS⟩:=h.bx d _ gC;have hD:=aH hz
  have Ek:i<xs.length:=(bq.1 e3).1
  have GD:cs.length=z:=hz cs (fU e3)
  have hmul:i*z+z≤xs.length*z:=by rw[←Nat.succ_mul];exact Nat.mul_le_mul_right _ Ek
  have P9:xs.length*z≤c.size:=by rw[ef,jg];exact Nat.mul_le_mul_right _ hle
  have hvc:v.cells= #[v]:=by cases hy<;>rfl
  have hv1:tT v=true:=by cases hy<;>rfl
  have Xk:tk≠ .n d:=fun e=>by subst e;cases Rv
  have h1:=h.dD tk (.n d) Rv
  have Bp:=hy.dD (t':= .n d) h.wf
  have P3:look d (gd (bC tk) s.b)=some (.ow (.sl z) (some (i,off)) xs):=by rw[cN,gC];rfl
  have ho1:(E.dD tk (.n d)).own ((E.dD tk (.n d)).m (.s d))= .key (.s d):=(uC (by rw[show(E.dD tk (.n d)).m (.s d)=E.m (.s d)from rfl,ho];simp)).trans ho
  obtain⟨w',g1,g2,g3⟩:=run_store (w:=w) hL uX (b:=E.m (.s d)) (off:=i*z+off) (e:=e1') (c:=c) (v:=v) (by rw[h.heap];exact hb) (by rw[hvc,anM];rfl) (by omega) (fun x hx=>by rw[hvc]at hx;simp at hx;rw[hx];exact hv1);have XF:(v.cells.toList.zipIdx.foldl (fun cs (x,j)=>cs.setIfInBounds (i*z+off+j) x) c)=c.setIfInBounds (i*z+off) v:=by rw[hvc];rfl
  rw[XF]at g2;have hE:=jC (E:=E.dD tk (.n d)) ho1 hs (.cells (c.setIfInBounds (i*z+off) v) e1' (0,0))
  have cz1: ∀{a:AV} {x:Value},cH a=true→Cz E a x→Cz (E.dD tk (.n d)) a x:=fun{a x} hi hc=>(hc.ext (uD tk (.n d)) h.wf (bC tk) (fun q' xd=>(mU _ _).2 (by cases xd;rfl))).2 hi
  have cz2: ∀{a:AV} {x:Value},Cz (E.dD tk (.n d)) a x→Cz ((E.dD tk (.n d)).write (.s d) (.cells (c.setIfInBounds (i*z+off) v) e1' (0,0))) a x:=fun{a x} hc=>by
   have:=(hc.ext hE h1.wf (fun _=>false) (gw _)).1
   rwa [lF (fun _=>rfl)]at this
  have hxl: ∀l∈xs.set i (bV cs off [.sl r ys]),l.length=z:=fun l tG=>by
   rcases List.mem_or_eq_of_mem_set tG with h1|h1
   ·exact hz l h1
   ·rw[h1,lV (by simp;omega)];exact GD
  have xc:(xs.set i (bV cs off [.sl r ys])).flatten=bV xs.flatten (i*z+off) [.sl r ys]:=tH hz e3 (by simp;omega)
  have za: ∀q',(xs.set i (bV cs off [.sl r ys])).flatten[q']? =if q'=i*z+off then some (.sl r ys)else xs.flatten[q']? :=fun q'=>by
   rw[xc];exact FB (by omega) q'
  have Bv:E.m (.s d)<E.h.size:=(Array.getElem?_eq_some_iff.1 hb).1
  have wj:cB ((E.dD tk (.n d)).write (.s d) (.cells (c.setIfInBounds (i*z+off) v) e1' (0,0))) (.s d) (.ow (.sl z) none (xs.set i (bV cs off [.sl r ys]))):=by
   refine⟨hl,ho1,hs,fun q' a' ha=>?_,fun q'=>if q'=i*z+off then v else u q',⟨ew,hxl,(List.length_set ..).trans jg,hle,hm,c.setIfInBounds (i*z+off) v,e1',?_,(Array.size_setIfInBounds ..).trans ef,fun q' a' ha=>?_⟩,fun q' a' ha=>?_,?_⟩
   ·rw[za]at ha
    split at ha
    ·cases ha;rfl
    ·exact nw q' a' ha
   ·have:(E.dD tk (.n d)).m (.s d)=E.m (.s d):=rfl
    simp only[Env.write];rw[this];exact Array.getElem?_setIfInBounds_self_of_lt Bv
   ·rw[za]at ha;dsimp only;by_cases e:q'=i*z+off
    ·rw[if_pos e,e];exact Array.getElem?_setIfInBounds_self_of_lt (by omega)
    ·rw[if_neg e]at ha ⊢;rw[Array.getElem?_setIfInBounds_ne (fun hh=>e hh.symm)];exact hu q' a' ha
   ·rw[za]at ha;dsimp only;by_cases e:q'=i*z+off
    ·rw[if_pos e]at ha ⊢;cases ha;exact cz2 Bp.read
    ·rw[if_neg e]at ha ⊢;exact cz2 (cz1 (nw q' a' ha) (hq q' a' ha))
   ·refine MK (z:=z) (r:=r) (ys:=ys) wS (fun q'=>?_) ?_ (fun b hb bc=>?_) (fun b hbv=>?_)
    ·rw[za];by_cases e:q'=i*z+off
     ·rw[if_pos e,if_pos e,if_pos (by omega)]
     ·rw[if_neg e,if_neg e]
    ·exact tw (cz2 Bp)
    ·have dj:b≠E.m (.s d):=fun e=>by rw[e,ho]at hb;cases hb
     refine⟨(uC (by rw[hb];intro e;injection e with e;exact Xk e.symm)).trans hb,?_,fun _=>Iff.rfl,rfl⟩;show(E.h.setIfInBounds (E.m (.s d)) _)[b]? =_;rw[Array.getElem?_setIfInBounds_ne (Ne.symm dj)]
    ·intro e;have:=(uB (tw hy) hbv).1
     rw[this]at e;injection e with e;exact Xk e
  refine xl (w':=w') ?_ ⟨_,_,_,hk,h1.rR P3 wj g2 g3 ho1 hs,.any _⟩;simp only[execOp,he,eK,hav];simp[g1]
 ·exact hk.elim
end Ab
namespace Ab
open Go
variable{P:Program}{L:pN}{s:St}{p:Path}{C:ey}{K:bB}
theorem LB{I:Pr}{ti:TI}{d i off z:Nat}{a:AV}(h:Jl I ti d i off z a s K):AL I ti d i off z a s K:=by
 unfold Jl at h;unfold AL
 split at h
 ·rename_i z' xs hl;try rw[hl]
  obtain⟨zs,⟨cs,k1,k2,k3,k4,rfl⟩,h2⟩:=h;exact⟨cs,k1,k2,k3,k4,h2⟩
 ·exact h.elim
theorem LA{I:Pr}{ti:TI}{d off:Nat}{a:AV}(h:Jk I ti d off a s K):rn I ti d off a s K:=by
 unfold Jk at h;unfold rn;cases hl:look d s.b with
 |none=>rw[hl]at h;unfold rn at h;rw[hl]at h;exact h
 |some o=>
  rw[hl]at h;cases o with
  |arr z xs=>
   dsimp only at h ⊢
   split at h
   ·obtain⟨zs,⟨k1,k2,k3,k4,rfl⟩,h2⟩:=h;exact⟨k1,k2,k3,k4,h2⟩
   ·exact h.elim
  |_=>dsimp only at h;unfold rn at h;rw[hl]at h;exact h
theorem Oe{t:Nat}{x a:AV}(h:Jm C t x a s K):JA C t x a s K:=by
 unfold Jm at h;unfold JA
 split at h
 ·rename_i ti k h1 h2;try rw[h1,h2]
  obtain⟨k1,k2,k3⟩:=h;refine⟨k1,k2,?_⟩
  split at k3
  ·exact LA k3
  ·exact LB k3
  ·exact k3.elim
 ·exact h.elim
theorem R8(hI:C.I=ak){t d:Nat}{n m:Int}(h:Ux C t d n m s K):QN C t d n m s K:=by
 unfold Ux at h;unfold QN
 split at h
 ·rename_i e ti h1 h2;try rw[h1,h2]
  obtain⟨xs,j,⟨k1,k2,k3,rfl,rfl⟩,h4⟩:=h;exact⟨k1,k2,k3,h4⟩
 ·exact h.elim
theorem LH(hI:C.I=ak){t d:Nat}{x y:AV}(h:Jt C t d x y s K):EJ C t d x y s K:=by
 unfold Jt at h;unfold EJ
 split at h
 ·rename_i e ti r ys h1 h2;try rw[h1,h2]
  try dsimp only
  split at h
  ·obtain⟨k0,zs,⟨k1,k2,rfl⟩,h3⟩:=h;exact⟨k0,k1,k2,h3⟩
  ·obtain⟨zs,⟨k1,k2,k3⟩,h3⟩:=h;have:ys=zs:=by rw[←k3,hI];simp[ak]
   subst this;refine⟨?_,h3⟩;have h0:C.I.fV []=0:=by rw[hI];rfl
   rw[h0]at k1;exact k1
  ·exact h.elim
 ·exact h.elim
theorem DQ: ∀{xs:List (List AV)} {q:Nat} {a:AV},(∀l∈xs,l.length=1)→xs[q]? =some [a]→xs.flatten[q]? =some a
 |[],q,a,_,h=>by simp at h
 |l::r,q,a,hz,h=>by
  have hl:=hz l (by simp)
  rw[List.flatten_cons];cases q with
  |zero=>simp at h;subst h;simp
  |succ q=>
   rw[iY (by omega),hl];exact DQ (xs:=r) (fun l' tG=>hz l' (by simp[tG])) (by simpa using h)
theorem Og{t:Nat}{n:Int}{x:AV}(h:Jq C p t n x s K):JD C p t n x s K∨(∃(b:ByteArray) (z:Int),x= .v (.string b)∧isStr C.L t=true∧under s p (0≤n∧ ∃c:UInt8,b[n.toNat]? =some c∧(c.toNat:Int)=z)∧K (.v (.int .u8 z)) s)∨
  ∃(m e:Nat) (xs:List (List AV)) (ti tj:TI) (b:AV),x= .ar m 1 xs∧C.L t=some ti∧ti.k= .arr m e∧C.L e=some tj∧tj.size=1∧tj.agg=false∧under s p (0≤n∧xs[n.toNat]? =some [b])∧K b s:=by
 unfold Jq at h
 split at h
 ·rename_i b;cases hs:isStr C.L t with
  |false=>rw[hs]at h;exact h.elim
  |true=>
   rw[hs,az]at h;obtain⟨z,h1,h2⟩:=h;exact .inr (.inl ⟨b,z,rfl,rfl,h1,h2⟩)
 ·rename_i m z xs
  split at h
  ·rename_i ti uX
   split at h
   ·rename_i m' e hk
    split at h
    ·rename_i tj Nh;cases hb:dy tj.size 1&&(!tj.agg&&(dy m m'&&dy z 1))with
     |false=>rw[hb]at h;exact h.elim
     |true=>
      rw[hb,az]at h;simp only[Bool.and_eq_true,Bool.not_eq_true']at hb;obtain⟨b,h1,h2⟩:=h;obtain⟨b1,b2,b3,b4⟩:=hb;have e1:=dK b1
      have e3:=dK b3
      have e4:=dK b4
      subst e3;subst e4;exact .inr (.inr ⟨m,e,xs,ti,tj,b,rfl,uX,hk,Nh,e1,b2,h1,h2⟩)
    ·exact h.elim
   ·exact h.elim
  ·exact h.elim
 ·exact .inl h
theorem vT{I:Pr}{o:Op}{r:AV}(h:DC I L s p o=some r):tW I L s p o=some r:=by
 unfold DC at h;cases hb:isLen o with
 |true=>rw[hb]at h;cases h
 |false=>rw[hb]at h;exact h
theorem MX{I:Pr}{c:Call}{k:IntKind}{m:Int}(hc:c.callee= .builtin .len)(h:MC I L .len c.argTypes.toList (c.args.toList.map (cd s p))=some (.v (.int k m))):tW I L s p (.call c)=some (.v (.int k m)):=by
 simp only[tW,hc];exact h
variable{E0 E:Env}{w0 w:World}{a:Act}
theorem ir{x y:AV}{v:Value}(hw:QM x y)(h:Cz E x v):Cz E y v:=by
 unfold QM at hw
 split at hw
 ·exact .any _
 ·subst hw;have:=bX h;subst this;exact .vk _ _
 ·subst hw;have:=bX h;subst this;exact .pd _ _ _
 ·obtain⟨rfl,rfl⟩:=hw;exact h.read
 ·subst hw;exact h
theorem yw: ∀{cs cs':List AV},wks cs cs'→cs.length=cs'.length∧ ∀(q:Nat) (a:AV),cs'[q]? =some a→ ∃a0,cs[q]? =some a0∧QM a0 a
 |[],[],_=>⟨rfl,fun q a h=>by simp at h⟩
 |x::r,y::r',h=>by
  obtain⟨h1,h2⟩:=h;obtain⟨h3,h4⟩:=yw h2;refine⟨by simp[h3],fun q a hq=>?_⟩;cases q with
  |zero=>simp at hq;subst hq;exact⟨x,by simp,h1⟩
  |succ q=>obtain⟨a0,h5,h6⟩:=h4 q a (by simpa using hq);exact⟨a0,by simpa using h5,h6⟩
 |[],_::_,h=>h.elim
 |_::_,[],h=>h.elim
theorem Fl: ∀{xs zs:List (List AV)},wkL xs zs→xs.length=zs.length∧(∀(n:Nat) (z:List AV),zs[n]? =some z→ ∃x,xs[n]? =some x∧x.length=z.length)∧xs.flatten.length=zs.flatten.length∧
  ∀(q:Nat) (a:AV),zs.flatten[q]? =some a→cH a=true∧ ∃a0,xs.flatten[q]? =some a0∧QM a0 a
 |[],[],_=>⟨rfl,fun n z h=>by simp at h,rfl,fun q a h=>by simp at h⟩
 |x::r,y::r',h=>by
  obtain⟨⟨h1,h2⟩,h3⟩:=h;obtain⟨g1,g2,g3,g4⟩:=Fl h3;obtain⟨k1,k2⟩:=yw h1;refine⟨by simp[g1],fun n z hn=>?_,by simp[k1,g3],fun q a hq=>?_⟩
  ·cases n with
   |zero=>simp at hn;subst hn;exact⟨x,by simp,k1⟩
   |succ n=>obtain⟨x',e1,e2⟩:=g2 n z (by simpa using hn);exact⟨x',by simpa using e1,e2⟩
  ·rw[List.flatten_cons]at hq;by_cases bc:q<y.length
   ·rw[gg bc]at hq;obtain⟨a0,e1,e2⟩:=k2 q a hq;exact⟨bD h2 q a hq,a0,by rw[List.flatten_cons,gg (by omega)];exact e1,e2⟩
   ·rw[iY (by omega)]at hq;obtain⟨hi,a0,e1,e2⟩:=g4 _ a hq;exact⟨hi,a0,by rw[List.flatten_cons,iY (by omega),k1];exact e1,e2⟩
 |[],_::_,h=>h.elim
 |_::_,[],h=>h.elim
theorem Cz.aoy{r:Nat}{t:Tok}{xs zs:List (List AV)}{x:Value}(h:Cz E (.gs r t xs) x)(hw:wkL xs zs):Cz E (.gs r t zs) x:=by
 obtain⟨g1,g2,g3,g4⟩:=Fl hw;cases h with
 |vk=>
  have:zs=[]:=List.eq_nil_of_length_eq_zero (by rw[←g1];rfl)
  subst this;exact .vk _ _
 |gs _ _ _ z b c e cells u hc hm h0 ew hz hr hb ef ho gZ hi hu hq=>
  rw[g1]at hc h0 gZ ⊢;refine .gs r t zs z b c e cells u hc hm h0 ew (fun l hl=>?_) hr hb ef ho gZ (fun q a ha=>(g4 q a ha).1) (fun q a ha=>?_) (fun q a ha=>?_)
  ·obtain⟨n,hn⟩:=List.getElem?_of_mem hl;obtain⟨x,e1,e2⟩:=g2 n l hn;rw[←e2];exact hz x (fU e1)
  ·obtain⟨_,a0,e1,e2⟩:=g4 q a ha;exact hu q a0 e1
  ·obtain⟨_,a0,e1,e2⟩:=g4 q a ha;exact ir e2 (hq q a0 e1)
def Kwk(K:bB):bB:=fun r s=> ∃r',(∀E x,Cz E r x→Cz E r' x)∧K r' s
theorem wM{t len d:Nat}{parts:List (Nat×Operand)}(h:xk C p t len d parts s K):tl C p t len d parts s (Kwk K):=by
 unfold xk at h;unfold tl
 split at h
 ·rename_i e ti h1;try rw[h1]
  try dsimp only
  split at h
  ·rename_i s1 h2;(try rw[h2]);try dsimp only
   split at h
   ·rename_i cs h3;(try rw[h3]);(try dsimp only);cases hb:cw cs&&(oZ 1 ti.size&&oZ (len*ti.size) 16777216)with
    |true=>rw[hb,az]at h;rw[az];obtain⟨zs,⟨ws,k1,rfl⟩,h4⟩:=h;exact⟨_,fun E x hx=>hx.aoy k1,h4⟩
    |false=>rw[hb]at h;exact h.elim
   ·exact h.elim
  ·exact h.elim
 ·exact h.elim
theorem cB.akJ{k:Key}{z:Nat}{xs zs:List (List AV)}(h:cB E k (.arr z xs))(hw:wkL xs zs):cB E k (.arr z zs):=by
 obtain⟨g1,g2,g3,g4⟩:=Fl hw;obtain⟨h1,h2,h3,h4,h5,c,e,h6,h7,h8,h9,B8,KV⟩:=h;refine⟨h1,by rw[←g1];exact h2,h3,fun l hl=>?_,by rw[←g1];exact h5,c,e,h6,h7,h8,by rw[←g1];exact h9,fun q a ha=>(g4 q a ha).1,fun q a x ha hx=>?_⟩
 ·obtain⟨n,hn⟩:=List.getElem?_of_mem hl;obtain⟨x,e1,e2⟩:=g2 n l hn;rw[←e2];exact h4 x (fU e1)
 ·obtain⟨_,a0,e1,e2⟩:=g4 q a ha;exact ir e2 (KV q a0 x e1 hx)
theorem Ht(hL:bG P C.L)(h:bJ E0 E w0 w s a){o:Oper}{t len:Nat}{parts:Array (Nat×Operand)}(he:o.op= .buildSlice t len parts){d:Nat}{Q:Exit→Act→World→Prop}(hk:Js C t len d parts.toList s K):mS P o a w (hZ E0 w0 o a K) Q:=by
 unfold Js at hk;generalize C.base+d=d at hk;cases ux:elemOf C.L t with
 |none=>rw[ux]at hk;exact hk.elim
 |some et=>
  obtain⟨e,ti⟩:=et;rw[ux]at hk;obtain⟨hu,Nq,i,i1,i2,i3,zv,i4,i5⟩:=iZ hL ux;cases gC:look d s.b with
  |some _=>rw[gC]at hk;exact hk.elim
  |none=>
   rw[gC]at hk;dsimp only at hk;cases hf:qi ti.size ((List.replicate len (ti.zero.map AV.v)).flatten) (parts.toList.map fun q=>(q.1,rd (cd s [] q.2)))with
   |none=>rw[hf]at hk;exact hk.elim
   |some cs=>
    rw[hf]at hk;dsimp only at hk;cases hb:cw cs&&(oZ 1 ti.size&&oZ (len*ti.size) 16777216)with
    |false=>rw[hb]at hk;exact hk.elim
    |true=>
     rw[hb,az]at hk;simp only[Bool.and_eq_true]at hb;have b2:1≤ti.size:=by simpa using hb.2.1
     have b3:len*ti.size≤16777216:=by simpa using hb.2.2
     have hll:len≤len*ti.size:=Nat.le_mul_of_pos_right _ b2
     have B6:=(hL.ok e ti Nq).N9
     obtain⟨zs,⟨ws,k0,rfl⟩,hk⟩:=hk;have P0:ym E (parts.toList.map fun q=>(q.1,rd (cd s [] q.2))) (parts.toList.map fun q=>(q.1,a.eval q.2)):=by
      refine⟨by simp,fun q x y hx hy=>?_⟩;simp only[List.getElem?_map]at hx hy;cases hq:parts.toList[q]? with
      |none=>rw[hq]at hx;simp at hx
      |some zz=>rw[hq]at hx hy;simp at hx hy;subst hx;subst hy;exact⟨rfl,(h.ev (p:=[]) trivial _).giveUp h.wf _⟩
     obtain⟨c',k1,k2⟩:=xX P0 (H4 i5 B6 len) hf;have hlen:cs.length=len*ti.size:=by
      rw[CV hf,aH (z:=ti.size) (fun x hx=>by rw[(List.mem_replicate.1 hx).2];simp[B6])];simp
     have Bt: ¬E.live (.s d):=fun tG=>by obtain⟨ob,ho⟩:=h.lv d tG;rw[gC]at ho;cases ho
     have eY:=xq (P:=P) hu i1 i4 (by omega) (len:=len) (by rw[i2];exact b3) (vs:=parts.map fun q=>(q.1,a.eval q.2)) (c':=c') (by rw[i2,←k1];congr 1;simp) w
     have KT:(parts.map fun(i,x)=>(i,a.eval x))=parts.map fun q=>(q.1,a.eval q.2):=rfl
     have wj:=DY h (k:= .s d) Bt (z:=ti.size) (n:=len) (cs:=cs) (c:=c') (by omega) (by unfold maxLen;omega) hlen hb.1 k2 e
     refine dq (x:= .slice (some ⟨w.heap.size,0,none⟩) len len) (w':=w.alloc _) ?_ ⟨_,_,_,hk,h.WU gC (wj.akJ k0),?_⟩
     ·simp only[execOp,he,KT];simp[eY]
     ·have hmk:(E.addKey (.s d) (.cells c' e (0,0)) len).m (.s d)=w.heap.size:=by simp[Env.addKey,h.heap]
      have:=Cz.jB (E:=E.addKey (.s d) (.cells c' e (0,0)) len) (.s d) len (.inl rfl) (by simp[Env.addKey]) (by simp[Env.addKey]) (by simp[Env.addKey];unfold maxLen;omega)
      rw[hmk]at this;simpa[Env.addKey]using this
theorem vF(hL:bG P C.L)(h:bJ E0 E w0 w s a){o:Oper}{t:Nat}{x y:Operand}(he:o.op= .index t x y){n:Int}(hn:intOf (cd s p y)=some n)(hk:Jq C p t n (cd s p x) s K):Reads P E w a o s p K:=by
 have fin: ∀v z k,a.eval x=v→a.eval y= .int k n→(Instr.index t v (.int k n)).run P w= .ok z w→(execOp a.eval o).run P w= .ok (.value z) w:=fun v z k hv hk hy=>by
  simp only[execOp,he,hv,hk];simp[hy]
 rcases Og hk with hk|⟨b,z,er,hs,hb,hk⟩|⟨m,e,xs,ti,tj,b,er,uX,kH,Nh,Br,KS,hb,hk⟩
 ·exact JC hL h he hn hk
 ·refine⟨_,hk,fun hp=>?_⟩;obtain⟨h0,c,h1,h2⟩:=bR hb hp;obtain⟨ki,hy⟩:=fN hn h hp;have hx:=h.ev hp x
  rw[er]at hx;refine⟨_,fin _ _ _ (bX hx) hy (AR hL hs ki n b h0 h1 w),?_⟩;rw[←h2];exact .v _
 ·refine⟨_,hk,fun hp=>?_⟩;obtain⟨h0,h1⟩:=bR hb hp;obtain⟨ki,hy⟩:=fN hn h hp;have hx:=h.ev hp x
  rw[er]at hx;obtain⟨Bp,hnn,hz,hi⟩:=Qv hx;have h2:=DQ hz h1
  have Xw:n.toNat<xs.length:=(bq.1 h1).1
  generalize hv:a.eval x=v at Bp;cases Bp with
  |agg _ ys hl hq=>
   have bc:n.toNat<ys.length:=by rw[hl];exact(bq.1 h2).1
   exact⟨ys[n.toNat],fin _ _ _ hv hy (AT hL uX kH Nh Br KS ki n _ h0 (by omega) (by simp[bc]) w),hq _ b _ h2 (by simp)⟩
theorem pw{o:Oper}(h1:bp s p→Reads P E w a o s p K)(h2: ¬bp s p→ ∃r,K r s):Reads P E w a o s p K:=by
 by_cases hp:bp s p
 ·exact h1 hp
 ·obtain⟨r,hr⟩:=h2 hp;exact⟨r,hr,fun h=>absurd h hp⟩
theorem uz{X:Prop}(h:X):under s p X:=by
 unfold under
 split
 ·exact h
 ·exact fun _=>h
theorem zI(hL:bG P C.L)(hI:C.I=ak)(h:bJ E0 E w0 w s a){o:Oper}{t:Nat}{x y:Operand}(he:o.op= .indexAddr t x y){n:Int}(hn:intOf (cd s p y)=some n)(hk:xIdx C p t n (cd s p x) s K):Reads P E w a o s p K:=by
 have base:=fun hk=>Oq (K:=K) (p:=p) hL hI h he hn hk
 by_cases aot: ∃r z xs,cd s p x= .nG r z xs
 ·obtain⟨r,z,xs,er⟩:=aot;unfold xIdx at hk;rw[er]at hk;dsimp only at hk
  split at hk
  ·rename_i ti uX
   split at hk
   ·rename_i m e kH
    split at hk
    ·rename_i tj Nh;obtain⟨cs,⟨k1,k2,hb⟩,hk⟩:=hk;rw[hI]at k1;have k1:xs.length=m:=k1
     subst k2;refine⟨_,hk,fun hp=>?_⟩;obtain⟨h0,h1⟩:=bR hb hp;obtain⟨ki,hy⟩:=fN hn h hp;have hx:=h.ev hp x
     rw[er]at hx;cases hx with
     |nG _ _ _ _ hz hc=>
     generalize eK:a.eval x=v at hc;cases hc with
     |aX _ _ _ b o u hr hi gZ hu hq=>
     have bc:n.toNat<xs.length:=(bq.1 h1).1
     have jY:cs.length=tj.size:=hz cs (by rw[eH bc]at h1;cases h1;simp)
     have hg: ∀(q:Nat) (a:AV),cs[q]? =some a→xs.flatten[n.toNat*tj.size+q]? =some a:=fun q a' ha=>by
      rw[eF hz h1 q (by rw[←jY];exact(bq.1 ha).1)];exact ha
     refine⟨_,?_,Cz.aX (E:=E) r cs 0 b (o+n.toNat*tj.size) (fun q=>u (n.toNat*tj.size+q)) (fun q a' ha=>hr _ a' (hg q a' ha)) (fun q a' ha=>hi _ a' (hg q a' ha)) (fun q a' ha=>by have:=gZ _ a' (hg q a' ha);rw[show o+n.toNat*tj.size+q=o+(n.toNat*tj.size+q)from by omega];exact this)
      (fun q a' ha=>by have:=hu _ a' (hg q a' ha);rw[show o+n.toNat*tj.size+q=o+(n.toNat*tj.size+q)from by omega];exact this) (fun q a' ha=>hq _ a' (hg q a' ha))⟩
     have eY:=AS (P:=P) hL uX kH Nh ki n b (o+0) h0 (by omega) w
     simp only[execOp,he,eK,hy];simp only[Nat.add_zero]at eY ⊢;simp[eY]
    ·exact hk.elim
   ·exact hk.elim
  ·exact hk.elim
 unfold xIdx at hk
 split at hk
 ·rename_i k m hx
  split at hk
  ·rename_i e ti ux;obtain⟨j,h1,h2⟩:=hk;refine pw (fun hp=>base ?_) (fun _=>⟨_,h2⟩);obtain⟨k1,rfl⟩:=bR h1 hp;unfold UJ;rw[hx];dsimp only;rw[ux];exact⟨uz k1,h2⟩
  ·exact hk.elim
 ·rename_i d off hx
  split at hk
  ·rename_i ti z xs h1 h2
   split at hk
   ·rename_i m e hkd
    split at hk
    ·rename_i tj h3;obtain⟨j,⟨k1,k2,k3⟩,h4⟩:=hk;refine pw (fun hp=>base ?_) (fun _=>⟨_,h4⟩);obtain⟨k4,rfl⟩:=bR k3 hp;unfold UJ;rw[hx];dsimp only;rw[h1,h2];dsimp only;rw[hkd];dsimp only;rw[h3];exact⟨k1,k2,uz k4,h4⟩
    ·exact hk.elim
   ·exact hk.elim
  ·exact hk.elim
 ·rename_i hx;exact absurd ⟨_,_,_,hx⟩ aot
 ·exact base hk
theorem AI(hL:bG P C.L)(hI:C.I=ak)(h:bJ E0 E w0 w s a){o:Oper}{t:Nat}{x:Operand}{lo hi:Option Operand}(he:o.op= .slice t x lo hi none)(hk:Of C p t lo hi (cd s p x) s K):Reads P E w a o s p K:=by
 have base:=fun hk=>JB (K:=K) (p:=p) hL hI h he hk
 unfold Of at hk
 split at hk
 ·rename_i b hx;cases hs:isStr C.L t with
  |false=>rw[hs]at hk;exact hk.elim
  |true=>
   rw[hs,az]at hk
   split at hk
   ·rename_i l k h1 h2;obtain⟨b',g1,g2⟩:=hk;refine pw (fun hp=>base ?_) (fun _=>⟨_,g2⟩);obtain⟨g3,rfl⟩:=bR g1 hp;unfold Cc;rw[hx];dsimp only;rw[hs,az,h1,h2];exact⟨uz g3,g2⟩
   ·exact hk.elim
 ·rename_i k m hx
  split at hk
  ·rename_i e v h1 h2 h3;obtain⟨j,g1,g2⟩:=hk;refine pw (fun hp=>base ?_) (fun _=>⟨_,g2⟩);obtain⟨g3,rfl⟩:=bR g1 hp;unfold Cc;rw[hx];dsimp only;rw[h2,h3];exact⟨uz g3,g2⟩
  ·exact hk.elim
 ·rename_i d off hx
  split at hk
  ·rename_i ti z xs h1 h2
   split at hk
   ·rename_i m e hkd
    split at hk
    ·rename_i tj _ h3 h4;obtain⟨j,⟨k1,k2,k3,k4⟩,h5⟩:=hk;refine pw (fun hp=>base ?_) (fun _=>⟨_,h5⟩);obtain⟨g3,rfl⟩:=bR k4 hp;unfold Cc;rw[hx];dsimp only;rw[h1,h2];dsimp only;rw[hkd];dsimp only;rw[h3,h4];exact⟨k1,k2,k3,uz g3,h5⟩
    ·exact hk.elim
   ·exact hk.elim
  ·exact hk.elim
 ·rename_i r z xs er
  split at hk
  ·rename_i ti uX
   split at hk
   ·rename_i m e kH
    split at hk
    ·rename_i tj l k Nh hl hh;obtain⟨zs,⟨⟨k1,k2,k3⟩,ew,hb⟩,hk⟩:=hk;rw[hI]at k1 hb;have k1:xs.length=m:=k1
     subst k3;refine⟨_,hk,fun hp=>?_⟩;obtain⟨⟨h0,h1,h2⟩,rfl⟩:=bR hb hp;have h2:k≤(m:Int):=h2
     have hx:=h.ev hp x
     rw[er]at hx;cases hx with
     |nG _ _ _ _ hz hc=>
     generalize eK:a.eval x=v at hc;cases hc with
     |aX _ _ _ b o' u hr nw gZ hu hq=>
     have e1:(l.toNat:Int)=l:=Fv h0
     have e2:(k.toNat:Int)=k:=Fv (by omega)
     obtain⟨i,dd,zz,g1,g2,g3,g4,g5,g6,g7⟩:=(hL.ok e _ Nh).ex;have eY:=Hz hL uX kH b o' (l:=l.toNat) (h:=k.toNat) (m:=m) (lo:=lo.map a.eval) (hi:=hi.map a.eval) (fun w=>r7 P false m m _ _ _ _ (by
       rcases qc hl h hp h0 with⟨g1,g2⟩|⟨q,g⟩
       ·exact .inl ⟨g1,by omega⟩
       ·exact .inr ⟨q,g⟩) (by
       rcases qc hh h hp (by omega)with⟨g1,g2⟩|⟨q,g⟩
       ·exact .inl ⟨g1,by omega⟩
       ·exact .inr ⟨q,g⟩) (by omega) (by omega) (Nat.le_refl _) w) g1 w
     rw[g2]at eY;have fin: ∀y,(Instr.sliceAt t (.pointer (some ⟨b,o',none⟩)) (lo.map a.eval) (hi.map a.eval) none).run P w= .ok y w→(execOp a.eval o).run P w= .ok (.value y) w:=fun y hy=>by
      simp only[execOp,he,eK,Option.map_none];simp[hy]
     refine⟨_,fin _ eY,?_⟩;by_cases Ze:k.toNat - l.toNat=0
     ·rw[Ze];show Cz E (.sl r ((xs.take k.toNat).drop l.toNat)) _;rw[List.drop_eq_nil_of_le (by simp;omega)];exact .pd _ _ _
     ·rw[if_neg (by omega)];have hlen:((xs.take k.toNat).drop l.toNat).length=k.toNat - l.toNat:=by simp;omega
      have get: ∀q a',((xs.take k.toNat).drop l.toNat).flatten[q]? =some a'→xs.flatten[l.toNat*tj.size+q]? =some a':=fun q a' ha=>TM hz (by omega) ha
      have:=Cz.sl (E:=E) r ((xs.take k.toNat).drop l.toNat) tj.size b (o'+l.toNat*tj.size) (m - l.toNat) (fun q=>u (l.toNat*tj.size+q)) (by omega) (by omega) (by unfold maxLen;omega) (Gn ew) (fun y hy=>hz y (List.mem_of_mem_take (List.mem_of_mem_drop hy))) (hr 0 _ (eH (by rw[aH hz];exact Nat.mul_pos (by omega) (Gn ew)))) (fun q a' ha=>nw _ a' (get q a' ha))
       (fun q a' ha=>by have:=gZ _ a' (get q a' ha);rw[show o'+l.toNat*tj.size+q=o'+(l.toNat*tj.size+q)from by omega];exact this)
       (fun q a' ha=>by have:=hu _ a' (get q a' ha);rw[show o'+l.toNat*tj.size+q=o'+(l.toNat*tj.size+q)from by omega];exact this) (fun q a' ha=>hq _ a' (get q a' ha))
      rw[hlen]at this;exact this
    ·exact hk.elim
   ·exact hk.elim
  ·exact hk.elim
 ·split at hk
  ·rename_i at5 ai0 at4 _ _ _ r xs e ti h1 h2
   split at hk
   ·rename_i l k h3 h4;obtain⟨zs,g1,g2⟩:=hk;refine pw (fun hp=>base ?_) (fun _=>⟨_,g2⟩);obtain⟨g3,rfl⟩:=bR g1 hp;unfold Cc
    split
    ·rename_i hh;exact absurd hh (at5 _)
    ·rename_i hh;exact absurd hh (ai0 _ _)
    ·rename_i hh;exact absurd hh (at4 _ _)
    rw[h1,h2];dsimp only;rw[h3,h4];exact⟨uz g3,g2⟩
   ·exact hk.elim
  ·exact hk.elim
end Ab
namespace Ab
open Go
variable{P:Program}{L:pN}{E0 E E':Env}{w0 w w':World}{s:St}{a:Act}{p:Path}{C:ey}
open Classical in
noncomputable def lN(k:Value):List MapEntry→Nat→Option (Nat×Value)
 |[],_=>none
 |e::es,i=>if e.key=k then some (i,e.val)else lN k es (i+1)
theorem DT{k:Value}: ∀{es:List MapEntry} {n:Nat},(∀e∈es,e.key≠k)→lN k es n=none
 |[],_,_=>rfl
 |e::es,n,h=>by unfold lN;rw[if_neg (h e (by simp))];exact DT fun e' he=>h e' (by simp[he])
theorem DS{k:Value}: ∀{es:List MapEntry} {n i:Nat} {e:MapEntry},es[i]? =some e→e.key=k→(∀j e',j<i→es[j]? =some e'→e'.key≠k)→lN k es n=some (n+i,e.val)
 |[],n,i,e,h,_,_=>by simp at h
 |x::es,n,0,e,h,hk,_=>by simp at h;subst h;unfold lN;rw[if_pos hk];rfl
 |x::es,n,i+1,e,h,hk,hj=>by
  unfold lN;rw[if_neg (hj 0 x (by omega) rfl),DS (es:=es) (n:=n+1) (i:=i) (by simpa using h) hk (fun j e' bc hq=>hj (j+1) e' (by omega) (by simpa using hq))];congr 2;omega
structure KeyLaw(P:Program)(t:Nat)(ks:List VK):Prop where
 check: ∀kv,bN ks kv=true→ ∀b w,(Instr.checkKey b 10000 t (gS kv)).run P w= .ok () w
 find: ∀kv (es:List MapEntry),bN ks kv=true→(∀e∈es,∃B4,bN ks B4=true∧e.key=gS B4)→ ∀w,(Instr.findKey t (gS kv) es).run P w= .ok (lN (gS kv) es 0) w
 same: ∀kv,bN ks kv=true→Instr.sameBits 10000 (gS kv) (gS kv)=true
structure wU(P:Program)(t:Nat)(ks:List VK):Prop where
 eq: ∀xs ys:List Value,bN ks xs=true→bN ks ys=true→ ∃b:Bool,(b=true↔xs=ys)∧ ∀w,(Op.equalIn 10000 t (.agg xs.toArray) (.agg ys.toArray)).run P w= .ok b w
 guard:P.eqGuardType P.depth t=false
theorem jK: ∀{ks:List VK} {kv:List Value},bN ks kv=true→kv.length=ks.length
 |[],[],_=>rfl
 |k::r,x::q,h=>by
  have:bN r q=true:=by
   cases k<;>cases x<;>simp_all [bN]
  simp[jK this]
 |[],_::_,h=>by simp[bN]at h
 |k::_,[],h=>by cases k<;>simp[bN]at h
theorem BA: ∀{ks:List VK} {cs:List AV},pj ks cs=true→ ∃kv:List Value,cs=kv.map .v∧bN ks kv=true
 |[],[],_=>⟨[],rfl,rfl⟩
 |[],_::_,h=>by simp[pj]at h
 |k::r,[],h=>by cases k<;>simp[pj]at h
 |k::r,c0::cs0,h=>by
  generalize Lt:c0::cs0=cs at h ⊢;unfold pj at h
  split at h
  ·rename_i h1;exact absurd h1 (by simp)
  ·rename_i k' r' k2 n q h1;injection h1 with e1 e2;subst e1;subst e2;simp only[Bool.and_eq_true]at h;obtain⟨kv,rfl,h3⟩:=BA h.2;exact⟨.int k2 n::kv,rfl,by simp[bN,h3];simpa using h.1⟩
  ·rename_i r' b q h1;injection h1 with e1 e2;subst e1;subst e2;obtain⟨kv,rfl,h3⟩:=BA h;exact⟨.string b::kv,rfl,by simpa[bN]using h3⟩
  ·rename_i r' b q h1;injection h1 with e1 e2;subst e1;subst e2;obtain⟨kv,rfl,h3⟩:=BA h;exact⟨.bool b::kv,rfl,by simpa[bN]using h3⟩
  ·cases h
theorem Xe{a b:List Value}(hl:a.length=b.length)(h:gS a=gS b):a=b:=by
 match a,b,hl,h with
 |[],[],_,_=>rfl
 |[x],[y],_,h=>simpa[gS]using h
 |x::x2::r,y::y2::q,_,h=>simpa[gS]using h
theorem CC: ∀{a b:List Value},a.map AV.v=b.map AV.v→a=b
 |[],[],_=>rfl
 |x::r,y::q,h=>by simp only[List.map_cons,List.cons.injEq,AV.v.injEq]at h;rw[h.1,CC h.2]
 |[],_::_,h=>by simp at h
 |_::_,[],h=>by simp at h
theorem JF: ∀{kv ys:List Value},ys.length=kv.length→(∀(q:Nat) (a:AV) (y:Value),(kv.map AV.v)[q]? =some a→ys[q]? =some y→Cz E a y)→ys=kv
 |[],[],_,_=>rfl
 |x::r,y::q,hl,h=>by
  have h0:=h 0 (.v x) y rfl rfl
  have e:y=x:=by cases h0;rfl
  rw[e,JF (kv:=r) (ys:=q) (by simpa using hl) fun j a v ha hv=>h (j+1) a v (by simpa using ha) (by simpa using hv)]
 |[],_::_,hl,_=>by simp at hl
 |_::_,[],hl,_=>by simp at hl
theorem KJ{ks:List VK}{k:AV}{v:Value}(hc:Cz E k v)(hf:DR ks k=true): ∃kv:List Value,v=gS kv∧bN ks kv=true∧cellsOf k=kv.map .v:=by
 simp only[DR,Bool.and_eq_true]at hf;obtain⟨h1,h2⟩:=hf;obtain⟨kv,h3,h4⟩:=BA h2;refine⟨kv,?_,h4,h3⟩;unfold M4 at h1
 split at h1
 ·rename_i x;have:cellsOf (.v x)=[.v x]:=by cases x<;>first|rfl|(simp[tT]at h1)
  cases hc;rw[this]at h3
  match kv,h3 with
  |[y],h3=>simp at h3;rw[h3];rfl
 ·rename_i cs;cases hc with
  |agg _ ys hl hq=>
   have h3:cs=kv.map .v:=h3
   subst h3;have:=JF (E:=E) (kv:=kv) (ys:=ys) (by simpa using hl) hq
   subst this
   match ys,h1 with
   |x::y::r,_=>rfl
   |[x],h1=>simp at h1
   |[],h1=>simp at h1
 ·cases h1
theorem wg(hL:bG P C.L){t k e:Nat}{ks:List VK}{ti:TI}(h:CF C t=some (ks,k,e,ti)):P.underlying t=some (.map k e)∧C.keys k=some ks∧C.L e=some ti:=by
 unfold CF at h
 split at h
 ·rename_i sz bt zz k' e' uX
  split at h
  ·rename_i Uf Oz h1 h2;cases h;obtain⟨i,d,z,g1,g2,g3,g4,g5,g6,g7⟩:=(hL.ok t _ uX).ex;dsimp only at g7;subst g7;exact⟨g6,h1,h2⟩
  ·cases h
 ·cases h
theorem xN{ks:List VK}{xs:List (List AV)}{es:Array MapEntry}{u:Nat→Value}{kv:List Value}(ef:es.size=xs.length)(gT:bN ks kv=true)
  (oE: ∀(i:Nat) (row:List AV) (e:MapEntry),xs[i]? =some row→es[i]? =some e→ ∃kv:List Value,bN ks kv=true∧row.take ks.length=kv.map .v∧e.key=gS kv∧u (i*(ks.length+1)+ks.length)=e.val∧ ∀j x,kv[j]? =some x→u (i*(ks.length+1)+j)=x):
  (∀e∈es.toList,∃B4,bN ks B4=true∧e.key=gS B4)∧(∀i,zE xs (kv.map .v) (some i)→ ∃e,es[i]? =some e∧e.key=gS kv∧lN (gS kv) es.toList 0=some (i,e.val))∧(zE xs (kv.map .v) none→lN (gS kv) es.toList 0=none):=by
 have hlen:=jK gT
 have lg: ∀(i:Nat) (e:MapEntry),es[i]? =some e→ ∃row,xs[i]? =some row:=fun i e he=>by
  have:i<xs.length:=by rw[←ef];exact(Array.getElem?_eq_some_iff.1 he).1
  exact⟨xs[i],by simp[this]⟩
 have dj: ∀(i:Nat) (row:List AV) (e:MapEntry),xs[i]? =some row→es[i]? =some e→(e.key=gS kv↔row.take (kv.map AV.v).length=kv.map .v):=fun i row e hr he=>by
  obtain⟨B4,h1,h2,h3,_⟩:=oE i row e hr he;rw[List.length_map,hlen,h2,h3];exact⟨fun h=>by rw[Xe (by rw[jK h1,hlen]) h],fun h=>by rw[CC h]⟩
 refine⟨fun e he=>?_,fun i hm=>?_,fun hm=>?_⟩
 ·obtain⟨i,hi⟩:=List.getElem?_of_mem he;rw[Array.getElem?_toList]at hi;obtain⟨row,hr⟩:=lg i e hi;obtain⟨B4,h1,_,h3,_⟩:=oE i row e hr hi;exact⟨B4,h1,h3⟩
 ·obtain⟨row,h1,h2,h3⟩:=hm;have bc:i<es.size:=by rw[ef];exact(bq.1 h1).1
  have he:es[i]? =some es[i]:=by simp[bc]
  have hk:=(dj i row _ h1 he).2 h2
  refine⟨es[i],he,hk,?_⟩;have:=DS (n:=0) (i:=i) (e:=es[i]) (es:=es.toList) (by rw[Array.getElem?_toList];exact he) hk (fun j e' hj ri=>by
   rw[Array.getElem?_toList]at ri;obtain⟨SB,B7⟩:=lg j e' ri;exact fun hh=>h3 j SB hj B7 ((dj j SB e' B7 ri).1 hh))
  rwa [Nat.zero_add]at this
 ·refine DT fun e he hh=>?_;obtain⟨i,hi⟩:=List.getElem?_of_mem he;rw[Array.getElem?_toList]at hi;obtain⟨row,hr⟩:=lg i e hi;exact hm row (fU hr) ((dj i row e hr hi).1 hh)
theorem r6{r:Nat}{es:Array MapEntry}{clock:Nat}(h:w.heap[r]? =some (.map es clock)):(getObj r).run P w= .ok (.map es clock) w:=by
 unfold getObj;simp[Sem.run,h]
theorem zj(hL:bG P C.L)(Ze: ∀t ks,C.keys t=some ks→KeyLaw P t ks)(h:bJ E0 E w0 w s a){o:Oper}{t:Nat}{m k:Operand}(he:o.op= .lookup t m k false){K:bB}(hk:Jo C p t (cd s p m) (cd s p k) s K):Reads P E w a o s p K:=by
 unfold Jo at hk
 split at hk
 ·rename_i ks kt et ti d hko er;obtain⟨hu,hkk,Nq⟩:=wg hL hko;have kl:=Ze _ _ hkk
  split at hk
  ·rename_i Uf xs z gC hzero;cases hf:(DR ks (cd s p k)&&(!ti.agg&&tT z))with
   |false=>rw[hf]at hk;exact hk.elim
   |true=>
    rw[hf,az]at hk;simp only[Bool.and_eq_true]at hf;obtain⟨N6,hf2,hf3⟩:=hf;obtain⟨r,⟨e0,anM,Y9,hub⟩,hk⟩:=hk;subst e0;refine⟨r,hk,fun hp=>?_⟩;have hx:=h.ev hp m
    rw[er]at hx;cases eK:a.eval m<;>rw[eK]at hx<;>cases hx;obtain⟨kv,hv,gT,GF⟩:=KJ (h.ev hp k) N6;obtain⟨hl,ho,hs,nw,u,⟨Rw,es,clock,hb,_,GB,_,_,oE⟩,hq,_⟩:=h.bx d _ gC;obtain⟨q1,q2,q3⟩:=xN GB gT oE;have abF:=bR hub hp
    rw[GF]at abF;obtain⟨i,dd,zz,i1,i2,i3,i4,i5,i6,i7⟩:=(hL.ok _ _ Nq).ex;have hzv:zz=z:=by
     rw[hzero]at i5;cases zz<;>first|(simp[Value.cells]at i5;exact i5)|skip
     ·rename_i cells;exfalso;have vh:ti.agg=false:=by simpa using hf2
      have:=(hL.ok _ _ Nq).zv vh i _ i1 i4
      cases this
    have hzr:(zeroValue et).run P w= .ok z w:=by
     unfold zeroValue;simp[Sem.run_bind,typeInfo,program,Sem.run,Result.andThen,i1,i4,hzv]
    have eY: ∀r,lN (gS kv) es.toList 0=r→(execOp a.eval o).run P w= .ok (.value (match r with|some (_,v)=>v|none=>z)) w:=fun r hr=>by
     simp only[execOp,he,eK,hv,Instr.lookup];simp only[Sem.run_bind,fa hu,Result.andThen_ok,r6 (show w.heap[E.m (.s d)]? =_ by rw[h.heap];exact hb),Sem.run_pure,kl.check kv gT,kl.find kv es.toList gT q1,hr];cases r with
     |none=>simp[Sem.run_bind,hzr]
     |some r=>simp
    rcases abF with⟨i,row,a0,g1,g2,g3,g4⟩|⟨g1,g2⟩
    ·obtain⟨e,h1,h2,h3⟩:=q2 i g1;refine⟨_,eY _ h3,ir g4 ?_⟩;obtain⟨B4,h4,h5,h6,h7,h8⟩:=oE i row e g2 h1;dsimp only;rw[←h7];refine hq _ _ ?_;rw[eF Rw g2 ks.length (by omega)];rw[List.length_map,jK gT]at g3;exact g3
    ·exact⟨_,eY _ (q3 g1),ir g2 (.v _)⟩
  ·exact hk.elim
 ·exact hk.elim
theorem Fe(hL:bG P C.L)(h:bJ E0 E w0 w s a){o:Oper}{t d:Nat}(he:o.op= .makeMap t none){K:bB}{Q:Exit→Act→World→Prop}(hk:Ff C t d s K):mS P o a w (hZ E0 w0 o a K) Q:=by
 unfold Ff at hk;generalize C.base+d=d at hk
 split at hk
 ·rename_i ks k e ti hko gC;obtain⟨zs,rfl,hk⟩:=hk;have Bt: ¬E.live (.s d):=fun hl=>by obtain⟨ob,ho⟩:=h.lv d hl;rw[gC]at ho;cases ho
  have hA:AA E d E.h.size (E.h.push (.map #[] 0)):=⟨Bt,.inl rfl,fun b' fP dj=>by rw[Array.getElem?_push,if_neg (by omega)],by simp,by simp⟩
  have wj:cB (E.cM d E.h.size (0,0) (E.h.push (.map #[] 0))) (.s d) (.ow (.mp ks none) none []):=by
   refine⟨.inl rfl,by simp[Env.cM],fun o hs=>?_,fun q a ha=>by simp at ha,fun _=>undef,⟨fun l hl=>by simp at hl,#[],0,by simp[Env.cM],fun i z hz=>(by cases hz),rfl,fun i e he=>by simp at he,fun i j e e' he=>by simp at he,fun i row e hr=>by simp at hr⟩,fun q a ha=>by simp at ha,fun q r ys hq=>by simp at hq,fun q q' r r' ys Fa b hq=>by simp at hq⟩;have:E.aR E.h.size o:=by simpa[Env.cM]using hs
   have:=h.wf.aR _ _ this
   omega
  have hA':AA E d E.h.size ({w with heap:=w.heap.push (.map #[] 0)}:World).heap:=by show AA E d E.h.size (w.heap.push _);rw[h.heap];exact hA
  have hs':=h.cM (w':={w with heap:=w.heap.push (.map #[] 0)}) (n:=(0,0)) gC hA' ⟨rfl,rfl,rfl⟩ (by show cB (E.cM d E.h.size (0,0) (w.heap.push _)) _ _;rw[h.heap];exact wj)
  refine dq (x:= .map (some w.heap.size)) (w':={w with heap:=w.heap.push (.map #[] 0)}) ?_ ⟨_,_,_,hk,hs',?_⟩
  ·simp only[execOp,he,Option.map_none];simp[Instr.makeMap,newObj,Sem.run,Sem.run_bind,Result.andThen]
  ·have:=Cz.mp (E:=E.cM d E.h.size (0,0) ({w with heap:=w.heap.push (.map #[] 0)}:World).heap) (.s d) (.inl rfl)
   have e:(E.cM d E.h.size (0,0) ({w with heap:=w.heap.push (.map #[] 0)}:World).heap).m (.s d)=w.heap.size:=by simp[Env.cM,h.heap]
   rwa [e]at this
 ·exact hk.elim
theorem map_push(hw:Wf E){d:Nat}{ks:List VK}{xs:List (List AV)}(wj:cB E (.s d) (.ow (.mp ks none) none xs)){kv:List Value}(gT:bN ks kv=true){av:AV}{v:Value}(hc:Cz E av v)(hi:cH av=true)(hnr: ∀r ys,av= .sl r ys→ys=[]∧v= .slice none 0 0)
  {es:Array MapEntry}{clock:Nat}(hb:E.h[E.m (.s d)]? =some (.map es clock))(st:Option (Nat×Int))(gZ: ∀i z,st=some (i,z)→i=xs.length∧z=clock):
  ∃u,Hg (.mp ks st) (E.len (.s d)) (some (.map (es.push {key:=gS kv,val:=v,born:=clock}) (clock+1))) (xs++[kv.map AV.v++[av]]) u∧(∀(q:Nat) (a:AV),(xs++[kv.map AV.v++[av]]).flatten[q]? =some a→cH a=true∧Cz E a (u q))∧H0 E (.n d) (ks.length+1) none (xs++[kv.map AV.v++[av]]) u∧u (xs.length*(ks.length+1)+ks.length)=v:=by
 obtain⟨hl,ho,hs,nw,u0,⟨Rw,es',akz,fP,_,GB,hbn,vc,oE⟩,hq,wS⟩:=wj;rw[hb]at fP;cases fP;have Ze:=jK gT
 have hD:=aH Rw
 have atP: ∀l∈xs++[kv.map AV.v++[av]],l.length=ks.length+1:=fun l hl=>by
  rcases List.mem_append.1 hl with h|h
  ·exact Rw l h
  ·simp at h;subst h;simp[Ze]
 let n:=xs.length*(ks.length+1);let u:Nat→Value:=fun q=>if q<n then u0 q else if q=n+ks.length then v else(kv[q - n]?).getD undef;have D6: ∀q,q<n→u q=u0 q:=fun q hq=>by simp only[u];rw[if_pos hq]
 have uv:u (n+ks.length)=v:=by simp only[u];rw[if_neg (by omega)];simp
 have alP: ∀j x,kv[j]? =some x→u (n+j)=x:=fun j x hx=>by
  have hj:=(bq.1 hx).1
  simp only[u];rw[if_neg (by omega),if_neg (by omega),Nat.add_sub_cancel_left,hx];rfl
 have rj: ∀(q:Nat) (a:AV),(xs++[kv.map AV.v++[av]]).flatten[q]? =some a→(q<n∧xs.flatten[q]? =some a)∨(q=n+ks.length∧a=av)∨ ∃j x,q=n+j∧kv[j]? =some x∧a= .v x:=by
  intro q a ha;rw[List.flatten_append]at ha;by_cases bc:q<xs.flatten.length
  ·rw[gg bc]at ha;exact .inl ⟨by omega,ha⟩
  ·rw[iY (by omega)]at ha;simp only[List.flatten_cons,List.flatten_nil,List.append_nil]at ha;by_cases hk:q - xs.flatten.length<kv.length
   ·rw[gg (by rw[List.length_map];exact hk),List.getElem?_map]at ha;refine .inr (.inr ⟨q - xs.flatten.length,kv[q - xs.flatten.length],by omega,by simp[hk],?_⟩);rw[eH hk]at ha;cases ha;rfl
   ·rw[iY (by rw[List.length_map];omega)]at ha;have:q - xs.flatten.length - (kv.map AV.v).length=0:=by
     have:=(bq.1 ha).1
     simp only[List.length_cons,List.length_nil]at this;omega
    have hq0:=this
    rw[this]at ha;simp at ha;rw[List.length_map]at hq0;exact .inr (.inl ⟨by omega,ha.symm⟩)
 refine⟨u,⟨atP,_,_,rfl,fun i z hz=>?_,by simp[GB],fun i e he=>?_,fun i j e e' he ri wm=>?_,fun i row e hr he=>?_⟩,fun q a ha=>?_,⟨fun q r ys xd _=>?_,fun q q' r r' ys Fa b hq1 hq2 _ _ dj AF=>?_⟩,uv⟩
 ·obtain⟨e1,e2⟩:=gZ i z hz;exact⟨{key:=gS kv,val:=v,born:=clock},by rw[e1,←GB];simp,e2.symm⟩
 ·rw[Array.getElem?_push]at he
  split at he
  ·cases he;exact Nat.lt_succ_self _
  ·exact Nat.lt_succ_of_lt (hbn i e he)
 ·rw[Array.getElem?_push]at he ri
  split at he
  ·split at ri
   ·omega
   ·cases he;have:=hbn j e' ri
    simp only at wm;omega
  ·split at ri
   ·cases ri;have:=hbn i e he
    simp only at wm;omega
   ·exact vc i j e e' he ri wm
 ·by_cases hi:i<xs.length
  ·rw[gg hi]at hr;rw[Array.getElem?_push,if_neg (by omega)]at he;obtain⟨B4,h1,h2,h3,h4,h5⟩:=oE i row e hr he;have hmul:i*(ks.length+1)+(ks.length+1)≤n:=by rw[←Nat.succ_mul];exact Nat.mul_le_mul_right _ hi
   refine⟨B4,h1,h2,h3,by rw[D6 _ (by omega)];exact h4,fun j x hx=>?_⟩;have hj:=(bq.1 hx).1
   rw[jK h1]at hj;rw[D6 _ (by omega)];exact h5 j x hx
  ·have hie:i=xs.length:=by
    have:=(bq.1 hr).1
    simp at this;omega
   subst hie;rw[iY (Nat.le_refl _),Nat.sub_self]at hr;rw[Array.getElem?_push,if_pos GB.symm]at he;cases he;simp at hr;subst hr;exact⟨kv,gT,by rw[←Ze,List.take_append_of_le_length (by simp),List.take_of_length_le (by simp)],rfl,uv,fun j x hx=>alP j x hx⟩
 ·rcases rj q a ha with⟨h0,h1⟩|⟨h0,rfl⟩|⟨j,x,h0,h1,rfl⟩
  ·rw[D6 q h0];exact⟨nw q a h1,hq q a h1⟩
  ·rw[h0,uv];exact⟨hi,hc⟩
  ·rw[h0,alP j x h1];exact⟨rfl,.v _⟩
 ·rcases rj q _ xd with⟨h0,h1⟩|⟨h0,h1⟩|⟨j,x,h0,h1,h2⟩
  ·rw[D6 q h0];exact wS.1 q r ys h1 (fun hh=>hh)
  ·obtain⟨e1,e2⟩:=hnr r ys h1.symm;rw[h0,uv];exact .inl ⟨e1,e2⟩
  ·cases h2
 ·rcases rj q _ hq1 with⟨h0,h1⟩|⟨h0,h1⟩|⟨j,x,h0,h1,h2⟩
  ·rcases rj q' _ hq2 with⟨h0',Um⟩|⟨h0',Um⟩|⟨j,x,h0',Um,Nr⟩
   ·rw[D6 q h0]at AF;rw[D6 q' h0'];exact wS.2 q q' r r' ys Fa b h1 Um (fun hh=>hh) (fun hh=>hh) dj AF
   ·rw[h0',uv,(hnr r' Fa Um.symm).2];intro hh;cases hh
   ·cases Nr
  ·rw[h0,uv,(hnr r ys h1.symm).2]at AF;cases AF
  ·cases h2
theorem Hs(hL:bG P C.L)(hI:C.I=ak)(Ze: ∀t ks,C.keys t=some ks→KeyLaw P t ks)(h:bJ E0 E w0 w s a){o:Oper}{t:Nat}{m k v:Operand}(he:o.op= .insert t m k v){K:bB}{Q:Exit→Act→World→Prop}(hk:Jp C t (cd s [] m) (cd s [] k) (cd s [] v) s K):mS P o a w (hZ E0 w0 o a K) Q:=by
 unfold Jp at hk
 split at hk
 ·rename_i ks kt et ti d hko er;obtain⟨hu,hkk,Nq⟩:=wg hL hko;have kl:=Ze _ _ hkk
  split at hk
  ·rename_i Uf xs gC;cases hf:(DR ks (cd s [] k)&&(isV (cd s [] v)&&WN (cd s [] v)))with
   |false=>rw[hf]at hk;exact hk.elim
   |true=>
    rw[hf,az]at hk;simp only[Bool.and_eq_true]at hf;obtain⟨N6,hf2,hf3⟩:=hf;obtain⟨zs,⟨e0,hub,e1⟩,hk⟩:=hk;subst e0;rw[hI]at e1;have e1:xs++[cellsOf (cd s [] k)++[cd s [] v]]=zs:=e1
    subst e1;have hx:=h.ev (p:=[]) trivial m
    rw[er]at hx;cases eK:a.eval m<;>rw[eK]at hx<;>cases hx;obtain⟨kv,hv,gT,GF⟩:=KJ (h.ev (p:=[]) trivial k) N6;have hcv:=h.ev (p:=[]) trivial v
    (obtain⟨xv,hxv⟩: ∃x,cd s [] v= .v x:=by cases hvv:cd s [] v<;>rw[hvv]at hf2<;>first|exact⟨_,rfl⟩|(simp[isV]at hf2));have wj:=h.bx d _ gC
    have aiX:=wj
    obtain⟨hl,ho,hs,nw,u,⟨Rw,es,clock,hb,_,GB,_,_,oE⟩,hq,_⟩:=wj;obtain⟨q1,q2,q3⟩:=xN GB gT oE;rw[GF]at hub hk;have Xt:=q3 hub
    have N8:w.heap[E.m (.s d)]? =some (.map es clock):=by rw[h.heap];exact hb
    obtain⟨u',g1,g2,g3,_⟩:=map_push h.wf aiX gT hcv (by rw[hxv];rfl) (fun r ys e=>by rw[hxv]at e;cases e) hb none (fun i z hz=>by cases hz);have hE:=jC (E:=E) ho hs (.map (es.push {key:=gS kv,val:=a.eval v,born:=clock}) (clock+1))
    have bc:E.m (.s d)<E.h.size:=(Array.getElem?_eq_some_iff.1 hb).1
    have cz: ∀{a0:AV} {x:Value},Cz E a0 x→Cz (E.write (.s d) (.map (es.push {key:=gS kv,val:=a.eval v,born:=clock}) (clock+1))) a0 x:=fun{a0 x} hc=>by
     have:=(hc.ext hE h.wf (fun _=>false) (gw _)).1
     rwa [lF (fun _=>rfl)]at this
    have xU:cB (E.write (.s d) (.map (es.push {key:=gS kv,val:=a.eval v,born:=clock}) (clock+1))) (.s d) (.ow (.mp ks none) none (xs++[kv.map AV.v++[cd s [] v]])):=by
     refine⟨hl,ho,hs,fun q a0 ha=>(g2 q a0 ha).1,u',?_,fun q a0 ha=>cz (g2 q a0 ha).2,g3.mono fun b IU Xw=>?_⟩
     ·have:(E.write (.s d) (.map (es.push {key:=gS kv,val:=a.eval v,born:=clock}) (clock+1))).h[E.m (.s d)]? =some (.map (es.push {key:=gS kv,val:=a.eval v,born:=clock}) (clock+1)):=Array.getElem?_setIfInBounds_self_of_lt bc
      show Hg _ (E.len (.s d)) ((E.write (.s d) _).h[E.m (.s d)]?) _ _;rw[this];exact g1
     ·have dj:b≠E.m (.s d):=fun e=>by rw[e,ho]at IU;cases IU
      refine⟨IU,?_,fun _=>Iff.rfl,rfl⟩;show(E.h.setIfInBounds (E.m (.s d)) _)[b]? =_;rw[Array.getElem?_setIfInBounds_ne (Ne.symm dj)]
    refine xl (w':={w with heap:=w.heap.setIfInBounds (E.m (.s d)) (.map (es.push {key:=gS kv,val:=a.eval v,born:=clock}) (clock+1))}) ?_ ⟨_,_,_,hk,h.rR gC xU rfl ⟨rfl,rfl,rfl⟩ ho hs,.any _⟩;simp only[execOp,he,eK,hv];simp[Instr.mapUpdate,Sem.run_bind,fa hu,r6 N8,kl.check kv gT,kl.find kv es.toList gT q1,Xt,MapKept.run_setObj_map _ N8,Result.andThen]
  ·exact hk.elim
 ·exact hk.elim
end Ab
namespace Ab
open Go
variable{P:Program}{L:pN}{E0 E E':Env}{w0 w w':World}{s:St}{a:Act}{p:Path}{C:ey}
theorem QP{α:Type}(d:Nat)(x y:α): ∀t:List (Nat×α),dt d x (dt d y t)=dt d x t
 |[]=>by simp[dt]
 |(k,z)::r=>by
  simp only[dt];cases h1:dy k d with
  |true=>simp[dt]
  |false=>
   cases h2:tZ d k with
   |true=>simp[dt]
   |false=>simp only[aC,dt,h1,h2,QP d x y r]
theorem L5(T:Tok→Bool)(d:Nat)(x:Ob): ∀t,gd T (dt d x t)=dt d (zo T x) (gd T t)
 |[]=>by simp[dt,gd]
 |(k,z)::r=>by
  simp only[dt,gd];cases h1:dy k d with
  |true=>simp[gd]
  |false=>
   cases h2:tZ d k with
   |true=>simp[gd]
   |false=>simp only[aC,gd,L5 T d x r]
theorem MQ{ks:List VK}{st:Option (Nat×Int)}{len:Nat×Nat}{es:Array MapEntry}{clock:Nat}{xs:List (List AV)}{u:Nat→Value}(h:Hg (.mp ks st) len (some (.map es clock)) xs u){i:Nat}{e:MapEntry}(he:es[i]? =some e):Hg (.mp ks (some (i,(e.born:Int)))) len (some (.map es clock)) xs u:=by
 obtain⟨h1,es',akz,h2,h3,h4,h5,h6,h7⟩:=h;cases h2;exact⟨h1,es,clock,rfl,fun j z hz=>by cases hz;exact⟨e,he,rfl⟩,h4,h5,h6,h7⟩
theorem Jr(hL:bG P C.L)(hI:C.I=ak)(Ze: ∀t ks,C.keys t=some ks→KeyLaw P t ks)(h:bJ E0 E w0 w s a){o:Oper}{t d:Nat}{m k:Operand}(he:o.op= .mapEntry t m k){K:bB}{Q:Exit→Act→World→Prop}(hk:Oh C t d (cd s [] m) (cd s [] k) s K):mS P o a w (hZ E0 w0 o a K) Q:=by
 unfold Oh at hk
 split at hk
 ·rename_i ks kt et ti q hko er;obtain⟨hu,hkk,Nq⟩:=wg hL hko;have kl:=Ze _ _ hkk
  split at hk
  ·rename_i es0 Uf xs kH gC;cases hf:DR ks (cd s [] k)with
   |false=>rw[hf]at hk;exact hk.elim
   |true=>
    rw[hf,az]at hk;obtain⟨zs,i,r,ys,⟨e0,hz1,Tu,hen⟩,hk⟩:=hk;subst e0;have hx:=h.ev (p:=[]) trivial m
    rw[er]at hx;cases eK:a.eval m<;>rw[eK]at hx<;>cases hx;obtain⟨kv,hv,gT,GF⟩:=KJ (h.ev (p:=[]) trivial k) hf;have wj:=h.bx q _ gC
    have aiX:=wj
    obtain⟨hl,ho,hs,nw,u,uw,hq,wS⟩:=wj;have TA:=uw
    obtain⟨Rw,es,clock,hb,_,GB,_,_,oE⟩:=uw;rw[hb]at TA;obtain⟨q1,q2,q3⟩:=xN GB gT oE;have N8:w.heap[E.m (.s q)]? =some (.map es clock):=by rw[h.heap];exact hb
    have aob:=jK gT
    rw[GF]at hen;rcases hen with⟨hm,rfl,row,h1,h2⟩|⟨hm,h1,h2,h3,h4⟩
    ·obtain⟨e,g1,g2,g3⟩:=q2 i hm;rw[List.length_map,aob]at h2;have hD:xs.flatten[i*(ks.length+1)+ks.length]? =some (.sl r ys):=by rw[eF Rw h1 ks.length (by omega)];exact h2
     obtain⟨E',k1,k2⟩:=CD h gC (by rw[hb];exact TA) hq wS (p':= .mp ks (some (i,(e.born:Int)))) hD (.l (C.base+d)) rfl (by rw[hb];exact MQ TA g1);obtain⟨B4,f1,f2,f3,f4,f5⟩:=oE i row e h1 g1;have at6:es.modify i (fun e=>{e with key:=gS kv})=es:=by
      apply Array.ext (by simp);intro j j1 j2;rw[Array.getElem_modify]
      split
      ·rename_i hij;subst hij;have:es[i]=e:=by rw[Array.getElem?_eq_getElem j2]at g1;injection g1
       rw[this,←g2]
      ·rfl
     have xc:w.heap.setIfInBounds (E.m (.s q)) (.map es clock)=w.heap:=by
      apply Array.ext (by simp);intro j j1 j2;by_cases hj:E.m (.s q)=j
      ·subst hj;rw[Array.getElem_setIfInBounds_self];rw[Array.getElem?_eq_getElem j2]at N8;injection N8 with N8;exact N8.symm
      ·rw[Array.getElem_setIfInBounds_ne j2 hj]
     refine dq (x:= .tuple #[e.val,.int .i64 e.born]) (w':=w) ?_ ⟨_,_,E',hk e.born,k1,?_⟩
     ·simp only[execOp,he,eK,hv];simp[Instr.mapEntry,Sem.run_bind,fa hu,r6 N8,kl.check kv gT,kl.find kv es.toList gT q1,g3,g1,g2,Instr.keyThatStays,kl.same kv gT,MapKept.run_setObj_map _ N8,Result.andThen,at6,xc,goInt]
     ·exact Cz.gY (E:=E') _ [e.val,.int .i64 e.born] rfl fun j b y fP hy=>by
       match j,fP,hy with
       |0,fP,hy=>simp at fP hy;subst fP;subst hy;have k2':Cz E' (.gs r (.l (C.base+d)) ys) (u (i*(ks.length+1)+ks.length)):=k2;rw[f4]at k2';exact k2'
       |1,fP,hy=>simp at fP hy;subst fP;subst hy;exact .v _
       |j+2,fP,_=>simp at fP
    ·rw[hI]at h1 h2;have h1:xs++[kv.map AV.v++[AV.sl C.ρ []]]=zs:=h1
     have h2:xs.length=i:=h2
     subst h1;subst h2;subst h3;subst h4;have Xt:=q3 hm
     obtain⟨u',g1,g2,g3,g4⟩:=map_push h.wf aiX gT (av:= .sl C.ρ []) (v:=gQ) (.pd _ _ _) rfl (fun r ys e=>by cases e;exact⟨rfl,rfl⟩) hb none (fun i z hz=>by cases hz);have hE:=jC (E:=E) ho hs (.map (es.push {key:=gS kv,val:=gQ,born:=clock}) (clock+1))
     have bc:E.m (.s q)<E.h.size:=(Array.getElem?_eq_some_iff.1 hb).1
     have cz: ∀{a0:AV} {x:Value},Cz E a0 x→Cz (E.write (.s q) (.map (es.push {key:=gS kv,val:=gQ,born:=clock}) (clock+1))) a0 x:=fun{a0 x} hc=>by
      have:=(hc.ext hE h.wf (fun _=>false) (gw _)).1
      rwa [lF (fun _=>rfl)]at this
     have Bv:(E.write (.s q) (.map (es.push {key:=gS kv,val:=gQ,born:=clock}) (clock+1))).h[E.m (.s q)]? =some (.map (es.push {key:=gS kv,val:=gQ,born:=clock}) (clock+1)):=Array.getElem?_setIfInBounds_self_of_lt bc
     have Xu:H0 (E.write (.s q) (.map (es.push {key:=gS kv,val:=gQ,born:=clock}) (clock+1))) (.n q) (ks.length+1) none (xs++[kv.map AV.v++[AV.sl C.ρ []]]) u':=g3.mono fun b IU Xw=>by
      have dj:b≠E.m (.s q):=fun e=>by rw[e,ho]at IU;cases IU
      refine⟨IU,?_,fun _=>Iff.rfl,rfl⟩;show(E.h.setIfInBounds (E.m (.s q)) _)[b]? =_;rw[Array.getElem?_setIfInBounds_ne (Ne.symm dj)]
     have xU:cB (E.write (.s q) (.map (es.push {key:=gS kv,val:=gQ,born:=clock}) (clock+1))) (.s q) (.ow (.mp ks none) none (xs++[kv.map AV.v++[AV.sl C.ρ []]])):=by
      refine⟨hl,ho,hs,fun q a0 ha=>(g2 q a0 ha).1,u',?_,fun q a0 ha=>cz (g2 q a0 ha).2,Xu⟩;show Hg _ (E.len (.s q)) ((E.write (.s q) _).h[E.m (.s q)]?) _ _;rw[Bv];exact g1
     have Br:=h.rR (w':={w with heap:=w.heap.setIfInBounds (E.m (.s q)) (.map (es.push {key:=gS kv,val:=gQ,born:=clock}) (clock+1))}) gC xU rfl ⟨rfl,rfl,rfl⟩ ho hs
     have hD:(xs++[kv.map AV.v++[AV.sl C.ρ []]]).flatten[xs.length*(ks.length+1)+ks.length]? =some (.sl C.ρ []):=by
      have hr:=eF (xs:=xs++[kv.map AV.v++[AV.sl C.ρ []]]) (i:=xs.length) (z:=ks.length+1) (cs:=kv.map AV.v++[AV.sl C.ρ []]) (fun l hl=>g1.1 l hl) (by rw[iY (Nat.le_refl _),Nat.sub_self];rfl) ks.length (by omega)
      rw[hr,iY (by rw[List.length_map];omega),List.length_map,aob,Nat.sub_self];rfl
     obtain⟨E',k1,k2⟩:=CD Br (bZ q _ _) (u:=u') (by show Hg _ _ ((E.write (.s q) _).h[E.m (.s q)]?) _ _;rw[Bv];exact g1) (fun q a0 ha=>cz (g2 q a0 ha).2) Xu (p':= .mp ks (some (xs.length,(clock:Int)))) hD (.l (C.base+d)) rfl
      (by show Hg _ _ ((E.write (.s q) _).h[E.m (.s q)]?) _ _;rw[Bv];exact MQ g1 (i:=xs.length) (e:={key:=gS kv,val:=gQ,born:=clock}) (by rw[←GB];simp))
     obtain⟨ii,dd,zz,i1,i2,i3,i4,i5,i6,i7⟩:=(hL.ok _ _ Nq).ex;have hzv:zz=gQ:=by
      rw[Tu]at i5;(cases zz<;>first|(simp[Value.cells]at i5;exact i5)|skip);exfalso;have vh:ti.agg=false:=by unfold TI.agg;rw[kH]
      have:=(hL.ok _ _ Nq).zv vh ii _ i1 i4
      cases this
     have hzr:(zeroValue et).run P w= .ok gQ w:=by
      unfold zeroValue;simp[Sem.run_bind,typeInfo,program,Sem.run,Result.andThen,i1,i4,hzv]
     refine dq (x:= .tuple #[gQ,.int .i64 clock]) (w':={w with heap:=w.heap.setIfInBounds (E.m (.s q)) (.map (es.push {key:=gS kv,val:=gQ,born:=clock}) (clock+1))}) ?_ ⟨_,_,E',hk clock,?_,?_⟩
     ·simp only[execOp,he,eK,hv];simp[Instr.mapEntry,Sem.run_bind,fa hu,r6 N8,kl.check kv gT,kl.find kv es.toList gT q1,Xt,hzr,MapKept.run_setObj_map _ N8,Result.andThen,goInt]
     ·have e:dt q (Ob.ow (.mp ks (some (xs.length,(clock:Int)))) (some (xs.length,ks.length)) (xs++[kv.map AV.v++[AV.sl C.ρ []]])) (gd (bC (.n q)) (dt q (Ob.ow (.mp ks none) none (xs++[kv.map AV.v++[AV.sl C.ρ []]])) s.b))=dt q (Ob.ow (.mp ks (some (xs.length,(clock:Int)))) (some (xs.length,ks.length)) (xs++[kv.map AV.v++[AV.sl C.ρ []]])) (gd (bC (.n q)) s.b):=by
       rw[L5,QP]
      have k1':=k1
      rw[e]at k1';exact k1'
     ·exact Cz.gY (E:=E') _ [gQ,.int .i64 clock] rfl fun j b y fP hy=>by
       match j,fP,hy with
       |0,fP,hy=>simp at fP hy;subst fP;subst hy;have k2':Cz E' (.gs C.ρ (.l (C.base+d)) []) (u' (xs.length*(ks.length+1)+ks.length)):=k2;rw[g4]at k2';exact k2'
       |1,fP,hy=>simp at fP hy;subst fP;subst hy;exact .v _
       |j+2,fP,_=>simp at fP
  ·exact hk.elim
 ·exact hk.elim
theorem KX{es:Array MapEntry}{i:Nat}{e:MapEntry}(he:es[i]? =some e)(vc: ∀(i j:Nat) (e e':MapEntry),es[i]? =some e→es[j]? =some e'→e.born=e'.born→i=j):es.findIdx? (fun x=>(x.born:Int)==(e.born:Int))=some i:=by
 have bc:=(Array.getElem?_eq_some_iff.1 he).1
 have hei:es[i]=e:=by rw[Array.getElem?_eq_getElem bc]at he;injection he
 rw[Array.findIdx?_eq_some_iff_getElem];refine⟨bc,by rw[hei];simp,fun j hj=>?_⟩;have hj':j<es.size:=by omega
 intro hh;have hb:es[j].born=e.born:=by
  have:((es[j].born:Nat):Int)=(e.born:Int):=by simpa using hh
  omega
 have:=vc j i es[j] e (by simp[hj']) he hb
 omega
theorem B9(hI:C.I=ak)(h:bJ E0 E w0 w s a){o:Oper}{t:Nat}{m st v:Operand}(he:o.op= .entryStore t m st v){K:bB}{Q:Exit→Act→World→Prop}(hk:zJ C (cd s [] m) (cd s [] st) (cd s [] v) s K):mS P o a w (hZ E0 w0 o a K) Q:=by
 unfold zJ at hk
 split at hk
 ·rename_i d z r tk ys Nj hs0 hv0
  split at hk
  ·rename_i ks i z' j off xs gC;obtain⟨Rv,e0,zs,⟨e1,e2,cs,e3,e5⟩,hk⟩:=hk;subst e0;subst e1;subst e2;rw[hI]at e5;have e5:xs.set i (bV cs ks.length [.sl r ys])=zs:=e5
   subst e5;have hx:=h.ev (p:=[]) trivial m
   rw[Nj]at hx;cases eK:a.eval m<;>rw[eK]at hx<;>cases hx;have gZ:=h.ev (p:=[]) trivial st
   rw[hs0]at gZ;have atI:a.eval st= .int .i64 z:=by
    generalize a.eval st=sv at gZ;cases gZ;rfl
   have hy:=h.ev (p:=[]) trivial v
   rw[hv0]at hy;generalize hav:a.eval v=y at hy;obtain⟨hl,ho,hs,nw,u,⟨Rw,es,clock,hb,atG,GB,hbn,vc,oE⟩,hq,wS⟩:=h.bx d _ gC;obtain⟨e,he1,he2⟩:=atG i z rfl;have hD:=aH Rw
   have Ek:i<xs.length:=(bq.1 e3).1
   have GD:cs.length=ks.length+1:=Rw cs (fU e3)
   have hmul:i*(ks.length+1)+(ks.length+1)≤xs.length*(ks.length+1):=by rw[←Nat.succ_mul];exact Nat.mul_le_mul_right _ Ek
   have Xk:tk≠ .n d:=fun e=>by subst e;cases Rv
   have h1:=h.dD tk (.n d) Rv
   have Bp:=hy.dD (t':= .n d) h.wf
   have P3:look d (gd (bC tk) s.b)=some (.ow (.mp ks (some (i,z))) (some (i,ks.length)) xs):=by rw[cN,gC];rfl
   have ho1:(E.dD tk (.n d)).own ((E.dD tk (.n d)).m (.s d))= .key (.s d):=(uC (by rw[show(E.dD tk (.n d)).m (.s d)=E.m (.s d)from rfl,ho];simp)).trans ho
   have hE:=jC (E:=E.dD tk (.n d)) ho1 hs (.map (es.modify i fun e=>{e with val:=y}) clock)
   have cz1: ∀{a:AV} {x:Value},cH a=true→Cz E a x→Cz (E.dD tk (.n d)) a x:=fun{a x} hi hc=>(hc.ext (uD tk (.n d)) h.wf (bC tk) (fun q' xd=>(mU _ _).2 (by cases xd;rfl))).2 hi
   have cz2: ∀{a:AV} {x:Value},Cz (E.dD tk (.n d)) a x→Cz ((E.dD tk (.n d)).write (.s d) (.map (es.modify i fun e=>{e with val:=y}) clock)) a x:=fun{a x} hc=>by
    have:=(hc.ext hE h1.wf (fun _=>false) (gw _)).1
    rwa [lF (fun _=>rfl)]at this
   have hxl: ∀l∈xs.set i (bV cs ks.length [.sl r ys]),l.length=ks.length+1:=fun l tG=>by
    rcases List.mem_or_eq_of_mem_set tG with h1|h1
    ·exact Rw l h1
    ·rw[h1,lV (by simp;omega)];exact GD
   have xc:(xs.set i (bV cs ks.length [.sl r ys])).flatten=bV xs.flatten (i*(ks.length+1)+ks.length) [.sl r ys]:=tH Rw e3 (by simp)
   have za: ∀q',(xs.set i (bV cs ks.length [.sl r ys])).flatten[q']? =if q'=i*(ks.length+1)+ks.length then some (.sl r ys)else xs.flatten[q']? :=fun q'=>by
    rw[xc];exact FB (by omega) q'
   have Bv:E.m (.s d)<E.h.size:=(Array.getElem?_eq_some_iff.1 hb).1
   have Xv: ∀k:Nat,(es.modify i fun e=>{e with val:=y})[k]? =(es[k]?).map fun e=>if i=k then{e with val:=y}else e:=fun k=>by
    rw[Array.getElem?_modify];by_cases XE:i=k
    ·rw[if_pos XE];simp[XE]
    ·rw[if_neg XE];simp[XE]
   have wj:cB ((E.dD tk (.n d)).write (.s d) (.map (es.modify i fun e=>{e with val:=y}) clock)) (.s d) (.ow (.mp ks none) none (xs.set i (bV cs ks.length [.sl r ys]))):=by
    refine⟨hl,ho1,hs,fun q' a' ha=>?_,fun q'=>if q'=i*(ks.length+1)+ks.length then y else u q',⟨hxl,es.modify i fun e=>{e with val:=y},clock,?_,(fun i z hz=>by cases hz),?_,fun k e' kR=>?_,fun k k' e' e'' kR XB wm=>?_,fun k row e' B7 kR=>?_⟩,fun q' a' ha=>?_,?_⟩
    ·rw[za]at ha
     split at ha
     ·cases ha;rfl
     ·exact nw q' a' ha
    ·have:(E.dD tk (.n d)).m (.s d)=E.m (.s d):=rfl
     simp only[Env.write];rw[this];exact Array.getElem?_setIfInBounds_self_of_lt Bv
    ·rw[Array.size_modify,List.length_set];exact GB
    ·rw[Xv]at kR;cases Uk:es[k]? with
     |none=>rw[Uk]at kR;cases kR
     |some x=>rw[Uk]at kR;cases kR;have:=hbn k x Uk;split<;>exact this
    ·rw[Xv]at kR XB;cases Uk:es[k]? with
     |none=>rw[Uk]at kR;cases kR
     |some x=>
      cases aje:es[k']? with
      |none=>rw[aje]at XB;cases XB
      |some x'=>
       rw[Uk]at kR;rw[aje]at XB;cases kR;cases XB;refine vc k k' x x' Uk aje ?_;have b1:(if i=k then{x with val:=y}else x:MapEntry).born=x.born:=by split<;>rfl
       have b2:(if i=k' then{x' with val:=y}else x':MapEntry).born=x'.born:=by split<;>rfl
       rw[←b1,←b2];exact wm
    ·rw[Xv]at kR;cases Uk:es[k]? with
     |none=>rw[Uk]at kR;cases kR
     |some x=>
      rw[Uk]at kR;cases kR;rw[List.getElem?_set]at B7;have ad4: ∀{k1 k2 j1 j2:Nat},k1≠k2→j1≤ks.length→j2≤ks.length→k1*(ks.length+1)+j1≠k2*(ks.length+1)+j2:=by
       intro k1 k2 j1 j2 dj h1 h2 heq;rcases Nat.lt_or_gt_of_ne dj with bc|bc
       ·have:=Nat.mul_le_mul_right (ks.length+1) bc
        rw[Nat.succ_mul]at this;omega
       ·have:=Nat.mul_le_mul_right (ks.length+1) bc
        rw[Nat.succ_mul]at this;omega
      by_cases XE:i=k
      ·subst XE;rw[if_pos rfl,if_pos Ek]at B7;cases B7;obtain⟨kv,f1,f2,f3,f4,f5⟩:=oE i cs x e3 Uk;refine⟨kv,f1,?_,by dsimp only;rw[if_pos rfl];exact f3,by dsimp only;rw[if_pos rfl,if_pos rfl],fun j x' hx=>?_⟩
       ·rw[←f2];unfold bV;rw[List.append_assoc,List.take_append_of_le_length (by rw[List.length_take];omega),List.take_take,Nat.min_self]
       ·have hj:=(bq.1 hx).1
        rw[jK f1]at hj;dsimp only;rw[if_neg (by omega)];exact f5 j x' hx
      ·rw[if_neg XE]at B7;obtain⟨kv,f1,f2,f3,f4,f5⟩:=oE k row x B7 Uk;refine⟨kv,f1,f2,by dsimp only;rw[if_neg XE];exact f3,?_,fun j x' hx=>?_⟩
       ·dsimp only;rw[if_neg (ad4 (fun e=>XE e.symm) (Nat.le_refl _) (Nat.le_refl _)),if_neg XE];exact f4
       ·have hj:=(bq.1 hx).1
        rw[jK f1]at hj;dsimp only;rw[if_neg (ad4 (fun e=>XE e.symm) (by omega) (Nat.le_refl _))];exact f5 j x' hx
    ·rw[za]at ha;dsimp only;by_cases e:q'=i*(ks.length+1)+ks.length
     ·rw[if_pos e]at ha ⊢;cases ha;exact cz2 Bp.read
     ·rw[if_neg e]at ha ⊢;exact cz2 (cz1 (nw q' a' ha) (hq q' a' ha))
    ·refine MK (z:=ks.length+1) (r:=r) (ys:=ys) wS (fun q'=>?_) ?_ (fun b hb bc=>?_) (fun b hbv=>?_)
     ·rw[za];by_cases e:q'=i*(ks.length+1)+ks.length
      ·rw[if_pos e,if_pos e,if_pos (by omega)]
      ·rw[if_neg e,if_neg e]
     ·exact tw (cz2 Bp)
     ·have dj:b≠E.m (.s d):=fun e=>by rw[e,ho]at hb;cases hb
      refine⟨(uC (by rw[hb];intro e;injection e with e;exact Xk e.symm)).trans hb,?_,fun _=>Iff.rfl,rfl⟩;show(E.h.setIfInBounds (E.m (.s d)) _)[b]? =_;rw[Array.getElem?_setIfInBounds_ne (Ne.symm dj)]
     ·intro e;have:=(uB (tw hy) hbv).1
      rw[this]at e;injection e with e;exact Xk e
   have N8:w.heap[E.m (.s d)]? =some (.map es clock):=by rw[h.heap];exact hb
   refine xl (w':={w with heap:=w.heap.setIfInBounds (E.m (.s d)) (.map (es.modify i fun e=>{e with val:=y}) clock)}) ?_ ⟨_,_,_,hk,h1.rR P3 wj rfl ⟨rfl,rfl,rfl⟩ ho1 hs,.any _⟩;have hfi:=KX he1 vc
   rw[he2]at hfi;simp only[execOp,he,eK,hav,atI];simp[Instr.entryStore,Sem.run_bind,r6 N8,asInt,asIntOf,hfi,MapKept.run_setObj_map _ N8,Result.andThen]
  ·exact hk.elim
 ·exact hk.elim
theorem tq{av:AV}{v:Value}{xs:List AV}{ks:List VK}(hc:Cz E av v)(hv:Dm av=some xs)(hf:pj ks xs=true): ∃kv:List Value,xs=kv.map .v∧bN ks kv=true∧v= .agg kv.toArray:=by
 obtain⟨kv,h1,h2⟩:=BA hf;refine⟨kv,h1,h2,?_⟩;cases av<;>simp only[Dm,Option.some.injEq]at hv<;>try(cases hv;done)
 ·subst hv;cases hc with
  |ar n z xs ys hn hz hl hi hq=>
   have:ys=kv:=JF (E:=E) (by
    have h3:=aH hz
    rw[h1]at h3;simp at h3;rw[hl,h3,hn]) (fun q a y ha hy=>hq q a y (by rw[h1];exact ha) hy)
   rw[this]
 ·subst hv;cases hc with
  |agg cs ys hl hq=>
   subst h1;have:ys=kv:=JF (E:=E) (by simpa using hl) hq
   rw[this]
theorem R9(hI:C.I=ak)(ux: ∀t ks,C.eqs t=some ks→wU P t ks)(h:bJ E0 E w0 w s a){o:Oper}{t:Nat}{x y:Operand}{neg:Bool}{ty:Nat}(he:o.op= .binOp (bif neg then .neq else .eql) t x y ty){K:bB}(hk:xEq C p neg t (cd s p x) (cd s p y) s K):Reads P E w a o s p K:=by
 obtain⟨b,hub,hk⟩:=hk;rw[hI]at hk;refine⟨_,hk,fun hp=>?_⟩;obtain⟨IT,Uj,xs,ys,Eh,Bp,hb⟩:=bR hub hp;obtain⟨ks,hks,aja⟩: ∃ks,C.eqs t=some ks∧pj ks xs=true:=by
  unfold tI at IT;cases hk:C.eqs t with
  |none=>rw[hk]at IT;cases er:cd s p x<;>rw[er]at IT<;>exact IT.elim
  |some ks=>
   rw[hk]at IT;refine⟨ks,rfl,?_⟩;cases er:cd s p x<;>rw[er]at IT Eh<;>simp only[Dm,Option.some.injEq]at Eh<;>first|exact IT.elim|(subst Eh;exact IT)|(cases Eh)
 have ai9:pj ks ys=true:=by
  unfold tI at Uj;rw[hks]at Uj;cases er:cd s p y<;>rw[er]at Uj Bp<;>simp only[Dm,Option.some.injEq]at Bp<;>first|exact Uj.elim|(subst Bp;exact Uj)|(cases Bp)
 obtain⟨kv,h1,h2,h3⟩:=tq (h.ev hp x) Eh aja;obtain⟨B4,h4,h5,h6⟩:=tq (h.ev hp y) Bp ai9;have law:=ux t ks hks
 obtain⟨b',fP,eY⟩:=law.eq kv B4 h2 h5;have wm:b'=b:=by
  have:b'=true↔b=true:=by
   rw[fP,hb,h1,h4];exact⟨fun e=>by rw[e],CC⟩
  cases b<;>cases b'<;>simp_all
 subst wm;cases neg with
 |false=>
  refine⟨.bool b',?_,.v _⟩;simp only[execOp,he,aC,h3,h6];simp[Sem.run_bind,run_eqGuard_agg _ _ _ _ _ _ _ law.guard,run_eql_struct,eY,Result.andThen]
 |true=>
  refine⟨.bool (!b'),?_,.v _⟩;simp only[execOp,he,az,h3,h6];simp[Sem.run_bind,run_eqGuard_agg _ _ _ _ _ _ _ law.guard,run_neq_struct,eY,Result.andThen]
theorem Zl(ux: ∀t ks,C.eqs t=some ks→wU P t ks)(h:bJ E0 E w0 w s a){o:Oper}{t:Nat}{x y:Operand}{neg:Bool}{ty:Nat}(he:o.op= .binOp (bif neg then .neq else .eql) t x y ty){K:bB}(hk:xEq C p neg t (cd s p x) (cd s p y) s K)(hp:bp s p){v:Value}
  (hr:(execOp a.eval o).run P w= .ok (.value v) w)(w':World):(execOp a.eval o).run P w'= .ok (.value v) w':=by
 obtain⟨b,hub,hk⟩:=hk;obtain⟨IT,Uj,xs,ys,Eh,Bp,hb⟩:=bR hub hp;obtain⟨ks,hks,aja⟩: ∃ks,C.eqs t=some ks∧pj ks xs=true:=by
  unfold tI at IT;cases hk:C.eqs t with
  |none=>rw[hk]at IT;cases er:cd s p x<;>rw[er]at IT<;>exact IT.elim
  |some ks=>
   rw[hk]at IT;refine⟨ks,rfl,?_⟩;cases er:cd s p x<;>rw[er]at IT Eh<;>simp only[Dm,Option.some.injEq]at Eh<;>first|exact IT.elim|(subst Eh;exact IT)|(cases Eh)
 have ai9:pj ks ys=true:=by
  unfold tI at Uj;rw[hks]at Uj;cases er:cd s p y<;>rw[er]at Uj Bp<;>simp only[Dm,Option.some.injEq]at Bp<;>first|exact Uj.elim|(subst Bp;exact Uj)|(cases Bp)
 obtain⟨kv,h1,h2,h3⟩:=tq (h.ev hp x) Eh aja;obtain⟨B4,h4,h5,h6⟩:=tq (h.ev hp y) Bp ai9;have law:=ux t ks hks
 obtain⟨b',fP,eY⟩:=law.eq kv B4 h2 h5;have key: ∃v',∀w,(execOp a.eval o).run P w= .ok (.value v') w:=by
  cases neg with
  |false=>
   refine⟨.bool b',fun w=>?_⟩;simp only[execOp,he,aC,h3,h6];simp[Sem.run_bind,run_eqGuard_agg _ _ _ _ _ _ _ law.guard,run_eql_struct,eY,Result.andThen]
  |true=>
   refine⟨.bool (!b'),fun w=>?_⟩;simp only[execOp,he,az,h3,h6];simp[Sem.run_bind,run_eqGuard_agg _ _ _ _ _ _ _ law.guard,run_neq_struct,eY,Result.andThen]
 obtain⟨v',hv'⟩:=key;rw[hv' w]at hr;cases hr;exact hv' w'
theorem PT(hL:bG P L){t:Nat}(h:yJ L t=true):P.underlying t=some .bool:=by
 unfold yJ at h
 split at h
 ·rename_i ti uX
  split at h
  ·rename_i hk;obtain⟨i,d,z,_,_,_,_,_,h7,h8⟩:=(hL.ok t ti uX).ex;rw[hk]at h8;rw[h7];exact congrArg some h8
  ·cases h
 ·cases h
theorem M6(hL:bG P L){t:Nat}(h:uT L t=true): ∃e,P.underlying t=some (.slice e):=by
 unfold uT at h
 split at h
 ·rename_i ti uX
  split at h
  ·rename_i e hk;obtain⟨i,d,z,_,_,_,_,_,h7,h8⟩:=(hL.ok t ti uX).ex;rw[hk]at h8;exact⟨e,by rw[h7];exact congrArg some h8⟩
  ·cases h
 ·cases h
theorem GH(op:BinOp)(t:Nat)(x y:Operand)(a b:Bool)(w:World):(eqGuard op t x y (.bool a) (.bool b)).run P w= .ok () w:=by
 unfold eqGuard
 split<;>rfl
theorem DO(op:BinOp)(t:Nat)(x y:Operand)(A B:Option Addr)(n c m k:Nat)(w:World):(eqGuard op t x y (.slice A n c) (.slice B m k)).run P w= .ok () w:=by
 unfold eqGuard
 split<;>rfl
theorem LC(hL:bG P C.L)(h:bJ E0 E w0 w s a){o:Oper}{t:Nat}{x y:Operand}{neg:Bool}{ty:Nat}(he:o.op= .binOp (bif neg then .neq else .eql) t x y ty):
  (∀u v,cd s p x= .v (.bool u)→cd s p y= .v (.bool v)→yJ C.L t=true→bp s p→ ∀w',(execOp a.eval o).run P w'= .ok (.value (.bool (bif neg then !(u==v)else u==v))) w')∧
  (∀r xs,cd s p x= .sl r xs→cd s p y= .v (.slice none 0 0)→uT C.L t=true→bp s p→ ∃b:Bool,(b=true→xs.length=0)∧ ∀w',(execOp a.eval o).run P w'= .ok (.value (.bool (bif neg then !b else b))) w'):=by
 refine⟨fun u v hx hy hb hp w'=>?_,fun r xs hx hy hb hp=>?_⟩
 ·have h1:=h.ev hp x
  have h2:=h.ev hp y
  rw[hx]at h1;rw[hy]at h2;have e1:a.eval x= .bool u:=by generalize a.eval x=z at h1;cases h1;rfl
  have e2:a.eval y= .bool v:=by generalize a.eval y=z at h2;cases h2;rfl
  have hu:=PT hL hb
  cases neg with
  |false=>simp only[execOp,he,aC,e1,e2];simp[Sem.run_bind,GH,run_eql_bool _ _ _ _ hu,Result.andThen]
  |true=>simp only[execOp,he,az,e1,e2];simp[Sem.run_bind,GH,run_neq_bool _ _ _ _ hu,Result.andThen]
 ·have h1:=h.ev hp x
  have h2:=h.ev hp y
  rw[hx]at h1;rw[hy]at h2;have e2:a.eval y= .slice none 0 0:=by generalize a.eval y=z at h2;cases h2;rfl
  obtain⟨e,hu⟩:=M6 hL hb;obtain⟨A,n,c,e1,hA⟩: ∃A n c,a.eval x= .slice A n c∧(A.isNone=true→xs.length=0):=by
   generalize a.eval x=z at h1;cases h1 with
   |pd r A c=>exact⟨A,0,c,rfl,fun _=>rfl⟩
   |sl r xs z b o c u hp=>exact⟨_,_,_,rfl,fun hh=>by simp at hh⟩
  refine⟨A.isNone,hA,fun w'=>?_⟩;have r1:(binOp .eql t (.slice A n c) (.slice none 0 0)).run P w'= .ok (.bool A.isNone) w':=Go.Lib.run_eql_slice_nil w' t e A n c 0 0 hu
  cases neg with
  |false=>simp only[execOp,he,aC,e1,e2];simp[Sem.run_bind,DO,r1,Result.andThen]
  |true=>simp only[execOp,he,az,e1,e2];simp[Sem.run_bind,DO,run_neq_slice_nil w' t e A n c hu,Result.andThen]
theorem po(hI:C.I=ak)(hL:bG P C.L)(ux: ∀t ks,C.eqs t=some ks→wU P t ks)(h:bJ E0 E w0 w s a){o:Oper}{t:Nat}{x y:Operand}{neg:Bool}{ty:Nat}(he:o.op= .binOp (bif neg then .neq else .eql) t x y ty){K:bB}(hk:Sa C p neg t (cd s p x) (cd s p y) s K):Reads P E w a o s p K:=by
 obtain⟨r1,r2⟩:=LC (p:=p) hL h he;unfold Sa at hk
 split at hk
 ·rename_i u v hx hy;cases hb:yJ C.L t with
  |false=>rw[hb]at hk;exact hk.elim
  |true=>
   rw[hb,az,hI]at hk;refine⟨_,hk,fun hp=>⟨_,r1 u v hx hy hb hp w,?_⟩⟩;cases neg<;>exact .v _
 ·rename_i r xs hx hy;cases hb:uT C.L t with
  |false=>rw[hb]at hk;exact hk.elim
  |true=>
   rw[hb,az]at hk;by_cases hp:bp s p
   ·obtain⟨b,AF,CL⟩:=r2 r xs hx hy hb hp;have hu:under s p (b=true→C.I.fV xs=0):=by
     unfold under;rw[hI]
     split
     ·exact AF
     ·exact fun _=>AF
    refine⟨_,hk b hu,fun _=>⟨_,CL w,?_⟩⟩;rw[hI];cases neg<;>exact .v _
   ·have hu:under s p (false=true→C.I.fV xs=0):=by
     unfold under
     split
     ·exact fun e=>by cases e
     ·exact fun _ e=>by cases e
    exact⟨_,hk false hu,fun Xs=>absurd Xs hp⟩
 ·exact R9 hI ux h he hk
theorem LD(hL:bG P C.L)(ux: ∀t ks,C.eqs t=some ks→wU P t ks)(h:bJ E0 E w0 w s a){o:Oper}{t:Nat}{x y:Operand}{neg:Bool}{ty:Nat}(he:o.op= .binOp (bif neg then .neq else .eql) t x y ty){K:bB}(hk:Sa C p neg t (cd s p x) (cd s p y) s K)(hp:bp s p){v:Value}
  (hr:(execOp a.eval o).run P w= .ok (.value v) w)(w':World):(execOp a.eval o).run P w'= .ok (.value v) w':=by
 obtain⟨r1,r2⟩:=LC (p:=p) hL h he;unfold Sa at hk
 split at hk
 ·rename_i u v' hx hy;cases hb:yJ C.L t with
  |false=>rw[hb]at hk;exact hk.elim
  |true=>
   rw[r1 u v' hx hy hb hp w]at hr;cases hr;exact r1 u v' hx hy hb hp w'
 ·rename_i r xs hx hy;cases hb:uT C.L t with
  |false=>rw[hb]at hk;exact hk.elim
  |true=>
   obtain⟨b,AF,CL⟩:=r2 r xs hx hy hb hp;rw[CL w]at hr;cases hr;exact CL w'
 ·exact Zl ux h he hk hp hr w'
structure Ok(P:Program)(C:ey):Prop where
 lay:bG P C.L
 ak:C.I=Ab.ak
 call:De P C
 inl:D0 P C
 CI:D0 P {C with inl:=C.CI}
 yl:T3 P C.yl
 cl: ∀k,C.cl k=true→C.uU k=false
 keys: ∀t ks,C.keys t=some ks→KeyLaw P t ks
 eqs: ∀t ks,C.eqs t=some ks→wU P t ks
theorem nZ{o:Oper}{K:bB}{Q:Exit→Act→World→Prop}(h:bJ E0 E w0 w s a)(hp:bp s p)(k:Reads P E w a o s p K):mS P o a w (hZ E0 w0 o a K) Q:=by
 obtain⟨r,hk,hx⟩:=k;obtain⟨x,hr,hc⟩:=hx hp;exact dq hr ⟨r,s,E,hk,h,hc⟩
theorem CE(ok:Ok P C)(h:bJ E0 E w0 w s a){o:Oper}{K:bB}{c:Call}(he:o.op= .call c)(hc:c.callee= .builtin .len)
  (hk:match MC C.I C.L .len c.argTypes.toList (c.args.toList.map (cd s p))with|some (.v (.int k m))=> ∃z,m=z∧K (.v (.int k z)) s|_=>False):Reads P E w a o s p K:=by
 split at hk
 ·rename_i k m hp;obtain⟨z,rfl,hk⟩:=hk;refine⟨_,hk,fun yL=>?_⟩;rw[ok.ak]at hp;exact vS ok.lay h yL (by rw[he];exact MX hc hp)
 ·exact hk.elim
theorem Bb{cl:Nat→Bool}{o:Oper}{K:Act→World→Prop}{Q:Exit→Act→World→Prop}(hn:nD cl o.op=false)(h:mS P o a w K Q):mS P o a w (fun a' w'=>K a' w'∧(nD cl o.op=true→cp w w')) Q:=
 mS.mono (fun _ _ hh=>⟨hh,fun hc=>by rw[hn]at hc;cases hc⟩) h
theorem WS{d:Option Nat}{f:AV}{args:List AV}{K:bB}(hp:p≠[])(h:wFn (noI C d) p f args s K):wFn C p f args s K:=by
 unfold noI at h;cases hD:Bz C 4000 d with
 |false=>rw[hD]at h;exact h
 |true=>
  rw[hD]at h
  match p,hp with
  |x::q,_=>exact h
theorem Sd(ok:Ok P C)(h:bJ E0 E w0 w s a){o:Oper}{K:bB}{Q:Exit→Act→World→Prop}(hk:YX C [] o s K):mS P o a w (fun a' w'=>hZ E0 w0 o a K a' w'∧(nD C.cl o.op=true→cp w w')) Q:=by
 by_cases ca: ∃c f,o.op= .call c∧c.callee= .value f
 ·obtain⟨c,f,he,hc⟩:=ca;unfold YX at hk;rw[he]at hk;dsimp only at hk;rw[hc]at hk;unfold noI at hk;cases hD:Bz C 4000 o.dst with
  |false=>rw[hD]at hk;exact yy (p:=[]) ok.cl ok.call ok.inl ok.yl h trivial he hc hk
  |true=>rw[hD]at hk;exact yy (p:=[]) (C:={C with uU:=fun _=>false}) (fun _ _=>rfl) ok.call ok.inl ok.yl h trivial he hc hk
 refine Bb ?_ ?_
 ·unfold nD
  split
  ·rename_i c he
   split
   ·rename_i k hc;exact absurd ⟨c,_,he,hc⟩ ca
   ·rfl
  ·rfl
 unfold YX at hk
 split at hk
 ·rename_i t he
  split at hk
  ·exact Fe ok.lay h he hk
  ·exact hk.elim
 ·rename_i t m k v he;exact Hs ok.lay ok.ak ok.keys h he hk
 ·rename_i t m k he;exact nZ (p:=[]) h trivial (zj ok.lay ok.keys h he hk)
 ·rename_i t m k he
  split at hk
  ·exact Jr ok.lay ok.ak ok.keys h he hk
  ·exact hk.elim
 ·rename_i t m st v he;exact B9 ok.ak h he hk
 ·rename_i t x y ty he;exact nZ (p:=[]) h trivial (po (neg:=false) ok.ak ok.lay ok.eqs h he hk)
 ·rename_i t x y ty he;exact nZ (p:=[]) h trivial (po (neg:=true) ok.ak ok.lay ok.eqs h he hk)
 ·rename_i c x y he;exact nZ (p:=[]) h trivial (xm ok.ak h he hk)
 ·rename_i e x he
  split at hk
  ·rename_i d _ hd _;exact Oi h he hk
  ·exact hk.elim
 ·rename_i e he
  split at hk
  ·exact JE ok.lay ok.ak h he hk
  ·exact hk.elim
 ·rename_i t x y he;have hk:Jj C t (cd s [] x) (cd s [] y) s K:=hk
  have hk:(∃d i off z r tk ys ti,cd s [] x= .dc (.s d) i off z∧cd s [] y= .gs r tk ys∧C.L t=some ti∧ti.size=1∧QJ C d i off z r tk ys s K)∨Jn C t (cd s [] x) (cd s [] y) s K:=by
   unfold Jj at hk
   split at hk
   ·rename_i d i off z r tk ys e1 e2;cases hio:aiB (look d s.b)with
    |false=>rw[hio,aC]at hk;right;exact hk
    |true=>
     rw[hio,az]at hk
     split at hk
     ·rename_i ti uX;exact .inl ⟨d,i,off,z,r,tk,ys,ti,e1,e2,uX,hk.1,hk.2⟩
     ·exact hk.elim
   ·exact .inr hk
  rcases hk with⟨d,i,off,z,r,tk,ys,ti,e1,e2,uX,hz1,hk⟩|hk
  ·exact LG ok.lay ok.ak h he e1 e2 uX hz1 hk
  unfold Jn at hk
  split at hk
  ·rename_i n z ys er;exact Fb ok.lay ok.ak h he er hk
  ·exact Jz ok.lay ok.ak h he (Oe hk)
 ·rename_i t x he;cases hD:Bz C 2000 o.dst with
  |false=>rw[hD]at hk;exact nZ (p:=[]) h trivial (tg ok.lay ok.ak h he hk)
  |true=>
   rw[hD,az]at hk
   split at hk
   ·obtain⟨r,s',E1,k1,k2,k3,k4⟩:=Dj ok.lay h he hk;obtain⟨x,Eh,Lr⟩:=k4 trivial;exact dq Eh ⟨r,s',E1,k1,k2,Lr⟩
   ·exact hk.elim
 ·rename_i t x y he
  split at hk
  ·rename_i n hn;exact nZ (p:=[]) h trivial (zI ok.lay ok.ak h he hn hk)
  ·exact hk.elim
 ·rename_i t x y he
  split at hk
  ·rename_i n hn;exact nZ (p:=[]) h trivial (vF ok.lay h he hn hk)
  ·exact hk.elim
 ·rename_i t len parts he
  split at hk
  ·rename_i d hd;cases hD:N3 (d+3000) C.op with
   |true=>rw[hD,az]at hk;exact Ht ok.lay h he hk
   |false=>
   rw[hD,aC]at hk;obtain⟨r,s',E1,E2,w2,⟨r',B7,k1⟩,k2,k3,k4,k5⟩:=th ok.lay h he (wM hk);obtain⟨x,Eh,Lr⟩:=k5 trivial;exact dq Eh ⟨r',s',E2,k1,k4,B7 _ _ Lr⟩
  ·exact hk.elim
 ·rename_i f first cap he
  split at hk
  ·rename_i hf;obtain⟨r,s',E1,k1,k2,k3,k4⟩:=Dl h he hf hk;obtain⟨x,Eh,Lr⟩:=k4 trivial;exact dq Eh ⟨r,s',E1,k1,k2,Lr⟩
  ·split at hk
   ·rename_i hc;cases hi:cw (first.toList.map fun x=>rd (cd s [] x))with
    |false=>rw[hi]at hk;exact hk.elim
    |true=>
    rw[hi,az]at hk;obtain⟨r,s',E1,k1,k2,k3,k4⟩:=Ib h he hc hi hk;obtain⟨x,Eh,Lr⟩:=k4 trivial;exact dq Eh ⟨r,s',E1,k1,k2,Lr⟩
   ·exact hk.elim
 ·rename_i t x y he
  split at hk
  ·rename_i d n m hd _ hn hm;exact LO ok.lay ok.ak h he hn hm (R8 ok.ak hk)
  ·exact hk.elim
 ·rename_i t x lo hi mx he
  split at hk
  ·exact nZ (p:=[]) h trivial (AI ok.lay ok.ak h he hk)
  ·exact hk.elim
 ·rename_i c he
  split at hk
  ·rename_i f hc;exact absurd ⟨c,f,he,hc⟩ ca
  ·rename_i b hc;unfold AJ at hk
   split at hk
   ·rename_i d t t' x y h0 hd Uh cI;cases htt:dy t t' with
    |false=>rw[htt]at hk;exact hk.elim
    |true=>
     rw[htt,az]at hk;have anJ:t=t':=dK htt
     obtain⟨x0,y0,hxy,e1,e2⟩: ∃x0 y0,c.args= #[x0,y0]∧cd s [] x0=x∧cd s [] y0=y:=by
      cases jY:c.args.toList with
      |nil=>rw[jY]at cI;simp at cI
      |cons x0 r=>cases r with
       |nil=>rw[jY]at cI;simp at cI
       |cons y0 r2=>cases r2 with
        |nil=>rw[jY]at cI;simp at cI;exact⟨x0,y0,Array.toList_inj.1 jY,cI.1,cI.2⟩
        |cons _ _=>rw[jY]at cI;simp at cI
     subst e1;subst e2;cases hD:Bz C 1000 (some d)with
     |true=>
      rw[hD,az]at hk;exact LI ok.lay ok.ak h he hc hxy (Array.toList_inj.1 Uh) anJ.symm hk
     |false=>
     rw[hD,aC]at hk;exact Hw ok.lay ok.ak h he hc hxy (Array.toList_inj.1 Uh) anJ.symm (LH ok.ak hk)
   ·rename_i t t' x y yL Uh cI;obtain⟨x0,y0,hxy,e1,e2⟩: ∃x0 y0,c.args= #[x0,y0]∧cd s [] x0=x∧cd s [] y0=y:=by
     cases jY:c.args.toList with
     |nil=>rw[jY]at cI;simp at cI
     |cons x0 r=>cases r with
      |nil=>rw[jY]at cI;simp at cI
      |cons y0 r2=>cases r2 with
       |nil=>rw[jY]at cI;simp at cI;exact⟨x0,y0,Array.toList_inj.1 jY,cI.1,cI.2⟩
       |cons _ _=>rw[jY]at cI;simp at cI
    subst e1;subst e2;exact LF ok.lay ok.ak h he hc hxy (Array.toList_inj.1 Uh) hk
   ·exact nZ (p:=[]) h trivial (CE ok h he hc hk)
   ·exact hk.elim
  ·exact hk.elim
 ·exact hk.elim
def R3(P:Program)(cl:Nat→Bool)(E0:Env)(w0 w:World)(a:Act)(o:Oper)(s:St)(p:Path)(K:bB)(Q:Exit→Act→World→Prop):Prop:=
 ∃r s',K r s'∧(∀q,bp s' q↔bp s q)∧(bp s p→mS P o a w (fun a' w'=>hZ E0 w0 o a (fun r0 s0=>r0=r∧s0=s') a' w'∧(nD cl o.op=true→cp w w')) Q)∧ ∃E1,bJ E0 E1 w0 w s' a
theorem gE{o:Oper}{K:bB}{Q:Exit→Act→World→Prop}(h:bJ E0 E w0 w s a)(hn:nD C.cl o.op=false)(k:Reads P E w a o s p K):R3 P C.cl E0 w0 w a o s p K Q:=by
 obtain⟨r,hk,hx⟩:=k;refine⟨r,s,hk,fun _=>Iff.rfl,fun hp=>Bb hn ?_,E,h⟩;obtain⟨x,hr,hc⟩:=hx hp;exact dq hr ⟨r,s,E,⟨rfl,rfl⟩,h,hc⟩
theorem Se(ok:Ok P C)(h:bJ E0 E w0 w s a){o:Oper}{K:bB}{Q:Exit→Act→World→Prop}(xe:p≠[])(hk:YX C p o s K):R3 P C.cl E0 w0 w a o s p K Q:=by
 unfold YX at hk
 split at hk
 ·split at hk
  ·exact absurd rfl xe
  ·exact hk.elim
 ·split at hk
  ·exact absurd rfl xe
  ·exact hk.elim
 ·rename_i t m k he;exact gE h (by rw[he];rfl) (zj ok.lay ok.keys h he hk)
 ·split at hk
  ·exact absurd rfl xe
  ·exact hk.elim
 ·split at hk
  ·exact absurd rfl xe
  ·exact hk.elim
 ·rename_i t x y ty he;exact gE h (by rw[he];rfl) (po (neg:=false) ok.ak ok.lay ok.eqs h he hk)
 ·rename_i t x y ty he;exact gE h (by rw[he];rfl) (po (neg:=true) ok.ak ok.lay ok.eqs h he hk)
 ·rename_i c x y he;exact gE h (by rw[he];first|rfl|(simp[nD,hc])) (xm ok.ak h he hk)
 ·rename_i e x he
  split at hk
  ·exact absurd rfl xe
  ·exact hk.elim
 ·rename_i e he
  split at hk
  ·exact absurd rfl xe
  ·exact hk.elim
 ·rename_i t x y he
  split at hk
  ·exact absurd rfl xe
  ·exact hk.elim
 ·rename_i t x he;cases hD:Bz C 2000 o.dst with
  |false=>rw[hD]at hk;exact gE h (by rw[he];first|rfl|(simp[nD,hc])) (tg ok.lay ok.ak h he hk)
  |true=>
   rw[hD,az]at hk
   split at hk
   ·exact absurd rfl xe
   ·exact hk.elim
 ·rename_i t x y he
  split at hk
  ·rename_i n hn;exact gE h (by rw[he];first|rfl|(simp[nD,hc])) (zI ok.lay ok.ak h he hn hk)
  ·exact hk.elim
 ·rename_i t x y he
  split at hk
  ·rename_i n hn;exact gE h (by rw[he];first|rfl|(simp[nD,hc])) (vF ok.lay h he hn hk)
  ·exact hk.elim
 ·rename_i t len parts he
  split at hk
  ·rename_i d hd;cases hD:N3 (d+3000) C.op with
   |true=>
    rw[hD,az]at hk;exfalso;revert hk
    split
    ·exact fun _=>absurd rfl xe
    ·exact fun hh=>hh
   |false=>
   rw[hD,aC]at hk;obtain⟨r,s',E1,E2,w2,⟨r',B7,k1⟩,k2,k3,k4,k5⟩:=th ok.lay h he (wM hk);refine⟨r',s',k1,k3,fun hp=>?_,E1,k2⟩;obtain⟨x,Eh,Lr⟩:=k5 hp;refine Bb (by rw[he];rfl) ?_;exact dq Eh ⟨r',s',E2,⟨rfl,rfl⟩,k4,B7 _ _ Lr⟩
  ·exact hk.elim
 ·rename_i f first cap he
  split at hk
  ·rename_i hf;obtain⟨r,s',E1,k1,k2,k3,k4⟩:=Dl h he hf hk;refine⟨r,s',k1,k3,fun hp=>?_,E1,k2⟩;obtain⟨x,Eh,Lr⟩:=k4 hp;refine Bb (by rw[he];rfl) ?_;exact dq Eh ⟨r,s',E1,⟨rfl,rfl⟩,k2,Lr⟩
  ·split at hk
   ·rename_i hc;cases hi:cw (first.toList.map fun x=>rd (cd s p x))with
    |false=>rw[hi]at hk;exact hk.elim
    |true=>
    rw[hi,az]at hk;obtain⟨r,s',E1,k1,k2,k3,k4⟩:=Ib h he hc hi hk;refine⟨r,s',k1,k3,fun hp=>?_,E1,k2⟩;obtain⟨x,Eh,Lr⟩:=k4 hp;refine Bb (by rw[he];rfl) ?_;exact dq Eh ⟨r,s',E1,⟨rfl,rfl⟩,k2,Lr⟩
   ·exact hk.elim
 ·rename_i t x y he
  split at hk
  ·exact absurd rfl xe
  ·exact hk.elim
 ·rename_i t x lo hi mx he
  split at hk
  ·exact gE h (by rw[he];first|rfl|(simp[nD,hc])) (AI ok.lay ok.ak h he hk)
  ·exact hk.elim
 ·rename_i c he
  split at hk
  ·rename_i f hc;have hk:=WS xe hk
   unfold wFn at hk
   split at hk
   ·rename_i k cap er
    split at hk
    ·exact absurd rfl xe
    ·cases hi:cw ((c.args.toList.map fun x=>rd (cd s p x))++cap)with
     |true=>
      rw[hi,az]at hk;obtain⟨r,ca,hk⟩:=hk;refine⟨r,_,hk,fun q=>jE nN,fun hp=>?_,E,h.giveUp nN⟩;refine yy ok.cl ok.call ok.inl ok.yl h hp he hc ?_;unfold wFn;rw[er];dsimp only
      split
      ·exact absurd rfl xe
      ·rw[hi,az];exact⟨r,ca,rfl,rfl⟩
     |false=>
      rw[hi,aC]at hk;obtain⟨Nk,r,ca,hk⟩:=hk;refine⟨r,_,hk,fun q=>jE nN,fun hp=>?_,E,h.giveUp nN⟩;refine yy ok.cl ok.call ok.inl ok.yl h hp he hc ?_;unfold wFn;rw[er];dsimp only
      split
      ·exact absurd rfl xe
      ·rw[hi,aC];exact⟨Nk,r,ca,rfl,rfl⟩
   ·split at hk
    ·exact absurd rfl xe
    ·exact hk.elim
   ·split at hk
    ·exact absurd rfl xe
    ·exact hk.elim
   ·exact hk.elim
  ·rename_i hc;unfold AJ at hk
   split at hk
   ·exact absurd rfl xe
   ·exact absurd rfl xe
   ·exact gE h (by rw[he];first|rfl|(simp[nD,hc])) (CE ok h he hc hk)
   ·exact hk.elim
  ·exact hk.elim
 ·exact hk.elim
theorem KL(d e:Nat)(b:Bool): ∀q:Path,KM d (q++[(e,b)])=(KM d q||dy e d)
 |[]=>by simp[KM]
 |(k,w)::r=>by simp only[List.cons_append,KM,KL d e b r,Bool.or_assoc]
theorem IS{d e:Nat}(h:Tq d s.c=false):KM d (eV s e)=false:=by
 unfold eV;cases hl:look e s.c with
 |none=>rfl
 |some q=>
  dsimp only;by_cases hh:KM d q=true
  ·rw[Bn hl hh]at h;cases h
  ·simpa using hh
theorem Iy(d:Nat)(b:Bool): ∀q:Path,bp s (q++[(d,b)])↔bp s q∧isB b (look d s.t)
 |[]=>by simp[bp]
 |(k,w)::r=>by simp only[List.cons_append,bp,Iy d b r,and_assoc]
def D1(E0:Env)(w0:World)(K:St→Prop)(a:Act)(w:World):Prop:= ∃s E,K s∧bJ E0 E w0 w s a
theorem By(h:bJ E0 E w0 w s a){ops:Array Oper}{o og:Oper}{j d:Nat}{b:Bool}(hg:o.guard=some (j,b))(hj:ops[j]? =some og)(hd:og.dst=some d)(hb:isBool (look d s.t)=true):
  Region.wanted o (yielded ops a.tmps)=true↔bp s (eV s d++[(d,b)]):=by
 have hy:yielded ops a.tmps j=match a.tmps[d]? with|some (.bool x)=>some x|_=>none:=by
  simp only[yielded,hj,hd,au];rfl
 obtain⟨g,hgl⟩: ∃g,look d s.t=some (.v (.bool g)):=by
  unfold isBool at hb
  split at hb
  ·rename_i g hh;exact⟨g,hh⟩
  ·cases hb
 rw[Iy,hgl];simp only[Region.wanted,hg,hy];by_cases hp:bp s (eV s d)
 ·have hc:=bX (h.tm d _ hgl hp)
  have hq:a.tmps[d]? =some (.bool g):=by
   rw[Array.getD_eq_getD_getElem?]at hc;cases hh:a.tmps[d]? with
   |none=>rw[hh]at hc;simp[undef]at hc
   |some z=>rw[hh]at hc;simp at hc;rw[hc]
  rw[hq];simp only[isB,hp,true_and];simp
 ·have hu:a.tmps.getD d undef=undef:=by
   unfold eV at hp;cases hl:look d s.c with
   |none=>rw[hl]at hp;exact absurd trivial hp
   |some q=>rw[hl]at hp;exact h.cu d q hl hp
  have hq:(match a.tmps[d]? with|some (.bool x)=>some x|_=>none)=(none:Option Bool):=by
   rw[Array.getD_eq_getD_getElem?]at hu;cases hh:a.tmps[d]? with
   |none=>rfl
   |some z=>rw[hh]at hu;simp at hu;subst hu;rfl
  rw[hq];constructor
  ·intro hh;simp at hh
  ·intro hh;exact absurd hh.1 hp
theorem Fk(ok:Ok P C){ops:Array Oper}{Q:Exit→Act→World→Prop}{K:St→Prop}{o:Oper}(h:bJ E0 E w0 w s a)(hk:Jx C ops.toList o s K):
  if Region.wanted o (yielded ops a.tmps)then mS P o a w (fun a' w'=>D1 E0 w0 K a' w'∧(nD C.cl o.op=true→cp w w')) Q else D1 E0 w0 K (a.put o.dst undef) w:=by
  unfold Jx at hk;cases hg:o.guard with
  |none=>
   rw[hg]at hk;dsimp only at hk;rw[if_pos (by simp[Region.wanted,hg])];cases hp:DC C.I C.L s [] o.op with
   |some r=>
    rw[hp]at hk;dsimp only at hk;rw[ok.ak]at hp;replace hp:=vT hp;obtain⟨x,hr,hc⟩:=vS ok.lay h (p:=[]) trivial hp;unfold mS;rw[hr];exact⟨⟨_,_,hk.2,h.put hk.1 (fun _ _=>rfl) (.inl ⟨trivial,hc⟩)⟩,fun _=>cp.refl w⟩
   |none=>
    rw[hp]at hk;dsimp only at hk;refine mS.mono (fun a' w' hn=>?_) (Sd (Q:=Q) ok h hk);obtain⟨⟨x,rfl,r,s',E',⟨hd,kR⟩,hs,hc⟩,Np⟩:=hn;exact⟨⟨_,_,kR,hs.put hd (fun _ _=>rfl) (.inl ⟨trivial,hc⟩)⟩,Np⟩
  |some jb=>
   obtain⟨j,b⟩:=jb;rw[hg]at hk;dsimp only at hk;cases hj:ops.toList[j]? with
   |none=>rw[hj]at hk;exact hk.elim
   |some og=>
    rw[hj]at hk;dsimp only at hk;cases hd:og.dst with
    |none=>rw[hd]at hk;exact hk.elim
    |some d=>
     rw[hd]at hk;dsimp only at hk;cases hb:(yj s o.dst&&(isBool (look d s.t)&&ND o.dst d))with
     |false=>rw[hb]at hk;exact hk.elim
     |true=>
      rw[hb,az]at hk;simp only[Bool.and_eq_true]at hb;obtain⟨IU,AF,CL⟩:=hb;have hw:=By h hg (by rw[←Array.getElem?_toList];exact hj) hd AF
      have xS: ∀d',o.dst=some d'→KM d' (eV s d++[(d,b)])=false:=by
       intro d' uy;rw[uy]at IU CL;simp only[yj,Bool.and_eq_true,Bool.not_eq_true']at IU;rw[KL,IS IU.2];have dj: ¬d'=d:=fun e=>by subst e;simp[ND]at CL
       rw[zX (fun e=>dj e.symm)];rfl
      cases hp:DC C.I C.L s (eV s d++[(d,b)]) o.op with
      |some r=>
       rw[hp]at hk;dsimp only at hk;rw[ok.ak]at hp;replace hp:=vT hp;by_cases yL:bp s (eV s d++[(d,b)])
       ·rw[if_pos (hw.2 yL)];obtain⟨x,hr,hc⟩:=vS ok.lay h yL hp;unfold mS;rw[hr];exact⟨⟨_,_,hk.2,h.put hk.1 xS (.inl ⟨yL,hc⟩)⟩,fun _=>cp.refl w⟩
       ·rw[if_neg (fun hh=>yL (hw.1 hh))];exact⟨_,_,hk.2,h.put hk.1 xS (.inr ⟨yL,rfl⟩)⟩
      |none=>
       rw[hp]at hk;dsimp only at hk;obtain⟨r,s',⟨mI,kR⟩,hpi,eY,E1,anP⟩:=Se (Q:=Q) ok h (by simp) hk;by_cases yL:bp s (eV s d++[(d,b)])
       ·rw[if_pos (hw.2 yL)];refine mS.mono (fun a' w' hn=>?_) (eY yL);obtain⟨⟨x,rfl,r0,s0,E',⟨rfl,rfl⟩,hs,hc⟩,Np⟩:=hn;exact⟨⟨_,_,kR,hs.put mI xS (.inl ⟨(hpi _).2 yL,hc⟩)⟩,Np⟩
       ·rw[if_neg (fun hh=>yL (hw.1 hh))];exact⟨_,_,kR,anP.put mI xS (.inr ⟨fun hh=>yL ((hpi _).1 hh),rfl⟩)⟩
abbrev WF(ro:Option Nat):Fence:={fn:=fun _=>True,depth:=none,alive:=false,round:=ro}
theorem mS.wpIn{o:Oper}{K:Act→World→Prop}{Q:Exit→Act→World→Prop}(ro:Option Nat)(h:mS P o a w K Q):o.wpIn (WF ro) 0 P a w K Q:=by
 have hnd: ∀c,o.op≠ .defer c:=fun c hc=>by
  unfold mS at h;simp only[execOp,hc,Sem.run_bind]at h;cases hr:(resolve a.eval c o.type).run P w with
  |ok d w'=>rw[hr]at h;exact h
  |halt x w'=>rw[hr]at h;exact h
 refine⟨fun _ _=>trivial,?_⟩;show o.uponIn _ _ _ _ _ _ ((o.semAt ro a.eval).run P w);rw[Oper.semAt_eq _ _ _ hnd];unfold mS at h;generalize (execOp a.eval o).run P w=r at*;cases r with
 |ok n w'=>
  cases n<;>simp only[Fp]at h
  case value=>exact h
  case skip=>exact h
  case enter f args=>
   refine⟨fun hd=>(by cases hd),(callsIn_wide (n:=0)).2 (Calls.mono h ?_)⟩
   rintro e UL ⟨x,rfl,e2⟩
   exact e2
  case round l f tmps pH body=>
   refine⟨fun hd=>(by cases hd),RoundIn.mono (F:=WF ro) h ?_⟩
   rintro e UL ⟨x,rfl,e2⟩
   exact e2
 |halt x w'=>simp only[Fp]at h
theorem Fi(ok:Ok P C)(ro:Option Nat){ops:Array Oper}{Q:Exit→Act→World→Prop}{K:St→Prop}(hQ: ∀a w,D1 E0 w0 K a w→Q .normal a w):
  ∀{rest:List Oper} {s:St} {E:Env} {a:Act} {w:World},bJ E0 E w0 w s a→UE C ops.toList rest s K→wpListIn (WF ro) 0 P ops Q rest a w
 |[],s,E,a,w,h,hk=>hQ a w ⟨s,E,hk,h⟩
 |o::rest,s,E,a,w,h,hk=>by
  unfold UE at hk;have hn: ∀a w,D1 E0 w0 (fun s'=>UE C ops.toList rest s' K) a w→wpListIn (WF ro) 0 P ops Q rest a w:=fun a w ⟨s',E',kR,hs⟩=>Fi ok ro hQ hs kR
  have h1:=Fk (Q:=Q) ok h hk
  unfold wpListIn;by_cases hw:Region.wanted o (yielded ops a.tmps)=true
  ·rw[if_pos hw]at h1 ⊢;exact(mS.mono (fun a w hh=>hn a w hh.1) h1).wpIn ro
  ·rw[if_neg hw]at h1 ⊢;exact⟨fun _ _=>trivial,hn _ _ h1⟩
end Ab
namespace Ab
open Go
variable{P:Program}{L:pN}{E0 E E':Env}{w0 w w':World}{s s':St}{a:Act}{p:Path}{C:ey}
theorem DK{d:Nat}{x:AV}: ∀{c:List (Nat×Path)} {t:List (Nat×AV)},look d (forget c t)=some x→look d c=none∧look d t=some x
 |[],t,h=>⟨rfl,h⟩
 |(k,q)::r,t,h=>by
  simp only[forget]at h;obtain⟨h1,h2⟩:=DK h;rw[jy]at h2;by_cases hk:k=d
  ·rw[if_pos hk]at h2;cases h2
  ·rw[if_neg hk]at h2;exact⟨by rw[aG,if_neg hk];exact h1,h2⟩
theorem bJ.clean(h:bJ E0 E w0 w s a):bJ E0 E w0 w s.clean a:=by
 refine⟨h.heap,h.wf,h.Lv,h.up,h.sz,fun d x hd _=>?_,fun d q hd=>?_,h.bx,h.lv,h.gx,h.gl,h.ext,h.zu,h.same,h.gk,h.nl,h.ng,h.lo⟩
 ·obtain⟨h1,h2⟩:=DK hd;exact h.tm d x h2 (by unfold eV;rw[h1];trivial)
 ·simp[St.clean,look]at hd
theorem Gk{d:Nat}{x:AV}: ∀{l:List Nat} {t:List (Nat×AV)},look d (X9 l t)=some x→look d t=some x
 |[],t,h=>h
 |e::r,t,h=>by
  have:=Gk (l:=r) (t:=del e t) h
  rw[jy]at this
  split at this
  ·cases this
  ·exact this
theorem bJ.HP(h:bJ E0 E w0 w s a)(hc:s.c=[])(l:List Nat):bJ E0 E w0 w (s.HP l) a:=by
 refine⟨h.heap,h.wf,h.Lv,h.up,h.sz,fun d x hd _=>?_,fun d q hd=>?_,h.bx,h.lv,h.gx,h.gl,h.ext,h.zu,h.same,h.gk,h.nl,h.ng,h.lo⟩
 ·exact h.tm d x (Gk hd) (by unfold eV;rw[hc];trivial)
 ·simp only[St.HP]at hd;rw[hc]at hd;simp[look]at hd
def Env.only(E:Env)(f:Nat→Prop):Env:=
 {E with live:=fun k=>match k with
  | .s d=>E.live (.s d)∧f d
  | .o i=>E.live (.o i)}
theorem Kr(E:Env)(f:Nat→Prop):Tr E (E.only f):=
 ⟨rfl,fun _ _=>Iff.rfl,fun _=>rfl,fun _ h=>⟨h,rfl,rfl⟩,fun _ _ _ h=>h,fun _ _ h=>h⟩
theorem vf{b:List (Nat×Ob)}: ∀{l:List Nat},hasB b l=true→ ∀d∈l,∃ob,look d b=some ob
 |[],_,d,hd=>by simp at hd
 |e::r,h,d,hd=>by
  simp only[hasB,Bool.and_eq_true]at h;rcases List.mem_cons.1 hd with rfl|hd
  ·cases hh:look d b with
   |none=>rw[hh]at h;simp at h
   |some ob=>exact⟨ob,rfl⟩
  ·exact vf h.2 d hd
theorem Bw{b:List (Nat×Ob)}: ∀{l r:List Nat},hasB b (l++r)=true→hasB b l=true∧hasB b r=true
 |[],_,h=>⟨rfl,h⟩
 |e::l,r,h=>by
  simp only[List.cons_append,hasB,Bool.and_eq_true]at h ⊢;exact⟨⟨h.1,(Bw h.2).1⟩,(Bw h.2).2⟩
theorem rG{b:List (Nat×Ob)}: ∀{cs:List AV},hasB b (lB cs)=true→ ∀(q:Nat) (a:AV),cs[q]? =some a→hasB b (Bk a)=true
 |[],_,q,a,h=>by simp at h
 |x::r,h,q,a,hq=>by
  rw[lB]at h;cases q with
  |zero=>simp at hq;subst hq;exact(Bw h).1
  |succ q=>exact rG (Bw h).2 q a (by simpa using hq)
theorem Cz.only{b:List (Nat×Ob)}{f:Nat→Prop}(hf: ∀d ob,look d b=some ob→f d){av:AV}{x:Value}(h:Cz E av x):hasB b (Bk av)=true→Cz (E.only f) av x:=by
 have k:=Kr E f
 induction h with
 |any x=>exact fun _=> .any _
 |v x=>exact fun _=> .v _
 |pd r A c=>exact fun _=> .pd _ _ _
 |sl r xs z b o c u hp hc hm ew hz hr hi gZ hu hq ih=>
  exact fun _=> .sl r xs z b o c u hp hc hm ew hz hr hi gZ hu (fun q a dx=>k.cH (hq q a dx) (hi q a dx))
 |vk r t=>exact fun _=> .vk _ _
 |gs r t xs z b c e cells u hc hm h0 ew hz hr hb ef ho gZ hi hu hq ih=>
  exact fun _=> .gs r t xs z b c e cells u hc hm h0 ew hz hr hb ef ho gZ hi hu (fun q a dx=>k.cH (hq q a dx) (hi q a dx))
 |aX r cs off b o u hr hi gZ hu hq ih=>
  exact fun _=> .aX r cs off b o u hr hi gZ hu (fun q a dx=>k.cH (hq q a dx) (hi q a dx))
 |ptr q off hl=>
  intro hb;cases q with
  |s e=>obtain⟨ob,ho⟩:=vf hb e (by simp[Bk]);exact .ptr (E:=E.only f) (.s e) off ⟨hl,hf e ob ho⟩
  |o i=>exact .ptr (E:=E.only f) (.o i) off hl
 |jB q n hl hn hc hm=>
  intro hb;cases q with
  |s e=>obtain⟨ob,ho⟩:=vf hb e (by simp[Bk]);exact .jB (E:=E.only f) (.s e) n ⟨hl,hf e ob ho⟩ hn hc hm
  |o i=>exact .jB (E:=E.only f) (.o i) n hl hn hc hm
 |dc q i off z hl=>
  intro hb;cases q with
  |s e=>obtain⟨ob,ho⟩:=vf hb e (by simp[Bk]);exact .dc (E:=E.only f) (.s e) i off z ⟨hl,hf e ob ho⟩
  |o j=>exact .dc (E:=E.only f) (.o j) i off z hl
 |mp q hl=>
  intro hb;cases q with
  |s e=>obtain⟨ob,ho⟩:=vf hb e (by simp[Bk]);exact .mp (E:=E.only f) (.s e) ⟨hl,hf e ob ho⟩
  |o i=>exact .mp (E:=E.only f) (.o i) hl
 |rQ q hl=>
  intro hb;cases q with
  |s e=>obtain⟨ob,ho⟩:=vf hb e (by simp[Bk]);exact .rQ (E:=E.only f) (.s e) ⟨hl,hf e ob ho⟩
  |o i=>exact .rQ (E:=E.only f) (.o i) hl
 |ar n z xs ys hn hz hl hi hq ih=>exact fun _=> .ar n z xs ys hn hz hl hi (fun q a y ha hy=>k.cH (hq q a y ha hy) (hi q a ha))
 |bm f' cs ys hl hi hq ih=>exact fun _=> .bm f' cs ys hl hi (fun q a y ha hy=>k.cH (hq q a y ha hy) (hi q a ha))
 |nG r z xs x hz h ih=>exact fun _=> .nG r z xs x hz (ih rfl)
 |fn g cap ys hl hq ih=>intro hb;exact .fn g cap ys hl fun q a y ha hy=>ih q a y ha hy (rG (by simpa[Bk]using hb) q a ha)
 |agg cs ys hl hq ih=>intro hb;exact .agg cs ys hl fun q a y ha hy=>ih q a y ha hy (rG (by simpa[Bk]using hb) q a ha)
 |gY cs ys hl hq ih=>intro hb;exact .gY cs ys hl fun q a y ha hy=>ih q a y ha hy (rG (by simpa[Bk]using hb) q a ha)
theorem Jy{t:List (Nat×AV)}: ∀{t':List (Nat×AV)},wkT t t'→ ∀d b,look d t'=some b→(match look d t with|some a=>QM a b|none=>QM .any b)
 |[],_,d,b,h=>by simp[look]at h
 |(k,y)::r,h,d,b,hd=>by
  rw[aG]at hd;by_cases hk:k=d
  ·subst hk;rw[if_pos rfl]at hd;cases hd;exact h.1
  ·rw[if_neg hk]at hd;exact Jy h.2 d b hd
theorem QL{t:List (Nat×Ob)}: ∀{t':List (Nat×Ob)},wkB t t'→ ∀d b,look d t'=some b→ ∃a,look d t=some a∧alN a b
 |[],_,d,b,h=>by simp[look]at h
 |(k,y)::r,h,d,b,hd=>by
  rw[aG]at hd;by_cases hk:k=d
  ·subst hk;rw[if_pos rfl]at hd;cases hd;have h1:=h.1
   cases hl:look k t with
   |none=>rw[hl]at h1;exact h1.elim
   |some a=>rw[hl]at h1;exact⟨a,rfl,h1⟩
  ·rw[if_neg hk]at hd;exact QL h.2 d b hd
theorem A6{b:List (Nat×Ob)}: ∀{t:List (Nat×AV)},WO b t=true→ ∀d a,look d t=some a→hasB b (Bk a)=true
 |[],_,d,a,h=>by simp[look]at h
 |(k,y)::r,h,d,a,hd=>by
  simp only[WO,Bool.and_eq_true]at h;rw[aG]at hd;by_cases hk:k=d
  ·rw[if_pos hk]at hd;cases hd;exact h.1
  ·rw[if_neg hk]at hd;exact A6 h.2 d a hd
theorem yC{b:List (Nat×Ob)}: ∀{t:List (Nat×Ob)},okB b t=true→ ∀d cs,look d t=some (.box cs)→hasB b (lB cs)=true
 |[],_,d,a,h=>by simp[look]at h
 |(k,.box y)::r,h,d,a,hd=>by
  simp only[okB,Bool.and_eq_true]at h;rw[aG]at hd;by_cases hk:k=d
  ·rw[if_pos hk]at hd;cases hd;exact h.1
  ·rw[if_neg hk]at hd;exact yC h.2 d a hd
 |(k,.arr z xs)::r,h,d,a,hd=>by
  simp only[okB]at h;rw[aG]at hd;by_cases hk:k=d
  ·rw[if_pos hk]at hd;cases hd
  ·rw[if_neg hk]at hd;exact yC h d a hd
 |(k,.ow p l xs)::r,h,d,a,hd=>by
  simp only[okB]at h;rw[aG]at hd;by_cases hk:k=d
  ·rw[if_pos hk]at hd;cases hd
  ·rw[if_neg hk]at hd;exact yC h d a hd
 |(k,.lp n t ps pH body st)::r,h,d,a,hd=>by
  simp only[okB,Bool.and_eq_true]at h;rw[aG]at hd;by_cases hk:k=d
  ·rw[if_pos hk]at hd;cases hd
  ·rw[if_neg hk]at hd;exact yC h.2 d a hd
theorem Cx{b:List (Nat×Ob)}: ∀{t:List (Nat×Ob)},okB b t=true→ ∀{d n t' ps pH body st},look d t=some (.lp n t' ps pH body st)→WO b t'=true
 |[],_,d,_,_,_,_,_,_,h=>by simp[look]at h
 |(k,o)::r,h,d,n,t',ps,pH,body,st,hd=>by
  rw[aG]at hd;by_cases hk:k=d
  ·rw[if_pos hk]at hd;cases hd;simp only[okB,Bool.and_eq_true]at h;exact h.1
  ·rw[if_neg hk]at hd;cases o with
   |box cs=>simp only[okB,Bool.and_eq_true]at h;exact Cx h.2 hd
   |arr z xs=>simp only[okB]at h;exact Cx h hd
   |ow p l xs=>simp only[okB]at h;exact Cx h hd
   |lp=>simp only[okB,Bool.and_eq_true]at h;exact Cx h.2 hd
theorem LZ{b:List (Nat×Ob)}{f:Nat→Prop}(hf: ∀d ob,look d b=some ob→f d){t t':List (Nat×AV)}(ht:wkT t t')(jX:WO b t'=true){T:Array Value}(h: ∀d x,look d t=some x→Cz E x (T.getD d undef)):
  ∀d x,look d t'=some x→Cz (E.only f) x (T.getD d undef):=by
 intro d x hd;refine Cz.only hf ?_ (A6 jX d x hd);have h1:=Jy ht d x hd
 cases hl:look d t with
 |none=>rw[hl]at h1;exact ir h1 (.any _)
 |some y=>rw[hl]at h1;exact ir h1 (h d y hl)
theorem mE.wk{b:List (Nat×Ob)}{f:Nat→Prop}(hf: ∀d ob,look d b=some ob→f d): ∀{ab:List Act} {fs fs':List Fr},wkU fs fs'→okU b fs'=true→mE E ab fs→mE (E.only f) ab fs'
 |[],[],[],_,_,_=>trivial
 |a::ab,g::fs,g'::fs',hw,jX,h=>by
  simp only[okU,Bool.and_eq_true]at jX;exact⟨⟨h.1.1.trans hw.1.1,LZ hf hw.1.2 jX.1 h.1.2⟩,mE.wk hf hw.2 jX.2 h.2⟩
 |[],_::_,_,_,_,h=>h.elim
 |_::_,[],_,_,_,h=>h.elim
 |[],[],_::_,hw,_,_=>hw.elim
 |_::_,_::_,[],hw,_,_=>hw.elim
theorem bJ.wk(h:bJ E0 E w0 w s a)(hw:wk s s'): ∃E',bJ E0 E' w0 w s' a:=by
 obtain⟨hn,hc,Qa,hg,hnx,ht,hb,hu,jX,hD⟩:=hw;simp only[S4,Bool.and_eq_true]at jX;obtain⟨aiW,abB,aiV⟩:=jX;have jX:WO s'.b s'.t=true∧okB s'.b s'.b=true:=⟨aiW,abB⟩
 let f:Nat→Prop:=fun d=> ∃ob,look d s'.b=some ob;have hf: ∀d ob,look d s'.b=some ob→f d:=fun d ob hd=>⟨ob,hd⟩
 have k:=Kr E f
 have tm: ∀d x,look d s.t=some x→Cz E x (a.tmps.getD d undef):=fun d x hd=>h.tm d x hd (by unfold eV;rw[hc];trivial)
 refine⟨E.only f,⟨h.heap,⟨h.wf.aR,h.wf.own,h.wf.fz⟩,h.Lv,mE.wk hf hu aiV h.up,h.sz.trans hn,fun d x hd _=>?_,fun d q hd=>?_,fun d ob hd=>?_,fun d hl=>hl.2,fun i ob hi=>?_,fun i=>?_,?_,h.zu,h.same,hg▸h.gk,h.nl,h.ng,fun hl=>h.lo (hD.trans hl)⟩⟩
 ·refine Cz.only hf ?_ (A6 jX.1 d x hd);have h1:=Jy ht d x hd
  cases hl:look d s.t with
  |none=>rw[hl]at h1;exact ir h1 (.any _)
  |some y=>rw[hl]at h1;exact ir h1 (tm d y hl)
 ·rw[Qa]at hd;simp[look]at hd
 ·obtain⟨o0,h1,h2⟩:=QL hb d ob hd;have h3:=h.bx d o0 h1
  cases o0 with
  |ow p l xs=>cases ob with
   |arr z xs=>exact h2.elim
   |box=>exact h2.elim
   |lp=>exact h2.elim
   |ow p' l' xs'=>
    obtain⟨rfl,rfl,rfl⟩:=h2;exact A5 (fun hl=>⟨hl,hf d _ hd⟩) rfl rfl (fun ho=>⟨ho,rfl,fun o hh=>hh⟩) (fun a x hi hc=>k.cH hc hi) (fun b hb _=>⟨hb,rfl,fun _=>Iff.rfl,rfl⟩) h3
  |lp n t ps pH body st=>cases ob with
   |arr z xs=>exact h2.elim
   |ow=>exact h2.elim
   |box=>exact h2.elim
   |lp n' t' YZ Yy NL st'=>
    obtain⟨rfl,e2,rfl,rfl,rfl,rfl⟩:=h2;obtain⟨hl,ho,hs,rec,fP,h4,h5,h6,h7,h8,h9,hq⟩:=h3;exact⟨⟨hl,hf d _ hd⟩,ho,hs,rec,fP,h4,h5,h6,h7,h8,h9,LZ hf e2 (Cx jX.2 hd) hq⟩
  |box cs=>cases ob with
   |arr z xs=>exact h2.elim
   |ow=>exact h2.elim
   |lp=>exact h2.elim
   |box cs'=>
    obtain⟨hl,c,e,fP,ho,hs,ef,hq⟩:=h3;obtain⟨h4,h5⟩:=yw h2;refine⟨⟨hl,hf d _ hd⟩,c,e,fP,ho,hs,ef.trans h4,fun q av x ha hx=>?_⟩;obtain⟨a0,h6,h7⟩:=h5 q av ha;exact Cz.only hf (ir h7 (hq q a0 x h6 hx)) (rG (yC jX.2 d _ hd) q av ha)
  |arr z xs=>cases ob with
   |box cs'=>exact h2.elim
   |ow=>exact h2.elim
   |lp=>exact h2.elim
   |arr z' xs'=>
    obtain⟨rfl,rfl⟩:=h2;obtain⟨hl,jg,ew,hz,hm,c,e,fP,ho,hs,ef,hi,hq⟩:=h3;exact⟨⟨hl,hf d _ hd⟩,jg,ew,hz,hm,c,e,fP,ho,hs,ef,hi,fun q av x ha hx=>k.cH (hq q av x ha hx) (hi q av ha)⟩
 ·exact k.ob (h.gk i ob (hg▸hi)) (h.gx i ob (hg▸hi))
 ·rw[←hnx];exact h.gl i
 ·exact⟨h.ext.size,h.ext.aR,fun q hq=>by
   cases q with
   |s d=>exact absurd hq (h.nl d)
   |o i=>exact h.ext.live (.o i) hq,h.ext.bH⟩
theorem cp.cell{x:Addr}{v:Value}(h:cp w w')(hc:w.cell? x=some v):w'.cell? x=some v:=by
 unfold World.cell? at*;cases hb:w.heap[x.block]? with
 |none=>rw[hb]at hc;simp at hc
 |some o=>rw[h.get hb];rw[hb]at hc;exact hc
theorem Sw{P:Program}{w:World}{at_:Addr}{u:TypeId}{k:Addr}{b:Bool}(h:w.heap[at_.block]? =none): ∀r,w.seen P at_ u k b≠ .ok r:=by
 intro r hr;simp only[World.seen,h,bind,Except.bind,throwThe,MonadExceptOf.throw,pure,Except.pure]at hr;repeat' split at hr
 all_goals first|cases hr|skip
 all_goals simp at*
theorem cp.seen{at_:Addr}{u:TypeId}{k:Addr}{b:Bool}(h:cp w w'){r}(hr:w.seen P at_ u k b= .ok r):w'.seen P at_ u k b= .ok r:=by
 cases hb:w.heap[at_.block]? with
 |none=>exact absurd hr (Sw hb r)
 |some x=>
  have fP:=h.get hb
  rw[←hr];simp only[World.seen,hb,fP]
theorem cp.view{at_:Addr}{u:TypeId}{k:Addr}{b:Bool}(h:cp w w'){r}(hr:w.viewLoad P at_ u k b= .ok r):w'.viewLoad P at_ u k b= .ok r:=by
 cases hs:w.seen P at_ u k b with
 |error e=>simp[World.viewLoad,hs,bind,Except.bind]at hr
 |ok t=>rw[←hr];simp only[World.viewLoad,hs,h.seen hs]
theorem cp.far{x:Addr}{b:Bool}(h:cp w w'){r}(hr:w.farLoad P x b= .ok r):w'.farLoad P x b= .ok r:=by
 unfold World.farLoad at*;cases hb:w.heap[x.block]? with
 |none=>rw[hb]at hr;simp at hr
 |some o=>
  rw[h.get hb];rw[hb]at hr;cases o<;>simp only at hr ⊢ <;>try(cases hr;done)
  rename_i at_ u;cases hv:w.viewLoad P at_ u x b with
  |error e=>rw[hv]at hr;simp at hr
  |ok t=>rw[h.view hv];rw[hv]at hr;exact hr
def Ez{α:Type}:Sem α→Prop
 | .pure _=>True
 | .halt _=>True
 | .load _ _ k=> ∀v,Ez (k v)
 | .program k=> ∀p,Ez (k p)
 | .mark _ k=>Ez k
 |_=>False
def cY(R:World→World→Prop)(P:Program){α:Type}(m:Sem α):Prop:= ∀w w' v w1,R w w'→m.run P w= .ok v w1→w1=w∧m.run P w'= .ok v w'
theorem L4{α:Type}{x:Sem α}(hx:Ez x):cY cp P x:=by
 induction x with
 |pure a=>intro w w' v w1 _ h;simp only[Sem.run]at h ⊢;cases h;exact⟨rfl,rfl⟩
 |halt h=>intro w w' v w1 _ h;simp[Sem.run]at h
 |load m ad k ih=>
  intro w w' v w1 hR h;simp only[Sem.run]at h ⊢;cases hc:w.cell? ad with
  |some y=>
   rw[hc]at h;rw[hR.cell hc];exact ih y (hx y) w w' v w1 hR h
  |none=>
   rw[hc]at h;dsimp only at h;cases hf:w.farLoad P ad (m== .atomic)with
   |error e=>rw[hf]at h;cases h
   |ok t=>
    rw[hf]at h;obtain⟨y,l⟩:=t;have h2:=hR.far hf
    have Qa:w'.cell? ad=none:=by
     unfold World.farLoad at hf;unfold World.cell? at hc ⊢;cases hb:w.heap[ad.block]? with
     |none=>rw[hb]at hf;simp at hf
     |some o=>rw[hR.get hb];rw[hb]at hc;exact hc
    rw[Qa,h2];exact ih y (hx y) w w' v w1 hR h
 |shape r k ih=>exact hx.elim
 |frozen a k ih=>exact hx.elim
 |getObj r k ih=>exact hx.elim
 |program k ih=>intro w w' v w1 hR h;simp only[Sem.run]at h ⊢;exact ih P (hx P) w w' v w1 hR h
 |mark m k ih=>intro w w' v w1 hR h;simp only[Sem.run]at h ⊢;exact ih hx w w' v w1 hR h
 |store m a v k _=>exact hx.elim
 |new o k _=>exact hx.elim
 |freeze a n k _=>exact hx.elim
 |setObj r o k _=>exact hx.elim
 |choose q k _=>exact hx.elim
 |sys c k _=>exact hx.elim
theorem Ez.bind'{α β:Type}{x:Sem α}{f:α→Sem β}(hx:Ez x)(hf: ∀a,Ez (f a)):Ez (x.bind f):=by
 induction x with
 |pure a=>exact hf a
 |halt h=>exact trivial
 |load m a k ih=>exact fun v=>ih v (hx v)
 |shape r k ih=>exact hx.elim
 |frozen a k ih=>exact hx.elim
 |getObj r k ih=>exact hx.elim
 |program k ih=>exact fun p=>ih p (hx p)
 |mark m k ih=>exact ih hx
 |store m a v k _=>exact hx.elim
 |new o k _=>exact hx.elim
 |freeze a n k _=>exact hx.elim
 |setObj r o k _=>exact hx.elim
 |choose q k _=>exact hx.elim
 |sys c k _=>exact hx.elim
theorem Ez.bind{α β:Type}{x:Sem α}{f:α→Sem β}(hx:Ez x)(hf: ∀a,Ez (f a)):Ez (x >>= f):=hx.bind' hf
section
variable{R:World→World→Prop}
theorem cY.bind{α β:Type}{x:Sem α}{f:α→Sem β}(hx:cY R P x)(hf: ∀a,cY R P (f a)):cY R P (x >>= f):=by
 intro w w' v w1 hR h;rw[Sem.run_bind]at h ⊢;cases hr:x.run P w with
 |halt y w2=>rw[hr]at h;cases h
 |ok y w2=>
  rw[hr]at h;obtain⟨rfl,h2⟩:=hx w w' y w2 hR hr;rw[h2];exact hf y w2 w' v w1 hR h
theorem bS{α:Type}(x:α):cY R P (pure x:Sem α):=by
 intro w w' v w1 _ h;cases h;exact⟨rfl,rfl⟩
theorem fb{α:Type}{m:Sem α}(h: ∀w v w1,m.run P w≠ .ok v w1):cY R P m:=fun w _ v w1 _ hr=>absurd hr (h w v w1)
theorem eZ{α:Type}(s:String):cY R P (stuck s:Sem α):=fb fun w v w1 h=>by cases h
theorem rX{α:Type}(u:Unsupported):cY R P (unsupported u:Sem α):=fb fun w v w1 h=>by cases h
theorem xt{α β:Type}{x:Sem α}{f:α→Sem β}(hf: ∀a w v w1,(f a).run P w≠ .ok v w1): ∀w v w1,(x >>= f).run P w≠ .ok v w1:=by
 intro w v w1 h;rw[Sem.run_bind]at h;cases hr:x.run P w with
 |halt y w2=>rw[hr]at h;cases h
 |ok y w2=>rw[hr]at h;exact hf y w2 v w1 h
theorem My{α:Type}(x y:Int)(b:Bool)(c:BoundsCode): ∀w v w1,(runtimePanic (.bounds x y b c):Sem α).run P w≠ .ok v w1:=by
 unfold runtimePanic;refine xt fun p w v w1=>?_;intro h;cases h
theorem gL{α:Type}(k:IntKind)(x y:Int)(c:BoundsCode): ∀w v w1,(boundsPanic k x y c:Sem α).run P w≠ .ok v w1:=by
 unfold boundsPanic;dsimp only
 split<;>exact xt fun _=>My _ _ _ _
theorem iP(t:TypeId):cY R P (underlying t):=by
 unfold underlying;intro w w' v w1 _ h;simp only[Sem.run_bind,program,Sem.run,Result.andThen]at h ⊢;cases hh:P.underlying t<;>rw[hh]at h<;>simp only at h ⊢ <;>cases h;exact⟨rfl,rfl⟩
theorem Ds(t:TypeId):cY R P (typeInfo t):=by
 unfold typeInfo;intro w w' v w1 _ h;simp only[Sem.run_bind,program,Sem.run,Result.andThen]at h ⊢;cases hh:P.info? t<;>rw[hh]at h<;>simp only at h ⊢ <;>cases h;exact⟨rfl,rfl⟩
theorem j4(t:TypeId):cY R P (Go.sizeOf t):=by
 unfold Go.sizeOf;exact(Ds t).bind fun _=>bS _
theorem FA(t:TypeId):cY R P (isAgg t):=by
 unfold isAgg;refine(iP t).bind fun d=>?_
 split<;>exact bS _
theorem Fy(v:Value):cY R P (asIntOf v):=by
 unfold asIntOf
 split
 ·exact bS _
 ·exact rX _
 ·exact eZ _
theorem Dq(v:Value):cY R P (Instr.sureAddr v):=by
 unfold Instr.sureAddr
 split
 ·exact bS _
 ·exact eZ _
end
theorem Dr(x:Addr)(m:Mode):cY cp P (load x m):=L4 (fun _=>trivial)
theorem AM(x:Addr): ∀(n i:Nat) (acc:Array Value),cY cp P (loadCellsFrom x i n acc)
 |0,_,_=>bS _
 |n+1,i,acc=>by
  unfold loadCellsFrom;exact(Dr _ _).bind fun v=>AM x n (i+1) (acc.push v)
theorem zn(t:TypeId)(v:Value):cY cp P (Instr.loadAt t v):=by
 unfold Instr.loadAt;refine(Dq v).bind fun x=>?_;unfold loadVar;refine(FA t).bind fun b=>?_
 split
 ·exact(j4 t).bind fun n=>((AM x n 0 #[]).bind fun _=>bS _)
 ·exact Dr _ _
theorem Fz{R:World→World→Prop}(t:TypeId)(v i:Value):cY R P (Instr.indexAt t v i):=by
 unfold Instr.indexAt;refine(Fy i).bind fun ki=>?_;obtain⟨k,n⟩:=ki;dsimp only;refine(iP t).bind fun d=>?_
 split
 ·refine(Dq _).bind fun _=>?_;refine cY.bind (bS _) fun y=>?_;refine(iP t).bind fun d=>?_
  split
  ·split
   ·exact(j4 _).bind fun _=>bS _
   ·repeat' first
     |exact rX _
     |exact fb (gL _ _ _ _)
     |split
  ·exact fb (gL _ _ _ _)
 ·refine cY.bind (bS _) fun y=>?_;refine(iP t).bind fun d=>?_
  split
  ·split
   ·exact(j4 _).bind fun _=>bS _
   ·repeat' first
     |exact rX _
     |exact fb (gL _ _ _ _)
     |split
  ·exact fb (gL _ _ _ _)
 ·refine cY.bind (eZ _) fun y=>?_;refine(iP t).bind fun d=>?_
  split
  ·split
   ·exact(j4 _).bind fun _=>bS _
   ·repeat' first
     |exact rX _
     |exact fb (gL _ _ _ _)
     |split
  ·exact fb (gL _ _ _ _)
theorem LX{R:World→World→Prop}(t:TypeId)(cs:Array Value)(o:Nat):cY R P (Go.part t cs o):=by
 unfold Go.part;refine(FA t).bind fun b=>?_;repeat' first
  |exact bS _
  |exact eZ _
  |refine cY.bind (j4 _) fun _=>?_
  |split
  |dsimp only
theorem JM{R:World→World→Prop}(t:TypeId)(v i:Value):cY R P (Instr.index t v i):=by
 unfold Instr.index;refine(Fy i).bind fun ki=>?_;obtain⟨k,n⟩:=ki;dsimp only;refine(iP t).bind fun d=>?_
 split
 ·split
  ·exact(j4 _).bind fun _=>LX _ _ _
  ·exact fb (gL _ _ _ _)
 ·split
  ·exact bS _
  ·exact fb (gL _ _ _ _)
 ·exact eZ _
def iq(R:World→World→Prop)(P:Program)(ops:Array Oper)(o:Oper)(v:Value)(a:Act)(w:World):Prop:=
 (Region.wanted o (yielded ops a.tmps)=true∧ ∀w',R w w'→(execOp a.eval o).run P w'= .ok (.value v) w')∨
 (Region.wanted o (yielded ops a.tmps)=false∧v=undef)
section
variable{R:World→World→Prop}{ops:Array Oper}{Q:Exit→Act→World→Prop}{md:Region.Mode}
theorem iq.of_same{o:Oper}{v:Value}{a a':Act}(hy:iq R P ops o v a w)(he:execOp a'.eval o=execOp a.eval o)
  (hw:Region.wanted o (yielded ops a'.tmps)=Region.wanted o (yielded ops a.tmps)):iq R P ops o v a' w:=by
 unfold iq at*;rw[he,hw];exact hy
theorem iq.later(N5: ∀a b c,R a b→R b c→R a c){o:Oper}{v:Value}{a:Act}(hy:iq R P ops o v a w)(hR:R w w'):iq R P ops o v a w':=
 hy.imp (fun h=>⟨h.1,fun w2 h2=>h.2 w2 (N5 _ _ _ hR h2)⟩) id
def DH:Op→Bool
 | .move _=>true
 | .assign _=>true
 | .pick _ _ _=>true
 | .binOp _ _ _ _ _=>true
 | .unOp _ _ _=>true
 | .fieldAddr _ _ _=>true
 | .nilCheck _=>true
 | .extract _ _=>true
 | .build _ _=>true
 | .load _ _=>true
 | .indexAddr _ _ _=>true
 | .index _ _ _=>true
 | .call c=>match c.callee with
  | .builtin .len=>true
  |_=>false
 |_=>false
def RD:Op→Bool
 | .alloc _=>true
 | .box _ _=>true
 | .buildSlice _ _ _=>true
 | .makeFunc _ _ _=>true
 |_=>false
def G6(cl:Nat→Bool)(o:Op):Bool:=DH o||(RD o||nD cl o)
def vC(P:Program){α:Type}(m:Sem α):Prop:= ∀w v w1,m.run P w= .ok v w1→cp w w1
theorem vC.bind{α β:Type}{x:Sem α}{f:α→Sem β}(hx:vC P x)(hf: ∀a,vC P (f a)):vC P (x >>= f):=by
 intro w v w1 h;rw[Sem.run_bind]at h;cases hr:x.run P w with
 |halt y w2=>rw[hr]at h;cases h
 |ok y w2=>rw[hr]at h;exact(hx w y w2 hr).trans (hf y w2 v w1 h)
theorem cY.DP{α:Type}{m:Sem α}(h:cY (fun _ _=>True) P m):vC P m:=fun w v w1 hr=>by
 have e:=(h w w v w1 trivial hr).1
 rw[e];exact cp.refl _
theorem iX{α:Type}(x:α):vC P (pure x:Sem α):=(bS x).DP
theorem CO(t:TypeId)(cells:Array Value):vC P (newRow t cells):=by
 unfold newRow newObj;refine vC.bind ?_ fun _=>iX _;intro w v w1 h;simp only[Sem.run]at h;cases h;intro b hb;exact(Array.getElem?_push_lt hb).trans (Array.getElem?_eq_getElem hb).symm
theorem IW(t:TypeId)(v:Value):vC P (newVar t v):=CO t _
theorem GI(t:TypeId):vC P (zeroValue t):=by
 unfold zeroValue;refine(Ds t).DP.bind fun i=>?_
 split
 ·exact iX _
 ·exact(rX _).DP
theorem XN{o:Oper}(hg:RD o.op=true)(ρ:Operand→Value){w w':World}{n:Next}(h:(execOp ρ o).run P w= .ok n w'):(∃v,n= .value v)∧cp w w':=by
 have fin: ∀{m:Sem Value},vC P m→(do pure (.value (←m)):Sem Next).run P w= .ok n w'→(∃v,n= .value v)∧cp w w':=by
  intro m hm h;rw[Sem.run_bind]at h;cases hr:m.run P w with
  |halt y w2=>rw[hr]at h;cases h
  |ok y w2=>rw[hr]at h;cases h;exact⟨⟨y,rfl⟩,hm w y w' hr⟩
 unfold RD at hg
 split at hg
 ·rename_i e he;simp only[execOp,he]at h;refine fin ?_ h;unfold Instr.alloc;exact(GI _).bind fun z=>(IW _ _).bind fun _=>iX _
 ·rename_i e x he;simp only[execOp,he]at h;refine fin ?_ h;unfold Instr.box;exact(IW _ _).bind fun _=>iX _
 ·rename_i t len parts he;simp only[execOp,he]at h;refine fin ?_ h;unfold Instr.buildSlice;refine(iP t).DP.bind fun d=>?_
  split
  ·refine(j4 _).DP.bind fun z=>?_;dsimp only
   split
   ·exact fun w v w1 h=>by cases h
   ·split
    ·refine vC.bind (iX _) fun zero=>?_
     split
     ·exact(CO _ _).bind fun _=>iX _
     ·exact(eZ _).DP
    ·refine(GI _).bind fun l=>vC.bind (iX _) fun zero=>?_
     split
     ·exact(CO _ _).bind fun _=>iX _
     ·exact(eZ _).DP
  ·exact(eZ _).DP
 ·rename_i f first cap he
  simp only[execOp,he]at h;exact fin (iX _) h
 ·cases hg
def lq(P:Program)(cl:Nat→Bool)(ops:Array Oper)(Q:Exit→Act→World→Prop)(i:Nat)(K:Act→World→Prop)(a:Act)(w:World):Prop:=
 match ops[i]? with
 |none=>K a w
 |some o=>if Region.wanted o (yielded ops a.tmps)then mS P o a w (fun a' w'=>K a' w'∧(G6 cl o.op=true→cp w w')) Q else K (a.put o.dst undef) w
theorem zK{cl:Nat→Bool}{i:Nat}{a:Act}{w:World}{K K':Act→World→Prop}(h: ∀a w,K a w→K' a w)(hh:lq P cl ops Q i K a w):lq P cl ops Q i K' a w:=by
 unfold lq at*;cases ho:ops[i]? with
 |none=>rw[ho]at hh;exact h _ _ hh
 |some o=>
  rw[ho]at hh;dsimp only at hh ⊢
  split
  ·rename_i hw;rw[if_pos hw]at hh;exact mS.mono (fun a w h2=>⟨h _ _ h2.1,h2.2⟩) hh
  ·rename_i hw;rw[if_neg hw]at hh;exact h _ _ hh
def rU(P:Program)(cl:Nat→Bool)(md:Region.Mode)(ops:Array Oper)(Q:Exit→Act→World→Prop):Nat→Array Bool→Act→World→Prop
 |0,listed,a,w=>Region.ready md ops listed=[]∧Q .normal a w
 |fuel+1,listed,a,w=>
  (Region.ready md ops listed=[]→Q .normal a w)∧
  ∀i∈Region.ready md ops listed,lq P cl ops Q i (rU P cl md ops Q fuel (listed.setIfInBounds i true)) a w
theorem rT{cl:Nat→Bool}(ro:Option Nat): ∀(fuel:Nat) (listed:Array Bool) (a:Act) (w:World),rU P cl md ops Q fuel listed a w→wpAnyIn (WF ro) 0 P md ops Q fuel listed a w
 |0,_,_,_,h=>h
 |fuel+1,listed,a,w,h=>by
  refine⟨h.1,fun i hi=>?_⟩;have h1:=h.2 i hi
  unfold lq at h1;unfold wpOpIn;cases ho:ops[i]? with
  |none=>rw[ho]at h1;exact rT ro fuel _ _ _ h1
  |some o=>
   rw[ho]at h1;dsimp only at h1 ⊢
   split
   ·rename_i hw;rw[if_pos hw]at h1;exact(mS.mono (fun a w h2=>rT ro fuel _ _ _ h2.1) h1).wpIn ro
   ·rename_i hw;rw[if_neg hw]at h1;exact⟨fun _ _=>trivial,rT ro fuel _ _ _ h1⟩
theorem iq.lq{cl:Nat→Bool}(hrf: ∀w,R w w){i:Nat}{o:Oper}{v:Value}{a:Act}{w:World}(hi:ops[i]? =some o)(hy:iq R P ops o v a w){K:Act→World→Prop}(h:K (a.put o.dst v) w):lq P cl ops Q i K a w:=by
 unfold Ab.lq;rw[hi];dsimp only;rcases hy with⟨hw,hv⟩|⟨hw,rfl⟩
 ·rw[if_pos hw];unfold mS;rw[hv w (hrf w)];exact⟨h,fun _=>cp.refl w⟩
 ·rw[if_neg (by rw[hw];simp)];exact h
theorem Sb{cl:Nat→Bool}(N5: ∀a b c,R a b→R b c→R a c){j:Nat}{oi oj:Oper}{v:Value}(hj:ops[j]? =some oj)(hap:oi.apart ops oj=true)
  (an2:(∀w w',R w w')∨(G6 cl oj.op=true∧ ∀w w',cp w w'→R w w'))
  (hsi: ∀cs b,oi.op≠ .select cs b)(hsj: ∀cs b,oj.op≠ .select cs b)
  (hQ: ∀c a w,Q (.panic c) (a.put oi.dst v) w→Q (.panic c) a w){K:Act→World→Prop}{a:Act}{w:World}
  (hy:iq R P ops oi v a w)(h:lq P cl ops Q j K (a.put oi.dst v) w):
  lq P cl ops Q j (fun a' w'=>iq R P ops oi v a' w'∧K (a'.put oi.dst v) w') a w:=by
 obtain⟨h1,h2,h3⟩:=Oper.apart_spec hap;have bH: ∀(a:Act) (w:World),iq R P ops oi v a w→ ∀u,iq R P ops oi v (a.put oj.dst u) w:=fun a w hy u=>
  hy.of_same (execOp_put oi hsi a oj.dst u h3) (wanted_put oi a oj.dst u h3)
 have keepD: ∀d,iq R P ops oi v {a with defers:=d::a.defers} w:=fun d=>hy.of_same rfl rfl
 have hm: ∀w',(G6 cl oj.op=true→cp w w')→R w w':=fun w' Ei=>an2.elim (fun h=>h _ _) fun h=>h.2 _ _ (Ei h.1)
 unfold lq at*;rw[hj]at h ⊢;dsimp only at h ⊢;rw[wanted_put oj a oi.dst v h1]at h
 split
 ·rename_i hw;rw[if_pos hw]at h;unfold mS at*;rw[execOp_put oj hsj a oi.dst v h1]at h;cases hr:(execOp a.eval oj).run P w with
  |ok n w'=>
   rw[hr]at h;cases n<;>simp only[Fp]at h ⊢
   case value u=>exact⟨⟨bH a w' (hy.later N5 (hm _ h.2)) u,by rw[←Act.put_comm a v u h2];exact h.1⟩,h.2⟩
   case skip=>exact⟨⟨bH a w' (hy.later N5 (hm _ h.2)) _,by rw[←Act.put_comm a v undef h2];exact h.1⟩,h.2⟩
   case enter f args=>
    refine Calls.mono h ?_
    rintro e UL ⟨u,rfl,he⟩
    exact⟨u,rfl,⟨bH a UL (hy.later N5 (hm _ he.2)) u,by rw[←Act.put_comm a v u h2];exact he.1⟩,he.2⟩
   case round l f tmps pH body=>
    refine RoundIn.mono h ?_
    rintro e UL ⟨u,rfl,he⟩
    exact⟨u,rfl,⟨bH a UL (hy.later N5 (hm _ he.2)) u,by rw[←Act.put_comm a v u h2];exact he.1⟩,he.2⟩
  |halt x w'=>
   rw[hr]at h;simp only[Fp]at h
 ·rename_i hw;rw[if_neg hw]at h;exact⟨bH a w hy _,by rw[←Act.put_comm a v undef h2];exact h⟩
theorem Jw{cl:Nat→Bool}(N5: ∀a b c,R a b→R b c→R a c)(hrf: ∀w,R w w){i:Nat}{oi:Oper}{v:Value}(hi:ops[i]? =some oi)(Xm: ∀(j:Nat) (o:Oper) cs b,ops[j]? =some o→o.op≠ .select cs b)
  (hQ: ∀c a w,Q (.panic c) (a.put oi.dst v) w→Q (.panic c) a w)(M:Nat→Prop)
  (aog: ∀j oj,ops[j]? =some oj→j≠i→M j→oi.apart ops oj=true∧((∀w w',R w w')∨(G6 cl oj.op=true∧ ∀w w',cp w w'→R w w'))):
  ∀(fuel:Nat) (listed:Array Bool) (a:Act) (w:World),
   (∀(l:Array Bool) (j:Nat),(∀k,listed.getD k false=true→l.getD k false=true)→(∀k,l.getD k false=true→listed.getD k false=true∨M k)→j≠i→j∈Region.ready md ops l→M j)→
   i∈Region.ready md ops listed→iq R P ops oi v a w→
   rU P cl md ops Q fuel (listed.setIfInBounds i true) (a.put oi.dst v) w→rU P cl md ops Q (fuel+1) listed a w:=by
 intro fuel
 induction fuel with
 |zero=>
  intro listed a w _ hr hy H;refine⟨fun h=>(by rw[h]at hr;cases hr),fun j hj=>?_⟩;by_cases hji:j=i
  ·subst hji;exact hy.lq hrf hi H
  ·have:=ready_mono hj hji
   rw[H.1]at this;cases this
 |succ fuel ih=>
  intro listed a w hM hr hy H;refine⟨fun h=>(by rw[h]at hr;cases hr),fun j hj=>?_⟩;by_cases hji:j=i
  ·subst hji;exact hy.lq hrf hi H
  ·have h1:=H.2 j (ready_mono hj hji)
   obtain⟨Tz,oj,hoj,lg⟩:=mem_ready.1 hj;have hMj:M j:=hM listed j (fun k hk=>hk) (fun k hk=> .inl hk) hji hj
   obtain⟨hap,hmd⟩:=aog j oj hoj hji hMj;have h2:=Sb N5 hoj hap hmd (fun cs b=>Xm i oi cs b hi) (fun cs b=>Xm j oj cs b hoj) hQ hy h1
   refine zK (fun a' w' h3=>ih (listed.setIfInBounds j true) a' w' (fun l k hs hl hki hk=>hM l k (fun k2 Ej=>hs k2 (getD_set_true Ej)) (fun k2 Ej=>?_) hki hk) (ready_mono hr (Ne.symm hji)) h3.1 ?_) h2
   ·rcases hl k2 Ej with h4|h4
    ·by_cases hjk:j=k2
     ·subst hjk;exact .inr hMj
     ·rw[getD_set_ne false hjk]at h4;exact .inl h4
    ·exact .inr h4
   ·rw[Array.setIfInBounds_comm _ _ hji];exact h3.2
end
end Ab
namespace Ab
open Go
variable{P:Program}{L:pN}{E0 E E':Env}{w0 w w':World}{s s':St}{a:Act}{p:Path}{C:ey}
theorem Sc(ok:Ok P C)(h:bJ E0 E w0 w s a){o:Oper}{K:bB}(hm:DH o.op=true)(hk:YX C p o s K):
  NY P E0 w0 w a o s p K∧ ∀w' v,bp s p→(cp w w'∨ ∀t x,o.op≠ .load t x)→(execOp a.eval o).run P w= .ok (.value v) w→(execOp a.eval o).run P w'= .ok (.value v) w':=by
 have gh: ∀{K:bB},Reads P E w a o s p K→NY P E0 w0 w a o s p K:=fun{K} ⟨r,hk,hx⟩=>⟨r,s,E,hk,h,fun _=>Iff.rfl,hx⟩
 unfold YX at hk
 split at hk<;>rename_i he<;>(try(rw[he]at hm;cases hm;done))
 ·refine⟨gh (po (neg:=false) ok.ak ok.lay ok.eqs h he hk),fun w' v hp _ hr=>?_⟩;exact LD (neg:=false) ok.lay ok.eqs h he hk hp hr w'
 ·refine⟨gh (po (neg:=true) ok.ak ok.lay ok.eqs h he hk),fun w' v hp _ hr=>?_⟩;exact LD (neg:=true) ok.lay ok.eqs h he hk hp hr w'
 ·refine⟨gh (xm ok.ak h he hk),fun w' v _ _ hr=>?_⟩;have hs:cY (fun _ _=>True) P (execOp a.eval o):=by
   simp only[execOp,he];refine cY.bind ?_ fun b=>?_
   ·unfold asBool;split
    ·exact bS _
    ·exact eZ _
   ·exact bS _
  exact(hs w w' _ _ trivial hr).2
 ·refine⟨?_,fun w' v _ hA hr=>?_⟩
  ·cases hD:Bz C 2000 o.dst with
   |false=>rw[hD]at hk;exact gh (tg ok.lay ok.ak h he hk)
   |true=>
    rw[hD,az]at hk
    split at hk
    ·exact Dj ok.lay h he hk
    ·exact hk.elim
  have hs:cY cp P (execOp a.eval o):=by
   simp only[execOp,he];exact(zn _ _).bind fun _=>bS _
  rcases hA with hA|hA
  ·exact(hs w w' _ _ hA hr).2
  ·exact absurd he (hA _ _)
 ·split at hk
  ·rename_i n hn;refine⟨gh (zI ok.lay ok.ak h he hn hk),fun w' v _ _ hr=>?_⟩;have hs:cY (fun _ _=>True) P (execOp a.eval o):=by
    simp only[execOp,he];exact(Fz _ _ _).bind fun _=>bS _
   exact(hs w w' _ _ trivial hr).2
  ·exact hk.elim
 ·split at hk
  ·rename_i n hn;refine⟨gh (vF ok.lay h he hn hk),fun w' v _ _ hr=>?_⟩;have hs:cY (fun _ _=>True) P (execOp a.eval o):=by
    simp only[execOp,he];exact(JM _ _ _).bind fun _=>bS _
   exact(hs w w' _ _ trivial hr).2
  ·exact hk.elim
 ·rename_i c he
  split at hk
  ·rename_i f hc;rw[he]at hm;simp only[DH,hc]at hm;cases hm
  ·rename_i b hc;rw[he]at hm;simp only[DH,hc]at hm;have hk0:=hk
   unfold AJ at hk
   split at hk
   ·cases hm
   ·cases hm
   ·refine⟨gh (CE ok h he hc hk),fun w' v yL _ hr=>?_⟩
    split at hk
    ·rename_i k m hp;rw[ok.ak]at hp;obtain⟨x,h1,_⟩:=xC ok.lay h yL (by rw[he];exact MX hc hp);have hb:Yx o.op=true:=by rw[he];rfl
     have h2:=h1 w (fun e=>absurd (hb.symm.trans e) (by decide))
     rw[hr]at h2;cases h2;exact h1 w' (fun e=>absurd (hb.symm.trans e) (by decide))
    ·exact hk.elim
   ·exact hk.elim
  ·exact hk.elim
 ·exact hk.elim
def Zh(o:Op)(w w':World):Prop:=
 match o with
 | .load _ _=>cp w w'
 | .build _ _=>w'=w
 |_=>True
theorem Fj(ok:Ok P C){ops:Array Oper}{K:St→Prop}{o:Oper}(h:bJ E0 E w0 w s a)(hm:DH o.op=true)(hk:Jx C ops.toList o s K):
  ∃v,iq (Zh o.op) P ops o v a w∧D1 E0 w0 K (a.put o.dst v) w:=by
  have aer: ∀{p:Path} {r:AV},bp s p→tW ak C.L s p o.op=some r→ ∃x,(∀w',Zh o.op w w'→(execOp a.eval o).run P w'= .ok (.value x) w')∧Cz E r x:=by
   intro p r hp hr;obtain⟨x,h1,h2⟩:=xC ok.lay h hp hr;refine⟨x,fun w' hR=>?_,h2⟩;cases ho:o.op<;>rw[ho]at hm hR h1<;>first|(exact h1 w' (fun e=>absurd (show true=false from e) (by decide)))|(cases hm;done)|skip
   ·have e:w'=w:=hR
    exact h1 w' fun _=>e
   ·have hs:cY cp P (execOp a.eval o):=by
     simp only[execOp,ho];exact(zn _ _).bind fun _=>bS _
    exact(hs w w' _ _ hR (h1 w fun _=>rfl)).2
  have Rx: ∀{p:Path} {K:bB},YX C p o s K→ ∃r s' E',K r s'∧bJ E0 E' w0 w s' a∧(∀q,bp s' q↔bp s q)∧(bp s p→ ∃x,(∀w',Zh o.op w w'→(execOp a.eval o).run P w'= .ok (.value x) w')∧Cz E' r x):=by
   intro p K hk;obtain⟨⟨r,s',E',h1,hS,hP,h2⟩,h3⟩:=Sc ok h hm hk;refine⟨r,s',E',h1,hS,hP,fun hp=>?_⟩;obtain⟨x,h4,h5⟩:=h2 hp;refine⟨x,fun w' hR=>h3 w' x hp ?_ h4,h5⟩;by_cases hl: ∃t y,o.op= .load t y
   ·obtain⟨t,y,hl⟩:=hl;rw[hl]at hR;exact .inl hR
   ·exact .inr fun t y e=>hl ⟨t,y,e⟩
  unfold Jx at hk;cases hg:o.guard with
  |none=>
   rw[hg]at hk;dsimp only at hk;have hwt:Region.wanted o (yielded ops a.tmps)=true:=by simp[Region.wanted,hg]
   cases hp:DC C.I C.L s [] o.op with
   |some r=>
    rw[hp]at hk;dsimp only at hk;rw[ok.ak]at hp;replace hp:=vT hp;obtain⟨x,hr,hc⟩:=aer (p:=[]) trivial hp;exact⟨x,.inl ⟨hwt,hr⟩,_,_,hk.2,h.put hk.1 (fun _ _=>rfl) (.inl ⟨trivial,hc⟩)⟩
   |none=>
    rw[hp]at hk;dsimp only at hk;obtain⟨r,s',E',⟨hd,kR⟩,hS,hP,hx⟩:=Rx hk;obtain⟨x,hr,hc⟩:=hx trivial;exact⟨x,.inl ⟨hwt,hr⟩,_,_,kR,hS.put hd (fun _ _=>rfl) (.inl ⟨trivial,hc⟩)⟩
  |some jb=>
   obtain⟨j,b⟩:=jb;rw[hg]at hk;dsimp only at hk;cases hj:ops.toList[j]? with
   |none=>rw[hj]at hk;exact hk.elim
   |some og=>
    rw[hj]at hk;dsimp only at hk;cases hd:og.dst with
    |none=>rw[hd]at hk;exact hk.elim
    |some d=>
     rw[hd]at hk;dsimp only at hk;cases hb:(yj s o.dst&&(isBool (look d s.t)&&ND o.dst d))with
     |false=>rw[hb]at hk;exact hk.elim
     |true=>
      rw[hb,az]at hk;simp only[Bool.and_eq_true]at hb;obtain⟨IU,AF,CL⟩:=hb;have hw:=By h hg (by rw[←Array.getElem?_toList];exact hj) hd AF
      have xS: ∀d',o.dst=some d'→KM d' (eV s d++[(d,b)])=false:=by
       intro d' uy;rw[uy]at IU CL;simp only[yj,Bool.and_eq_true,Bool.not_eq_true']at IU;rw[KL,IS IU.2];have dj: ¬d'=d:=fun e=>by subst e;simp[ND]at CL
       rw[zX (fun e=>dj e.symm)];rfl
      have hnw: ¬bp s (eV s d++[(d,b)])→Region.wanted o (yielded ops a.tmps)=false:=fun yL=>by
       cases hwt:Region.wanted o (yielded ops a.tmps)with
       |false=>rfl
       |true=>exact absurd (hw.1 hwt) yL
      cases hp:DC C.I C.L s (eV s d++[(d,b)]) o.op with
      |some r=>
       rw[hp]at hk;dsimp only at hk;rw[ok.ak]at hp;replace hp:=vT hp;by_cases yL:bp s (eV s d++[(d,b)])
       ·obtain⟨x,hr,hc⟩:=aer yL hp;exact⟨x,.inl ⟨hw.2 yL,hr⟩,_,_,hk.2,h.put hk.1 xS (.inl ⟨yL,hc⟩)⟩
       ·exact⟨undef,.inr ⟨hnw yL,rfl⟩,_,_,hk.2,h.put hk.1 xS (.inr ⟨yL,rfl⟩)⟩
      |none=>
       rw[hp]at hk;dsimp only at hk;obtain⟨r,s',E',⟨mI,kR⟩,hS,hP,hx⟩:=Rx hk;by_cases yL:bp s (eV s d++[(d,b)])
       ·obtain⟨x,hr,hc⟩:=hx yL;exact⟨x,.inl ⟨hw.2 yL,hr⟩,_,_,kR,hS.put mI xS (.inl ⟨(hP _).2 yL,hc⟩)⟩
       ·exact⟨undef,.inr ⟨hnw yL,rfl⟩,_,_,kR,hS.put mI xS (.inr ⟨fun hh=>yL ((hP _).1 hh),rfl⟩)⟩
theorem LM(ok:Ok P C){ops:Array Oper}{Q:Exit→Act→World→Prop}{K:St→Prop}{i:Nat}{o:Oper}(hi:ops[i]? =some o)(h:bJ E0 E w0 w s a)(hk:Jx C ops.toList o s K):lq P C.cl ops Q i (D1 E0 w0 K) a w:=by
 unfold lq;rw[hi];dsimp only;by_cases hm:DH o.op=true
 ·obtain⟨v,hy,hA⟩:=Fj ok h hm hk;rcases hy with⟨hw,hv⟩|⟨hw,rfl⟩
  ·rw[if_pos hw];have hR:Zh o.op w w:=by unfold Zh;split;exact cp.refl w;rfl;trivial
   unfold mS;rw[hv w hR];exact⟨hA,fun _=>cp.refl w⟩
  ·rw[if_neg (by rw[hw];simp)];exact hA
 ·have h1:=Fk (Q:=Q) ok h hk
  split
  ·rename_i hw;rw[if_pos hw]at h1;by_cases hg:RD o.op=true
   ·unfold mS at h1 ⊢;cases hr:(execOp a.eval o).run P w with
    |halt y w2=>rw[hr]at h1;cases y<;>exact h1
    |ok n w2=>
     obtain⟨⟨v,rfl⟩,hA⟩:=XN hg a.eval hr;rw[hr]at h1;exact⟨h1.1,fun _=>hA⟩
   ·exact mS.mono (fun a w h2=>⟨h2.1,fun Gw=>h2.2 (by unfold G6 at Gw;simpa[hm,hg]using Gw)⟩) h1
  ·rename_i hw;rw[if_neg hw]at h1;exact h1
def inL(j:Nat):List Nat→Bool
 |[]=>false
 |k::r=>dy k j||inL j r
def I9(ops:Array Oper)(listed:Array Bool)(i:Nat)(M:List Nat):List Nat:=
 (List.range ops.size).filter fun j=> !(dy j i)&& !(listed.getD j true)&&(match ops[j]? with
  |some o=>o.after.all fun e=> !Region.binds .any e||listed.getD e.on false||inL e.on M
  |none=>false)
def ahead(ops:Array Oper)(listed:Array Bool)(i:Nat):Nat→List Nat→List Nat
 |0,M=>M
 |f+1,M=>bif dy (I9 ops listed i M).length M.length then M else ahead ops listed i f (I9 ops listed i M)
def adM(o:Op):Bool:=match o with
 | .build _ _=>false
 |o=>DH o
def PS(o:Op):Bool:=match o with
 | .load _ _=>true
 |_=>false
def JL(cl:Nat→Bool)(ops:Array Oper)(listed:Array Bool)(i:Nat):Bool:=
 match ops[i]? with
 |none=>false
 |some oi=>
  let M:=ahead ops listed i ops.size []
  (Region.ready .any ops listed).contains i&&adM oi.op&&
  (M.all fun j=>match ops[j]? with
   |some oj=>oi.apart ops oj&&(!PS oi.op||G6 cl oj.op)
   |none=>true)&&
  ((List.range ops.size).all fun j=>dy j i||inL j M||listed.getD j false||(match ops[j]? with
   |some oj=>oj.after.any fun e=>Region.binds .any e&& !(listed.getD e.on false)&& !(inL e.on M)
   |none=>false))
def C5(cl:Nat→Bool)(ops:Array Oper):Tree→Nat→Array Bool→Option (List Nat)→Bool
 | .done,_,l,none=>(Region.ready .any ops l).isEmpty
 | .one i t,f+1,l,none=>JL cl ops l i&&C5 cl ops t f (l.setIfInBounds i true) none
 | .al i t u,f+1,l,none=>match Region.ready .any ops l with
  |r::rs=>dy r i&&C5 cl ops t f (l.setIfInBounds i true) none&&C5 cl ops u (f+1) l (some rs)
  |[]=>false
 | .al i t u,f+1,l,some (r::rs)=>dy r i&&C5 cl ops t f (l.setIfInBounds i true) none&&C5 cl ops u (f+1) l (some rs)
 | .nil,_+1,_,some []=>true
 |_,_,_,_=>false
theorem KN{j:Nat}: ∀{M:List Nat},inL j M=true↔j∈M
 |[]=>by simp[inL]
 |k::r=>by
  simp only[inL,Bool.or_eq_true,List.mem_cons,KN (M:=r)];constructor
  ·rintro(h|h)
   ·exact .inl (dK h).symm
   ·exact .inr h
  ·rintro(h|h)
   ·exact .inl (by subst h;exact gA j)
   ·exact .inr h
theorem OB(ok:Ok P C){ops:Array Oper}{Q:Exit→Act→World→Prop}(hs:Region.noSelect ops=true)(hQ: ∀c a w,¬Q (.panic c) a w){K:St→Prop}{i:Nat}{oi:Oper}{fuel:Nat}{listed:Array Bool}(hi:ops[i]? =some oi)(ht:JL C.cl ops listed i=true)
  (hK: ∀a w,D1 E0 w0 K a w→rU P C.cl .any ops Q fuel (listed.setIfInBounds i true) a w)(h:bJ E0 E w0 w s a)(hk:Jx C ops.toList oi s K):rU P C.cl .any ops Q (fuel+1) listed a w:=by
 unfold JL at ht;rw[hi]at ht;dsimp only at ht;simp only[Bool.and_eq_true,List.contains_iff_mem,List.all_eq_true,List.mem_range]at ht;obtain⟨⟨⟨hr,htk⟩,hM⟩,aon⟩:=ht;have hm:DH oi.op=true:=by
  unfold adM at htk
  split at htk
  ·cases htk
  ·exact htk
 have Zb: ∀t ps,oi.op≠ .build t ps:=fun t ps e=>by rw[e]at htk;cases htk
 obtain⟨v,hy,hA⟩:=Fj ok h hm hk;generalize hMd:ahead ops listed i ops.size []=M at*;have hrf: ∀w,Zh oi.op w w:=fun w=>by unfold Zh;split;exact cp.refl w;rfl;trivial
 refine Jw (R:=Zh oi.op) ?_ hrf hi (Region.noSelect_spec hs) (fun c a w hq=>absurd hq (hQ _ _ _)) (fun j=>j∈M) ?_ fuel listed a w ?_ hr hy (hK _ _ hA)
 ·intro a b c h1 h2;generalize oi.op=x at h1 h2 ⊢;cases x<;>first|trivial|exact cp.trans h1 h2|exact(show c=b from h2).trans (show b=a from h1)
 ·intro j oj hj dj hjM;have h1:=hM j hjM
  rw[hj]at h1;simp only[Bool.and_eq_true,Bool.or_eq_true,Bool.not_eq_true']at h1;refine⟨h1.1,?_⟩;by_cases hl:PS oi.op=true
  ·right;refine⟨h1.2.resolve_left (by rw[hl];simp),fun w w' hA=>?_⟩;unfold PS at hl;unfold Zh
   split at hl
   ·rename_i heq;rw[heq];exact hA
   ·cases hl
  ·left;intro w w';unfold Zh
   split
   ·rename_i heq;rw[heq]at hl;exact absurd rfl hl
   ·rename_i heq;exact absurd heq (Zb _ _)
   ·trivial
 ·intro l j Xl hl dj hj;obtain⟨Tz,oj,hoj,lg⟩:=mem_ready.1 hj;have bc:j<ops.size:=(Array.getElem?_eq_some_iff.1 hoj).1
  have h1:=aon j bc
  simp only[Bool.or_eq_true]at h1;rcases h1 with((h1|h1)|h1)|h1
  ·exact absurd (dK h1) dj
  ·exact KN.1 h1
  ·have h2:=Xl j h1
   rw[Array.getD_eq_getD_getElem?]at h2 Tz;cases hh:l[j]? with
   |none=>rw[hh]at h2;simp at h2
   |some b=>rw[hh]at h2 Tz;simp at h2 Tz;rw[h2]at Tz;cases Tz
  ·rw[hoj]at h1;obtain⟨e,he,h2⟩:=Array.any_eq_true'.1 h1;simp only[Bool.and_eq_true,Bool.not_eq_true']at h2;obtain⟨⟨h3,h4⟩,h5⟩:=h2;have h6:=lg e he h3
   rcases hl e.on h6 with h7|h7
   ·rw[h7]at h4;cases h4
   ·rw[KN.2 h7]at h5;cases h5
theorem vI(ok:Ok P C){ops:Array Oper}{Q:Exit→Act→World→Prop}{K:St→Prop}(hs:Region.noSelect ops=true)(hQ: ∀c a w,¬Q (.panic c) a w)(hN: ∀a w,D1 E0 w0 K a w→Q .normal a w):
  ∀(t:Tree) (fuel:Nat) (listed:Array Bool) (Ec:Option (List Nat)) {s:St} {E:Env} {a:Act} {w:World},C5 C.cl ops t fuel listed Ec=true→bJ E0 E w0 w s a→Fh C ops.toList t s K→
   match Ec with
   |none=>rU P C.cl .any ops Q fuel listed a w
   |some rs=> ∃f,fuel=f+1∧ ∀i∈rs,lq P C.cl ops Q i (rU P C.cl .any ops Q f (listed.setIfInBounds i true)) a w
 | .done,fuel,listed,Ec,s,E,a,w,hc,h,hk=>by
  cases Ec with
  |some rs=>simp[C5]at hc
  |none=>
   simp only[C5,List.isEmpty_iff]at hc;have:Q .normal a w:=hN a w ⟨s,E,hk,h⟩
   cases fuel with
   |zero=>exact⟨hc,this⟩
   |succ f=>exact⟨fun _=>this,by rw[hc];simp⟩
 | .one i t,fuel,listed,Ec,s,E,a,w,hc,h,hk=>by
  cases fuel with
  |zero=>cases Ec<;>simp[C5]at hc
  |succ f=>
   cases Ec with
   |some rs=>simp[C5]at hc
   |none=>
    simp only[C5,Bool.and_eq_true]at hc;unfold Fh at hk;cases hi:ops.toList[i]? with
    |none=>rw[hi]at hk;exact hk.elim
    |some oi=>
     rw[hi]at hk;exact OB ok hs hQ (by rw[←Array.getElem?_toList];exact hi) hc.1 (fun a w ⟨s',E',kR,h'⟩=>vI ok hs hQ hN t f _ none hc.2 h' kR) h hk
 | .al i t u,fuel,listed,Ec,s,E,a,w,hc,h,hk=>by
  cases fuel with
  |zero=>cases Ec<;>simp[C5]at hc
  |succ f=>
   have key: ∀(r:Nat) (rs:List Nat),(dy r i&&C5 C.cl ops t f (listed.setIfInBounds i true) none&&C5 C.cl ops u (f+1) listed (some rs))=true→
     ∀j∈r::rs,lq P C.cl ops Q j (rU P C.cl .any ops Q f (listed.setIfInBounds j true)) a w:=by
    intro r rs hc j hj;simp only[Bool.and_eq_true]at hc;have Y9:r=i:=dK hc.1.1
    subst Y9;unfold Fh at hk;rcases List.mem_cons.1 hj with rfl|hj
    ·have hk1:=hk.1
     cases hi:ops.toList[j]? with
     |none=>rw[hi]at hk1;exact hk1.elim
     |some oi=>
      rw[hi]at hk1;exact zK (fun a w ⟨s',E',kR,h'⟩=>vI ok hs hQ hN t f _ none hc.1.2 h' kR) (LM ok (by rw[←Array.getElem?_toList];exact hi) h hk1)
    ·obtain⟨f',hf,h2⟩:=vI ok hs hQ hN u (f+1) listed (some rs) hc.2 h hk.2;cases hf;exact h2 j hj
   cases Ec with
   |none=>
    simp only[C5]at hc
    split at hc
    ·rename_i r rs hr;refine⟨fun h0=>by simp[hr]at h0,?_⟩;rw[hr];exact key r rs hc
    ·cases hc
   |some rs=>
    cases rs with
    |nil=>simp[C5]at hc
    |cons r rs=>simp only[C5]at hc;exact⟨f,rfl,key r rs hc⟩
 | .nil,fuel,listed,Ec,s,E,a,w,hc,h,hk=>by
  cases Ec with
  |none=>simp[C5]at hc
  |some rs=>
   cases fuel with
   |zero=>cases rs<;>simp[C5]at hc
   |succ f=>
    cases rs with
    |nil=>exact⟨f,rfl,fun i hi=>by cases hi⟩
    |cons r rs=>simp[C5]at hc
end Ab
namespace Ab
open Go
variable{P:Program}{L:pN}{E0 E E':Env}{w0 w w':World}{s s':St}{a a':Act}{p:Path}{C:ey}
theorem NH(h:bJ E0 E w0 w s a): ∀d x,look d s.clean.t=some x→Cz E x (a.tmps.getD d undef):=fun d x hd=>h.clean.tm d x hd trivial
theorem Dfs.tail{n0:Nat}{l l':List Deferred}(h:Dfs n0 E (l++l')):Dfs n0 E l':=by
 obtain⟨Bs,h1,h2,h3⟩:=h;obtain⟨Bs1,Bs2,e1,e2,e3⟩:=List.append_eq_map_iff.1 h1;subst e1;exact⟨Bs2,e3.symm,(List.nodup_append.1 h2).2.1,fun B hB=>h3 B (by simp[hB])⟩
theorem bJ.push(h:bJ E0 E w0 w s a){n:Nat}{t:List (Nat×AV)}{A:Array Value}(hn:A.size=n)(ht: ∀d x,look d t=some x→Cz E x (A.getD d undef)):
  bJ {E0 with up:=a::E0.up} E w0 w {s with n:=n,t:=t,c:=[],up:={n:=s.n,t:=s.clean.t}::s.up} {tmps:=A,defers:=[]}:=
 ⟨h.heap,h.wf,h.Lv,⟨⟨h.sz,NH h⟩,h.up⟩,hn,fun d x hd _=>ht d x hd,fun d q hd=>by simp[look]at hd,h.bx,h.lv,h.gx,h.gl,⟨h.ext.size,h.ext.aR,h.ext.live,h.ext.bH⟩,h.zu,h.same,h.gk,h.nl,h.ng,h.lo⟩
theorem bJ.pop{f:Fr}{u:List Fr}(h:bJ {E0 with up:=a::E0.up} E w0 w s a')(hu:s.up=f::u):bJ E0 E w0 w {s with n:=f.n,t:=f.t,c:=[],up:=u} a:=by
 have hup:=h.up
 rw[hu]at hup;exact⟨h.heap,h.wf,by have:=h.Lv;simp only[TY,List.map_cons,List.flatten_cons]at this;exact this.tail,hup.2,hup.1.1,fun d x hd _=>hup.1.2 d x hd,fun d q hd=>by simp[look]at hd,h.bx,h.lv,h.gx,h.gl,
  ⟨h.ext.size,h.ext.aR,h.ext.live,h.ext.bH⟩,h.zu,h.same,h.gk,h.nl,h.ng,h.lo⟩
theorem FC{b:List (Nat×Ob)}{f:Nat→Prop}(hf: ∀d ob,look d b=some ob→f d){t:List (Nat×AV)}(jX:WO b t=true){T:Array Value}(h: ∀d x,look d t=some x→Cz E x (T.getD d undef)):
  ∀d x,look d t=some x→Cz (E.only f) x (T.getD d undef):=fun d x hd=>Cz.only hf (h d x hd) (A6 jX d x hd)
theorem mE.only{b:List (Nat×Ob)}{f:Nat→Prop}(hf: ∀d ob,look d b=some ob→f d): ∀{ab:List Act} {fs:List Fr},okU b fs=true→mE E ab fs→mE (E.only f) ab fs
 |[],[],_,_=>trivial
 |a::ab,g::fs,jX,h=>by
  simp only[okU,Bool.and_eq_true]at jX;exact⟨⟨h.1.1,FC hf jX.1 h.1.2⟩,mE.only hf jX.2 h.2⟩
 |[],_::_,_,h=>h.elim
 |_::_,[],_,h=>h.elim
theorem bJ.drop(h:bJ E0 E w0 w s a)(hc:s.c=[]){b':List (Nat×Ob)}(hb: ∀d ob,look d b'=some ob→look d s.b=some ob)(jX:S4 {s with b:=b'}=true):
  ∃f:Nat→Prop,(∀d ob,look d b'=some ob→f d)∧bJ E0 (E.only f) w0 w {s with b:=b'} a:=by
 simp only[S4,Bool.and_eq_true]at jX;obtain⟨aiW,abB,aiV⟩:=jX;let f:Nat→Prop:=fun d=> ∃ob,look d b'=some ob;have hf: ∀d ob,look d b'=some ob→f d:=fun d ob hd=>⟨ob,hd⟩
 have k:=Kr E f
 refine⟨f,hf,⟨h.heap,⟨h.wf.aR,h.wf.own,h.wf.fz⟩,h.Lv,mE.only hf aiV h.up,h.sz,fun d x hd _=>?_,fun d q hd=>?_,fun d ob hd=>?_,fun d hl=>hl.2,fun i ob hi=>k.ob (h.gk i ob hi) (h.gx i ob hi),h.gl,?_,h.zu,h.same,h.gk,h.nl,h.ng,h.lo⟩⟩
 ·exact Cz.only hf (h.tm d x hd (by unfold eV;show bp s (match look d s.c with|some q=>q|none=>[]);rw[hc];trivial)) (A6 aiW d x hd)
 ·have mI:look d s.c=some q:=hd
  rw[hc]at mI;simp[look]at mI
 ·have h3:=h.bx d ob (hb d ob hd)
  cases ob with
  |box cs=>
   obtain⟨hl,c,e,fP,ho,hs,ef,hq⟩:=h3;exact⟨⟨hl,hf d _ hd⟩,c,e,fP,ho,hs,ef,fun q av x ha hx=>Cz.only hf (hq q av x ha hx) (rG (yC abB d _ hd) q av ha)⟩
  |arr z xs=>
   obtain⟨hl,jg,ew,hz,hm,c,e,fP,ho,hs,ef,hi,hq⟩:=h3;exact⟨⟨hl,hf d _ hd⟩,jg,ew,hz,hm,c,e,fP,ho,hs,ef,hi,fun q av x ha hx=>k.cH (hq q av x ha hx) (hi q av ha)⟩
  |ow p l xs=>exact A5 (fun hl=>⟨hl,hf d _ hd⟩) rfl rfl (fun ho=>⟨ho,rfl,fun o hh=>hh⟩) (fun a x hi hc=>k.cH hc hi) (fun b hb _=>⟨hb,rfl,fun _=>Iff.rfl,rfl⟩) h3
  |lp n t ps pH body st=>
   obtain⟨hl,ho,hs,rec,fP,h4,h5,h6,h7,h8,h9,hq⟩:=h3;exact⟨⟨hl,hf d _ hd⟩,ho,hs,rec,fP,h4,h5,h6,h7,h8,h9,FC hf (Cx abB hd) hq⟩
 ·exact⟨h.ext.size,h.ext.aR,fun q hq=>by
   cases q with
   |s d=>exact absurd hq (h.nl d)
   |o i=>exact h.ext.live (.o i) hq,h.ext.bH⟩
theorem Ad{b0:List (Nat×Ob)}{l:List Nat}{d:Nat}: ∀{b:List (Nat×Ob)},look d (zw b0 l b)=if aiF b0 l d then look d b else none
 |[]=>by simp[zw,look]
 |(k,o)::r=>by
  simp only[zw];cases hb:aiF b0 l k with
  |true=>
   rw[az,aG,aG,Ad];by_cases hk:k=d
   ·subst hk;rw[if_pos rfl,if_pos rfl,hb];rfl
   ·rw[if_neg hk,if_neg hk]
  |false=>
   rw[aC,aG,Ad];by_cases hk:k=d
   ·subst hk;rw[hb];rfl
   ·rw[if_neg hk]
theorem IP{b0:List (Nat×Ob)}{l:List Nat}{d:Nat}{ob:Ob}{b:List (Nat×Ob)}(h:look d (zw b0 l b)=some ob):look d b=some ob:=by
 rw[Ad]at h
 split at h
 ·exact h
 ·cases h
theorem bJ.dk(h:bJ E0 E w0 w s a){d:Nat}(hd:look d s.b=none){ob:Ob}{o:Obj}(wj:cB (E.addKey (.s d) o) (.s d) ob):
  bJ E0 (E.addKey (.s d) o) w0 (w.alloc o) {s with b:=dt d ob s.b} a:=by
 have Bt: ¬E.live (.s d):=fun hl=>by obtain⟨ob,ho⟩:=h.lv d hl;rw[hd]at ho;cases ho
 have hE:=pJ h.wf Bt o
 have hs:=h.zU (T:=fun _=>false) hE (fun _ hf=>hf.elim) sq (Jb h.wf _ _) (w':=w.alloc o) (by show w.heap.push _=_;rw[h.heap];rfl) (vL _ _) (fun _ _ hf=>hf.elim)
  (dt d ob s.b) s.g s.nx (fun d' Gb h'=>by
   rw[aJ]at h';by_cases uy:d=d'
   ·rw[if_pos uy]at h';cases h';subst uy;exact .inr wj
   ·rw[if_neg uy]at h';exact .inl ⟨Gb,h',(p6 (fun _=>rfl) Gb).symm,(fun hf=>hf),fun hf=>hf⟩)
  (fun d' hl=>by
   rw[aJ];by_cases uy:d=d'
   ·exact⟨ob,by rw[if_pos uy]⟩
   ·rw[if_neg uy];rcases hl with hl|hl
    ·exact absurd (by injection hl with hl;exact hl.symm) uy
    ·exact h.lv d' hl)
  (fun i Gb h'=> .inl ⟨h',fun hf=>hf⟩)
  (fun i=>by
   constructor
   ·rintro(hl|hl)
    ·cases hl
    ·exact(h.gl i).1 hl
   ·exact fun hl=> .inr ((h.gl i).2 hl)) h.gk (fun b=>Jc h.ng d b)
 have:iv (fun _=>false) s.t=s.t:=mG (fun _=>rfl) _
 rw[this,rp (fun _=>rfl)]at hs;exact hs
def Env.fT(E:Env)(o:Obj):Env:={E with h:=E.h.push o,own:=fun b=>if b=E.h.size then .lh else E.own b}
theorem He(hw:Wf E)(o:Obj):Ext (fun _=>False) E (E.fT o):=
 ⟨by simp[Env.fT],
  fun b i hb=>⟨hb,by have:=hw.aR b i hb;exact As E.h o this i,rfl⟩,
  fun q hq=>⟨hq,rfl,rfl⟩,
  fun b hb _=>⟨by simp only[Env.fT];rw[if_neg (by omega)],by simp only[Env.fT];rw[Array.getElem?_push,if_neg (by omega)],fun _=>Iff.rfl,rfl⟩⟩
theorem TZ(hw:Wf E)(o:Obj):Wf (E.fT o):=
 ⟨fun b i hs=>by have:=hw.aR b i hs;simp[Env.fT];omega,fun b hb=>by
  simp only[Env.fT]at hb;by_cases h:b=E.h.size
  ·simp[Env.fT,h]
  ·rw[if_neg h]at hb;have:=hw.own b hb;simp[Env.fT];omega,
  fun b i hs hr=>by
  obtain⟨c,e,h⟩:=hw.fz b i hs hr;have:=hw.aR b i hs
  exact⟨c,e,by simp only[Env.fT];rw[Array.getElem?_push,if_neg (by omega)];exact h⟩⟩
theorem bJ.mark(h:bJ E0 E w0 w s a):bJ E0 (E.fT (.deferred (some []))) w0 (w.alloc (.deferred (some []))) s {a with defers:={target:= .collected w.heap.size,args:= #[]}::a.defers}:=by
 have hE:=He h.wf (.deferred (some []))
 have hs:=h.zU (T:=fun _=>false) hE (fun _ hf=>hf.elim) sq (TZ h.wf _) (w':=w.alloc (.deferred (some []))) (by show w.heap.push _=_;rw[h.heap];rfl) (vL _ _) (fun _ _ hf=>hf.elim)
  s.b s.g s.nx (fun d' Gb h'=> .inl ⟨Gb,h',(p6 (fun _=>rfl) Gb).symm,(fun hf=>hf),fun hf=>hf⟩) (fun d' hl=>h.lv d' hl)
  (fun i Gb h'=> .inl ⟨h',fun hf=>hf⟩) h.gl h.gk (fun b=>by
   have:=h.ng b
   simp only[Env.fT]
   split
   ·simp[dW,Own.dW]
   ·exact this)
 have:iv (fun _=>false) s.t=s.t:=mG (fun _=>rfl) _
 rw[this,rp (fun _=>rfl)]at hs;obtain⟨Bs,q1,q2,q3⟩:=h.Lv;refine⟨hs.heap,hs.wf,⟨w.heap.size::Bs,?_,?_,?_⟩,hs.up,hs.sz,hs.tm,hs.cu,hs.bx,hs.lv,hs.gx,hs.gl,hs.ext,hs.zu,hs.same,hs.gk,hs.nl,hs.ng,hs.lo⟩
 ·simp only[TY,List.cons_append,List.map_cons];rw[←q1];rfl
 ·refine List.nodup_cons.2 ⟨fun hB=>?_,q2⟩;have:=(Array.getElem?_eq_some_iff.1 (q3 _ hB).1).1
  rw[h.heap]at this;omega
 ·intro B hB;rcases List.mem_cons.1 hB with rfl|hB
  ·rw[h.heap];exact⟨by simp[Env.fT],by simp[Env.fT],h.ext.size⟩
  ·obtain⟨q4,q5,q6⟩:=q3 B hB;have bc:=(Array.getElem?_eq_some_iff.1 q4).1
   exact⟨by simp only[Env.fT];rw[Array.getElem?_push,if_neg (by omega)];exact q4,by simp only[Env.fT];rw[if_neg (by omega)];exact q5,q6⟩
def Env.px(E:Env)(b:Nat)(o:Obj):Env:={E with h:=E.h.setIfInBounds b o}
theorem bJ.take(h:bJ E0 E w0 w s a){d:Deferred}{ds:List Deferred}(hd:a.defers=d::ds):
  ∃B,d.target= .collected B∧w.heap[B]? =some (.deferred (some []))∧bJ E0 (E.px B (.deferred none)) w0 (w.putObj B (.deferred none)) s {a with defers:=ds}:=by
 obtain⟨Bs,q1,q2,q3⟩:=h.Lv;have q1':=q1
 simp only[TY,hd,List.cons_append]at q1;cases Bs with
 |nil=>simp at q1
 |cons B Bs=>
  simp only[List.map_cons,List.cons.injEq]at q1;obtain⟨e1,e2⟩:=q1;obtain⟨q4,q5,q6⟩:=q3 B (by simp);have bc:=(Array.getElem?_eq_some_iff.1 q4).1
  have ve: ∀b i,aW (E.px B (.deferred none)).h b i=aW E.h b i:=fun b i=>by
   simp only[Env.px,aW];by_cases hbB:b=B
   ·subst hbB;rw[q4,Array.getElem?_setIfInBounds_self];simp[bc]
   ·rw[Array.getElem?_setIfInBounds_ne (Ne.symm hbB)]
  have za: ∀b,b≠B→(E.px B (.deferred none)).h[b]? =E.h[b]? :=fun b hb=>by
   simp only[Env.px];rw[Array.getElem?_setIfInBounds_ne (Ne.symm hb)]
  have hE:Ext (fun o=>o= .lh) E (E.px B (.deferred none)):=by
   refine⟨by simp[Env.px],fun b i hb=>⟨hb,ve b i,rfl⟩,fun q hq=>⟨hq,rfl,rfl⟩,fun b hb hn=>⟨rfl,?_,fun _=>Iff.rfl,rfl⟩⟩;exact za b fun e=>by subst e;exact hn q5
  have hT: ∀t,(fun o=>o=Own.lh) (.tok t)→(fun _:Tok=>false) t=true:=fun t ht=>by cases ht
  have cz: ∀{av:AV} {x:Value},Cz E av x→Cz (E.px B (.deferred none)) av x:=fun{av x} hx=>by
   have:=(hx.ext hE h.wf (fun _=>false) hT).1
   rwa [lF (fun _=>rfl)]at this
  have ob: ∀{k:Key} {o:Ob},cB E k o→cB (E.px B (.deferred none)) k o:=fun{k o} ho=>by
   have:=cB.move hE h.wf (fun _=>false) hT (by intro hf;cases hf) (by intro _ hf;cases hf) ho
   rwa [p6 (fun _=>rfl)]at this
  refine⟨B,by rw[e1],by rw[h.heap];exact q4,?_⟩;refine⟨by simp[World.putObj,Env.px,h.heap],⟨fun b o hs=>by have:=h.wf.aR b o hs;simpa[Env.px]using this,fun b hb=>by have:=h.wf.own b hb;simpa[Env.px]using this,fun b o hs hr=>by
   obtain⟨c,e,hc⟩:=h.wf.fz b o hs hr;have:b≠B:=fun e=>by subst e;rw[q4]at hc;cases hc
   exact⟨c,e,(za b this).trans hc⟩⟩,⟨Bs,?_,(List.nodup_cons.1 q2).2,fun B' hB'=>?_⟩,?_,h.sz,
   fun d x hd hp=>cz (h.tm d x hd hp),h.cu,fun d o hd=>ob (h.bx d o hd),h.lv,fun i o hi=>ob (h.gx i o hi),h.gl,⟨by simp only[Env.px];simpa using h.ext.size,fun b o hs=>?_,h.ext.live,fun b hb hn=>?_⟩,h.zu,?_,h.gk,h.nl,h.ng,h.lo⟩
  ·exact e2
  ·obtain⟨q7,q8,q9⟩:=q3 B' (by simp[hB']);have:B'≠B:=fun e=>by subst e;exact(List.nodup_cons.1 q2).1 hB'
   exact⟨(za B' this).trans q7,q8,q9⟩
  ·have:=mE.move hE h.wf (fun _=>false) hT h.up
   rwa [rp (fun _=>rfl)]at this
  ·obtain⟨k1,k2,k3⟩:=h.ext.aR b o hs;exact⟨k1,(ve b o).trans k2,k3⟩
  ·obtain⟨k1,k2,k3,k4⟩:=h.ext.bH b hb hn;exact⟨k1,(za b (by omega)).trans k2,k3,k4⟩
  ·exact⟨h.same.1,h.same.2.1,h.same.2.2⟩
end Ab
namespace Ab
open Go
variable{P:Program}{F:Fence}{n:Nat}{Q:Exit→Act→World→Prop}{a:Act}{w:World}
theorem mW{b:Frame}{k:List Item}{cs:List Frame}{c:Code}:step P (lone (b.atR a (.code (.scope c)::k)) cs w)= .next (lone (b.atR a (.code c:: .inScope c::k)) cs w):=
 step_lone_go (by simp[stepG,stepG.exec,Frame.atR])
theorem Hx{b:Frame}{k:List Item}{cs:List Frame}{c:Code}:step P (lone (b.atR a (.inScope c::k)) cs w)= .next (lone (b.atR a k) cs w):=
 step_lone_go (by simp[stepG,stepG.exec,Frame.atR])
theorem Om{c:Code}(h:c.wpIn F n P (Exit.noGoto Q) a w):(Code.scope c).wpIn F n P Q a w:=by
 intro b k cs Gv hb hr;have h0:(lone (b.atR a (.code (.scope c)::k)) cs w).fenced P F:=fenced_calm hb hr rfl
 obtain⟨e,a₁,w₁,hq,No⟩:=h b (.inScope c::k) cs Gv hb hr;cases e with
 |normal=>exact⟨.normal,a₁,w₁,hq,.head h0 mW (StepsIn.trans No (.one (fenced_calm hb hr rfl) Hx))⟩
 |exit id=>
  have hx:exitTo id (.inScope c::k)=exitTo id k:=by simp[exitTo]
  exact⟨.exit id,a₁,w₁,hq,fun k' hk=> .head h0 mW (No.1 k' (by rw[hx];exact hk)),
   fun B7 hk=>let⟨k₁,h1,h2⟩:=No.2 B7 (by rw[hx];exact hk);⟨k₁,h1,.head h0 mW h2⟩⟩
 |goto l=>exact hq.elim
 |ret=>exact⟨_,a₁,w₁,hq,.of_steps (.one h0 mW) No⟩
 |panic ch=>exact⟨_,a₁,w₁,hq,.of_steps (.one h0 mW) No⟩
 |outgrown=>exact⟨_,a₁,w₁,hq,.of_steps (.one h0 mW) No⟩
end Ab
namespace Ab
open Go
variable{P:Program}{L:pN}{E0 E E':Env}{w0 w w':World}{s s':St}{a:Act}{p:Path}{C:ey}
def wZ:Code→Bool
 | .seq a b=>wZ a&&wZ b
 | .cond _ a b=>wZ a&&wZ b
 | .block _ a=>wZ a
 | .loop a=>wZ a
 | .rangeFunc .. =>false
 | .scope a=>wZ a
 |_=>true
def cD(cl:Nat→Bool)(T:Nat→Tree):Code→Bool
 | .region id ops true=>Region.noSelect ops&&C5 cl ops (T id) ops.size (Array.replicate ops.size false) none
 | .seq a b=>cD cl T a&&cD cl T b
 | .cond _ a b=>cD cl T a&&cD cl T b
 | .block _ a=>cD cl T a
 | .loop a=>cD cl T a
 | .scope a=>cD cl T a
 | .rangeFunc _ _ a b=>(wZ a&&wZ b)&&(cD cl T a&&cD cl T b)
 |_=>true
def DZ(E0:Env)(w0:World)(Q:Ex→St→Prop):Exit→Act→World→Prop
 | .normal,a,w=> ∃s E,Q .normal s∧bJ E0 E w0 w s a
 | .exit k,a,w=> ∃s E,Q (.exit k) s∧bJ E0 E w0 w s a
 | .ret,a,w=> ∃s E,Q .ret s∧bJ E0 E w0 w s a
 |_,_,_=>False
theorem DZ.mono{Q Q':Ex→St→Prop}(hq: ∀e s,Q e s→Q' e s){e:Exit}{a:Act}{w:World}(h:DZ E0 w0 Q e a w):DZ E0 w0 Q' e a w:=by
 cases e<;>first|exact h.elim|(obtain⟨s,E,h1,h2⟩:=h;exact⟨s,E,hq _ _ h1,h2⟩)
theorem bJ.drew(h:bJ E0 E w0 w s a)(n:Nat):bJ E0 E w0 {w with drawn:=n} s a:=
 ⟨h.heap,h.wf,h.Lv,h.up,h.sz,h.tm,h.cu,h.bx,h.lv,h.gx,h.gl,h.ext,h.zu,⟨h.same.1,h.same.2.1,h.same.2.2⟩,h.gk,h.nl,h.ng,h.lo⟩
theorem wP{F:Fence}{n:Nat}{Q:Exit→Act→World→Prop}{c:Code}(I:Nat→Act→World→Prop)(n₀:Nat)(h₀:I n₀ a w)
  (round: ∀k a w,I k a w→c.wpIn F n P (Exit.then (fun a' w'=> ∃n',n'<k∧I n' a' w') Q) a w):(Code.loop c).wpIn F n P Q a w:=by
 refine wpIn_loop (fun a w=> ∃n,I n a w) (fun a w=>leastOf (fun n=>I n a w)) ⟨n₀,h₀⟩ ?_;intro a w hI;refine wpIn_mono (round _ a w (leastOf_spec hI).1) ?_;intro e a' w' hq;cases e with
 |normal=>
  obtain⟨n',bc,hI'⟩:=hq;exact show(∃n,I n a' w')∧leastOf (fun n=>I n a' w')<leastOf (fun n=>I n a w)from⟨⟨n',hI'⟩,Nat.lt_of_le_of_lt ((leastOf_spec ⟨n',hI'⟩).2 n' hI') bc⟩
 |exit id=>exact hq
 |goto l=>exact hq
 |ret=>exact hq
 |panic ch=>exact hq
 |outgrown=>exact hq
def NU(P:Program)(c:Code)(W:St→(Ex→St→Prop)→Prop)(ro:Option Nat):Prop:=
 ∀{E0:Env} {w0:World} {Q:Ex→St→Prop} {s:St} {E:Env} {a:Act} {w:World},bJ E0 E w0 w s a→W s Q→c.wpIn (WF ro) 0 P (DZ E0 w0 Q) a w
theorem II{α β:Type}: ∀{l:List α} {m:List β},Gm l m=true→l.length=m.length
 |[],[],_=>rfl
 |_::r,_::q,h=>by simp[II (l:=r) (m:=q) (by simpa[Gm]using h)]
 |[],_::_,h=>by simp[Gm]at h
 |_::_,[],h=>by simp[Gm]at h
theorem Ix{n:Nat}: ∀{ps:List Nat} {ab:List AV} {vs:List Value} {t:List (Nat×AV)} {A:Array Value},A.size=n→NR n ps=true→ab.length=ps.length→vs.length=ps.length→
  (∀(q:Nat) (b:AV) (y:Value),ab[q]? =some b→vs[q]? =some y→Cz E b y)→(∀d x,look d t=some x→Cz E x (A.getD d undef))→
  (((ps.zip vs).foldl (fun t (q:Nat×Value)=>t.setIfInBounds q.1 q.2) A).size=n∧ ∀d x,look d (Pt ps ab t)=some x→Cz E x (((ps.zip vs).foldl (fun t (q:Nat×Value)=>t.setIfInBounds q.1 q.2) A).getD d undef))
 |[],ab,vs,t,A,hn,_,_,_,_,ht=>⟨hn,by cases ab<;>exact ht⟩
 |p::ps,[],vs,t,A,_,_,h,_,_,_=>by simp at h
 |p::ps,b::ab,[],t,A,_,_,_,h,_,_=>by simp at h
 |p::ps,b::ab,y::vs,t,A,hn,hp,h1,h2,hv,ht=>by
  simp only[NR,Bool.and_eq_true]at hp;have hpn:p<n:=by simpa using hp.1
  refine Ix (ps:=ps) (ab:=ab) (vs:=vs) (t:=dt p b t) (A:=A.setIfInBounds p y) (by simpa using hn) hp.2 (by simpa using h1) (by simpa using h2) (fun q b' y' hb hy=>hv (q+1) b' y' (by simpa using hb) (by simpa using hy)) fun d x hd=>?_;rw[aJ]at hd;by_cases hpd:p=d
  ·subst hpd;rw[if_pos rfl]at hd;cases hd;rw[Array.getD_eq_getD_getElem?,Array.getElem?_setIfInBounds_self];simp only[hn,hpn,if_true,Option.getD_some];exact hv 0 b y rfl rfl
  ·rw[if_neg hpd]at hd;rw[Array.getD_eq_getD_getElem?,Array.getElem?_setIfInBounds_ne hpd,←Array.getD_eq_getD_getElem?];exact ht d x hd
theorem U9(w:World)(b:Nat)(o:Obj):jQ w (w.putObj b o):=⟨rfl,rfl,rfl⟩
theorem bJ.WB(h:bJ E0 E w0 w s a){kd:Nat}{n:Nat×Nat}{t:List (Nat×AV)}{ps:List Nat}{pH body:Unit→Code}{st:LS}(hk:look kd s.b=some (.lp n t ps pH body st)){rec:Loop}(hr:w.heap[E.m (.s kd)]? =some (.loop rec)){st':LS}{ls:LoopState}{pe:Option Code}(gZ:akR st' ls pe):
  bJ E0 (E.write (.s kd) (.loop {rec with state:=ls,pending:=pe})) w0 (w.putObj (E.m (.s kd)) (.loop {rec with state:=ls,pending:=pe})) {s with b:=dt kd (.lp n t ps pH body st') s.b} a:=by
 obtain⟨hl,ho,hs,agp,fP,h4,h5,h6,h7,h8,h9,hq⟩:=h.bx kd _ hk;rw[h.heap]at hr;have:agp=rec:=by rw[fP]at hr;cases hr;rfl
 subst this;have hE:=jC ho hs (.loop {agp with state:=ls,pending:=pe})
 have bc:E.m (.s kd)<E.h.size:=(Array.getElem?_eq_some_iff.1 fP).1
 refine h.rR hk ⟨hl,ho,hs,{agp with state:=ls,pending:=pe},by simp[Env.write,bc],h4,h5,h6,h7,gZ,h9,?_⟩ rfl (U9 _ _ _) ho hs;have:=yA hE h.wf (fun _=>false) (gw _) hq
 rwa [mG (fun _=>rfl)]at this
theorem R5(ps:Array Tmp)(vs:List Value)(A:Array Value):
  (ps.zip vs.toArray).foldl (fun t (q:Tmp×Value)=>t.setIfInBounds q.1 q.2) A=(ps.toList.zip vs).foldl (fun t (q:Nat×Value)=>t.setIfInBounds q.1 q.2) A:=by
 rw[←Array.foldl_toList,Array.toList_zip]
theorem Ly{kd:Nat}{ps:List Nat}{pH body:Code}{Wa Wb:St→(Ex→St→Prop)→Prop}(ha: ∀l,NU P pH Wa (some l))(hb: ∀l,NU P body Wb (some l)){args:List AV}{K:bB}{vs:List Value}
  (hk:Jv kd ps (fun _=>pH) (fun _=>body) Wa Wb args s K)(h:bJ E0 E w0 w s a)(hlen:vs.length=args.length)(hv: ∀(q:Nat) (b:AV) (y:Value),args[q]? =some b→vs[q]? =some y→Cz E b y):
  YieldAt Fence.wide 0 P (E.m (.s kd)) vs.toArray w fun e w'=> ∃x,e= .returned x∧ ∃r s' E',K r s'∧bJ E0 E' w0 w' s' a∧Cz E' r x:=by
 unfold Jv at hk
 split at hk
 ·rename_i n t YZ Yy NL gC;obtain⟨⟨rfl,rfl,rfl⟩,hk⟩:=hk;cases wm:Gm YZ args&&NR n.2 YZ&&cw args with
  |false=>rw[wm]at hk;exact hk.elim
  |true=>
   rw[wm,az]at hk;simp only[Bool.and_eq_true]at wm;obtain⟨⟨Zd,hl2⟩,_⟩:=wm;have Zd:=II Zd
   obtain⟨Gx,ho,hs,rec,fP,h4,h5,h6,h7,h8,h9,hq⟩:=h.bx kd _ gC;have atQ:w.heap[E.m (.s kd)]? =some (.loop rec):=by rw[h.heap];exact fP
   have hy:=run_yield (P:=P) (args:=vs.toArray) atQ (by rw[←Array.length_toList (xs:=rec.params),h5];simp[hlen,Zd])
   obtain⟨hA1,hA2⟩:=Ix (E:=E) (ps:=YZ) (ab:=args) (vs:=vs) (t:=t) (A:=rec.tmps) h4 hl2 Zd.symm (by rw[hlen,Zd]) hv hq;refine⟨rec.fn,_,rec.assign,rec.body,hy,roundIn_of_wpIn (F:=Fence.wide) trivial ?_⟩;rw[h6,h7];have XF:(rec.params.zip vs.toArray).foldl (fun tmps (x:Tmp×Value)=>tmps.setIfInBounds x.1 x.2) rec.tmps=(YZ.zip vs).foldl (fun t (q:Nat×Value)=>t.setIfInBounds q.1 q.2) rec.tmps:=by
    rw[R5,h5]
   have ajc:(rec.params.zip vs.toArray).foldl (fun tmps x=>match x with|(t,a)=>tmps.setIfInBounds t a) rec.tmps=(YZ.zip vs).foldl (fun t (q:Nat×Value)=>t.setIfInBounds q.1 q.2) rec.tmps:=XF
   rw[ajc];have h3:=h.push hA1 hA2
   refine wpIn_mono (ha (E.m (.s kd)) h3 hk) fun e a1 w1 hp=>?_;cases e with
   |normal=>
    obtain⟨s4,E4,Zf,h4'⟩:=hp;dsimp only at Zf
    split at Zf
    ·rename_i n4 t4 ps4 asg4 body4 an7;obtain⟨hlive4,ho4,hs4,ago,hb4,g4,g5,g6,g7,g8,g9,gq⟩:=h4'.bx kd _ an7;have aeo:w1.heap[E4.m (.s kd)]? =some (.loop ago):=by rw[h4'.heap];exact hb4
     obtain⟨e4,Zf⟩:=Zf;have hm4:E4.m (.s kd)=E.m (.s kd):=by rw[g9,e4,h9]
     have atH:ago.state= .ready:=g8.1
     refine⟨_,run_beginRound (P:=P) (l:=E.m (.s kd)) (by rw[←hm4];exact aeo) atH,?_⟩;have h5':=h4'.WB an7 aeo (st':= .busy) (ls:= .busy) (pe:=ago.pending) rfl
     rw[hm4]at h5';refine wpIn_mono (hb (E.m (.s kd)) h5' Zf) fun e a2 w2 sU=>?_;have fin: ∀{ex:Ex} {s5:St} {E5:Env},ON kd n.1 s.b K ex s5→bJ {E0 with up:=a::E0.up} E5 w0 w2 s5 a2→
       ∃v w',(Instr.endRound (E.m (.s kd)) (Ak ex)).run P w2= .ok v w'∧ ∃x,Ending.returned v= .returned x∧ ∃r s' E',K r s'∧bJ E0 E' w0 w' s' a∧Cz E' r x:=by
      intro ex s5 E5 hr Tv;unfold ON at hr
      split at hr
      ·rename_i f u n5 t5 ps5 akI Yv hup Xy;obtain⟨e5,hr⟩:=hr;obtain⟨ai4,ho5,atO,SH,hb5,f4,f5,f6,f7,f8,f9,fq⟩:=Tv.bx kd _ Xy;have hm5:E5.m (.s kd)=E.m (.s kd):=by rw[f9,e5,h9]
       have Ni:w2.heap[E5.m (.s kd)]? =some (.loop SH):=by rw[Tv.heap];exact hb5
       refine⟨_,_,run_endRound (P:=P) (Ak ex) (by rw[←hm5];exact Ni),_,rfl,?_⟩;have h6':=Tv.WB Xy Ni (st':=aa9 ex) (ls:=if(Ak ex).isNone then .ready else .done) (pe:=Ak ex) (by cases ex<;>simp[akR,Ak,aa9])
       have h7':=h6'.pop (f:=f) (u:=u) hup
       rw[hm5]at h7';generalize hB:zw s.b (reach s5.b 4 (yG s.b s5.b)) (dt kd (.lp n5 t5 ps5 akI Yv (aa9 ex)) s5.b)=B at hr;cases jX:S4 {n:=f.n,t:=f.t,c:=[],g:=s5.g,nx:=s5.nx,up:=u,fl:=s5.fl,b:=B}with
       |false=>rw[jX]at hr;exact hr.elim
       |true=>
        rw[jX,az]at hr;obtain⟨ff,_,h8'⟩:=h7'.drop rfl (b':=B) (fun d ob hd=>by rw[←hB]at hd;exact IP hd) jX;refine⟨_,_,_,hr,h8',?_⟩;cases ex<;>exact .v _
      ·exact hr.elim
     cases e with
     |normal=>obtain⟨s5,E5,hr,Tv⟩:=sU;exact fin hr Tv
     |exit k=>obtain⟨s5,E5,hr,Tv⟩:=sU;exact fin hr Tv
     |ret=>obtain⟨s5,E5,hr,Tv⟩:=sU;exact fin hr Tv
     |goto l=>exact sU.elim
     |panic c=>exact sU.elim
     |outgrown=>exact sU.elim
    ·exact Zf.elim
   |exit k=>obtain⟨s4,E4,Zf,_⟩:=hp;exact Zf.elim
   |ret=>obtain⟨s4,E4,Zf,_⟩:=hp;exact Zf.elim
   |goto l=>exact hp.elim
   |panic c=>exact hp.elim
   |outgrown=>exact hp.elim
 ·exact hk.elim
theorem Mg(ok:Ok P C){g:Operand}{ps:Array Tmp}{pH body:Code}{Q:Ex→St→Prop}(ha: ∀l,NU P pH (fun s Q=>rS C pH s Q) (some l))(hb: ∀l,NU P body (fun s Q=>rS C body s Q) (some l))
  (h:bJ E0 E w0 w s a)(hk:rS C (.rangeFunc g ps pH body) s Q):(Code.rangeFunc g ps pH body).wpIn (WF none) 0 P (DZ E0 w0 Q) a w:=by
 unfold rS at hk;have hgv:=h.ev (p:=[]) trivial g
 split at hk
 ·rename_i k cap er gC;rw[er]at hgv;cases P7:a.eval g<;>rw[P7]at hgv<;>cases hgv;rename_i ys hl hq;generalize hkd:C.base+999=kd at hk gC;have hk:=hk (w.heap.size+1)
  have h1:=h.clean.mark
  have P3:look kd s.clean.b=none:=gC
  let FK:FuncId→Loop:=fun fn=>{state:= .ready,pending:=none,fn:=fn,tmps:=a.tmps,params:=ps,assign:=pH,body:=body,defers:=w.heap.size}
  have h2: ∀fn,bJ E0 ((E.fT (.deferred (some []))).addKey (.s kd) (.loop (FK fn))) w0 ((w.alloc (.deferred (some []))).alloc (.loop (FK fn)))
    {s.clean with b:=dt kd (.lp (w.heap.size+1,s.n) s.clean.t ps.toList (fun _=>pH) (fun _=>body) .rdy) s.b} {a with defers:={target:= .collected w.heap.size,args:= #[]}::a.defers}:=fun fn=>by
   have Bt: ¬(E.fT (.deferred (some []))).live (.s kd):=fun tG=>by obtain⟨ob,ho⟩:=h1.lv kd tG;rw[P3]at ho;cases ho
   have hE:=pJ h1.wf Bt (.loop (FK fn))
   refine h1.dk P3 ⟨.inl rfl,by simp[Env.addKey],fun o hs=>?_,FK fn,by simp[Env.addKey],h.sz,rfl,rfl,rfl,⟨rfl,rfl⟩,?_,?_⟩
   ·simp only[Env.addKey,if_true]at hs;have:=h1.wf.aR _ _ hs;omega
   ·simp[Env.addKey,Env.fT,←h.heap]
   ·have:=yA hE h1.wf (fun _=>false) (fun _ hf=>hf.elim) (t:=s.clean.t) (A:=a.tmps) (fun d x hd=>h1.tm d x hd trivial)
    rwa [mG (fun _=>rfl)]at this
  have hY:T3 P (fun d args s2 K2=>bif dy d kd then Jv kd ps.toList (fun _=>pH) (fun _=>body) (fun s Q=>rS C pH s Q) (fun s Q=>rS C body s Q) args s2 K2 else C.yl d args s2 K2):=by
   intro d args s2 K2 E0' E2 w0' w2 a2 vs Ej KS hlen hv;by_cases hd:d=kd
   ·subst hd;rw[gA,az]at Ej;exact Ly ha hb Ej KS hlen hv
   ·rw[zX hd,aC]at Ej;exact ok.yl Ej KS hlen hv
  refine wpIn_rangeFunc ?_;intro fn _;have h3:=h2 fn
  have hwl:((w.alloc (.deferred (some []))).alloc (.loop (FK fn))).heap=((E.fT (.deferred (some []))).addKey (.s kd) (.loop (FK fn))).h:=h3.heap
  have hm:((E.fT (.deferred (some []))).addKey (.s kd) (.loop (FK fn))).m (.s kd)=w.heap.size+1:=by simp[Env.addKey,Env.fT,←h.heap]
  obtain⟨xV,CK⟩:=ok.CI _ hY (vs:= .func (.yield (w.heap.size+1)) #[] #[]::ys) hk h3 (by simp[hl]) (fun q b y fP hy=>by
   cases q with
   |zero=>
    simp at fP hy;subst fP;subst hy;rw[←hm];exact .rQ _ (.inl rfl)
   |succ q=>
    simp at fP hy;have Bt: ¬(E.fT (.deferred (some []))).live (.s kd):=fun tG=>by obtain⟨ob,ho⟩:=h1.lv kd tG;rw[P3]at ho;cases ho
    have e1:=(hq q b y fP hy).ext (He h.wf (.deferred (some []))) h.wf (fun _=>false) (fun _ hf=>hf.elim)
    have e2:=e1.1
    rw[lF (fun _=>rfl)]at e2;have e3:=(e2.ext (pJ h1.wf Bt (.loop (FK fn))) h1.wf (fun _=>false) (fun _ hf=>hf.elim)).1
    rwa [lF (fun _=>rfl)]at e3)
  refine⟨w.heap.size+1,[{target:= .collected w.heap.size,args:= #[]}],(w.alloc (.deferred (some []))).alloc (.loop (FK fn)),{target:= .fn (.func k) ys.toArray,args:= #[.func (.yield (w.heap.size+1)) #[] #[]]},(w.alloc (.deferred (some []))).alloc (.loop (FK fn)),k,
   #[.func (.yield (w.heap.size+1)) #[] #[]]++ys.toArray,(w.alloc (.deferred (some []))).alloc (.loop (FK fn)),run_enterLoop_outer _ _ _ _ _,?_,fun _ _=>trivial,?_,fun hd=>(by cases hd),?_⟩
  ·simp only[resolve,P7];simp[go_sem]
  ·simp only[invoke];simp[go_sem,xV _ _]
  ·have No:(Value.func (.yield (w.heap.size+1)) #[] #[]::ys).toArray= #[.func (.yield (w.heap.size+1)) #[] #[]]++ys.toArray:=Array.toList_inj.1 (by simp)
   rw[No]at CK;refine(callsIn_wide (n:=0)).2 (Calls.mono CK ?_)
   rintro e w3 ⟨x,rfl,r,s3,E3,hr,hs3,_⟩
   unfold adO at hr
   split at hr
   ·rename_i n5 t5 ps5 akI Yv st5 Xy;obtain⟨e5,hr⟩:=hr;cases jX:S4 {s3.clean with b:=del kd s3.b}with
    |false=>rw[jX]at hr;exact hr.elim
    |true=>
     rw[jX,az]at hr;obtain⟨ai4,ho5,atO,SH,hb5,f4,f5,f6,f7,f8,f9,fq⟩:=hs3.bx kd _ Xy;have hm5:E3.m (.s kd)=w.heap.size+1:=f9.trans e5
     have Ni:w3.heap[E3.m (.s kd)]? =some (.loop SH):=by rw[hs3.heap];exact hb5
     have Zb:SH.state≠ .busy:=by
      cases st5 with
      |rdy=>rw[f8.1];simp
      |dn e=>rw[f8.1];simp
      |busy=>exact hr.elim
      |exh=>exact hr.elim
     have h6:=hs3.clean.WB Xy Ni (st':= .exh) (ls:= .exhausted) (pe:=SH.pending) rfl
     rw[hm5]at h6;have KU:=run_endLoop (P:=P) (w:=w3) (l:=w.heap.size+1) (r:=SH) (by rw[←hm5];exact Ni) Zb
     have Xl: ∀d ob,look d (del kd s3.b)=some ob→look d (dt kd (.lp n5 t5 ps5 akI Yv .exh) s3.b)=some ob:=fun d ob hd=>by
      rw[jy]at hd;rw[aJ]
      split at hd
      ·cases hd
      ·rename_i dj;rw[if_neg dj];exact hd
     obtain⟨ff,_,h7⟩:=h6.drop rfl (b':=del kd s3.b) Xl jX;refine⟨_,_,KU,?_⟩;cases st5 with
     |rdy=>
      rw[f8.2]at h7 ⊢;exact⟨_,_,hr,h7⟩
     |dn e=>
      rw[f8.2.1]at h7 ⊢;cases e with
      |normal=>exact absurd f8.2.1 (by rw[show Ak Ex.normal=none from rfl];exact f8.2.2)
      |exit k=>exact wpIn_exit ⟨_,_,hr,h7⟩
      |ret=>exact wpIn_ret ⟨_,_,hr,h7⟩
     |busy=>exact hr.elim
     |exh=>exact hr.elim
   ·exact hr.elim
 ·exact hk.elim
theorem eI(ok:Ok P C)(hm:P.follows .mixedOrders=true): ∀(c:Code) (ro:Option Nat),(ro=none∨wZ c=true)→cD C.cl C.tree c=true→NU P c (fun s Q=>rS C c s Q) ro
 | .skip,ro,_,_=>fun h hk=>wpIn_skip ⟨_,_,hk,h⟩
 | .label l,ro,_,_=>fun h hk=>wpIn_label ⟨_,_,hk,h⟩
 | .exit id,ro,_,_=>fun h hk=>wpIn_exit ⟨_,_,hk,h⟩
 | .ret,ro,_,_=>fun h hk=>wpIn_ret ⟨_,_,hk,h⟩
 | .region id ops false,ro,_,_=>fun h hk=>by
  unfold rS at hk;refine wpIn_region_list (Fi ok ro (fun a w ⟨s',E',kR,h'⟩=>?_) h hk);have h3:=h'.clean.HP rfl (C.dead id)
  cases hb:N3 (id+5000) C.op with
  |false=>rw[hb]at kR;exact⟨_,_,kR,h3⟩
  |true=>
   rw[hb,az]at kR;unfold L2 at kR
   split at kR
   ·rename_i s5 Tv;obtain⟨E5,h5,_⟩:=fc h3 Tv;obtain⟨s6,hw6,kR⟩:=kR;obtain⟨E6,h6⟩:=h5.wk hw6;exact⟨_,_,kR,h6⟩
   ·exact kR.elim
 | .region id ops true,ro,_,hd=>by
  intro h hk;rename_i E0 w0 Q s E a0 w1 hro0;unfold rS at hk;simp only[cD,Bool.and_eq_true]at hd;obtain⟨s',hk,s2,KS,hQ⟩:=hk;subst KS;refine wpIn_region_any hm (rT (cl:=C.cl) ro _ _ _ _ ?_);refine vI ok hd.1 (fun c a w hq=>hq) (fun a w ⟨s1,E',kR,h'⟩=>?_) (C.tree id) ops.size _ none hd.2 (h.drew _) hk;have fin: ∀{E2:Env} {s3:St},(bif N3 (id+5000) C.op then L2 C.ρ (I6 C.op s'.clean.b) s3 (fun s2=>Q .normal s2)else Q .normal s3)→bJ E0 E2 w0 w s3 a→ ∃s4 E4,Q .normal s4∧bJ E0 E4 w0 w s4 a:=fun{E2 s3} hq h3=>by
   cases hb:N3 (id+5000) C.op with
   |false=>rw[hb]at hq;exact⟨_,_,hq,h3⟩
   |true=>
    rw[hb,az]at hq;unfold L2 at hq
    split at hq
    ·rename_i s5 Tv;obtain⟨E5,h5,_⟩:=fc h3 Tv;obtain⟨s6,hw6,hq⟩:=hq;obtain⟨E6,h6⟩:=h5.wk hw6;exact⟨_,_,hq,h6⟩
    ·exact hq.elim
  rcases kR with kR|kR
  ·exact fin hQ (by rw[←kR];exact h'.clean.HP rfl _)
  ·obtain⟨E2,h2⟩:=h'.clean.wk kR;exact fin hQ (h2.clean.HP rfl _)
 | .seq x y,ro,Gv,hd=>fun h hk=>by
  unfold rS at hk;simp only[cD,Bool.and_eq_true]at hd;simp only[wZ,Bool.and_eq_true]at Gv;refine wpIn_seq (wpIn_mono (eI ok hm x ro (Gv.imp id (·.1)) hd.1 h hk) fun e a' w' hq=>?_);cases e with
  |normal=>obtain⟨s',E',h1,h2⟩:=hq;exact eI ok hm y ro (Gv.imp id (·.2)) hd.2 h2 h1
  |exit k=>exact hq
  |ret=>exact hq
  |goto l=>exact hq
  |panic c=>exact hq
  |outgrown=>exact hq
 | .cond c x y,ro,Gv,hd=>fun h hk=>by
  unfold rS at hk;simp only[cD,Bool.and_eq_true]at hd;simp only[wZ,Bool.and_eq_true]at Gv;have hc:=h.ev (p:=[]) trivial c
  split at hk
  ·rename_i b hb;rw[hb]at hc;have Qa:=bX hc
   exact wpIn_cond_split Qa (fun ht=>eI ok hm x ro (Gv.imp id (·.1)) hd.1 h (hk.1 ht)) (fun hf=>eI ok hm y ro (Gv.imp id (·.2)) hd.2 h (hk.2 hf))
  ·exact hk.elim
 | .block id x,ro,Gv,hd=>fun h hk=>by
  unfold rS at hk;simp only[cD]at hd;simp only[wZ]at Gv;refine wpIn_block (wpIn_mono (eI ok hm x ro Gv hd h hk) fun e a' w' hq=>?_);cases e with
  |normal=>exact hq
  |exit k=>
   obtain⟨s',E',h1,h2⟩:=hq;dsimp only at h1;simp only[Exit.inBlock];by_cases hki:k=id
   ·subst hki;rw[gA,az]at h1;rw[if_pos rfl];exact⟨s',E',h1,h2⟩
   ·rw[zX hki,aC]at h1;rw[if_neg hki];exact⟨s',E',h1,h2⟩
  |ret=>exact hq
  |goto l=>exact hq
  |panic c=>exact hq
  |outgrown=>exact hq
 | .loop x,ro,Gv,hd=>by
  intro h hk;rename_i E0 w0 Q s E a w;unfold rS at hk;simp only[cD]at hd;simp only[wZ]at Gv;obtain⟨N,TB⟩:=hk;obtain⟨s2,E1,hg,h1⟩: ∃s2 E1,fQ (fun s Q=>rS C x s Q) Q N s2∧bJ E0 E1 w0 w s2 a:=by
   rcases TB with hg|⟨s2,hw,hg⟩
   ·exact⟨_,_,hg,h⟩
   ·obtain⟨E1,h1⟩:=h.wk hw;exact⟨_,_,hg,h1⟩
  refine wP (fun n a w=> ∃s E,fQ (fun s Q=>rS C x s Q) Q n s∧bJ E0 E w0 w s a) N ⟨s2,E1,hg,h1⟩ ?_
  rintro n a w ⟨s3,E2,hg2,h2⟩
  cases n with
  |zero=>exact hg2.elim
  |succ n=>
   unfold fQ at hg2;refine wpIn_mono (eI ok hm x ro Gv hd h2 hg2) fun e a' w' hq=>?_;cases e with
   |normal=>
    obtain⟨s',E',hq,h3⟩:=hq;rcases hq with hg4|⟨s4,hwk,hg4⟩
    ·exact⟨n,Nat.lt_succ_self n,s',E',hg4,h3⟩
    ·obtain⟨E3,h4⟩:=h3.wk hwk;exact⟨n,Nat.lt_succ_self n,s4,E3,hg4,h4⟩
   |exit k=>exact hq
   |ret=>exact hq
   |goto l=>exact hq
   |panic c=>exact hq
   |outgrown=>exact hq
 | .rangeFunc g ps x y,ro,Gv,hd=>fun h hk=>by
  simp only[cD,Bool.and_eq_true]at hd;have:ro=none:=Gv.resolve_right (by simp[wZ])
  subst this;exact Mg ok (fun l=>eI ok hm x (some l) (.inr hd.1.1) hd.2.1) (fun l=>eI ok hm y (some l) (.inr hd.1.2) hd.2.2) h hk
 | .scope x,ro,Gv,hd=>fun h hk=>by
  unfold rS at hk;simp only[cD]at hd;simp only[wZ]at Gv;refine Om (wpIn_mono (eI ok hm x ro Gv hd h hk) fun e a' w' hq=>?_);cases e with
  |goto l=>exact hq
  |_=>exact hq
 | .goto _,_,_,_=>fun h hk=>by unfold rS at hk;exact hk.elim
 | .refuse _,_,_,_=>fun h hk=>by unfold rS at hk;exact hk.elim
def number{α:Type}:Nat→List α→List (Nat×α)
 |_,[]=>[]
 |k,a::r=>(k,a)::number (k+1) r
def init(n:Nat)(args:List AV)(g:Nat→Option Ob)(nx:Nat)(fl:Bool:=false):St:={n:=n,t:=number 0 args,b:=[],c:=[],g:=g,nx:=nx,fl:=fl}
def Vb(L:pN)(s:St):ResultVar→Option AV
 | .tmp t=>some (cd s [] (.tmp t))
 | .cell a t=>match L t with
  |some ti=>match ti.k,cd s [] (.tmp a)with
   | .arr n _,.ptr (.s d) 0=>match look d s.b with
    |some (.arr z xs)=>some (.ar n z xs)
    |_=>none
   |_,p=>WH s ti p
  |none=>none
def aaC(I:Pr)(L:pN)(s:St):ResultVar→Prop
 | .tmp _=>True
 | .cell a t=>match L t with
  |some ti=>match ti.k,cd s [] (.tmp a)with
   | .arr n _,.ptr (.s d) 0=>match look d s.b with
    |some (.arr z xs)=>I.fV xs=n∧n*z=ti.size
    |_=>True
   |_,_=>True
  |none=>True
def It(I:Pr)(L:pN)(s:St):List ResultVar→Prop
 |[]=>True
 |r::rs=>aaC I L s r∧It I L s rs
def uE(L:pN)(s:St):List ResultVar→Option (List AV)
 |[]=>some []
 |r::rs=>match Vb L s r with
  |some v=>match uE L s rs with
   |some vs=>some (v::vs)
   |none=>none
  |none=>none
def single:List AV→AV
 |[v]=>v
 |vs=> .gY vs
def forced(a:AV)(K:AV→Prop):Prop:=
 match a with
 | .any=>K .any
 | .v x=>K (.v x)
 | .sl r xs=>K (.sl r xs)
 | .gs r t xs=>K (.gs r t xs)
 | .aX r cs off=>K (.aX r cs off)
 | .ptr k off=>K (.ptr k off)
 | .jB k n=>K (.jB k n)
 | .dc k i off z=>K (.dc k i off z)
 | .mp i=>K (.mp i)
 | .rQ k=>K (.rQ k)
 | .ar n z xs=>K (.ar n z xs)
 | .fn f cap=>K (.fn f cap)
 | .bm f cs=>K (.bm f cs)
 | .nG r z xs=>K (.nG r z xs)
 | .agg cs=>K (.agg cs)
 | .gY vs=>K (.gY vs)
theorem CQ(a:AV)(K:AV→Prop):forced a K=K a:=by cases a<;>rfl
def Hu(C:ey)(rs:List ResultVar)(s:St)(R:AV→(Nat→Option Ob)→Nat→Prop):Prop:=
 match uE C.L s rs with
 |some vs=>match kV C.ρ (lB vs) s with
  |some s1=>match uE C.L s1 rs with
   |some Ov=>It C.I C.L s1 rs∧cw (Ov.map rd)=true∧forced (single (Ov.map rd)) fun r=>match s1 with|⟨_,_,_,_,g,nx,_,_⟩=>R r g nx
   |none=>False
  |none=>False
 |none=>False
def Uq(P:Program)(f:Nat)(args:List AV)(g:Nat→Option Ob)(nx:Nat)(R:AV→(Nat→Option Ob)→Nat→Prop):Prop:=
 cw args=true→ ∀(E:Env) (w:World) (vs:List Value),yn E w g nx→vs.length=args.length→(∀(q:Nat) (a:AV) (y:Value),args[q]? =some a→vs[q]? =some y→Cz E a y)→
  Calls P f vs.toArray w fun e w'=> ∃r g' jf x E',R r g' jf∧e= .returned x∧yn E' w' g' jf∧Ext dW E E'∧jQ w w'∧Cz E' r x∧cH r=true∧cp w w'
def wK(P:Program)(fl:Bool)(f:Nat)(args:List AV)(g:Nat→Option Ob)(nx:Nat)(R:AV→(Nat→Option Ob)→Nat→Prop):Prop:=
 cw args=true→ ∀(E:Env) (w:World) (vs:List Value),yn E w g nx→(fl=true→ ∀b o,E.aR b o→E.eo b<1000000)→vs.length=args.length→(∀(q:Nat) (a:AV) (y:Value),args[q]? =some a→vs[q]? =some y→Cz E a y)→
  Calls P f vs.toArray w fun e w'=> ∃r g' jf x E',R r g' jf∧e= .returned x∧yn E' w' g' jf∧Ext dW E E'∧jQ w w'∧Cz E' r x∧cH r=true∧cp w w'
theorem wK.plain{f:Nat}{args:List AV}{g:Nat→Option Ob}{nx:Nat}{R:AV→(Nat→Option Ob)→Nat→Prop}(h:wK P false f args g nx R):Uq P f args g nx R:=
 fun hi E w vs hG hl hv=>h hi E w vs hG (fun e=>by cases e) hl hv
theorem Uq.call{f:Nat}{args:List AV}{g:Nat→Option Ob}{nx:Nat}{r:AV}{g':Nat→Option Ob}{jf:Nat}(h:Uq P f args g nx fun r1 g1 A7=>r1=r∧g1=g'∧A7=jf):lR P f args g nx r g' jf:=
 fun hi E w vs hG hl hv=>(h hi E w vs hG hl hv).mono fun e w' ⟨r1,g1,A7,x,E',⟨e1,e2,e3⟩,h1,h2,h3,h4,h5,h6,h7⟩=>by subst e1;subst e2;subst e3;exact⟨x,E',h1,h2,h3,h4,h5,h6,h7⟩
theorem Uq.mono{f:Nat}{args:List AV}{g:Nat→Option Ob}{nx:Nat}{R R':AV→(Nat→Option Ob)→Nat→Prop}(h:Uq P f args g nx R)(hR: ∀r g n,R r g n→R' r g n):Uq P f args g nx R':=
 fun hi E w vs hG hl hv=>(h hi E w vs hG hl hv).mono fun e w' ⟨r1,g1,A7,x,E',h0,h1,h2,h3,h4,h5,h6,h7⟩=>⟨r1,g1,A7,x,E',hR _ _ _ h0,h1,h2,h3,h4,h5,h6,h7⟩
theorem DJ{α:Type}{d:Nat}{x:α}: ∀{k:Nat} {l:List α},look d (number k l)=some x→k≤d∧l[d - k]? =some x
 |k,[],h=>by simp[number,look]at h
 |k,y::r,h=>by
  rw[number,aG]at h;by_cases hk:k=d
  ·subst hk;rw[if_pos rfl]at h;cases h;simp
  ·rw[if_neg hk]at h;obtain⟨h1,h2⟩:=DJ h;refine⟨by omega,?_⟩;rw[show d - k=(d - (k+1))+1 by omega];simpa using h2
theorem A8{args:List AV}{n:Nat}{vs:List Value}(hl:vs.length=args.length)(hv: ∀(q:Nat) (a:AV) (y:Value),args[q]? =some a→vs[q]? =some y→Cz E a y):
  ∀d x,look d (number 0 args)=some x→Cz E x ((vs.toArray++Array.replicate (n - vs.toArray.size) undef).getD d undef):=fun d x hd=>by
 obtain⟨h1,h2⟩:=DJ hd;have bc:d<vs.length:=by rw[hl];simpa using(bq.1 h2).1
 have h3:vs[d]? =some vs[d]:=by simp[bc]
 have:=hv d x vs[d] (by simpa using h2) h3
 rw[Array.getD_eq_getD_getElem?,Array.getElem?_append_left (by simpa using bc)];simpa[bc]using this
theorem Nb{fl:Bool}{args:List AV}{g:Nat→Option Ob}{nx n:Nat}{vs:List Value}(hG:yn E w g nx)(hD:fl=true→ ∀b o,E.aR b o→E.eo b<1000000)(hl:vs.length=args.length)(hn:args.length≤n)
  (hv: ∀(q:Nat) (a:AV) (y:Value),args[q]? =some a→vs[q]? =some y→Cz E a y):
  bJ {E with up:=[]} E w w (init n args g nx fl) {tmps:=vs.toArray++Array.replicate (n - vs.toArray.size) undef,defers:=[]}:=by
 refine⟨hG.heap,hG.wf,⟨[],rfl,List.nodup_nil,fun B hB=>by cases hB⟩,trivial,?_,fun d x hd _=>A8 hl hv d x hd,fun d q hd=>?_,fun d ob hd=>?_,fun d hl=>absurd hl (hG.nl d),hG.gx,hG.gl,
  ⟨Nat.le_refl _,fun _ _ h=>⟨h,rfl,rfl⟩,fun _ h=>⟨h,rfl,rfl⟩,fun _ _ _=>⟨rfl,rfl,fun _=>Iff.rfl,rfl⟩⟩,fun b _=>hG.own b,.refl _,hG.gk,hG.nl,hG.ng,fun e b=>⟨hG.ng b,hD e b⟩⟩
 ·simp[init];omega
 ·simp[init,look]at hd
 ·simp[init,look]at hd
def Ci(P:Program)(w:World)(tmps:Array Value)(r:ResultVar):Sem Value:=
 match r with
 | .tmp t=>pure (tmps.getD t undef)
 | .cell a t=>do loadVar t (←asAddr (tmps.getD a undef))
theorem Is{I:Pr}: ∀{rs:List ResultVar} {q:Nat} {r:ResultVar},It I L s rs→rs[q]? =some r→aaC I L s r
 |[],q,r,_,h=>by simp at h
 |x::rs,q,r,hp,h=>by
  cases q with
  |zero=>simp at h;subst h;exact hp.1
  |succ q=>exact Is hp.2 (by simpa using h)
theorem SF(ok:Ok P C)(h:bJ E0 E w0 w s a){r:ResultVar}{v:AV}(hr:Vb C.L s r=some v)(hp:aaC C.I C.L s r): ∃x,(Ci P w a.tmps r).run P w= .ok x w∧Cz E v x:=by
 cases r with
 |tmp t=>cases hr;exact⟨_,rfl,h.ev (p:=[]) trivial (.tmp t)⟩
 |cell d t=>
  have xf: ∃x,(execOp a.eval {dst:=none,op:= .load t (.tmp d),type:=0,pos:= "",after:= #[],guard:=none}).run P w= .ok (.value x) w∧Cz E v x:=by
   simp only[Vb]at hr;simp only[aaC]at hp;cases hL:C.L t with
   |none=>rw[hL]at hr;cases hr
   |some ti=>
    rw[hL]at hr hp;dsimp only at hr hp
    split at hr
    ·rename_i n e' d' hk1 Ej
     split at hr
     ·rename_i z xs gC;cases hr;have hp:C.I.fV xs=n∧n*z=ti.size:=by
       rw[hk1,Ej]at hp;simp only[gC]at hp;exact hp
      obtain⟨p1,p2⟩:=hp;obtain⟨r,hr1,Za⟩:=tg (K:=fun r _=>r= .ar n z xs) (o:={dst:=none,op:= .load t (.tmp d),type:=0,pos:= "",after:= #[],guard:=none}) (p:=[]) ok.lay ok.ak h rfl (by
       unfold QO;rw[hL];dsimp only;rw[Ej];dsimp only;rw[gC];dsimp only;rw[hk1];exact⟨⟨rfl,p1,p2⟩,rfl⟩)
      subst hr1;exact Za trivial
     ·cases hr
    ·have hpu:tW ak C.L s [] (Op.load t (.tmp d))=some v:=by
      simp only[tW];rw[hL];exact hr
     exact vS ok.lay h (p:=[]) trivial (o:={dst:=none,op:= .load t (.tmp d),type:=0,pos:= "",after:= #[],guard:=none}) hpu
  obtain⟨x,h1,h2⟩:=xf;have er:a.eval (.tmp d)=a.tmps.getD d undef:=rfl
  simp only[execOp,er]at h1;simp only[Ci];cases hv:a.tmps.getD d undef with
  |pointer q=>
   cases q with
   |none=>rw[hv]at h1;simp[Instr.loadAt,Instr.sureAddr,stuck,Sem.run_bind,Sem.run,Result.andThen]at h1
   |some ad=>
    rw[hv]at h1;have e1:(Instr.loadAt t (.pointer (some ad))).run P w=(loadVar t ad).run P w:=rfl
    have e2:(do loadVar t (←asAddr (.pointer (some ad))):Sem Value).run P w=(loadVar t ad).run P w:=by simp[asAddr,go_sem]
    rw[e2,←e1];rw[Sem.run_bind]at h1;cases Za:(Instr.loadAt t (.pointer (some ad))).run P w with
    |ok y w2=>rw[Za]at h1;cases h1;exact⟨_,rfl,h2⟩
    |halt y w2=>rw[Za]at h1;cases h1
  |_=>rw[hv]at h1;simp[Instr.loadAt,Instr.sureAddr,stuck,Sem.run_bind,Sem.run,Result.andThen]at h1
theorem Iu{L:pN}: ∀{rs:List ResultVar} {vs:List AV},uE L s rs=some vs→vs.length=rs.length∧ ∀(q:Nat) (r:ResultVar) (v:AV),rs[q]? =some r→vs[q]? =some v→Vb L s r=some v
 |[],vs,h=>by cases h;exact⟨rfl,fun q r v h=>by simp at h⟩
 |r::rs,vs,h=>by
  unfold uE at h;cases h1:Vb L s r with
  |none=>rw[h1]at h;cases h
  |some v=>
   rw[h1]at h;dsimp only at h;cases h2:uE L s rs with
   |none=>rw[h2]at h;cases h
   |some vs'=>
    rw[h2]at h;cases h;obtain⟨h3,h4⟩:=Iu h2;refine⟨by simp[h3],fun q r' v' hq hv=>?_⟩;cases q with
    |zero=>simp at hq hv;subst hq;subst hv;exact h1
    |succ q=>exact h4 q r' v' (by simpa using hq) (by simpa using hv)
theorem tU(ok:Ok P C)(h:bJ E0 E w0 w s a){fn:Func}{vs:List AV}(hr:uE C.L s fn.results.toList=some vs)(hrp:It C.I C.L s fn.results.toList):
  ∃x,(results fn a.tmps).run P w= .ok x w∧Cz E (single vs) x:=by
 obtain⟨hl,hq⟩:=Iu hr;let o8:ResultVar→Value:=fun r=>match(Ci P w a.tmps r).run P w with
  | .ok v _=>v
  |_=>undef
 have hx: ∀(q:Nat) (r:ResultVar),fn.results.toList[q]? =some r→ ∃v,vs[q]? =some v∧(Ci P w a.tmps r).run P w= .ok (o8 r) w∧Cz E v (o8 r):=by
  intro q r hqr;have bc:q<vs.length:=by rw[hl];exact(bq.1 hqr).1
  obtain⟨x,h1,h2⟩:=SF ok h (hq q r vs[q] hqr (by simp[bc])) (Is hrp hqr);have:o8 r=x:=by simp only[o8,h1]
  rw[this];exact⟨vs[q],by simp[bc],h1,h2⟩
 have KT:(fn.results.mapM (Ci P w a.tmps)).run P w= .ok (fn.results.map o8) w:=L7 P w fn.results fun r hr=>by
  obtain⟨q,xd⟩:=List.getElem?_of_mem hr;obtain⟨v,_,h2,_⟩:=hx q r xd;exact h2
 have eY:(results fn a.tmps).run P w= .ok (if h:(fn.results.map o8).size=1 then(fn.results.map o8)[0]else .tuple (fn.results.map o8)) w:=by
  have:results fn a.tmps=(do let vs←fn.results.mapM (Ci P w a.tmps);pure (if h:vs.size=1 then vs[0]else .tuple vs)):=by
   unfold results;congr 2
  rw[this,Sem.run_bind,KT];rfl
 refine⟨_,eY,?_⟩;have anI: ∀(q:Nat) (b:AV) (y:Value),vs[q]? =some b→(fn.results.map o8).toList[q]? =some y→Cz E b y:=by
  intro q b y hb hy;have bc:q<fn.results.toList.length:=by rw[←hl];exact(bq.1 hb).1
  obtain⟨v,h1,_,h3⟩:=hx q fn.results.toList[q] (by simp[bc]);rw[h1]at hb;cases hb;simp at hy;obtain⟨r',h4,rfl⟩:=hy;rw[←Array.getElem?_toList,eH bc]at h4;cases h4;exact h3
 by_cases h1:(fn.results.map o8).size=1
 ·rw[dif_pos h1];have Zd:vs.length=1:=by rw[hl];simpa using h1
  cases hvs:vs with
  |nil=>rw[hvs]at Zd;simp at Zd
  |cons v r=>
   have hr0:r=[]:=by rw[hvs]at Zd;simpa using Zd
   subst hr0;exact anI 0 v _ (by rw[hvs];rfl) (by rw[Array.getElem?_toList];exact Array.getElem?_eq_getElem _)
 ·rw[dif_neg h1];have dj:vs.length≠1:=by rw[hl];simpa using h1
  have:single vs= .gY vs:=by
   unfold single
   split
   ·simp at dj
   ·rfl
  rw[this];exact Cz.gY (E:=E) vs (fn.results.map o8).toList (by simp[hl]) anI
theorem uR{fn:Func}{tmps:Array Value}{R:Ending→World→Prop}: ∀{ds:List Deferred} {E:Env} {w:World},bJ E0 E w0 w s {tmps:=tmps,defers:=ds}→
  (∀E' w',bJ E0 E' w0 w' s {tmps:=tmps,defers:=[]}→ ∃v,(results fn tmps).run P w'= .ok v w'∧R (.returned v) w')→LeavesInM Fence.wide 0 P fn tmps R ds .returning w
 |[],E,w,h,hR=>by
  obtain⟨v,h1,h2⟩:=hR E w h;exact⟨v,h1,h2⟩
 |d::ds,E,w,h,hR=>by
  obtain⟨B,h1,h2,h3⟩:=h.take rfl;exact⟨by simp,.inl ⟨B,_,h1,run_takeDeferred h2,uR h3 hR⟩⟩
theorem BR(ok:Ok P C)(hm:P.follows .mixedOrders=true){f:Nat}{fn:Func}{c:Code}(hf:P.funcs[f]? =some fn)(hb:fn.body=some c)(hd:cD C.cl C.tree c=true){vs:List Value}{Q:Ex→St→Prop}{R:Ending→World→Prop}
  (h:bJ E0 E w0 w s {tmps:=vs.toArray++Array.replicate (fn.ntmps - vs.toArray.size) undef,defers:=[]})(hk:rS C c s Q)(hex: ∀k s',¬Q (.exit k) s')
  (KU: ∀s' E' w' tmps,(Q .normal s'∨Q .ret s')→bJ E0 E' w0 w' s' {tmps:=tmps,defers:=[]}→ ∃v,(results fn tmps).run P w'= .ok v w'∧R (.returned v) w'):Calls P f vs.toArray w R:=by
 refine(callsIn_wide (n:=0)).1 (callsIn_of_wp_marks (F:=Fence.wide) hf hb trivial ?_ rfl);refine wpIn_mono (F:=Fence.wide) (eI ok hm c none (.inl rfl) hd h hk) fun e a w' hq=>?_;cases e with
 |normal=>obtain⟨s',E',h1,h2⟩:=hq;exact uR h2 fun E2 w2 h3=>KU s' E2 w2 _ (.inl h1) h3
 |ret=>obtain⟨s',E',h1,h2⟩:=hq;exact uR h2 fun E2 w2 h3=>KU s' E2 w2 _ (.inr h1) h3
 |exit k=>obtain⟨s',E',h1,h2⟩:=hq;exact absurd h1 (hex k s')
 |goto l=>exact hq.elim
 |panic c=>exact hq.elim
 |outgrown=>exact hq.elim
theorem wK.of(ok:Ok P C)(hm:P.follows .mixedOrders=true){f:Nat}{fn:Func}{c:Code}(hf:P.funcs[f]? =some fn)(hb:fn.body=some c)(hd:cD C.cl C.tree c=true){args:List AV}{g:Nat→Option Ob}{nx:Nat}
  (hn:args.length≤fn.ntmps){R:AV→(Nat→Option Ob)→Nat→Prop}(fl:Bool)
  (hk:rS C c (init fn.ntmps args g nx fl) (fun e s=>match e with
   | .normal=>Hu C fn.results.toList s R
   | .ret=>Hu C fn.results.toList s R
   |_=>False)):wK P fl f args g nx R:=by
 intro hi E w vs hG hD hl hv;refine BR ok hm hf hb hd (Nb hG hD hl hn hv) hk (fun k s' h=>h) fun s' E1 w' tmps hq h=>?_;have hr:Hu C fn.results.toList s' R:=hq.elim id id
 unfold Hu at hr;cases h1:uE C.L s' fn.results.toList with
 |none=>rw[h1]at hr;exact hr.elim
 |some vs=>
  rw[h1]at hr;dsimp only at hr;cases h2:kV C.ρ (lB vs) s' with
  |none=>rw[h2]at hr;exact hr.elim
  |some s1=>
   rw[h2]at hr;dsimp only at hr;cases h3:uE C.L s1 fn.results.toList with
   |none=>rw[h3]at hr;exact hr.elim
   |some Ov=>
    rw[h3]at hr;obtain⟨hrp,nw,hR⟩:=hr;rw[CQ]at hR;obtain⟨E2,Br,_⟩:=fc h h2;obtain⟨x,h4,h5⟩:=tU ok Br h3 hrp;have XD:Ab.cH (single (Ov.map rd))=true:=by
     unfold single
     split
     ·rename_i v hv;rw[hv]at nw;simp only[cw,Bool.and_true]at nw;exact nw
     ·exact nw
    refine⟨x,h4,_,_,_,x,E2.mask,hR,rfl,Br.mask,?_,Br.same,?_,?_,fun b hb=>?_⟩
    ·refine⟨Br.ext.size,Br.ext.aR,fun k hk=>?_,fun b hb hg=>?_⟩
     ·cases k with
      |s d=>exact absurd hk (hG.nl d)
      |o i=>obtain⟨k1,k2,k3⟩:=Br.ext.live _ hk;exact⟨⟨rfl,k1⟩,k2,k3⟩
     ·obtain⟨k1,k2,k3,k4⟩:=Br.ext.bH b hb hg;refine⟨?_,k2,k3,k4⟩;simp only[Env.mask];have k1':E2.own b=E.own b:=k1
      rw[k1',hG.own b];rfl
    ·refine(Bg E2).cH ?_ ?_
     ·have h6:single (Ov.map rd)=rd (single Ov):=by
       unfold single;cases Ov with
       |nil=>rfl
       |cons v r=>cases r with
        |nil=>rfl
        |cons v2 r2=>
         simp only[List.map_cons,rd,sR];rw[show mP (fun _=>true) (v::v2::r2)=(v::v2::r2).map (sR fun _=>true)from by
          generalize v::v2::r2=l
          induction l with
          |nil=>rfl
          |cons x l ih=>simp[mP,ih]]
         rfl
      rw[h6];exact(Cz.ext (Ext.refl (fun _=>False) E2) Br.wf (fun _=>true) (fun _ h=>h.elim) h5).1
     ·exact XD
    ·exact XD
    ·have k2:=(Br.ext.bH b (by show b<E.h.size;rw[←hG.heap];exact hb) (hG.ng b)).2.1
     rw[Br.heap,hG.heap];exact k2
theorem Uq.of(ok:Ok P C)(hm:P.follows .mixedOrders=true){f:Nat}{fn:Func}{c:Code}(hf:P.funcs[f]? =some fn)(hb:fn.body=some c)(hd:cD C.cl C.tree c=true){args:List AV}{g:Nat→Option Ob}{nx:Nat}
  (hn:args.length≤fn.ntmps){R:AV→(Nat→Option Ob)→Nat→Prop}
  (hk:rS C c (init fn.ntmps args g nx) (fun e s=>match e with
   | .normal=>Hu C fn.results.toList s R
   | .ret=>Hu C fn.results.toList s R
   |_=>False)):Uq P f args g nx R:=(wK.of ok hm hf hb hd hn false hk).plain
structure FI where
 c:Unit→Code
 n:Nat
 rs:List ResultVar
 tree:Nat→Tree
 op:List Nat
 ρ:Nat
 dead:Nat→List Nat
 hand:Option (Pr→List AV→St→bB→Prop)
def GU(n:Nat)(args:List AV)(s:St):St:={n:=n,t:=number 0 args,b:=s.b,c:=[],g:=s.g,nx:=s.nx,up:={n:=s.n,t:=s.clean.t}::s.up,fl:=s.fl}
def aaB(I:Pr)(L:pN)(rs:List ResultVar)(b0:List (Nat×Ob))(K:bB)(s:St):Prop:=
 match uE L s rs,s.up with
 |some vs,f::u=>It I L s rs∧(fun s':St=>(S4 s'&&hasB s'.b (lB vs))=true∧forced (single vs) (fun r=>K r s')) {n:=f.n,t:=f.t,c:=[],g:=s.g,nx:=s.nx,up:=u,fl:=s.fl,b:=zw b0 (reach s.b 4 (lB vs++yG b0 s.b)) s.b}
 |_,_=>False
def abu(I:Pr)(L:pN)(rs:List ResultVar)(b0:List (Nat×Ob))(K:bB):Ex→St→Prop
 | .normal,s=>aaB I L rs b0 K s
 | .ret,s=>aaB I L rs b0 K s
 | .exit _,_=>False
def xb(T:Nat→Option FI)(k:Nat):Bool:=match T k with|some _=>true|none=>false
def Xj(C0:ey)(T:Nat→Option FI)(F:Nat→ey):YH→Nat→List AV→St→bB→Prop:=fun yl k args s K=>match T k with
  |some fi=>(match fi.hand with
   |some H=>H C0.I args s K
   |none=>(bif oZ args.length fi.n then rS {F k with tree:=fi.tree,op:=fi.op,ρ:=fi.ρ,dead:=fi.dead,yl:=yl} (fi.c ()) (GU fi.n args s) (abu C0.I C0.L fi.rs s.b K)else False))
  |none=>False
def o7(C0:ey)(T:Nat→Option FI):Nat→Nat→ey
 |0,base=>{C0 with base:=base*1000,uU:=xb T,inl:=fun _ _ _ _ _=>False,CI:=fun _ _ _ _ _=>False,yl:=fun _ _ _ _=>False}
 |n+1,base=>{C0 with base:=base*1000,uU:=xb T,yl:=fun _ _ _ _=>False,inl:=(fun yl k args s K=>match T k with|some fi=>(match fi.hand with|some H=>H C0.I args s K|none=>(bif oZ args.length fi.n then rS {o7 C0 T n (base*256+k)with tree:=fi.tree,op:=fi.op,ρ:=fi.ρ,dead:=fi.dead,yl:=yl} (fi.c ()) (GU fi.n args s) (abu C0.I C0.L fi.rs s.b K)else False))|none=>False),CI:=(fun yl k args s K=>match T k with|some fi=>(match fi.hand with|some H=>H C0.I args s K|none=>(bif oZ args.length fi.n then rS {o7 C0 T n (base*256+k)with tree:=fi.tree,op:=fi.op,ρ:=fi.ρ,dead:=fi.dead,yl:=yl} (fi.c ()) (GU fi.n args s) (abu C0.I C0.L fi.rs s.b K)else False))|none=>False)}
def YN(P:Program)(k:Nat)(H:Pr→List AV→St→bB→Prop):Prop:=
 pO P k∧ ∀{args:List AV} {s:St} {K:bB} {E0 E:Env} {w0 w:World} {a:Act} {vs:List Value},H ak args s K→bJ E0 E w0 w s a→vs.length=args.length→(∀(q:Nat) (b:AV) (y:Value),args[q]? =some b→vs[q]? =some y→Cz E b y)→
  Calls P k vs.toArray w fun e w'=> ∃x,e= .returned x∧ ∃r s' E',K r s'∧bJ E0 E' w0 w' s' a∧Cz E' r x
def mT(P:Program)(cl:Nat→Bool)(k:Nat)(fi:FI):Prop:=(∃H,fi.hand=some H∧YN P k H)∨fi.hand=none∧ ∃fn,P.funcs[k]? =some fn∧fn.body=some (fi.c ())∧fn.ntmps=fi.n∧fn.results.toList=fi.rs∧cD cl fi.tree (fi.c ())=true∧pO P k
def bF(P:Program)(cl:Nat→Bool)(T:Nat→Option FI):Prop:= ∀k fi,T k=some fi→mT P cl k fi
theorem Rk{C0:ey}{T:Nat→Option FI}: ∀{n base:Nat},(o7 C0 T n base).L=C0.L∧(o7 C0 T n base).I=C0.I∧(o7 C0 T n base).call=C0.call∧(o7 C0 T n base).cl=C0.cl∧(o7 C0 T n base).uU=xb T
 |0,_=>⟨rfl,rfl,rfl,rfl,rfl⟩
 |_+1,_=>⟨rfl,rfl,rfl,rfl,rfl⟩
theorem DG{C0:ey}{T:Nat→Option FI}: ∀{n base:Nat},(o7 C0 T n base).keys=C0.keys∧(o7 C0 T n base).eqs=C0.eqs
 |0,_=>⟨rfl,rfl⟩
 |_+1,_=>⟨rfl,rfl⟩
theorem alE(P:Program):T3 P (fun _ _ _ _=>False):=fun hk=>hk.elim
theorem PB{C0:ey}{T:Nat→Option FI}: ∀{n base:Nat},T3 P (o7 C0 T n base).yl
 |0,_=>alE P
 |_+1,_=>alE P
theorem MV{b:List (Nat×Ob)}{vs:List AV}(h:hasB b (lB vs)=true):hasB b (Bk (single vs))=true:=by
 unfold single
 split
 ·rename_i v;simp only[lB,List.append_nil]at h;exact h
 ·exact h
theorem Na{C0:ey}{T:Nat→Option FI}(hT:bF P C0.cl T)(hL:bG P C0.L)(hI:C0.I=ak)(hc:De P C0)(jY: ∀k,C0.cl k=true→xb T k=false)(uZ: ∀t ks,C0.keys t=some ks→KeyLaw P t ks)(GC: ∀t ks,C0.eqs t=some ks→wU P t ks)(hm:P.follows .mixedOrders=true)(n b0:Nat)(aug: ∀base,D0 P (o7 C0 T n base)∧D0 P {o7 C0 T n base with inl:=(o7 C0 T n base).CI})(C1:ey):D0 P {C1 with inl:=Xj C0 T (fun k=>o7 C0 T n (b0*256+k))}:=
 fun yl N4 {k args s K E0 E w0 w a vs} hk h hl hv=>by
  replace hk:Xj C0 T (fun k=>o7 C0 T n (b0*256+k)) yl k args s K:=hk;simp only[Xj]at hk;generalize b0*256+k=base at hk;obtain⟨uw,auf⟩:=aug base;cases kR:T k with
  |none=>rw[kR]at hk;exact hk.elim
  |some fi=>
   rw[kR]at hk;dsimp only at hk;rcases hT k fi kR with⟨H,hH,xV,anS⟩|⟨hH,fn,f1,f2,f3,f4,f5,f6⟩
   ·rw[hH]at hk;rw[hI]at hk;exact⟨xV,anS hk h hl hv⟩
   rw[hH]at hk;dsimp only at hk;refine⟨f6,?_⟩;cases hle:oZ args.length fi.n with
   |false=>rw[hle]at hk;exact hk.elim
   |true=>
    rw[hle,az]at hk;have ai5:args.length≤fi.n:=by simpa using hle
    obtain⟨m1,m2,m3,m4,m5⟩:=Rk (C0:=C0) (T:=T) (n:=n) (base:=base);have ok':Ok P {o7 C0 T n base with tree:=fi.tree,op:=fi.op,ρ:=fi.ρ,dead:=fi.dead,yl:=yl}:=
     ⟨by show bG P (o7 C0 T n base).L;rw[m1];exact hL,m2.trans hI,fun ρ f args g nx r g' jf hh=>hc ρ f args g nx r g' jf (by rw[←m3];exact hh),fun yl' aiH {_ _ _ _ _ _ _ _ _ _} hh=>uw yl' aiH hh,fun yl' aiH {_ _ _ _ _ _ _ _ _ _} hh=>auf yl' aiH hh,N4,fun k hk=>by show(o7 C0 T n base).uU k=false;rw[m5];exact jY k (by rw[←m4];exact hk),
      fun t ks hk=>uZ t ks (by have hk:(o7 C0 T n base).keys t=some ks:=hk;rw[(DG (C0:=C0) (T:=T) (n:=n) (base:=base)).1]at hk;exact hk),fun t ks hk=>GC t ks (by have hk:(o7 C0 T n base).eqs t=some ks:=hk;rw[(DG (C0:=C0) (T:=T) (n:=n) (base:=base)).2]at hk;exact hk)⟩
    have hs:=h.push (n:=fi.n) (t:=number 0 args) (A:=vs.toArray++Array.replicate (fi.n - vs.toArray.size) undef) (by simp;omega) (A8 hl hv)
    rw[←f3]at hs;refine BR ok' hm f1 f2 (by show cD (o7 C0 T n base).cl _ _=true;rw[m4];exact f5) (s:=GU fi.n args s) (by rw[←f3];exact hs) hk (fun k s' hh=>hh) fun s' E' w' tmps hq hs'=>?_;have hr:aaB C0.I C0.L fi.rs s.b K s':=hq.elim id id
    unfold aaB at hr
    split at hr
    ·rename_i Ov f u h1 hup;obtain⟨hrp,hr⟩:=hr;obtain⟨x,h4,h5⟩:=tU ok' hs' (fn:=fn) (vs:=Ov) (by rw[f4];show uE (o7 C0 T n base).L s' fi.rs=_;rw[m1];exact h1) (by rw[f4];show It (o7 C0 T n base).I (o7 C0 T n base).L s' fi.rs;rw[m1,m2];exact hrp);generalize hB:zw s.b (reach s'.b 4 (lB Ov++yG s.b s'.b)) s'.b=B at hr;obtain⟨jX,hr⟩:=hr
     ·rw[CQ]at hr;simp only[Bool.and_eq_true]at jX;obtain⟨ff,hff,h8⟩:=(hs'.pop hup).drop rfl (b':=B) (fun d ob hd=>by rw[←hB]at hd;exact IP hd) jX.1;exact⟨x,h4,x,rfl,_,_,_,hr,h8,Cz.only hff h5 (MV jX.2)⟩
    ·exact hr.elim
theorem Bf{C0:ey}{T:Nat→Option FI}(hT:bF P C0.cl T)(hL:bG P C0.L)(hI:C0.I=ak)(hc:De P C0)(jY: ∀k,C0.cl k=true→xb T k=false)(uZ: ∀t ks,C0.keys t=some ks→KeyLaw P t ks)(GC: ∀t ks,C0.eqs t=some ks→wU P t ks)(hm:P.follows .mixedOrders=true): ∀{n base:Nat},D0 P (o7 C0 T n base)∧D0 P {o7 C0 T n base with inl:=(o7 C0 T n base).CI}
 |0,_=>⟨fun _ _ {_ _ _ _ _ _ _ _ _ _} hk=>hk.elim,fun _ _ {_ _ _ _ _ _ _ _ _ _} hk=>hk.elim⟩
 |n+1,base=>by
  have a:=fun b=>Bf hT hL hI hc jY uZ GC hm (n:=n) (base:=b)
  exact⟨Na hT hL hI hc jY uZ GC hm n base a (o7 C0 T (n+1) base),Na hT hL hI hc jY uZ GC hm n base a (o7 C0 T (n+1) base)⟩
 mutual
def qZ:AV→Prop
  | .sl _ xs=>xs.length≤maxLen∧tD xs
  | .gs _ _ xs=>xs.length≤maxLen∧tD xs
  | .aX _ cs _=>sw cs
  | .fn _ cs=>sw cs
  | .agg cs=>sw cs
  | .gY cs=>sw cs
  |_=>True
def sw:List AV→Prop
  |[]=>True
  |a::r=>qZ a∧sw r
def tD:List (List AV)→Prop
  |[]=>True
  |l::r=>sw l∧tD r
end
theorem nt: ∀{cs:List AV},(∀(q:Nat) (a:AV),cs[q]? =some a→qZ a)→sw cs
 |[],_=>by simp only[sw]
 |a::r,h=>by simp only[sw];exact⟨h 0 a rfl,nt fun q b hq=>h (q+1) b (by simpa using hq)⟩
theorem Ae: ∀{xs:List (List AV)},(∀(q:Nat) (a:AV),xs.flatten[q]? =some a→qZ a)→tD xs
 |[],_=>by simp only[tD]
 |l::r,h=>by
  simp only[tD];refine⟨nt fun q b hq=>h q b ?_,Ae fun q b hq=>h (l.length+q) b ?_⟩
  ·rw[List.flatten_cons,gg (bq.1 hq).1];exact hq
  ·rw[List.flatten_cons,iY (by omega)];simpa using hq
theorem xK{α β:Type}{l:List α}{m:List β}(h:m.length=l.length){q:Nat}{a:α}(ha:l[q]? =some a): ∃b,m[q]? =some b:=
 have bc:q<m.length:=by rw[h];exact(bq.1 ha).1
 ⟨m[q],eH bc⟩
theorem Cz.qZ{a:AV}{x:Value}(h:Cz E a x):qZ a:=by
 induction h with
 |sl r xs z b o c u hp hc hm ew hz hr hi hs hu hq ih=>simp only[Ab.qZ];exact⟨by omega,Ae ih⟩
 |gs r t xs z b c e cells u hc hm h0 ew hz hr hb ef ho gZ hi hu hq ih=>simp only[Ab.qZ];exact⟨by omega,Ae ih⟩
 |pd=>simp[Ab.qZ,tD]
 |vk=>simp[Ab.qZ,tD]
 |aX r cs off b o u hr hi hs hu hq ih=>simp only[Ab.qZ];exact nt ih
 |fn f cap ys hl hq ih=>simp only[Ab.qZ];exact nt fun q a ha=>let⟨y,hy⟩:=xK hl ha;ih q a y ha hy
 |agg cs ys hl hq ih=>simp only[Ab.qZ];exact nt fun q a ha=>let⟨y,hy⟩:=xK hl ha;ih q a y ha hy
 |gY cs ys hl hq ih=>simp only[Ab.qZ];exact nt fun q a ha=>let⟨y,hy⟩:=xK hl ha;ih q a y ha hy
 |_=>simp only[Ab.qZ]
theorem UF{args args':List AV}(hw:wks args args'){vs:List Value}(h: ∀(q:Nat) (a:AV) (y:Value),args[q]? =some a→vs[q]? =some y→Cz E a y):
  args.length=args'.length∧ ∀(q:Nat) (a:AV) (y:Value),args'[q]? =some a→vs[q]? =some y→Cz E a y:=by
 obtain⟨h1,h2⟩:=yw hw;refine⟨h1,fun q a y ha hy=>?_⟩;obtain⟨a0,e1,e2⟩:=h2 q a ha;exact ir e2 (h q a0 y e1 hy)
 mutual
def Lq:AV→AV→Prop
  | .agg cs,.agg cs'=>wks cs cs'
  | .gY cs,.gY cs'=>Oo cs cs'
  |a,b=>QM a b
def Oo:List AV→List AV→Prop
  |[],[]=>True
  |a::r,b::q=>Lq a b∧Oo r q
  |_,_=>False
end
 mutual
theorem yx{x y:AV}{v:Value}(hw:Lq x y)(h:Cz E x v):Cz E y v:=by
  unfold Lq at hw
  split at hw
  ·rename_i cs cs';cases h with
   |agg _ ys hl hq=>
    obtain⟨h1,h2⟩:=UF hw hq;exact .agg cs' ys (hl.trans h1) h2
  ·rename_i cs cs';cases h with
   |gY _ ys hl hq=>
    obtain⟨h1,h2⟩:=vG hw hq;exact .gY cs' ys (hl.trans h1) h2
  ·exact ir hw h
theorem vG{args args':List AV}(hw:Oo args args'){vs:List Value}(h: ∀(q:Nat) (a:AV) (y:Value),args[q]? =some a→vs[q]? =some y→Cz E a y):
   args.length=args'.length∧ ∀(q:Nat) (a:AV) (y:Value),args'[q]? =some a→vs[q]? =some y→Cz E a y:=by
  match args,args',hw with
  |[],[],_=>exact⟨rfl,fun q a y ha=>by simp at ha⟩
  |a::r,b::q,hw=>
   unfold Oo at hw;cases vs with
   |nil=>
    obtain⟨h1,_⟩:=vG (args:=r) (args':=q) (vs:=[]) hw.2 (fun q a y ha hy=>by simp at hy);exact⟨by simp[h1],fun q a y ha hy=>by simp at hy⟩
   |cons v vs=>
    obtain⟨h1,h2⟩:=vG (args:=r) (args':=q) (vs:=vs) hw.2 (fun j a y ha hy=>h (j+1) a y (by simpa using ha) (by simpa using hy));refine⟨by simp[h1],fun j c y hc hy=>?_⟩;cases j with
    |zero=>simp at hc hy;subst hc;subst hy;exact yx hw.1 (h 0 a v (by simp) (by simp))
    |succ j=>exact h2 j c y (by simpa using hc) (by simpa using hy)
end
theorem lR.aq7{f:Nat}{args args':List AV}{g:Nat→Option Ob}{nx:Nat}{r:AV}{g':Nat→Option Ob}{jf:Nat}(hw:Oo args args')(hi:cw args'=true)(h:lR P f args' g nx r g' jf):lR P f args g nx r g' jf:=
 fun _ E w vs hG hl hv=>by
  obtain⟨h1,h2⟩:=vG hw hv;exact h hi E w vs hG (hl.trans h1) h2
theorem Uq.ao4{f:Nat}{args:List AV}{g:Nat→Option Ob}{nx:Nat}{r:AV}{g':Nat→Option Ob}{jf:Nat}(hr:cH r=true)(h:Uq P f args g nx fun r1 g1 A7=>Lq r1 r∧g1=g'∧A7=jf):lR P f args g nx r g' jf:=
 fun hi E w vs hG hl hv=>(h hi E w vs hG hl hv).mono fun e w' ⟨r1,g1,A7,x,E',⟨e1,e2,e3⟩,h1,h2,h3,h4,h5,h6,h7⟩=>by subst e2;subst e3;exact⟨x,E',h1,h2,h3,h4,yx e1 h5,hr,h7⟩
structure Any(P:Program)(call:qH):Prop where
 use: ∀{ρ f:Nat} {args:List AV} {g:Nat→Option Ob} {nx:Nat} {r:AV} {g':Nat→Option Ob} {jf:Nat},pO P f→lR P f args g nx r g' jf→call ρ f args g nx r g' jf
def post(C:ey)(rs:List ResultVar)(R:AV→(Nat→Option Ob)→Nat→Prop)(e:Ex)(s:St):Prop:=
 match e with
 | .normal=>Hu C rs s R
 | .ret=>Hu C rs s R
 |_=>False
theorem TQ{P:Program}{L:pN}(hL:bG P L)(hm:P.follows .mixedOrders=true){f:Nat}{fn:Func}{c:Code}(hf:P.funcs[f]? =some fn)(hb:fn.body=some c){args:List AV}{g:Nat→Option Ob}{nx:Nat}
  {R:AV→(Nat→Option Ob)→Nat→Prop}(fl:Bool)(ρ:Nat)(sh:List Nat)(tree:Nat→Tree)(dead:Nat→List Nat)(op:List Nat)(cl:Nat→Bool){keys eqs:Nat→Option (List VK)}(uZ: ∀t ks,keys t=some ks→KeyLaw P t ks)(GC: ∀t ks,eqs t=some ks→wU P t ks){T:Nat→Option FI}(hT:bF P cl T)(jY: ∀k,cl k=true→xb T k=false)(fuel:Nat)(hd:cD cl tree c=true)(n:Nat)(hn:fn.ntmps=n)(Ls:oZ args.length n=true){rs:List ResultVar}(Xn:fn.results.toList=rs)
  (hk: ∀(I:Pr) (call:qH),I=ak→Any P call→sw args→rS (o7 {I:=I,L:=L,ρ:=ρ,sh:=sh,tree:=tree,call:=call,op:=op,dead:=dead,cl:=cl,keys:=keys,eqs:=eqs} T fuel 0) c (init n args g nx fl) (post (o7 {I:=I,L:=L,ρ:=ρ,sh:=sh,tree:=tree,call:=call,op:=op,dead:=dead,cl:=cl,keys:=keys,eqs:=eqs} T fuel 0) rs R)):wK P fl f args g nx R:=by
 subst hn;subst Xn;let call:qH:=fun ρ f args g nx r g' jf=>pO P f∧lR P f args g nx r g' jf;intro hi E w vs hG hD hl hv;have hc:De P {I:=ak,L:=L,ρ:=ρ,sh:=sh,tree:=tree,call:=call,op:=op,dead:=dead,cl:=cl,keys:=keys,eqs:=eqs}:=fun _ _ _ _ _ _ _ _ h=>h
 have hCR:=Bf hT (C0:={I:=ak,L:=L,ρ:=ρ,sh:=sh,tree:=tree,call:=call,op:=op,dead:=dead,cl:=cl,keys:=keys,eqs:=eqs}) hL rfl hc jY uZ GC hm (n:=fuel) (base:=0)
 obtain⟨hC,hCR⟩:=hCR;obtain⟨m1,m2,m3,m4,m5⟩:=Rk (C0:={I:=ak,L:=L,ρ:=ρ,sh:=sh,tree:=tree,call:=call,op:=op,dead:=dead,cl:=cl,keys:=keys,eqs:=eqs}) (T:=T) (n:=fuel) (base:=0);have ok':Ok P (o7 {I:=ak,L:=L,ρ:=ρ,sh:=sh,tree:=tree,call:=call,op:=op,dead:=dead,cl:=cl,keys:=keys,eqs:=eqs} T fuel 0):=
  ⟨by rw[m1];exact hL,m2,fun ρ f args g nx r g' jf hh=>hc ρ f args g nx r g' jf (by rw[m3]at hh;exact hh),hC,hCR,PB,fun k hk=>by rw[m5];rw[m4]at hk;exact jY k hk,
   fun t ks hk=>by rw[(DG (T:=T) (n:=fuel) (base:=0)).1]at hk;exact uZ t ks hk,fun t ks hk=>by rw[(DG (T:=T) (n:=fuel) (base:=0)).2]at hk;exact GC t ks hk⟩
 have N5:(o7 {I:=ak,L:=L,ρ:=ρ,sh:=sh,tree:=tree,call:=call,op:=op,dead:=dead,cl:=cl,keys:=keys,eqs:=eqs} T fuel 0).tree=tree:=by cases fuel<;>rfl
 refine wK.of ok' hm hf hb (by rw[N5,m4];exact hd) (Gn Ls) fl ?_ hi E w vs hG hD hl hv;exact hk ak call rfl ⟨fun h1 h2=>⟨h1,h2⟩⟩ (nt fun q a ha=>let⟨y,hy⟩:=xK hl ha;(hv q a y ha hy).qZ)
theorem Yo{P:Program}{L:pN}(hL:bG P L)(hm:P.follows .mixedOrders=true){f:Nat}{fn:Func}{c:Code}(hf:P.funcs[f]? =some fn)(hb:fn.body=some c){args:List AV}{g:Nat→Option Ob}{nx:Nat}
  {R:AV→(Nat→Option Ob)→Nat→Prop}(ρ:Nat)(sh:List Nat)(tree:Nat→Tree)(dead:Nat→List Nat)(op:List Nat)(cl:Nat→Bool){keys eqs:Nat→Option (List VK)}(uZ: ∀t ks,keys t=some ks→KeyLaw P t ks)(GC: ∀t ks,eqs t=some ks→wU P t ks){T:Nat→Option FI}(hT:bF P cl T)(jY: ∀k,cl k=true→xb T k=false)(fuel:Nat)(hd:cD cl tree c=true)(n:Nat)(hn:fn.ntmps=n)(Ls:oZ args.length n=true){rs:List ResultVar}(Xn:fn.results.toList=rs)
  (hk: ∀(I:Pr) (call:qH),I=ak→Any P call→sw args→rS (o7 {I:=I,L:=L,ρ:=ρ,sh:=sh,tree:=tree,call:=call,op:=op,dead:=dead,cl:=cl,keys:=keys,eqs:=eqs} T fuel 0) c (init n args g nx) (post (o7 {I:=I,L:=L,ρ:=ρ,sh:=sh,tree:=tree,call:=call,op:=op,dead:=dead,cl:=cl,keys:=keys,eqs:=eqs} T fuel 0) rs R)):Uq P f args g nx R:=by
 subst hn;subst Xn;let call:qH:=fun ρ f args g nx r g' jf=>pO P f∧lR P f args g nx r g' jf;intro hi E w vs hG hl hv;have hc:De P {I:=ak,L:=L,ρ:=ρ,sh:=sh,tree:=tree,call:=call,op:=op,dead:=dead,cl:=cl,keys:=keys,eqs:=eqs}:=fun _ _ _ _ _ _ _ _ h=>h
 have hCR:=Bf hT (C0:={I:=ak,L:=L,ρ:=ρ,sh:=sh,tree:=tree,call:=call,op:=op,dead:=dead,cl:=cl,keys:=keys,eqs:=eqs}) hL rfl hc jY uZ GC hm (n:=fuel) (base:=0)
 obtain⟨hC,hCR⟩:=hCR;obtain⟨m1,m2,m3,m4,m5⟩:=Rk (C0:={I:=ak,L:=L,ρ:=ρ,sh:=sh,tree:=tree,call:=call,op:=op,dead:=dead,cl:=cl,keys:=keys,eqs:=eqs}) (T:=T) (n:=fuel) (base:=0);have ok':Ok P (o7 {I:=ak,L:=L,ρ:=ρ,sh:=sh,tree:=tree,call:=call,op:=op,dead:=dead,cl:=cl,keys:=keys,eqs:=eqs} T fuel 0):=
  ⟨by rw[m1];exact hL,m2,fun ρ f args g nx r g' jf hh=>hc ρ f args g nx r g' jf (by rw[m3]at hh;exact hh),hC,hCR,PB,fun k hk=>by rw[m5];rw[m4]at hk;exact jY k hk,
   fun t ks hk=>by rw[(DG (T:=T) (n:=fuel) (base:=0)).1]at hk;exact uZ t ks hk,fun t ks hk=>by rw[(DG (T:=T) (n:=fuel) (base:=0)).2]at hk;exact GC t ks hk⟩
 have N5:(o7 {I:=ak,L:=L,ρ:=ρ,sh:=sh,tree:=tree,call:=call,op:=op,dead:=dead,cl:=cl,keys:=keys,eqs:=eqs} T fuel 0).tree=tree:=by cases fuel<;>rfl
 refine Uq.of ok' hm hf hb (by rw[N5,m4];exact hd) (Gn Ls) ?_ hi E w vs hG hl hv;exact hk ak call rfl ⟨fun h1 h2=>⟨h1,h2⟩⟩ (nt fun q a ha=>let⟨y,hy⟩:=xK hl ha;(hv q a y ha hy).qZ)
theorem vK(P:Program)(cl:Nat→Bool):bF P cl (fun _=>none):=fun k fi h=>by cases h
end Ab
namespace Ab
open Go
variable{kp:Prop}{P:Program}{L:pN}{E0 E E':Env}{w0 w w':World}{s s':St}{a:Act}{p:Path}{C:ey}
structure lQ(E:Env)(r:Nat)(w w':World):Prop where
 same:jQ w w'
 size:E.h.size≤w'.heap.size
 cells: ∀b,b<E.h.size→w'.heap[b]? =E.h[b]? ∨ ∃c c' e,E.h[b]? =some (.cells c e (0,0))∧w'.heap[b]? =some (.cells c' e (0,0))∧c'.size=c.size∧ ∀o,¬(E.aR b o∧E.eo b=r)→c'[o]? =c[o]?
def Env.eg(E:Env)(r:Nat)(kp:Prop)(w':World):Env:={E with h:=w'.heap,aR:=fun b o=>E.aR b o∧(kp∨E.eo b≠r)}
theorem lQ.cell{r:Nat}(k:lQ E r w w'){b o:Nat}(hb:b<E.h.size)(h: ¬(E.aR b o∧E.eo b=r)):aW w'.heap b o=aW E.h b o:=by
 rcases k.cells b hb with h1|⟨c,c',e,h1,h2,h3,h4⟩
 ·unfold aW;rw[h1]
 ·unfold aW;rw[h1,h2];exact h4 o h
theorem lQ.block{r:Nat}(k:lQ E r w w'){b:Nat}(hb:b<E.h.size)(h: ∀o,¬(E.aR b o∧E.eo b=r)):w'.heap[b]? =E.h[b]? :=by
 rcases k.cells b hb with h1|⟨c,c',e,h1,h2,h3,h4⟩
 ·exact h1
 ·have:c'=c:=by
   apply Array.ext h3;intro i hi1 hi2;have:=h4 i (h i)
   rw[Array.getElem?_eq_getElem hi1,Array.getElem?_eq_getElem hi2]at this;exact o5 this
  rw[h1,h2,this]
theorem pV{r:Nat}: ∀{cs:List AV},DF r cs→ ∀(q:Nat) (a:AV),cs[q]? =some a→uu r a
 |[],_,q,a,h=>by simp at h
 |x::l,h,q,a,hq=>by
  simp only[DF]at h;cases q with
  |zero=>simp at hq;subst hq;exact h.1
  |succ q=>exact pV h.2 q a (by simpa using hq)
theorem mn{r:Nat}: ∀{xs:List (List AV)},pA r xs→ ∀(q:Nat) (a:AV),xs.flatten[q]? =some a→uu r a
 |[],_,q,a,h=>by simp at h
 |x::l,h,q,a,hq=>by
  simp only[pA]at h;rw[List.flatten_cons]at hq;by_cases bc:q<x.length
  ·rw[gg bc]at hq;exact pV h.1 q a hq
  ·rw[iY (by omega)]at hq;exact mn h.2 _ a hq
theorem Py{r:Nat}: ∀{cs:List AV},(∀a∈cs,uu r a)→DF r cs
 |[],_=>by simp only[DF]
 |x::l,h=>by simp only[DF];exact⟨h x (by simp),Py fun a ha=>h a (by simp[ha])⟩
theorem Ba{r:Nat}: ∀{xs:List (List AV)},(∀l∈xs,DF r l)→pA r xs
 |[],_=>by simp only[pA]
 |x::l,h=>by simp only[pA];exact⟨h x (by simp),Ba fun a ha=>h a (by simp[ha])⟩
theorem Cz.eg{r:Nat}(k:lQ E r w w')(hw:Wf E){av:AV}{x:Value}(h:Cz E av x):uu r av→Cz (E.eg r kp w') av x:=by
 induction h with
 |any x=>exact fun _=> .any _
 |v x=>exact fun _=> .v _
 |pd q A c=>exact fun _=> .pd _ _ _
 |sl q xs z b o c u hp hc hm ew hz hr hi hs hu hq ih=>
  intro hn;simp only[uu]at hn;have hb: ∀o',E.aR b o'→ ¬(E.aR b o'∧E.eo b=r):=fun o' _ hh=>hn.1 (hr.symm.trans hh.2)
  exact .sl q xs z b o c u hp hc hm ew hz hr hi (fun i a ha=>⟨hs i a ha,.inr fun e=>hn.1 (hr.symm.trans e)⟩) (fun i a ha=>(k.cell (hw.aR _ _ (hs i a ha)) (hb _ (hs i a ha))).trans (hu i a ha)) (fun i a ha=>ih i a ha (mn hn.2 i a ha))
 |vk q t=>exact fun _=> .vk _ _
 |gs q t xs z b c e cells u hc hm h0 ew hz hr hb ef ho gZ hi hu hq ih=>
  intro hn;simp only[uu]at hn;have dj:E.eo b≠r:=fun e=>hn.1 (hr.symm.trans e)
  have bc:b<E.h.size:=(Array.getElem?_eq_some_iff.1 hb).1
  have Bv:=k.block bc fun o hh=>dj hh.2
  exact .gs q t xs z b c e cells u hc hm h0 ew hz hr (by show w'.heap[b]? =_;rw[Bv];exact hb) ef ho (fun o=>⟨fun hh=>(gZ o).1 hh.1,fun hh=>⟨(gZ o).2 hh,.inr dj⟩⟩) hi (fun i a ha=>by
   show aW w'.heap b (0+i)=_;rw[k.cell bc fun hh=>dj hh.2];exact hu i a ha) (fun i a ha=>ih i a ha (mn hn.2 i a ha))
 |aX q cs off b o u hr hi hs hu hq ih=>
  intro hn;simp only[uu]at hn;exact .aX q cs off b o u hr hi (fun i a ha=>⟨hs i a ha,.inr fun e=>hn.1 ((hr i a ha).symm.trans e)⟩) (fun i a ha=>(k.cell (hw.aR _ _ (hs i a ha)) fun hh=>hn.1 ((hr i a ha).symm.trans hh.2)).trans (hu i a ha)) (fun i a ha=>ih i a ha (pV hn.2 i a ha))
 |ptr k' off hl=>exact fun _=>Cz.ptr (E:=E.eg r kp w') k' off hl
 |jB k' n hl hn hc hm=>exact fun _=>Cz.jB (E:=E.eg r kp w') k' n hl hn hc hm
 |dc k' i off z hl=>exact fun _=>Cz.dc (E:=E.eg r kp w') k' i off z hl
 |mp k' hl=>exact fun _=>Cz.mp (E:=E.eg r kp w') k' hl
 |rQ k' hl=>exact fun _=>Cz.rQ (E:=E.eg r kp w') k' hl
 |ar n z xs ys hn hz hl hi hq ih=>intro h;simp only[uu]at h;exact .ar n z xs ys hn hz hl hi fun q a y ha hy=>ih q a y ha hy (mn h q a ha)
 |fn f cs ys hl hq ih=>intro h;simp only[uu]at h;exact .fn f cs ys hl fun q a y ha hy=>ih q a y ha hy (pV h q a ha)
 |bm f cs ys hl hi hq ih=>intro h;simp only[uu]at h;exact .bm f cs ys hl hi fun q a y ha hy=>ih q a y ha hy (pV h q a ha)
 |nG q z xs x hz h ih=>
  intro hn;simp only[uu]at hn;refine .nG q z xs x hz (ih ?_);simp only[uu];refine⟨hn.1,?_⟩;exact Py fun a ha=>by obtain⟨i,hi⟩:=List.getElem?_of_mem ha;exact mn hn.2 i a hi
 |agg cs ys hl hq ih=>intro h;simp only[uu]at h;exact .agg cs ys hl fun q a y ha hy=>ih q a y ha hy (pV h q a ha)
 |gY cs ys hl hq ih=>intro h;simp only[uu]at h;exact .gY cs ys hl fun q a y ha hy=>ih q a y ha hy (pV h q a ha)
 mutual
def rf(r:Nat):AV→AV
  | .sl q xs=>bif dy q r then .any else .sl q xs
  | .gs q t xs=>bif dy q r then .any else .gs q t xs
  | .aX q cs o=>bif dy q r then .any else .aX q cs o
  | .nG q z xs=>bif dy q r then .any else .nG q z xs
  | .agg cs=> .agg (we r cs)
  | .gY cs=> .gY (we r cs)
  |a=>a
def we(r:Nat):List AV→List AV
  |[]=>[]
  |a::l=>rf r a::we r l
end
 mutual
def Ra(I:Pr)(r:Nat):AV→Prop
  | .sl q xs=>bif dy q r then True else I.nr r xs
  | .gs q _ xs=>bif dy q r then True else I.nr r xs
  | .aX q cs _=>bif dy q r then True else I.nr r [cs]
  | .nG q _ xs=>bif dy q r then True else I.nr r xs
  | .ar _ _ xs=>I.nr r xs
  | .fn _ cs=>I.nr r [cs]
  | .bm _ cs=>I.nr r [cs]
  | .agg cs=>S5 I r cs
  | .gY cs=>S5 I r cs
  |_=>True
def S5(I:Pr)(r:Nat):List AV→Prop
  |[]=>True
  |a::l=>Ra I r a∧S5 I r l
end
def DM(r:Nat):List (Nat×AV)→List (Nat×AV)
 |[]=>[]
 |(d,a)::l=>(d,rf r a)::DM r l
def nrT(I:Pr)(r:Nat):List (Nat×AV)→Prop
 |[]=>True
 |(_,a)::l=>Ra I r a∧nrT I r l
def Rq(r:Nat):Ob→Ob
 | .box cs=> .box (we r cs)
 | .lp n t ps pH body st=> .lp n (DM r t) ps pH body st
 |o=>o
def nrO(I:Pr)(r:Nat):Ob→Prop
 | .box cs=>S5 I r cs
 | .arr _ xs=>I.nr r xs
 | .ow _ _ xs=>I.nr r xs
 | .lp _ t _ _ _ _=>nrT I r t
def IN(r:Nat):List (Nat×Ob)→List (Nat×Ob)
 |[]=>[]
 |(d,o)::l=>(d,Rq r o)::IN r l
def nrB(I:Pr)(r:Nat):List (Nat×Ob)→Prop
 |[]=>True
 |(_,o)::l=>nrO I r o∧nrB I r l
def Xb(r:Nat):List Fr→List Fr
 |[]=>[]
 |f::l=>{n:=f.n,t:=DM r f.t}::Xb r l
def nrU(I:Pr)(r:Nat):List Fr→Prop
 |[]=>True
 |f::l=>nrT I r f.t∧nrU I r l
def aeb(r:Nat)(s:St):St:={s with t:=DM r s.t,b:=IN r s.b,up:=Xb r s.up}
def Xd(Q:AV→Prop)(I:Pr)(args:List AV)(s:St)(K:bB):Prop:=
 match args with
 |[.agg [.sl r xs]]=>bif oZ 1000000 r&&s.fl then(Q (.agg [.sl r xs])∧(s.c=[]∧ ∀i,s.g i=none)∧nrT I r s.t∧nrB I r s.b∧nrU I r s.up)∧K (.gY []) (aeb r s)else False
 |_=>False
theorem wc(r:Nat): ∀(cs:List AV) (q:Nat),(we r cs)[q]? =(cs[q]?).map (rf r)
 |[],q=>by simp[we]
 |a::l,q=>by cases q<;>simp[we,wc r l]
theorem wa(r:Nat): ∀(cs:List AV),(we r cs).length=cs.length
 |[]=>rfl
 |a::l=>by simp[we,wa r l]
theorem A9{I:Pr}{r:Nat}: ∀{cs:List AV},S5 I r cs→ ∀(q:Nat) (a:AV),cs[q]? =some a→Ra I r a
 |[],_,q,a,h=>by simp at h
 |x::l,h,q,a,hq=>by
  simp only[S5]at h;cases q with
  |zero=>simp at hq;subst hq;exact h.1
  |succ q=>exact A9 h.2 q a (by simpa using hq)
theorem Cz.Xc{r:Nat}(k:lQ E r w w')(hw:Wf E){av:AV}{x:Value}(h:Cz E av x):Ra ak r av→Cz (E.eg r kp w') (rf r av) x:=by
 have one: ∀{q:Nat} {xs:List (List AV)},(bif dy q r then True else ak.nr r xs)→dy q r=false→q≠r∧pA r xs:=fun{q xs} h hq=>by
  rw[hq,aC]at h;exact⟨fun e=>by subst e;simp at hq,h⟩
 induction h with
 |sl q xs z b o c u hp hc hm ew hz hr hi hs hu hq ih=>
  intro hn;simp only[Ra]at hn;simp only[rf];cases he:dy q r with
  |true=>exact .any _
  |false=>exact Cz.eg k hw (.sl q xs z b o c u hp hc hm ew hz hr hi hs hu hq) (by simp only[aC,uu];exact one hn he)
 |pd q A c=>
  intro _;simp only[rf];cases dy q r with
  |true=>exact .any _
  |false=>exact .pd _ _ _
 |vk q t=>
  intro _;simp only[rf];cases dy q r with
  |true=>exact .any _
  |false=>exact .vk _ _
 |gs q t xs z b c e cells u hc hm h0 ew hz hr hb ef ho gZ hi hu hq ih=>
  intro hn;simp only[Ra]at hn;simp only[rf];cases he:dy q r with
  |true=>exact .any _
  |false=>exact Cz.eg k hw (.gs q t xs z b c e cells u hc hm h0 ew hz hr hb ef ho gZ hi hu hq) (by simp only[aC,uu];exact one hn he)
 |aX q cs off b o u hr hi hs hu hq ih=>
  intro hn;simp only[Ra]at hn;simp only[rf];cases he:dy q r with
  |true=>exact .any _
  |false=>
   have:=one hn he
   simp only[pA]at this;exact Cz.eg k hw (.aX q cs off b o u hr hi hs hu hq) (by simp only[aC,uu];exact⟨this.1,this.2.1⟩)
 |nG q z xs x hz h ih=>
  intro hn;simp only[Ra]at hn;simp only[rf];cases he:dy q r with
  |true=>exact .any _
  |false=>exact Cz.eg k hw (.nG q z xs x hz h) (by simp only[aC,uu];exact one hn he)
 |ar n z xs ys hn hz hl hi hq ih=>
  intro h;simp only[Ra]at h;exact Cz.eg k hw (.ar n z xs ys hn hz hl hi hq) (by simp only[rf,uu];exact h)
 |fn f cs ys hl hq ih=>
  intro h;simp only[Ra]at h;have h:pA r [cs]:=h
  simp only[pA]at h;exact Cz.eg k hw (.fn f cs ys hl hq) (by simp only[rf,uu];exact h.1)
 |bm f cs ys hl hi hq ih=>
  intro h;simp only[Ra]at h;have h:pA r [cs]:=h
  simp only[pA]at h;exact Cz.eg k hw (.bm f cs ys hl hi hq) (by simp only[rf,uu];exact h.1)
 |agg cs ys hl hq ih=>
  intro h;simp only[Ra]at h;simp only[rf];refine .agg _ ys (by rw[wa];exact hl) fun q a y ha hy=>?_;rw[wc]at ha;cases hc:cs[q]? with
  |none=>rw[hc]at ha;cases ha
  |some a0=>rw[hc]at ha;cases ha;exact ih q a0 y hc hy (A9 h q a0 hc)
 |gY cs ys hl hq ih=>
  intro h;simp only[Ra]at h;simp only[rf];refine .gY _ ys (by rw[wa];exact hl) fun q a y ha hy=>?_;rw[wc]at ha;cases hc:cs[q]? with
  |none=>rw[hc]at ha;cases ha
  |some a0=>rw[hc]at ha;cases ha;exact ih q a0 y hc hy (A9 h q a0 hc)
 |any x=>exact fun _=> .any _
 |v x=>exact fun _=> .v _
 |ptr k' off hl=>exact fun _=>Cz.ptr (E:=E.eg r kp w') k' off hl
 |jB k' n hl hn hc hm=>exact fun _=>Cz.jB (E:=E.eg r kp w') k' n hl hn hc hm
 |dc k' i off z hl=>exact fun _=>Cz.dc (E:=E.eg r kp w') k' i off z hl
 |mp k' hl=>exact fun _=>Cz.mp (E:=E.eg r kp w') k' hl
 |rQ k' hl=>exact fun _=>Cz.rQ (E:=E.eg r kp w') k' hl
theorem Aa{r d:Nat}: ∀{t:List (Nat×AV)},look d (DM r t)=(look d t).map (rf r)
 |[]=>rfl
 |(k,a)::l=>by
  simp only[DM,aG]
  split
  ·rfl
  ·exact Aa
theorem Ac{r d:Nat}: ∀{b:List (Nat×Ob)},look d (IN r b)=(look d b).map (Rq r)
 |[]=>rfl
 |(k,o)::l=>by
  simp only[IN,aG]
  split
  ·rfl
  ·exact Ac
theorem Ku{I:Pr}{r d:Nat}{a:AV}: ∀{t:List (Nat×AV)},nrT I r t→look d t=some a→Ra I r a
 |[],_,h=>by cases h
 |(k,x)::l,h,hd=>by
  simp only[nrT]at h;rw[aG]at hd
  split at hd
  ·cases hd;exact h.1
  ·exact Ku h.2 hd
theorem Rb{I:Pr}{r d:Nat}{o:Ob}: ∀{b:List (Nat×Ob)},nrB I r b→look d b=some o→nrO I r o
 |[],_,h=>by cases h
 |(k,x)::l,h,hd=>by
  simp only[nrB]at h;rw[aG]at hd
  split at hd
  ·cases hd;exact h.1
  ·exact Rb h.2 hd
theorem Dt{r:Nat}(k:lQ E r w w')(hw:Wf E){t:List (Nat×AV)}(hn:nrT ak r t){T:Array Value}(h: ∀d x,look d t=some x→Cz E x (T.getD d undef)): ∀d x,look d (DM r t)=some x→Cz (E.eg r kp w') x (T.getD d undef):=fun d x hd=>by
 rw[Aa]at hd;cases hl:look d t with
 |none=>rw[hl]at hd;cases hd
 |some y=>rw[hl]at hd;cases hd;exact(h d y hl).Xc k hw (Ku hn hl)
theorem mE.eg{r:Nat}(k:lQ E r w w')(hw:Wf E): ∀{ab:List Act} {fs:List Fr},nrU ak r fs→mE E ab fs→mE (E.eg r kp w') ab (Xb r fs)
 |[],[],_,_=>trivial
 |a::ab,f::fs,hn,h=>by
  simp only[nrU]at hn;exact⟨⟨h.1.1,Dt k hw hn.1 h.1.2⟩,mE.eg k hw hn.2 h.2⟩
 |[],_::_,_,h=>h.elim
 |_::_,[],_,h=>h.elim
theorem WQ{r:Nat}(k:lQ E r w w')(hw:Wf E){d:Nat}{o:Ob}(hn:nrO ak r o)(h:cB E (.s d) o):cB (E.eg r kp w') (.s d) (Rq r o):=by
 cases o with
 |box cs=>
  obtain⟨h1,c,e,h2,h3,h4,h5,h6⟩:=h;have bc:E.m (.s d)<E.h.size:=(Array.getElem?_eq_some_iff.1 h2).1
  refine⟨h1,c,e,by show w'.heap[E.m (.s d)]? =_;rw[k.block bc fun o hh=>h4 o hh.1];exact h2,h3,fun o hh=>h4 o hh.1,by rw[wa];exact h5,fun q a x ha hx=>?_⟩;rw[wc]at ha;cases hc:cs[q]? with
  |none=>rw[hc]at ha;cases ha
  |some a0=>rw[hc]at ha;cases ha;exact(h6 q a0 x hc hx).Xc k hw (A9 hn q a0 hc)
 |arr z xs=>
  obtain⟨h1,h2,h3,h4,h5,c,e,h6,h7,h8,h9,B8,KV⟩:=h;have bc:E.m (.s d)<E.h.size:=(Array.getElem?_eq_some_iff.1 h6).1
  exact⟨h1,h2,h3,h4,h5,c,e,by show w'.heap[E.m (.s d)]? =_;rw[k.block bc fun o hh=>h8 o hh.1];exact h6,h7,fun o hh=>h8 o hh.1,h9,B8,fun q a x ha hx=>(KV q a x ha hx).eg k hw (mn hn q a ha)⟩
 |ow p uQ xs=>
  obtain⟨h1,h2,h3,h4,u,h5,h6,h7,h8⟩:=h;have bc:E.m (.s d)<E.h.size:=hw.own _ (by rw[h2];simp)
  have Bv:w'.heap[E.m (.s d)]? =E.h[E.m (.s d)]? :=k.block bc fun o hh=>h3 o hh.1
  refine⟨h1,h2,fun o hh=>h3 o hh.1,h4,u,?_,fun q a ha=>(h6 q a ha).eg k hw (mn hn q a ha),?_,h8⟩
  ·show Hg p _ w'.heap[E.m (.s d)]? xs u;rw[Bv];exact h5
  ·intro q r' ys hq hl;have hnr:=mn hn q _ hq
   simp only[uu]at hnr;rcases h7 q r' ys hq hl with hh|⟨z,b,c,e,cells,g1,g2,g3,g4,g5,g6,g7,g8,g9,g10,g11⟩
   ·exact .inl hh
   ·have dj:E.eo b≠r:=fun e=>hnr.1 (g7.symm.trans e)
    exact .inr ⟨z,b,c,e,cells,g1,g2,g3,g4,g5,g6,g7,by show w'.heap[b]? =_;rw[k.block (Array.getElem?_eq_some_iff.1 g8).1 fun o hh=>dj hh.2];exact g8,g9,g10,fun o=>⟨fun hh=>(g11 o).1 hh.1,fun hh=>⟨(g11 o).2 hh,.inr dj⟩⟩⟩
 |lp n t ps pH body st=>
  obtain⟨h1,h2,h3,rec,h4,h5,h6,h7,h8,h9,B8,KV⟩:=h;have bc:E.m (.s d)<E.h.size:=(Array.getElem?_eq_some_iff.1 h4).1
  exact⟨h1,h2,fun o hh=>h3 o hh.1,rec,by show w'.heap[E.m (.s d)]? =_;rw[k.block bc fun o hh=>h3 o hh.1];exact h4,h5,h6,h7,h8,h9,B8,Dt k hw hn KV⟩
theorem lQ.other{r b:Nat}(k:lQ E r w w'){x:Obj}(h:E.h[b]? =some x)(hx: ∀c e q,x≠ .cells c e q):w'.heap[b]? =some x:=by
 rcases k.cells b (Array.getElem?_eq_some_iff.1 h).1 with h1|⟨c,c',e,h1,_⟩
 ·exact h1.trans h
 ·rw[h]at h1;cases h1;exact absurd rfl (hx _ _ _)
theorem bJ.eg(h:bJ E0 E w0 w s a){r:Nat}(k:lQ E r w w')(hr:1000000≤r)(hD:s.fl=true)(hc:s.c=[])(hg: ∀i,s.g i=none)(ht:nrT ak r s.t)(hb:nrB ak r s.b)(hu:nrU ak r s.up):bJ E0 (E.eg r kp w') w0 w' (aeb r s) a:=by
 have low: ∀b o,b<E0.h.size→ ¬(E.aR b o∧E.eo b=r):=fun b o bc hh=>by
  have h1:=h.ext.bH b bc (h.lo hD b).1
  have h2:=(h.lo hD b).2 o ((h1.2.2.1 o).1 hh.1)
  rw[←h1.2.2.2,hh.2]at h2;omega
 have am7: ∀b o,E0.aR b o→ ¬(E.eo b=r):=fun b o hs he=>by
  have h2:=(h.lo hD b).2 o hs
  have h3:=(h.ext.aR b o hs).2.2
  omega
 refine⟨rfl,⟨fun b o hh=>Nat.lt_of_lt_of_le (h.wf.aR b o hh.1) k.size,fun b hh=>Nat.lt_of_lt_of_le (h.wf.own b hh) k.size,fun b o hh hq=>?_⟩,?_,mE.eg k h.wf hu h.up,h.sz,fun d x hd hp=>?_,fun d q hd=>?_,fun d ob hd=>?_,fun d hl=>?_,fun i ob hi=>?_,h.gl,⟨Nat.le_trans h.ext.size k.size,fun b o hs=>⟨⟨(h.ext.aR b o hs).1,.inr (am7 b o hs)⟩,?_,(h.ext.aR b o hs).2.2⟩,h.ext.live,fun b bc hn=>?_⟩,h.zu,h.same.trans k.same,h.gk,h.nl,h.ng,h.lo⟩
 ·obtain⟨c,e,h1⟩:=h.wf.fz b o hh.1 hq;rcases k.cells b (Array.getElem?_eq_some_iff.1 h1).1 with h2|⟨c1,c',e1,h2,h3,_⟩
  ·exact⟨c,e,h2.trans h1⟩
  ·exact⟨c',e1,h3⟩
 ·obtain⟨Bs,h1,h2,h3⟩:=h.Lv;refine⟨Bs,h1,h2,fun B hB=>?_⟩;obtain⟨g1,g2,g3⟩:=h3 B hB;exact⟨k.other g1 (fun _ _ _ e=>by cases e),g2,g3⟩
 ·have mI:look d (DM r s.t)=some x:=hd
  rw[Aa]at mI;cases hl:look d s.t with
  |none=>rw[hl]at mI;cases mI
  |some y=>
   rw[hl]at mI;cases mI;exact(h.tm d y hl (by rw[eV,hc];exact trivial)).Xc k h.wf (Ku ht hl)
 ·have mI:look d s.c=some q:=hd
  rw[hc]at mI;cases mI
 ·have mI:look d (IN r s.b)=some ob:=hd
  rw[Ac]at mI;cases hl:look d s.b with
  |none=>rw[hl]at mI;cases mI
  |some y=>rw[hl]at mI;cases mI;exact WQ k h.wf (Rb hb hl) (h.bx d y hl)
 ·obtain⟨ob,ho⟩:=h.lv d hl;exact⟨Rq r ob,by show look d (IN r s.b)=_;rw[Ac,ho];rfl⟩
 ·have:s.g i=some ob:=hi
  rw[hg i]at this;cases this
 ·show aW w'.heap b o=_;rw[k.cell (h.wf.aR b o (h.ext.aR b o hs).1) fun hh=>am7 b o hs hh.2];exact(h.ext.aR b o hs).2.1
 ·obtain⟨g1,g2,g3,g4⟩:=h.ext.bH b bc hn;refine⟨g1,?_,fun o=>⟨fun hh=>(g3 o).1 hh.1,fun hh=>⟨(g3 o).2 hh,.inr fun he=>low b o bc ⟨(g3 o).2 hh,he⟩⟩⟩,g4⟩;show w'.heap[b]? =_;rw[k.block (Nat.lt_of_lt_of_le bc h.ext.size) fun o=>low b o bc];exact g2
def NT(P:Program)(f:Nat)(Q:AV→Prop):Prop:=
 ∀(E:Env) (w:World) (r:Nat) (xs:List (List AV)) (x:Value),Q (.agg [.sl r xs])→1000000≤r→w.heap=E.h→Wf E→Cz E (.agg [.sl r xs]) x→
  Calls P f #[x] w fun e w'=>e= .returned (.tuple #[])∧lQ E r w w'
theorem abn{f:Nat}{Q:AV→Prop}(he:pO P f)(hs:NT P f Q):YN P f (Xd Q):=by
 refine⟨he,fun{args s K E0 E w0 w a vs} hH h hl hv=>?_⟩;unfold Xd at hH
 split at hH
 ·rename_i r xs;cases hb:oZ 1000000 r&&s.fl with
  |false=>rw[hb]at hH;exact hH.elim
  |true=>
   rw[hb,az]at hH;simp only[Bool.and_eq_true]at hb;obtain⟨⟨q0,⟨q1,q2⟩,q3,q4,q5⟩,hK⟩:=hH
   match vs,hl with
   |[x],_=>
    refine(hs E w r xs x q0 (Gn hb.1) h.heap h.wf (hv 0 _ x rfl rfl)).mono fun e w' ⟨h1,h2⟩=>?_;exact⟨_,h1,_,_,E.eg r False w',hK,h.eg h2 (Gn hb.1) hb.2 q1 q2 q3 q4 q5,.gY [] [] rfl fun q a y ha=>by simp at ha⟩
 ·exact hH.elim
end Ab
namespace Ab
open Go
variable{P:Program}{L:pN}{E:Env}{w0 w w':World}{r:Nat}
def zk:Value→Value
 | .int k _=> .int k 0
 | .string _=> .string ⟨#[]⟩
 | .bool _=> .bool false
 | .slice _ _ _=> .slice none 0 0
 |v=>v
structure gX(E:Env)(r:Nat)(w0 w:World):Prop where
 same:jQ w0 w
 size:E.h.size≤w.heap.size
 cells: ∀b,b<E.h.size→w.heap[b]? =E.h[b]? ∨ ∃c c' e,E.h[b]? =some (.cells c e (0,0))∧w.heap[b]? =some (.cells c' e (0,0))∧c'.size=c.size∧
  ∀o,c'[o]? =c[o]? ∨(E.aR b o∧E.eo b=r)∧ ∃u,c[o]? =some u∧c'[o]? =some (zk u)
theorem gX.spoilt(h:gX E r w0 w):lQ E r w0 w:=
 ⟨h.same,h.size,fun b hb=>(h.cells b hb).imp id fun⟨c,c',e,h1,h2,h3,h4⟩=>⟨c,c',e,h1,h2,h3,fun o ho=>(h4 o).resolve_right fun hh=>ho hh.1⟩⟩
theorem gX.refl(h:w.heap=E.h):gX E r w w:=⟨.refl _,by rw[h];exact Nat.le_refl _,fun b _=> .inl (by rw[h])⟩
theorem gX.get(h:gX E r w0 w)(hw:Wf E){b o:Nat}{u:Value}(hs:E.aR b o)(hu:aW E.h b o=some u):aW w.heap b o=some u∨aW w.heap b o=some (zk u):=by
 rcases h.cells b (hw.aR b o hs)with h1|⟨c,c',e,h1,h2,h3,h4⟩
 ·left;unfold aW;rw[h1];exact hu
 ·unfold aW at hu ⊢;rw[h1]at hu;rw[h2];rcases h4 o with h5|⟨_,u',h5,h6⟩
  ·exact .inl (h5.trans hu)
  ·right;have hu:c[o]? =some u:=hu
   rw[h5]at hu;cases hu;exact h6
def Lk(E:Env)(w w':World):Prop:=w.heap.size≤w'.heap.size∧ ∀b,E.h.size≤b→b<w.heap.size→w'.heap[b]? =w.heap[b]?
theorem Lk.refl:Lk E w w:=⟨Nat.le_refl _,fun _ _ _=>rfl⟩
theorem Lk.trans{w1 w2 w3:World}(h:Lk E w1 w2)(k:Lk E w2 w3):Lk E w1 w3:=⟨Nat.le_trans h.1 k.1,fun b h1 h2=>(k.2 b h1 (Nat.lt_of_lt_of_le h2 h.1)).trans (h.2 b h1 h2)⟩
theorem Lk.get{b:Nat}{x:Obj}(h:Lk E w w')(hb:E.h.size≤b)(hx:w.heap[b]? =some x):w'.heap[b]? =some x:=by
 rw[h.2 b hb (Array.getElem?_eq_some_iff.1 hx).1];exact hx
theorem gX.alloc(h:gX E r w0 w)(o:Obj):gX E r w0 (w.alloc o):=
 ⟨h.same.trans ⟨rfl,rfl,rfl⟩,by have:=h.size;show _≤(w.heap.push o).size;rw[Array.size_push];omega,fun b hb=>by
  have fP:b<w.heap.size:=Nat.lt_of_lt_of_le hb h.size
  have:(w.alloc o).heap[b]? =w.heap[b]? :=by show(w.heap.push o)[b]? =_;rw[Array.getElem?_push_lt fP,Array.getElem?_eq_getElem fP]
  rw[this];exact h.cells b hb⟩
theorem Lk.alloc(o:Obj):Lk E w (w.alloc o):=
 ⟨by show _≤(w.heap.push o).size;rw[Array.size_push];omega,fun b _ hb=>by show(w.heap.push o)[b]? =_;rw[Array.getElem?_push_lt hb,Array.getElem?_eq_getElem hb]⟩
theorem I8(o:Obj):(w.alloc o).heap[w.heap.size]? =some o:=by show(w.heap.push o)[w.heap.size]? =_;simp
theorem gX.asI(h:gX E r w0 w){b:Nat}{o:Obj}(hb:E.h.size≤b)(hh:w'.heap=w.heap.setIfInBounds b o)(hs:jQ w w'):gX E r w0 w':=
 ⟨h.same.trans hs,by rw[hh];simpa using h.size,fun b' fP=>by rw[hh,Array.getElem?_setIfInBounds_ne (by omega)];exact h.cells b' fP⟩
def qF(E:Env)(r:Nat)(row:List (Value→Prop))(v:Value):Prop:=
 ∃A n c,v= .slice A n c∧n≤maxLen∧(n=0∨ ∃b o,A=some ⟨b,o,none⟩∧E.eo b=r∧ ∀i,i<n→ ∀(q:Nat) (S:Value→Prop),row[q]? =some S→E.aR b (o+(i*row.length+q))∧ ∃u,aW E.h b (o+(i*row.length+q))=some u∧S u)
theorem aaw{row:List (Value→Prop)}{xs:List (List AV)}{v:Value}(h:Cz E (.sl r xs) v)(hl: ∀l∈xs,l.length=row.length)(hr: ∀l∈xs,∀(q:Nat) (a:AV) (S:Value→Prop),l[q]? =some a→row[q]? =some S→ ∀x,Cz E a x→S x):qF E r row v:=by
 cases h with
 |pd=>exact⟨_,_,_,rfl,Nat.zero_le _,.inl rfl⟩
 |sl _ _ z b o c u hp hc hm ew hz hrr hi hs hu hq=>
  refine⟨_,_,_,rfl,Nat.le_trans hc hm,.inr ⟨b,o,rfl,hrr,fun i hi q S hS=>?_⟩⟩;have yZ:xs[i]∈xs:=List.getElem_mem hi
  have B6:z=row.length:=(hz _ yZ).symm.trans (hl _ yZ)
  have hq1:q<row.length:=(bq.1 hS).1
  have hx:xs[i]? =some xs[i]:=eH hi
  have dx:xs[i][q]? =some (xs[i][q]'(by rw[hl _ yZ];exact hq1)):=eH _
  have hf:xs.flatten[i*row.length+q]? =some (xs[i][q]'(by rw[hl _ yZ];exact hq1)):=by
   have e1:i*row.length+q=i*z+q:=by rw[B6]
   rw[e1,eF hz hx q (by omega)];exact dx
  exact⟨hs _ _ hf,_,hu _ _ hf,hr _ yZ q _ S dx hS _ (hq _ _ hf)⟩
theorem qF.nil{row:List (Value→Prop)}:qF E r row (.slice none 0 0):=⟨_,_,_,rfl,Nat.zero_le _,.inl rfl⟩
theorem qF.zk{row:List (Value→Prop)}{v:Value}(h:qF E r row v):zk v= .slice none 0 0:=by
 obtain⟨A,n,c,rfl,_,_⟩:=h;rfl
theorem gX.row(h:gX E r w0 w)(hw:Wf E){row:List (Value→Prop)}{A:Option Addr}{n c:Nat}(hv:qF E r row (.slice A n c))(hz: ∀S∈row,∀u,S u→S (zk u)){i:Nat}(hi:i<n):
  ∃b o,A=some ⟨b,o,none⟩∧ ∃ys:List Value,ys.length=row.length∧(∀(q:Nat) (y:Value),ys[q]? =some y→aW w.heap b (o+i*row.length+q)=some y)∧ ∀(q:Nat) (S:Value→Prop) (y:Value),row[q]? =some S→ys[q]? =some y→S y:=by
 obtain⟨A',n',c',he,_,h1⟩:=hv;cases he;rcases h1 with h1|⟨b,o,rfl,hr,h1⟩
 ·omega
 refine⟨b,o,rfl,?_⟩;have key: ∀q,q<row.length→ ∃y,aW w.heap b (o+i*row.length+q)=some y∧ ∀S,row[q]? =some S→S y:=fun q hq=>by
  obtain⟨h2,u,h3,h4⟩:=h1 i hi q _ (eH hq);rw[Nat.add_assoc];rcases h.get hw h2 h3 with h5|h5
  ·exact⟨_,h5,fun S hS=>by rw[eH hq]at hS;cases hS;exact h4⟩
  ·exact⟨_,h5,fun S hS=>by rw[eH hq]at hS;cases hS;exact hz _ (List.getElem_mem hq) _ h4⟩
 have build: ∀m,m≤row.length→ ∃ys:List Value,ys.length=m∧(∀(q:Nat) (y:Value),ys[q]? =some y→aW w.heap b (o+i*row.length+q)=some y)∧ ∀(q:Nat) (S:Value→Prop) (y:Value),row[q]? =some S→ys[q]? =some y→S y:=by
  intro m
  induction m with
  |zero=>intro _;exact⟨[],rfl,fun q y hh=>by simp at hh,fun q S y _ hh=>by simp at hh⟩
  |succ m ih=>
   intro hm;obtain⟨ys,g1,g2,g3⟩:=ih (by omega);obtain⟨y,g4,g5⟩:=key m (by omega);refine⟨ys++[y],by simp[g1],fun q y' hq=>?_,fun q S y' hS hq=>?_⟩
   ·by_cases bc:q<m
    ·rw[gg (by omega)]at hq;exact g2 q y' hq
    ·have:q=m:=by have:=(bq.1 hq).1;simp at this;omega
     subst this;rw[iY (by omega)]at hq;simp[g1]at hq;subst hq;exact g4
   ·by_cases bc:q<m
    ·rw[gg (by omega)]at hq;exact g3 q S y' hS hq
    ·have:q=m:=by have:=(bq.1 hq).1;simp at this;omega
     subst this;rw[iY (by omega)]at hq;simp[g1]at hq;subst hq;exact g5 S hS
 exact build row.length (Nat.le_refl _)
theorem zi{zs:List Value}{n q:Nat}(hq:q<n*zs.length):(Builtin.zeroCells zs.toArray n).toList[q]? =zs[q % zs.length]? :=by
 have hz:0<zs.length:=by
  rcases Nat.eq_zero_or_pos zs.length with h|h
  ·rw[h]at hq;simp at hq
  ·exact h
 have hm:=Nat.mod_lt q hz
 simp[Builtin.zeroCells,hq,hm]
theorem pP{zs:List Value}{n:Nat}:(Builtin.zeroCells zs.toArray n).toList.length=n*zs.length:=by simp[Builtin.zeroCells]
theorem gX.clear(hL:bG P L)(h:gX E r w0 w)(hw:Wf E)(hr:1000000≤r){row:List (Value→Prop)}{v:Value}(hv:qF E r row v){t e ty:Nat}{ti te:TI}(ht:L t=some ti)(hk:ti.k= .slice e)(he:L e=some te)
  (h0:0<row.length)(hl:te.zero.length=row.length)(hz: ∀(q:Nat) (S:Value→Prop) (z u:Value),row[q]? =some S→te.zero[q]? =some z→S u→zk u=z):
  ∃w',(Builtin.clear_ #[t] ty #[v]).run P w= .ok (.tuple #[]) w'∧gX E r w0 w'∧Lk E w w':=by
 obtain⟨i1,d1,z1,a1,a2,a3,a4,a5,a6,a7⟩:=(hL.ok t ti ht).ex;obtain⟨i2,d2,z2,b1,b2,b3,b4,b5,b6,b7⟩:=(hL.ok e te he).ex;rw[hk]at a7;dsimp only at a7;subst a7;have hzv: ∀w,(zeroValue e).run P w= .ok z2 w:=fun w=>by simp[zeroValue,typeInfo,go_sem,b1,b4]
 obtain⟨A,n,c,rfl,_,h1⟩:=hv;have amU:(n=0∨A=none)→(Builtin.clear_ #[t] ty #[.slice A n c]).run P w= .ok (.tuple #[]) w:=by
  rintro(rfl|rfl)
  ·cases A<;>simp[Builtin.clear_,fa a6]
  ·simp[Builtin.clear_,fa a6]
 cases n with
 |zero=>exact⟨w,amU (.inl rfl),h,.refl⟩
 |succ n=>
  rcases h1 with h1|⟨b,o,rfl,Xo,h1⟩
  ·cases h1
  have Xw:0<(n+1)*row.length:=Nat.mul_pos (by omega) (by omega)
  have cell: ∀q,q<(n+1)*row.length→E.aR b (o+q)∧ ∃u z,aW E.h b (o+q)=some u∧te.zero[q % row.length]? =some z∧zk u=z:=fun q hq=>by
   have hm:=Nat.mod_lt q (show 0<row.length by omega)
   have hd:q / row.length<n+1:=(Nat.div_lt_iff_lt_mul (by omega)).2 hq
   obtain⟨g1,u,g2,g3⟩:=h1 (q / row.length) hd (q % row.length) _ (eH hm);rw[Nat.div_add_mod' q row.length]at g1 g2;have zx:te.zero[q % row.length]? =some (te.zero[q % row.length]'(by omega)):=eH _
   exact⟨g1,u,_,g2,zx,hz _ _ _ u (eH hm) zx g3⟩
  have IU:b<E.h.size:=hw.aR _ _ (cell 0 Xw).1
  obtain⟨c0,e0,hc0⟩:=hw.fz b _ (cell 0 Xw).1 (by omega);obtain⟨c1,hc1,ef,Lt⟩: ∃c1,w.heap[b]? =some (.cells c1 e0 (0,0))∧c1.size=c0.size∧ ∀o,c1[o]? =c0[o]? ∨(E.aR b o∧E.eo b=r)∧ ∃u,c0[o]? =some u∧c1[o]? =some (zk u):=by
   rcases h.cells b IU with h2|⟨c,c',e,h2,h3,h4,h5⟩
   ·exact⟨c0,h2.trans hc0,rfl,fun o=> .inl rfl⟩
   ·rw[hc0]at h2;cases h2;exact⟨c',h3,h4,h5⟩
  have uw: ∀q,q<(n+1)*row.length→o+q<c0.size:=fun q hq=>by
   obtain⟨_,u,_,g2,_⟩:=cell q hq;unfold aW at g2;rw[hc0]at g2;exact(Array.getElem?_eq_some_iff.1 g2).1
  have Xz:=uw ((n+1)*row.length - 1) (by omega)
  have hvs:z2.cells=te.zero.toArray:=by rw[←b5]
  obtain⟨w',g1,g2,g3⟩:=iw P b o e0 (Builtin.zeroCells te.zero.toArray (n+1)).toList 0 w c1 hc1 (by rw[pP,hl,ef];omega) (fun v hv=>by
   obtain⟨q,hq⟩:=List.getElem?_of_mem hv;have xd:=(bq.1 hq).1
   rw[pP]at xd;rw[zi xd]at hq;exact(hL.ok e te he).aqC v (fU hq))
  obtain⟨f1,f2⟩:=rN o (Builtin.zeroCells te.zero.toArray (n+1)).toList 0 c1 (by rw[pP,hl,ef];omega);generalize hF:((Builtin.zeroCells te.zero.toArray (n+1)).toList.zipIdx.foldl (fun cs (x,j)=>cs.setIfInBounds (o+j) x) c1)=F at g2 f1 f2;have N8:b<w.heap.size:=Nat.lt_of_lt_of_le IU h.size
  have anN:w'.heap.size=w.heap.size:=by rw[g2];simp
  refine⟨w',?_,⟨h.same.trans g3,by rw[anN];exact h.size,fun b' fP=>?_⟩,by rw[anN];exact Nat.le_refl _,fun b' fP _=>by rw[g2,Array.getElem?_setIfInBounds_ne (by omega)]⟩
  ·simp[Builtin.clear_,fa a6,hzv,hvs,g1]
  ·by_cases wm:b'=b
   ·subst wm;right;refine⟨c0,F,e0,hc0,by rw[g2];simp[N8],by rw[f1,ef],fun o'=>?_⟩;rw[f2 o',pP,hl];by_cases lf:o+0≤o'∧o'<o+0+(n+1)*row.length
    ·rw[if_pos lf];right;obtain⟨q,rfl⟩: ∃q,o'=o+q:=⟨o' - o,by omega⟩;have hq:q<(n+1)*row.length:=by omega
     obtain⟨k1,u,z,k2,k3,k4⟩:=cell q hq;refine⟨⟨k1,Xo⟩,u,?_,?_⟩
     ·unfold aW at k2;rw[hc0]at k2;exact k2
     ·rw[show o+q - (o+0)=q by omega,zi (by rw[hl];exact hq),hl,k3,k4]
    ·rw[if_neg lf];exact Lt o'
   ·rw[g2,Array.getElem?_setIfInBounds_ne (Ne.symm wm)];exact h.cells b' fP
end Ab
namespace Ab
open Go
def eqZ:Value→Value→Bool
 | .int .i64 0,.int .i64 0=>true
 | .int .u8 0,.int .u8 0=>true
 | .int .i32 0,.int .i32 0=>true
 | .int .u32 0,.int .u32 0=>true
 | .int .u64 0,.int .u64 0=>true
 | .bool false,.bool false=>true
 | .string ⟨⟨[]⟩⟩,.string ⟨⟨[]⟩⟩=>true
 | .slice none 0 0,.slice none 0 0=>true
 | .pointer none,.pointer none=>true
 | .map none,.map none=>true
 | .nilFunc,.nilFunc=>true
 | .nilIface,.nilIface=>true
 |_,_=>false
theorem ajq{a b:Value}(h:eqZ a b=true):a=b:=by
 unfold eqZ at h
 split at h<;>first|rfl|cases h
def ab5:List Value→List Value→Bool
 |[],[]=>true
 |a::r,b::q=>eqZ a b&&ab5 r q
 |_,_=>false
theorem RL: ∀{a b:List Value},ab5 a b=true→a=b
 |[],[],_=>rfl
 |x::r,y::q,h=>by
  simp only[ab5,Bool.and_eq_true]at h;rw[ajq h.1,RL h.2]
 |[],_::_,h=>by cases h
 |_::_,[],h=>by cases h
def RF(P:Program):List Field→List (Nat×Nat)→Bool
 |[],[]=>true
 |f::r,(o,z)::q=>dy f.offset o&&(match P.info? f.type with
  |some i=>dy i.size z
  |none=>false)&&RF P r q
 |_,_=>false
theorem Nu{P:Program}: ∀{F:List Field} {fs:List (Nat×Nat)},RF P F fs=true→F.length=fs.length∧ ∀(j o z:Nat),fs[j]? =some (o,z)→ ∃f i',F[j]? =some f∧f.offset=o∧P.info? f.type=some i'∧i'.size=z
 |[],[],_=>⟨rfl,fun j o z h=>by simp at h⟩
 |f::r,(o,z)::q,h=>by
  simp only[RF,Bool.and_eq_true]at h;obtain⟨⟨h1,h2⟩,h3⟩:=h;obtain⟨h4,h5⟩:=Nu h3;refine⟨by simp[h4],fun j o' z' hj=>?_⟩;cases j with
  |zero=>
   simp at hj;cases hi:P.info? f.type with
   |none=>rw[hi]at h2;cases h2
   |some i=>rw[hi]at h2;exact⟨f,i,rfl,(dK h1).trans hj.1,hi,(dK h2).trans hj.2⟩
  |succ j=>exact h5 j o' z' (by simpa using hj)
 |[],_::_,h=>by cases h
 |_::_,[],h=>by cases h
def aea(P:Program):TK→TypeDesc→Bool
 | .slice e,.slice e'=>dy e' e
 | .dB fs,.struct F=>RF P F.toList fs
 | .arr n e,.array n' e'=>dy n' n&&dy e' e
 | .map k e,.map k' e'=>dy k' k&&dy e' e
 | .int k,.int k'=>k'==k
 | .bool,.bool=>true
 | .str,.string=>true
 | .sc,d=>match d with
  | .struct _=>false
  | .array _ _=>false
  |_=>true
 |_,_=>false
def Q9:List Value→Bool
 |[]=>true
 |a::r=>tT a&&Q9 r
def ftB:List Field→List Nat→Bool
 |_,[]=>true
 |f::r,t::q=>dy f.type t&&ftB r q
 |[],_::_=>false
theorem XP: ∀{F:List Field} {l:List Nat},ftB F l=true→ ∀(j t:Nat),l[j]? =some t→ ∃f,F[j]? =some f∧f.type=t
 |_,[],_,j,t,h=>by simp at h
 |f::r,t::q,h,j,t',hj=>by
  simp only[ftB,Bool.and_eq_true]at h;cases j with
  |zero=>simp at hj;exact⟨f,rfl,(dK h.1).trans hj⟩
  |succ j=>exact XP h.2 j t' (by simpa using hj)
 |[],_::_,h,_,_,_=>by cases h
def auP:TypeDesc→List Nat→Bool
 | .struct F,l=>ftB F.toList l
 |_,[]=>true
 |_,_=>false
def tiB(P:Program)(t:Nat)(ti:TI):Bool:=
 match P.info? t with
 |none=>false
 |some i=>match P.underlying t with
  |none=>false
  |some d=>match i.zero with
   |none=>false
   |some z=>dy i.size ti.size&&dy i.bytes ti.bytes&&ab5 z.cells.toList ti.zero&&aea P ti.k d&&dy ti.zero.length ti.size&&Q9 ti.zero&&(ti.agg||tT z)&&auP d ti.ft
theorem MG: ∀{l:List Value},Q9 l=true→ ∀x∈l,tT x=true
 |[],_,x,hx=>by cases hx
 |a::r,h,x,hx=>by
  simp only[Q9,Bool.and_eq_true]at h;rcases List.mem_cons.1 hx with rfl|hx
  ·exact h.1
  ·exact MG h.2 x hx
theorem agi{P:Program}{t:Nat}{ti:TI}(h:tiB P t ti=true):akP P t ti:=by
 unfold tiB at h;cases hi:P.info? t with
 |none=>rw[hi]at h;cases h
 |some i=>
  rw[hi]at h;dsimp only at h;cases hd:P.underlying t with
  |none=>rw[hd]at h;cases h
  |some d=>
   rw[hd]at h;dsimp only at h;cases hz:i.zero with
   |none=>rw[hz]at h;cases h
   |some z=>
    rw[hz]at h;simp only[Bool.and_eq_true]at h;obtain⟨⟨⟨⟨⟨⟨⟨h1,h2⟩,h3⟩,h4⟩,h5⟩,h6⟩,h7'⟩,hft⟩:=h;refine⟨⟨i,d,z,hi,dK h1,dK h2,hz,RL h3,hd,?_⟩,dK h5,MG h6,(fun vh i' z' e1 e2=>by
     rw[hi]at e1;cases e1;rw[hz]at e2;cases e2;rw[vh]at h7';simpa using h7'),fun F hF j t' hj=>by
     rw[hd]at hF;cases hF;obtain⟨f,g1,g2⟩:=XP hft j t' hj;exact⟨f,by rw[←Array.getElem?_toList];exact g1,g2⟩⟩
    unfold aea at h4
    split at h4
    ·rename_i hk;rw[hk];rw[dK h4]
    ·rename_i fs F hk;rw[hk];obtain⟨h7,h8⟩:=Nu h4;refine⟨F,rfl,by simpa using h7,fun j o z hj=>?_⟩;obtain⟨f,i',g1,g2,g3,g4⟩:=h8 j o z hj;exact⟨f,i',by rw[←Array.getElem?_toList];exact g1,g2,g3,g4⟩
    ·rename_i hk;simp only[Bool.and_eq_true]at h4;rw[hk,dK h4.1,dK h4.2]
    ·rename_i hk;simp only[Bool.and_eq_true]at h4;rw[hk,dK h4.1,dK h4.2]
    ·rename_i k k' hk;rw[hk];have:k'=k:=by simpa using h4
     rw[this]
    ·rename_i hk;rw[hk]
    ·rename_i hk;rw[hk]
    ·rename_i hk;rw[hk]
     split at h4
     ·cases h4
     ·cases h4
     ·rename_i _ hns hna;dsimp only
      split
      ·exact hns _ rfl
      ·exact hna _ _ rfl
      ·trivial
    ·cases h4
inductive BT where
 |leaf
 |node (l:BT) (k:Nat) (v:TI) (r:BT)
def BT.get:BT→Nat→Option TI
 | .leaf,_=>none
 | .node l k v r,t=>bif dy t k then some v else bif tZ t k then l.get t else r.get t
def btB(P:Program):BT→Bool
 | .leaf=>true
 | .node l k v r=>tiB P k v&&btB P l&&btB P r
theorem BT.ok{P:Program}: ∀{T:BT},btB P T=true→ ∀t ti,T.get t=some ti→akP P t ti
 | .leaf,_,t,ti,h=>by cases h
 | .node l k v r,hb,t,ti,h=>by
  simp only[btB,Bool.and_eq_true]at hb;simp only[BT.get]at h;cases h1:dy t k with
  |true=>rw[h1,az]at h;cases h;rw[dK h1];exact agi hb.1.1
  |false=>
   rw[h1,aC]at h;cases h2:tZ t k with
   |true=>rw[h2,az]at h;exact BT.ok hb.1.2 t ti h
   |false=>rw[h2,aC]at h;exact BT.ok hb.2 t ti h
def tab:BT:=
 (.node (.node (.node (.node (.node (.node (.node (.node .leaf 1 ⟨.sc,1,8,[.nilFunc],[]⟩ .leaf) 2 ⟨.int .i64,1,8,[.int .i64 0],[]⟩ .leaf) 3 ⟨.int .i64,1,8,[.int .i64 0],[]⟩ (.node (.node .leaf 4 ⟨.bool,1,1,[.bool false],[]⟩ .leaf) 5 ⟨.int .u8,1,1,[.int .u8 0],[]⟩ .leaf)) 6 ⟨.int .u8,1,1,[.int .u8 0],[]⟩ (.node (.node (.node .leaf 7 ⟨.dB [(0,1),(1,1),(2,1),(3,1)],4,24,[.int .i64 0,.int .i64 0,.bool false,.int .u8 0],[2,3,4,6]⟩ .leaf) 8 ⟨.dB [(0,1),(1,1),(2,1),(3,1)],4,24,[.int .i64 0,.int .i64 0,.bool false,.int .u8 0],[2,3,4,6]⟩ .leaf) 9 ⟨.str,1,16,[.string ⟨#[]⟩],[]⟩ (.node (.node .leaf 10 ⟨.str,1,16,[.string ⟨#[]⟩],[]⟩ .leaf) 11 ⟨.str,1,16,[.string ⟨#[]⟩],[]⟩ .leaf))) 12 ⟨.int .u64,1,8,[.int .u64 0],[]⟩ (.node (.node (.node (.node .leaf 13 ⟨.dB [(0,1),(1,1)],2,24,[.string ⟨#[]⟩,.int .u64 0],[9,12]⟩ .leaf) 14 ⟨.dB [(0,1),(1,1)],2,24,[.string ⟨#[]⟩,.int .u64 0],[9,12]⟩ .leaf) 15 ⟨.sc,1,8,[.pointer none],[]⟩ (.node (.node .leaf 16 ⟨.sc,1,8,[.pointer none],[]⟩ .leaf) 17 ⟨.sc,1,8,[.pointer none],[]⟩ .leaf)) 18 ⟨.dB [(0,1)],1,8,[.pointer none],[17]⟩ (.node (.node (.node .leaf 19 ⟨.dB [(0,1)],1,8,[.pointer none],[17]⟩ .leaf) 20 ⟨.sc,1,16,[.nilIface],[]⟩ .leaf) 21 ⟨.int .i32,1,4,[.int .i32 0],[]⟩ (.node .leaf 22 ⟨.slice 57,1,24,[gQ],[]⟩ .leaf)))) 23 ⟨.dB [(0,1)],1,24,[gQ],[22]⟩ (.node (.node (.node (.node (.node .leaf 24 ⟨.dB [(0,1)],1,24,[gQ],[22]⟩ .leaf) 25 ⟨.sc,1,8,[.nilFunc],[]⟩ .leaf) 26 ⟨.sc,1,8,[.nilFunc],[]⟩ (.node (.node .leaf 27 ⟨.sc,1,8,[.nilFunc],[]⟩ .leaf) 28 ⟨.sc,1,8,[.nilFunc],[]⟩ .leaf)) 29 ⟨.slice 28,1,24,[gQ],[]⟩ (.node (.node (.node .leaf 30 ⟨.slice 3,1,24,[gQ],[]⟩ .leaf) 31 ⟨.sc,1,8,[.nilFunc],[]⟩ .leaf) 32 ⟨.int .i64,1,8,[.int .i64 0],[]⟩ (.node (.node .leaf 33 ⟨.sc,1,8,[.nilFunc],[]⟩ .leaf) 34 ⟨.slice 4,1,24,[gQ],[]⟩ .leaf))) 35 ⟨.sc,1,8,[.nilFunc],[]⟩ (.node (.node (.node (.node .leaf 37 ⟨.sc,1,8,[.nilFunc],[]⟩ .leaf) 38 ⟨.sc,1,8,[.nilFunc],[]⟩ .leaf) 39 ⟨.sc,1,8,[.nilFunc],[]⟩ (.node (.node .leaf 41 ⟨.sc,1,8,[.nilFunc],[]⟩ .leaf) 43 ⟨.sc,1,8,[.nilFunc],[]⟩ .leaf)) 45 ⟨.sc,1,8,[.nilFunc],[]⟩ (.node (.node (.node .leaf 46 ⟨.sc,1,8,[.nilFunc],[]⟩ .leaf) 47 ⟨.sc,1,8,[.nilFunc],[]⟩ .leaf) 49 ⟨.sc,1,8,[.nilFunc],[]⟩ (.node .leaf 51 ⟨.sc,1,8,[.nilFunc],[]⟩ .leaf))))) 52 ⟨.sc,1,8,[.nilFunc],[]⟩ (.node (.node (.node (.node (.node (.node .leaf 53 ⟨.sc,1,8,[.nilFunc],[]⟩ .leaf) 54 ⟨.sc,1,8,[.nilFunc],[]⟩ .leaf) 55 ⟨.slice 61,1,24,[gQ],[]⟩ (.node (.node .leaf 56 ⟨.dB [(0,1),(1,1),(2,1)],3,48,[.string ⟨#[]⟩,.int .i64 0,gQ],[9,3,55]⟩ .leaf) 57 ⟨.dB [(0,1),(1,1),(2,1)],3,48,[.string ⟨#[]⟩,.int .i64 0,gQ],[9,3,55]⟩ .leaf)) 58 ⟨.sc,1,8,[.nilFunc],[]⟩ (.node (.node (.node .leaf 59 ⟨.slice 64,1,24,[gQ],[]⟩ .leaf) 60 ⟨.dB [(0,1),(1,1),(2,1),(3,1)],4,56,[.string ⟨#[]⟩,.int .i64 0,gQ,.int .i64 0],[9,3,59,3]⟩ .leaf) 61 ⟨.dB [(0,1),(1,1),(2,1),(3,1)],4,56,[.string ⟨#[]⟩,.int .i64 0,gQ,.int .i64 0],[9,3,59,3]⟩ (.node (.node .leaf 62 ⟨.sc,1,8,[.nilFunc],[]⟩ .leaf) 63 ⟨.dB [(0,1),(1,1),(2,1),(3,1)],4,56,[.int .i64 0,.string ⟨#[]⟩,.int .i64 0,gQ],[3,9,3,30]⟩ .leaf))) 64 ⟨.dB [(0,1),(1,1),(2,1),(3,1)],4,56,[.int .i64 0,.string ⟨#[]⟩,.int .i64 0,gQ],[3,9,3,30]⟩ (.node (.node (.node (.node .leaf 65 ⟨.sc,1,8,[.nilFunc],[]⟩ .leaf) 66 ⟨.sc,1,8,[.nilFunc],[]⟩ .leaf) 67 ⟨.sc,1,8,[.nilFunc],[]⟩ (.node (.node .leaf 68 ⟨.sc,1,8,[.nilFunc],[]⟩ .leaf) 69 ⟨.sc,1,8,[.nilFunc],[]⟩ .leaf)) 70 ⟨.sc,1,8,[.nilFunc],[]⟩ (.node (.node (.node .leaf 71 ⟨.sc,1,8,[.nilFunc],[]⟩ .leaf) 72 ⟨.sc,1,8,[.nilFunc],[]⟩ .leaf) 73 ⟨.sc,1,8,[.nilFunc],[]⟩ (.node .leaf 74 ⟨.sc,1,8,[.nilFunc],[]⟩ .leaf)))) 75 ⟨.arr 2 3,2,16,[.int .i64 0,.int .i64 0],[]⟩ (.node (.node (.node (.node (.node .leaf 76 ⟨.sc,1,8,[.pointer none],[]⟩ .leaf) 77 ⟨.sc,1,8,[.nilFunc],[]⟩ .leaf) 78 ⟨.sc,1,8,[.nilFunc],[]⟩ (.node (.node .leaf 79 ⟨.dB [(0,4),(4,1),(5,1)],6,88,[.string ⟨#[]⟩,.int .i64 0,gQ,.int .i64 0,gQ,.nilFunc],[61,30,78]⟩ .leaf) 80 ⟨.dB [(0,4),(4,1),(5,1)],6,88,[.string ⟨#[]⟩,.int .i64 0,gQ,.int .i64 0,gQ,.nilFunc],[61,30,78]⟩ .leaf)) 81 ⟨.sc,1,8,[.nilFunc],[]⟩ (.node (.node (.node .leaf 82 ⟨.sc,1,8,[.nilFunc],[]⟩ .leaf) 83 ⟨.sc,1,8,[.nilFunc],[]⟩ .leaf) 84 ⟨.sc,1,8,[.nilFunc],[]⟩ (.node .leaf 85 ⟨.map 87 30,1,8,[.map none],[]⟩ .leaf))) 86 ⟨.dB [(0,1),(1,1),(2,1)],3,32,[.int .i64 0,.string ⟨#[]⟩,.int .i64 0],[3,9,3]⟩ (.node (.node (.node (.node .leaf 87 ⟨.dB [(0,1),(1,1),(2,1)],3,32,[.int .i64 0,.string ⟨#[]⟩,.int .i64 0],[3,9,3]⟩ .leaf) 88 ⟨.sc,1,8,[.nilFunc],[]⟩ .leaf) 89 ⟨.sc,1,8,[.nilFunc],[]⟩ (.node (.node .leaf 90 ⟨.sc,1,8,[.nilFunc],[]⟩ .leaf) 91 ⟨.sc,1,8,[.nilFunc],[]⟩ .leaf)) 92 ⟨.sc,1,8,[.nilFunc],[]⟩ (.node (.node (.node .leaf 93 ⟨.sc,1,8,[.nilFunc],[]⟩ .leaf) 94 ⟨.sc,1,8,[.nilFunc],[]⟩ .leaf) 95 ⟨.sc,1,8,[.nilFunc],[]⟩ (.node .leaf 96 ⟨.sc,1,8,[.nilFunc],[]⟩ .leaf)))))) 97 ⟨.sc,1,8,[.nilFunc],[]⟩ (.node (.node (.node (.node (.node (.node (.node .leaf 98 ⟨.slice 31,1,24,[gQ],[]⟩ .leaf) 99 ⟨.dB [(0,1)],1,8,[.nilFunc],[28]⟩ .leaf) 100 ⟨.dB [(0,1)],1,8,[.nilFunc],[28]⟩ (.node (.node .leaf 101 ⟨.slice 100,1,24,[gQ],[]⟩ .leaf) 103 ⟨.sc,1,8,[.nilFunc],[]⟩ .leaf)) 104 ⟨.sc,1,8,[.nilFunc],[]⟩ (.node (.node (.node .leaf 105 ⟨.sc,1,8,[.nilFunc],[]⟩ .leaf) 106 ⟨.slice 34,1,24,[gQ],[]⟩ .leaf) 107 ⟨.sc,1,8,[.nilFunc],[]⟩ (.node (.node .leaf 108 ⟨.sc,1,8,[.nilFunc],[]⟩ .leaf) 109 ⟨.arr 12 3,12,96,[.int .i64 0,.int .i64 0,.int .i64 0,.int .i64 0,.int .i64 0,.int .i64 0,.int .i64 0,.int .i64 0,.int .i64 0,.int .i64 0,.int .i64 0,.int .i64 0],[]⟩ .leaf))) 110 ⟨.arr 12 3,12,96,[.int .i64 0,.int .i64 0,.int .i64 0,.int .i64 0,.int .i64 0,.int .i64 0,.int .i64 0,.int .i64 0,.int .i64 0,.int .i64 0,.int .i64 0,.int .i64 0],[]⟩ (.node (.node (.node (.node .leaf 111 ⟨.sc,1,8,[.nilFunc],[]⟩ .leaf) 112 ⟨.sc,1,8,[.nilFunc],[]⟩ .leaf) 113 ⟨.sc,1,8,[.nilFunc],[]⟩ (.node (.node .leaf 114 ⟨.sc,1,8,[.nilFunc],[]⟩ .leaf) 115 ⟨.sc,1,8,[.nilFunc],[]⟩ .leaf)) 116 ⟨.sc,1,8,[.nilFunc],[]⟩ (.node (.node (.node .leaf 117 ⟨.sc,1,8,[.nilFunc],[]⟩ .leaf) 118 ⟨.sc,1,8,[.nilFunc],[]⟩ .leaf) 119 ⟨.sc,1,8,[.nilFunc],[]⟩ (.node .leaf 120 ⟨.sc,1,8,[.nilFunc],[]⟩ .leaf)))) 121 ⟨.sc,1,8,[.nilFunc],[]⟩ (.node (.node (.node (.node (.node .leaf 122 ⟨.arr 6 3,6,48,[.int .i64 0,.int .i64 0,.int .i64 0,.int .i64 0,.int .i64 0,.int .i64 0],[]⟩ .leaf) 123 ⟨.sc,1,8,[.nilFunc],[]⟩ .leaf) 124 ⟨.sc,1,8,[.nilFunc],[]⟩ (.node (.node .leaf 125 ⟨.sc,1,8,[.nilFunc],[]⟩ .leaf) 126 ⟨.sc,1,8,[.nilFunc],[]⟩ .leaf)) 127 ⟨.sc,1,8,[.nilFunc],[]⟩ (.node (.node (.node .leaf 128 ⟨.sc,1,8,[.nilFunc],[]⟩ .leaf) 129 ⟨.sc,1,8,[.pointer none],[]⟩ .leaf) 131 ⟨.sc,1,8,[.nilFunc],[]⟩ (.node .leaf 132 ⟨.sc,1,8,[.nilFunc],[]⟩ .leaf))) 133 ⟨.sc,1,8,[.nilFunc],[]⟩ (.node (.node (.node (.node .leaf 134 ⟨.sc,1,8,[.nilFunc],[]⟩ .leaf) 135 ⟨.sc,1,8,[.nilFunc],[]⟩ .leaf) 136 ⟨.sc,1,8,[.nilFunc],[]⟩ (.node (.node .leaf 137 ⟨.sc,1,8,[.nilFunc],[]⟩ .leaf) 139 ⟨.sc,1,8,[.nilFunc],[]⟩ .leaf)) 140 ⟨.arr 5 3,5,40,[.int .i64 0,.int .i64 0,.int .i64 0,.int .i64 0,.int .i64 0],[]⟩ (.node (.node (.node .leaf 141 ⟨.sc,1,8,[.nilFunc],[]⟩ .leaf) 143 ⟨.sc,1,8,[.nilFunc],[]⟩ .leaf) 144 ⟨.sc,1,8,[.nilFunc],[]⟩ (.node .leaf 145 ⟨.sc,1,8,[.nilFunc],[]⟩ .leaf))))) 146 ⟨.sc,1,8,[.nilFunc],[]⟩ (.node (.node (.node (.node (.node (.node .leaf 147 ⟨.sc,1,8,[.nilFunc],[]⟩ .leaf) 148 ⟨.sc,1,8,[.nilFunc],[]⟩ .leaf) 149 ⟨.sc,1,8,[.nilFunc],[]⟩ (.node (.node .leaf 150 ⟨.sc,1,8,[.nilFunc],[]⟩ .leaf) 151 ⟨.map 3 3,1,8,[.map none],[]⟩ .leaf)) 152 ⟨.sc,1,8,[.nilFunc],[]⟩ (.node (.node (.node .leaf 153 ⟨.sc,1,8,[.nilFunc],[]⟩ .leaf) 154 ⟨.sc,1,8,[.nilFunc],[]⟩ .leaf) 155 ⟨.sc,1,8,[.nilFunc],[]⟩ (.node (.node .leaf 156 ⟨.sc,1,8,[.nilFunc],[]⟩ .leaf) 157 ⟨.sc,1,8,[.nilFunc],[]⟩ .leaf))) 158 ⟨.arr 256 4,256,256,(List.replicate 256 [.bool false]).flatten,[]⟩ (.node (.node (.node (.node .leaf 159 ⟨.arr 256 4,256,256,(List.replicate 256 [.bool false]).flatten,[]⟩ .leaf) 161 ⟨.sc,1,8,[.nilFunc],[]⟩ .leaf) 162 ⟨.sc,1,8,[.nilFunc],[]⟩ (.node (.node .leaf 163 ⟨.sc,1,8,[.pointer none],[]⟩ .leaf) 164 ⟨.sc,1,8,[.nilFunc],[]⟩ .leaf)) 166 ⟨.sc,1,8,[.nilFunc],[]⟩ (.node (.node (.node .leaf 167 ⟨.sc,1,8,[.nilFunc],[]⟩ .leaf) 168 ⟨.sc,1,8,[.nilFunc],[]⟩ .leaf) 169 ⟨.arr 256 5,256,256,(List.replicate 256 [.int .u8 0]).flatten,[]⟩ (.node .leaf 170 ⟨.int .u64,1,8,[.int .u64 0],[]⟩ .leaf)))) 171 ⟨.dB [(0,1),(1,1)],2,2,[.int .u8 0,.int .u8 0],[5,5]⟩ (.node (.node (.node (.node (.node .leaf 172 ⟨.dB [(0,1),(1,1)],2,2,[.int .u8 0,.int .u8 0],[5,5]⟩ .leaf) 173 ⟨.arr 16 172,32,32,[.int .u8 0,.int .u8 0,.int .u8 0,.int .u8 0,.int .u8 0,.int .u8 0,.int .u8 0,.int .u8 0,.int .u8 0,.int .u8 0,.int .u8 0,.int .u8 0,.int .u8 0,.int .u8 0,.int .u8 0,.int .u8 0,.int .u8 0,.int .u8 0,.int .u8 0,.int .u8 0,.int .u8 0,.int .u8 0,.int .u8 0,.int .u8 0,.int .u8 0,.int .u8 0,.int .u8 0,.int .u8 0,.int .u8 0,.int .u8 0,.int .u8 0,.int .u8 0],[]⟩ .leaf) 174 ⟨.sc,1,8,[.nilFunc],[]⟩ (.node (.node .leaf 175 ⟨.sc,1,8,[.nilFunc],[]⟩ .leaf) 176 ⟨.sc,1,8,[.nilFunc],[]⟩ .leaf)) 177 ⟨.sc,1,8,[.nilFunc],[]⟩ (.node (.node (.node .leaf 178 ⟨.sc,1,8,[.nilFunc],[]⟩ .leaf) 179 ⟨.dB [(0,1),(1,1),(2,1),(3,1)],4,40,[.pointer none,.pointer none,.pointer none,.string ⟨#[]⟩],[17,17,17,9]⟩ .leaf) 180 ⟨.dB [(0,1),(1,1),(2,1),(3,1)],4,40,[.pointer none,.pointer none,.pointer none,.string ⟨#[]⟩],[17,17,17,9]⟩ (.node .leaf 181 ⟨.arr 0 16,0,0,[],[]⟩ .leaf))) 182 ⟨.dB [(0,0)],0,0,[],[181]⟩ (.node (.node (.node (.node .leaf 183 ⟨.dB [(0,0)],0,0,[],[181]⟩ .leaf) 184 ⟨.sc,1,8,[.nilFunc],[]⟩ .leaf) 186 ⟨.int .u8,1,1,[.int .u8 0],[]⟩ (.node (.node .leaf 187 ⟨.int .u8,1,1,[.int .u8 0],[]⟩ .leaf) 188 ⟨.sc,1,8,[.nilFunc],[]⟩ .leaf)) 189 ⟨.sc,1,8,[.pointer none],[]⟩ (.node (.node (.node .leaf 190 ⟨.int .i32,1,4,[.int .i32 0],[]⟩ .leaf) 191 ⟨.int .i32,1,4,[.int .i32 0],[]⟩ .leaf) 192 ⟨.dB [(0,1),(1,1),(2,1),(3,1),(4,1),(5,1),(6,1),(7,1),(8,1),(9,1),(10,1)],11,48,[.int .u64 0,.int .u64 0,.int .u32 0,.int .u8 0,.int .u8 0,.int .u8 0,.int .u8 0,.nilFunc,.pointer none,.int .i32 0,.int .i32 0],[12,12,185,186,5,5,187,188,189,190,191]⟩ (.node .leaf 193 ⟨.dB [(0,1),(1,1),(2,1),(3,1),(4,1),(5,1),(6,1),(7,1),(8,1),(9,1),(10,1)],11,48,[.int .u64 0,.int .u64 0,.int .u32 0,.int .u8 0,.int .u8 0,.int .u8 0,.int .u8 0,.nilFunc,.pointer none,.int .i32 0,.int .i32 0],[12,12,185,186,5,5,187,188,189,190,191]⟩ .leaf)))))))
def L:pN:=fun t=>tab.get t
theorem lay:bG Go.Proofs.Tryz.prog L:=⟨BT.ok (by kernel_rfl)⟩
noncomputable abbrev PP:Program:=Go.Proofs.Tryz.prog
theorem mixed:PP.follows .mixedOrders=true:=by kernel_rfl
def vi(n:Int):AV:= .v (.int .i64 n)
def vb(b:Bool):AV:= .v (.bool b)
def vs(b:ByteArray):AV:= .v (.string b)
section
variable{I:Pr}(hI:I=ak)
 include hI
end
theorem bL{n:Int}(h: -9223372036854775808≤n∧n≤9223372036854775807):IntKind.wrap .i64 n=n:=by
 have hb:IntKind.bits .i64=64:=rfl
 have hs:IntKind.signed .i64=true:=rfl
 unfold IntKind.wrap;rw[hb,hs];simp only[Bool.true_and,ge_iff_le,decide_eq_true_eq];have e1:(2:Int) ^ 64=18446744073709551616:=by decide
 have e2:(2:Int) ^ (64 - 1)=9223372036854775808:=by decide
 rw[e1,e2]
 split<;>omega
structure Md where
 map:{α:Type}→(α→List AV)→List α→List (List AV)
 ln:{α:Type}→List α→Nat
def Md.ak:Md:=⟨fun f l=>l.map f,List.length⟩
section
variable{M:Md}(hM:M= .ak)
 include hM
end
instance:Inhabited ByteArray:=⟨⟨#[]⟩⟩
def ax(n:Int):List AV:=[vi n]
def cS(n:Bool):List AV:=[vb n]
def im(k:Nat):Bool:= !N3 k [25,39,42,50,51,53,54,56,57,58,60,70,71,73,77,87,88,91,107,110,111,115,116,122,128,129,143,150,154,163,164,167]
theorem enters{k:Nat}{fn:Func}{c:Code}(hf:PP.funcs[k]? =some fn)(hb:fn.body=some c)(hn:(fn.name== "runtime.NumGoroutine")=false):pO PP k:=
 fun args w=>JZ hf hb (by simpa using hn) args w
end Ab
